/- Proved here: what functions that the law FnExactLabelPlan reaches answer (base, perm, spec_l1In, impl_within, impl_isNumber, jobT, tyTask, laws_eqTaskS, marks, plainOk, guard, evbLoop, evbC, sortP, impl_numbersTo, spec_l1Own, a2T, laws_markIntA2S, laws_szIntA2S, laws_toIntA2S, laws_eqIntA2S, tblP, impl_closure, spec_l4Table, cloL, precOk, spec_l4Good, impl_IsPrecedence, c). Conditions: those that each theorem names. -/
import Derived.Test.YtbcfmegepkhlpaaXFnExactLabelPlanx0
import Derived.Test.YtbcfmegepkhlpaaXFnExactLabelPlanx1
import Derived.Test.YtbcfmegepkhlpaaXFnExactLabelPlanx2
import Derived.Test.YtbcfmegepkhlpaaXFnExactLabelPlanx3
import Derived.Test.YtbcfmegepkhlpaaXFnExactLabelPlanx4
import Derived.Test.YtbcfmegepkhlpaaXFnExactLabelPlanx5
import Derived.Test.YtbcfmegepkhlpaaXFnExactLabelPlanx6
import Derived.Test.YtbcfmegepkhlpaaXFnExactLabelPlanx7
import Derived.Test.YtbcfmegepkhlpaaXFnExactLabelPlanx8
import Derived.Test.YtbcfmegepkhlpaaXFnExactLabelPlanx9
import Derived.Test.YtbcfmegepkhlpaaXFnExactLabelPlanx10
import Derived.Test.YtbcfmegepkhlpaaXFnExactLabelPlanx11
import Derived.Test.YtbcfmegepkhlpaaXFnExactLabelPlanx12
import Derived.Test.YtbcfmegepkhlpaaXFnExactLabelPlanx13
import Derived.Test.YtbcfmegepkhlpaaXFnExactLabelPlanx14
import Derived.Test.YtbcfmegepkhlpaaXFnExactLabelPlanx15
import Derived.Test.YtbcfmegepkhlpaaXFnExactLabelPlanx16
import Derived.Test.YtbcfmegepkhlpaaXFnExactLabelPlanx17
import Derived.Test.YtbcfmegepkhlpaaXFnExactLabelPlanx18
import Derived.Test.YtbcfmegepkhlpaaXFnExactLabelPlanx19
import Derived.Test.YtbcfmegepkhlpaaXFnExactLabelPlanx20
import Derived.Test.YtbcfmegepkhlpaaXFnExactLabelPlanx21
import Derived.Test.YtbcfmegepkhlpaaXFnExactLabelPlanx22
import Derived.Test.YtbcfmegepkhlpaaXFnExactLabelPlanx23
import Derived.Test.YtbcfmegepkhlpaaXFnExactLabelPlanx24
import Derived.Test.YtbcfmegepkhlpaaXFnExactLabelPlanx25
import Derived.Test.YtbcfmegepkhlpaaXFnExactLabelPlanx26
set_option linter.unusedVariables false
set_option linter.unusedSimpArgs false
namespace Go.Proofs.Ytbcfmegepkhlpaa.Pure
open Go.RowKit Go.Proofs.Ytbcfmegepkhlpaa.XFnExactLabelPlan Go.Proofs.YtbcfmegepkhlpaaW.PrintWords Go.Proofs.YtbcfmegepkhlpaaW.PrintLast

theorem wr {x:Int} (h0 : -9223372036854775808≤x) (h1:x≤9223372036854775807):wrap64 x=x:=by unfold wrap64;omega
theorem wr1 {i:Nat} (h:i<1000000000000000000):wrap64 ((i:Int) + 1)=((i + 1:Nat):Int):=by rw [wr (by omega) (by omega)];omega
theorem rev_ind {P:Nat→Prop} (n:Nat) (hn:P n) (hs:∀ i,i<n→P (i + 1)→P i):∀ i,i≤n→P i:=by
 intro i hi
 obtain ⟨d,rfl⟩:∃ d,n=i + d:=⟨n - i,by omega⟩
 clear hi
 induction d generalizing i with
 | zero=>exact hn
 | succ d ih=>
  refine hs i (by omega) (ih (i + 1) ?_ ?_)
  ·rw [show i + 1 + d=i + (d + 1) by omega];exact hn
  ·intro j hj;exact hs j (by omega)
theorem ev_stop {α:Type} {g:Nat→Option α} {r:α} (h:∀ k,g (k + 1)=some r):Ev g r:=Ev.step h (Ev.now r)
theorem ev_go {α:Type} {g:Nat→Option α} (f:Nat→Option α) {r:α} (h:∀ k,g (k + 1)=f k) (k:Ev f r):Ev g r:=Ev.step h k
theorem ev_ite {α:Type} {c:Prop} [Decidable c] {g f:Nat→Option α} {r:α} (h1:c→Ev g r) (h2:¬ c→Ev f r):Ev (fun k=>if c then g k else f k) r:=by
 by_cases h:c
 ·simp only [if_pos h];exact h1 h
 ·simp only [if_neg h];exact h2 h
theorem ev_bind {α β:Type} {g:Nat→Option α} {f:Nat→α→Option β} (a:α) {r:β} (h:Ev g a) (k:Ev (fun n=>f n a) r):Ev (fun n=>(g n).bind (f n)) r:=Ev.bind h k
/-- A bool that is told in the end, and what it says. -/
def EvB (g:Nat→Option Bool) (P:Prop):Prop:=∃ b:Bool,Ev g b∧(b=true ↔ P)
theorem evB_true {g:Nat→Option Bool} {P:Prop} (h:EvB g P) (hp:P):Ev g true:=by
 obtain ⟨b,hb,e⟩:=h
 rw [e.2 hp] at hb
 exact hb
theorem evB_false {g:Nat→Option Bool} {P:Prop} (h:EvB g P) (hp:¬ P):Ev g false:=by
 obtain ⟨b,hb,e⟩:=h
 cases b with
 | true=>exact absurd (e.1 rfl) hp
 | false=>exact hb
theorem evB_of {g:Nat→Option Bool} {P:Prop} (h1:P→Ev g true) (h2:¬ P→Ev g false):EvB g P:=by
 by_cases h:P
 ·exact ⟨true,h1 h,by simp [h]⟩
 ·exact ⟨false,h2 h,by simp [h]⟩
theorem evB_iff {g:Nat→Option Bool} {P Q:Prop} (h:EvB g P) (e:P ↔ Q):EvB g Q:=by
 obtain ⟨b,hb,e'⟩:=h
 exact ⟨b,hb,e'.trans e⟩
theorem evB_bind {g:Nat→Option Bool} {P:Prop} {α:Type} {f:Nat→Bool→Option α} {r:α} (h:EvB g P) (h1:P→Ev (fun n=>f n true) r) (h2:¬ P→Ev (fun n=>f n false) r):Ev (fun n=>(g n).bind (f n)) r:=by
 by_cases hp:P
 ·exact Ev.bind (evB_true h hp) (h1 hp)
 ·exact Ev.bind (evB_false h hp) (h2 hp)
theorem evB_same {g f:Nat→Option Bool} {P:Prop} (h:EvB g P) (k:EvB f P):∃ b,Ev g b∧Ev f b:=by
 obtain ⟨b,hb,e⟩:=h
 obtain ⟨c,hc,e'⟩:=k
 have:b=c:=by
  cases b <;> cases c <;> simp_all
 subst this
 exact ⟨b,hb,hc⟩
theorem some_bool (P:Prop) [Decidable P] {g:Nat→Option Bool} (h:∀ k,g k=some (decide P)):EvB g P:=⟨decide P,⟨0,fun k _=>h k⟩,by simp⟩
theorem rd_nat {l:List Int} {i:Nat} (h:i<l.length):rd l (i:Int)=l[i]:=by simp [rd,h]
theorem rd_zero {l:List Int} (h:0<l.length):rd l 0=l[0]:=by simp [rd,h]
theorem drop_cons {α:Type} {l:List α} {i:Nat} (h:i<l.length):l.drop i=l[i]::l.drop (i + 1):=List.drop_eq_getElem_cons h
theorem set_copy {α:Type} {l z:List α} {i:Nat} (h:i<l.length) (hz:i<z.length):(l.take i++z.drop i).set i l[i]=l.take (i + 1)++z.drop (i + 1):=by
 have hl:(l.take i).length=i:=by simp;omega
 rw [List.set_append_right _ _ (by omega),hl,Nat.sub_self,drop_cons hz,List.set_cons_zero,List.take_succ_eq_append_getElem h,List.append_assoc]
 rfl

theorem nodup_sub {α:Type} [DecidableEq α]:∀ {l s:List α},l.Nodup→(∀ x ∈ l,x ∈ s)→l.length≤s.length
 | [],_,_,_=>Nat.zero_le _
 | a::l,s,hn,hs=>by
  have ha:a ∈ s:=hs a List.mem_cons_self
  have hn':=List.nodup_cons.1 hn
  have:=nodup_sub (l:=l) (s:=s.erase a) hn'.2 (fun x hx=>by
   have hne:x≠a:=fun e=>hn'.1 (e ▸ hx)
   exact (List.mem_erase_of_ne hne).2 (hs x (List.mem_cons_of_mem _ hx)))
  have hp:0<s.length:=List.length_pos_of_mem ha
  rw [List.length_erase_of_mem ha] at this
  simp only [List.length_cons]
  omega
/-- The numbers 0..n-1. -/
def nums_to (n:Nat):List Int:=(List.range n).map fun (i:Nat)=>(i:Int)
theorem mem_nums_to {n:Nat} {x:Int} : x ∈ nums_to n ↔ 0≤x∧x<n:=by
 unfold nums_to
 simp only [List.mem_map,List.mem_range]
 constructor
 ·rintro ⟨i,hi,rfl⟩;omega
 ·rintro ⟨h0,h1⟩;exact ⟨x.toNat,by omega,by omega⟩
theorem nums_to_nodup (n:Nat):(nums_to n).Nodup:=by
 unfold nums_to
 rw [List.nodup_iff_pairwise_ne]
 rw [List.pairwise_map]
 exact (List.nodup_iff_pairwise_ne.1 List.nodup_range).imp (fun h e=>h (by omega))
theorem nums_to_length (n:Nat):(nums_to n).length=n:=by simp [nums_to]
/-- An order of n jobs. -/
def IsPerm (n:Nat) (l:List Int):Prop:=l.length=n∧l.Nodup∧∀ x ∈ l,0≤x∧x<n
theorem IsPerm.all {n:Nat} {l:List Int} (h:IsPerm n l) (x:Int) (h0:0≤x) (h1:x<n):x ∈ l:=by
 obtain ⟨hl,hn,hr⟩:=h
 by_cases hx:x ∈ l
 ·exact hx
 ·have:=nodup_sub (l:=x::l) (s:=nums_to n) (List.nodup_cons.2 ⟨hx,hn⟩) (fun y hy=>by
   rcases List.mem_cons.1 hy with rfl|hy
   ·exact mem_nums_to.2 ⟨h0,h1⟩
   ·exact mem_nums_to.2 (hr y hy))
  rw [nums_to_length] at this
  simp at this
  omega
theorem isPerm_of_all {n:Nat} {l:List Int} (hl:l.length=n) (ha:∀ x,0≤x→x<(n:Int)→x ∈ l):IsPerm n l:=by
 have big:∀ s:List Int,(∀ x,0≤x→x<(n:Int)→x ∈ s)→n≤s.length:=fun s hs=>by
  have:=nodup_sub (nums_to_nodup n) (fun x hx=>hs x (mem_nums_to.1 hx).1 (mem_nums_to.1 hx).2)
  rwa [nums_to_length] at this
 refine ⟨hl,?_,fun x hx=>?_⟩
 ·by_cases hn:l.Nodup
  ·exact hn
  ·exfalso
   have:∃ a,a ∈ l.erase a∧a ∈ l:=by
    clear hl ha big
    induction l with
    | nil=>exact absurd List.nodup_nil hn
    | cons b l ih=>
     by_cases hb:b ∈ l
     ·exact ⟨b,by simp [hb],List.mem_cons_self⟩
     ·obtain ⟨a,h1,h2⟩:=ih (fun h=>hn (List.nodup_cons.2 ⟨hb,h⟩))
      have hne:b≠a:=fun e=>hb (e ▸ h2)
      refine ⟨a,?_,List.mem_cons_of_mem _ h2⟩
      rw [List.erase_cons_tail (by simpa using hne)]
      exact List.mem_cons_of_mem _ h1
   obtain ⟨a,h1,h2⟩:=this
   have:=big (l.erase a) (fun x h0 h1'=>by
    by_cases e:x=a
    ·subst e;exact h1
    ·exact (List.mem_erase_of_ne e).2 (ha x h0 h1'))
   rw [List.length_erase_of_mem h2] at this
   have:=List.length_pos_of_mem h2
   omega
 ·by_cases hr:0≤x∧x<(n:Int)
  ·exact hr
  ·exfalso
   have:=big (l.erase x) (fun y h0 h1=>(List.mem_erase_of_ne (fun e=>hr (by rw [←e];exact ⟨h0,h1⟩))).2 (ha y h0 h1))
   rw [List.length_erase_of_mem hx] at this
   have:=List.length_pos_of_mem hx
   omega
theorem nodup_drop_step {l:List Int} {i:Nat} (h:i<l.length):(∀ j (hj:j<l.length),i≤j→l[j] ∉ l.take j) ↔ l[i] ∉ l.take i∧(∀ j (hj:j<l.length),i + 1≤j→l[j] ∉ l.take j):=by
 constructor
 ·intro H;exact ⟨H i h (Nat.le_refl _),fun j hj hij=>H j hj (by omega)⟩
 ·rintro ⟨h0,H⟩ j hj hij
  by_cases e:j=i
  ·subst e;exact h0
  ·exact H j hj (by omega)
theorem nodup_iff_take {l:List Int} : l.Nodup ↔ ∀ j (hj:j<l.length),l[j] ∉ l.take j:=by
 rw [List.nodup_iff_pairwise_ne,List.pairwise_iff_getElem]
 constructor
 ·intro H j hj hm
  obtain ⟨i,hi,e⟩:=List.getElem_of_mem hm
  simp only [List.length_take] at hi
  rw [List.getElem_take] at e
  exact H i j (by omega) hj (by omega) e
 ·intro H i j hi hj hij e
  refine H j hj ?_
  rw [←e]
  exact List.mem_take_iff_getElem.2 ⟨i,by omega,rfl⟩

theorem spec_l1In.eq (a b c:Int):spec_l1In.f a b c=some (decide (b≤a∧a≤c)):=by
 unfold spec_l1In.f
 by_cases h:a≥b
 ·rw [if_pos h];congr 1;simp;omega
 ·rw [if_neg h];congr 1;simp;omega

theorem impl_within.eq (a b c:Int):impl_within.f a b c=some (decide (b≤a∧a≤c)):=by
 unfold impl_within.f
 by_cases h:b≤a
 ·rw [if_pos h];congr 1;simp;omega
 ·rw [if_neg h];congr 1;simp;omega

theorem impl_isNumber.eq (a n:Int) (h0:0≤n) (h1:n≤1000000000000000):impl_isNumber.f a n=some (decide (0≤a∧a<n)):=by
 unfold impl_isNumber.f
 rw [impl_within.eq,Option.bind_some,wr (by omega) (by omega)]
 simp only [Option.some.injEq,decide_eq_decide];omega

abbrev J:=S76
theorem rdJ {l:List J} {i:Nat} (h:i<l.length):rd_T76 l (i:Int)=l[i]:=by simp [rd_T76,h]
theorem rdJ_zero {l:List J} (h:0<l.length):rd_T76 l 0=l[0]:=by simp [rd_T76,h]
/-- A valid job. -/
def JobOk (j:J):Prop:=(1≤j.f0∧j.f0≤50)∧(0≤j.f1∧j.f1≤50)∧(0≤j.f2∧j.f2≤500)∧(0≤j.f3∧j.f3≤500)
/-- A list of jobs. -/
def JobsOk (l:List J):Prop:=l.length≤8∧∀ j ∈ l,JobOk j

abbrev PTask:=S92
theorem rdPTask {l:List PTask} {i:Nat} (h:i<l.length):rd_T92 l (i:Int)=l[i]:=by simp [rd_T92,h]
theorem rdPTask_zero {l:List PTask} (h:0<l.length):rd_T92 l 0=l[0]:=by simp [rd_T92,h]

theorem laws_eqTask.eq (a b:PTask):∃ c,laws_eqTask.f a.f0 a.f1 a.f2 b.f0 b.f1 b.f2=some c∧(c=true ↔ a=b):=by
 obtain ⟨a0,a1,a2⟩:=a
 obtain ⟨b0,b1,b2⟩:=b
 unfold laws_eqTask.f
 by_cases h0:a0=b0
 ·by_cases h1:a1=b1
  ·by_cases h2:a2=b2
   ·exact ⟨true,by simp [h0,h1,h2],by simp [h0,h1,h2]⟩
   ·exact ⟨false,by simp [h0,h1,h2],by simp [h2]⟩
  ·exact ⟨false,by simp [h0,h1],by simp [h1]⟩
 ·exact ⟨false,by simp [h0],by simp [h0]⟩
theorem laws_eqTaskS.ev (l m:List PTask) (hl:l.length≤1000000000000000):EvB (fun k=>laws_eqTaskS.f k l m) (l=m):=by
 unfold laws_eqTaskS.f
 by_cases e:(l.length:Int)=(m.length:Int)
 ·simp only [if_pos e]
  have key:=rev_ind (P:=fun i=>EvB (fun k=>laws_eqTaskS.l0 k l m (i:Int)) (l.drop i=m.drop i)) l.length ?_ ?_ 0 (Nat.zero_le _)
  ·simpa using key
  ·refine evB_of (fun _=>ev_stop fun k=>?_) (fun h=>absurd ?_ h)
   ·simp only [laws_eqTaskS.l0];rw [if_neg (by omega)]
   ·rw [List.drop_eq_nil_of_le (by omega),List.drop_eq_nil_of_le (by omega)]
  ·intro i hi ih
   have hm:i<m.length:=by omega
   rw [drop_cons hi,drop_cons hm]
   obtain ⟨c,hc,hce⟩:=laws_eqTask.eq l[i] m[i]
   by_cases q:l[i]=m[i]
   ·obtain ⟨b,hb,hP⟩:=ih
    refine ⟨b,ev_go _ (fun k=>?_) hb,by rw [hP,q];exact ⟨fun h=>by rw [h],fun h=>(List.cons.inj h).2⟩⟩
    simp only [laws_eqTaskS.l0];rw [if_pos (by omega),if_pos (by omega),if_pos (by omega),rdPTask hi,rdPTask hm,hc,Option.bind_some,if_pos (hce.2 q),wr1 (by omega)]
   ·refine evB_of (fun h=>absurd (List.cons.inj h).1 q) (fun _=>ev_stop fun k=>?_)
    simp only [laws_eqTaskS.l0];rw [if_pos (by omega),if_pos (by omega),if_pos (by omega),rdPTask hi,rdPTask hm,hc,Option.bind_some,if_neg (fun h=>q (hce.1 h))]
 ·simp only [if_neg e]
  exact evB_of (fun h=>absurd (by rw [h]) e) (fun _=>Ev.now _)
theorem laws_eqTaskS.same (l:List PTask) (hl:l.length≤1000000000000000):Ev (fun k=>laws_eqTaskS.f k l l) true:=evB_true (laws_eqTaskS.ev l l hl) rfl

theorem ev_succ {α:Type} {g:Nat→Option α} {r:α} (h:Ev (fun k=>g (k + 1)) r):Ev g r:=Ev.step (fun _=>rfl) h
/-- a, a + 1, .. -/
def iotaI (a:Int):Nat→List Int
 | 0=>[]
 | n + 1=>a::iotaI (a + 1) n
theorem iotaI_length (n:Nat):∀ a,(iotaI a n).length=n:=by
 induction n with
 | zero=>intro a;rfl
 | succ n ih=>intro a;simp [iotaI,ih]
theorem iotaI_snoc (n:Nat):∀ a:Int,iotaI a (n + 1)=iotaI a n++[a + n]:=by
 induction n with
 | zero=>intro a;simp [iotaI]
 | succ n ih=>
  intro a
  rw [iotaI,ih,iotaI,List.cons_append]
  congr 3
  omega
theorem iotaI_get (n:Nat):∀ (a:Int) (i:Nat) (h:i<(iotaI a n).length),(iotaI a n)[i]=a + i:=by
 induction n with
 | zero=>intro a i h;simp [iotaI] at h
 | succ n ih=>
  intro a i h
  cases i with
  | zero=>simp [iotaI]
  | succ i=>
   simp only [iotaI,List.getElem_cons_succ]
   rw [ih];omega

def NoRel (l:List J):Prop:=∀ j ∈ l,j.f2=0
def PlainOk (l:List J):Prop:=JobsOk l∧NoRel l
theorem noRel_cons {x:J} {l:List J} : NoRel (x::l) ↔ x.f2=0∧NoRel l:=by simp [NoRel]

theorem ev_guard {g:Nat→Option Bool} {P:Prop} {α:Type} {F:Nat→Option α} {z r:α} (h:EvB g P) (h1:P→Ev F r) (h2:¬ P→r=z):Ev (fun n=>(g n).bind fun t=>if t=true then F n else some z) r:=by
 refine evB_bind h (fun hp=>?_) (fun hp=>?_)
 ·simp only [if_true];exact h1 hp
 ·simp only [Bool.false_eq_true,if_false];rw [h2 hp];exact Ev.now _
theorem ev_guard' {g:Nat→Option Bool} {P:Prop} {α:Type} {F G:Nat→Option α} {r:α} (h:EvB g P) (h1:P→Ev F r) (h2:¬ P→Ev G r):Ev (fun n=>(g n).bind fun t=>if t=true then F n else G n) r:=by
 refine evB_bind h (fun hp=>?_) (fun hp=>?_)
 ·simp only [if_true];exact h1 hp
 ·simp only [Bool.false_eq_true,if_false];exact h2 hp

theorem evB_step {g:Nat→Option Bool} (g':Nat→Option Bool) {R:Prop} (h:∀ k,g (k + 1)=g' k) (hR:EvB g' R):EvB g R:=by
 obtain ⟨b,hb,e⟩:=hR
 exact ⟨b,ev_go _ h hb,e⟩
theorem evB_leaf {g:Nat→Option Bool} (g':Nat→Option Bool) {P R:Prop} (h1:P→∀ k,g (k + 1)=g' k) (h2:¬ P→∀ k,g (k + 1)=some false) (hR:EvB g' R):EvB g (P∧R):=by
 by_cases p:P
 ·exact evB_iff (evB_step g' (h1 p) hR) ⟨fun r=>⟨p,r⟩,fun r=>r.2⟩
 ·exact evB_of (fun h=>absurd h.1 p) (fun _=>ev_stop (h2 p))
theorem evB_loop (n:Nat) (g:Nat→Nat→Option Bool) (P:Nat→Prop) (Q:Prop) (hstop:EvB (g n) Q) (hstep:∀ i,i<n→∀ R,EvB (g (i + 1)) R→EvB (g i) (P i∧R)):EvB (g 0) ((∀ i,i<n→P i)∧Q):=by
 have key:=rev_ind (P:=fun i=>EvB (g i) ((∀ j,i≤j→j<n→P j)∧Q)) n ?_ ?_ 0 (Nat.zero_le _)
 ·exact evB_iff key ⟨fun h=>⟨fun i hi=>h.1 i (Nat.zero_le _) hi,h.2⟩,fun h=>⟨fun i _ hi=>h.1 i hi,h.2⟩⟩
 ·exact evB_iff hstop ⟨fun h=>⟨fun j h1 h2=>absurd h1 (by omega),h⟩,fun h=>h.2⟩
 ·intro i hi ih
  refine evB_iff (hstep i hi _ ih) ⟨fun h=>⟨fun j h1 h2=>?_,h.2.2⟩,fun h=>⟨h.1 i (Nat.le_refl _) hi,fun j h1 h2=>h.1 j (by omega) h2,h.2⟩⟩
  by_cases e:j=i
  ·rw [e];exact h.1
  ·exact h.2.1 j (by omega) h2

theorem evB_condC {g:Nat→Option Bool} (g':Nat→Option Bool) {C R:Prop} (h1:C→∀ k,g (k + 1)=g' k) (h2:¬ C→Ev g false) (hR:C→EvB g' R):EvB g (C∧R):=by
 by_cases c:C
 ·obtain ⟨b,hb,e⟩:=hR c
  exact ⟨b,ev_go _ (h1 c) hb,e.trans ⟨fun r=>⟨c,r⟩,fun r=>r.2⟩⟩
 ·exact evB_of (fun h=>absurd h.1 c) (fun _=>h2 c)
theorem evB_loopC (n:Nat) (g:Nat→Nat→Option Bool) (P:Nat→Prop) (Q:Prop) (hstop:(∀ j,j<n→P j)→EvB (g n) Q) (hstep:∀ i,i<n→(∀ j,j<i→P j)→∀ R,(P i→EvB (g (i + 1)) R)→EvB (g i) (P i∧R)):EvB (g 0) ((∀ i,i<n→P i)∧Q):=by
 have key:=rev_ind (P:=fun i=>(∀ j,j<i→P j)→EvB (g i) ((∀ j,i≤j→j<n→P j)∧Q)) n ?_ ?_ 0 (Nat.zero_le _) (fun j hj=>absurd hj (by omega))
 ·exact evB_iff key ⟨fun h=>⟨fun i hi=>h.1 i (Nat.zero_le _) hi,h.2⟩,fun h=>⟨fun i _ hi=>h.1 i hi,h.2⟩⟩
 ·intro hlt
  exact evB_iff (hstop hlt) ⟨fun h=>⟨fun j h1 h2=>absurd h1 (by omega),h⟩,fun h=>h.2⟩
 ·intro i hi ih hlt
  refine evB_iff (hstep i hi hlt _ (fun hp=>ih (fun j hj=>?_))) ⟨fun h=>⟨fun j h1 h2=>?_,h.2.2⟩,fun h=>⟨h.1 i (Nat.le_refl _) hi,fun j h1 h2=>h.1 j (by omega) h2,h.2⟩⟩
  ·by_cases e:j=i
   ·rw [e];exact hp
   ·exact hlt j (by omega)
  ·by_cases e:j=i
   ·rw [e];exact h.1
   ·exact h.2.1 j (by omega) h2

/-- An order in which one may stand ahead of another: what 'not ahead' is handed on through, and what is ahead is not behind. -/
structure Pre (lt:Int→Int→Bool) (P:Int→Prop):Prop where
 trans:∀ a b c,P a→P b→P c→lt b a=false→lt c b=false→lt c a=false
 asym:∀ a b,P a→P b→lt a b=true→lt b a=false
def SortedLt (lt:Int→Int→Bool) (l:List Int):Prop:=l.Pairwise fun a b=>lt b a=false
theorem pre_key (f:Int→Int) (P:Int→Prop):Pre (fun a b=>decide (f a<f b)) P:=by
 refine ⟨fun a b c _ _ _ h1 h2=>?_,fun a b _ _ h=>?_⟩ <;> simp at * <;> omega
theorem insPos_at {lt:Int→Int→Bool} {P:Int→Prop} (hp:Pre lt P) {x:Int} {out:List Int} (hx:P x) (ho:∀ y ∈ out,P y) (hs:SortedLt lt out) (j:Nat) (hj:j≤out.length) (h1:∀ y ∈ out.take j,lt x y=false) (h2:∀ h:j<out.length,lt x out[j]=true):insPos lt x out out.length=j:=by
 have key:∀ d,j + d≤out.length→insPos lt x out (j + d)=j:=by
  intro d
  induction d with
  | zero=>
   intro _
   cases j with
   | zero=>rfl
   | succ j=>
    rw [Nat.add_zero,insPos,if_neg]
    have hm:out[j] ∈ out.take (j + 1):=List.mem_take_iff_getElem.2 ⟨j,by omega,rfl⟩
    have:=h1 _ hm
    simp [List.getD_eq_getElem?_getD,show j<out.length by omega,this]
  | succ d ih=>
   intro hd
   rw [←Nat.add_assoc,insPos,if_pos,ih (by omega)]
   have hq:lt x (out[j + d]'(by omega))=true:=by
    refine Classical.byContradiction fun hc=>?_
    have hc:lt x (out[j + d]'(by omega))=false:=by simpa using hc
    have hj2:=h2 (by omega)
    by_cases e:d=0
    ·subst e;simp at hc;rw [hc] at hj2;cases hj2
    ·have hpw:=(List.pairwise_iff_getElem.1 hs) j (j + d) (by omega) (by omega) (by omega)
     have:=hp.trans _ _ _ (ho _ (List.getElem_mem (by omega:j<out.length))) (ho _ (List.getElem_mem (by omega:j + d<out.length))) hx hpw hc
     rw [this] at hj2;cases hj2
   simpa [List.getD_eq_getElem?_getD,show j + d<out.length by omega] using hq
 have:=key (out.length - j) (by omega)
 rwa [show j + (out.length - j)=out.length by omega] at this
theorem insAt_at {lt:Int→Int→Bool} {P:Int→Prop} (hp:Pre lt P) {x:Int} {out:List Int} (hx:P x) (ho:∀ y ∈ out,P y) (hs:SortedLt lt out) (j:Nat) (hj:j≤out.length) (h1:∀ y ∈ out.take j,lt x y=false) (h2:∀ h:j<out.length,lt x out[j]=true):insAt lt x out=out.take j++x::out.drop j:=by
 unfold insAt
 rw [insPos_at hp hx ho hs j hj h1 h2]
theorem insPos_left {lt:Int→Int→Bool} {x:Int} {out:List Int} : ∀ k,k≤out.length→(0<insPos lt x out k→lt x (out.getD (insPos lt x out k - 1) 0)=false)∧(∀ i,insPos lt x out k≤i→i<k→lt x (out.getD i 0)=true)
 | 0,_=>⟨fun h=>absurd h (by simp [insPos]),fun i _ h=>absurd h (by omega)⟩
 | k + 1,hk=>by
  have ih:=insPos_left (lt:=lt) (x:=x) (out:=out) k (by omega)
  rw [insPos]
  by_cases q:lt x (out.getD k 0)=true
  ·rw [if_pos q]
   refine ⟨ih.1,fun i h1 h2=>?_⟩
   by_cases e:i=k
   ·subst e;exact q
   ·exact ih.2 i h1 (by omega)
  ·rw [if_neg q]
   exact ⟨fun _=>by simpa using q,fun i h1 h2=>absurd h1 (by omega)⟩
theorem insAt_perm (lt:Int→Int→Bool) (x:Int) (out:List Int):(insAt lt x out).Perm (x::out):=by
 unfold insAt
 refine List.perm_middle.trans ?_
 rw [List.take_append_drop]
theorem insAt_sorted {lt:Int→Int→Bool} {P:Int→Prop} (hp:Pre lt P) {x:Int} {out:List Int} (hx:P x) (ho:∀ y ∈ out,P y) (hs:SortedLt lt out):SortedLt lt (insAt lt x out):=by
 unfold insAt SortedLt
 obtain ⟨hl,hr⟩:=insPos_left (lt:=lt) (x:=x) (out:=out) out.length (Nat.le_refl _)
 have hle:=insPos_le lt x out out.length
 generalize hq:insPos lt x out out.length=p at hl hr hle ⊢
 rw [List.pairwise_append,List.pairwise_cons]
 have left:∀ a ∈ out.take p,lt x a=false:=by
  intro a ha
  obtain ⟨i,hi,rfl⟩:=List.mem_take_iff_getElem.1 ha
  have hi':i<p:=by omega
  have h0:=hl (by omega)
  rw [List.getD_eq_getElem?_getD,List.getElem?_eq_getElem (by omega),Option.getD_some] at h0
  by_cases e:i=p - 1
  ·subst e;exact h0
  ·exact hp.trans _ _ _ (ho _ (List.getElem_mem _)) (ho _ (List.getElem_mem (by omega:p - 1<out.length))) hx ((List.pairwise_iff_getElem.1 hs) i (p - 1) (by omega) (by omega) (by omega)) h0
 have right:∀ b ∈ out.drop p,lt b x=false:=by
  intro b hb
  obtain ⟨i,hi,rfl⟩:=List.mem_drop_iff_getElem.1 hb
  have h0:=hr (p + i) (by omega) (by omega)
  rw [List.getD_eq_getElem?_getD,List.getElem?_eq_getElem (by omega),Option.getD_some] at h0
  exact hp.asym _ _ hx (ho _ (List.getElem_mem _)) h0
 have hs':=hs
 unfold SortedLt at hs'
 rw [←List.take_append_drop p out,List.pairwise_append] at hs'
 refine ⟨hs'.1,⟨right,hs'.2.1⟩,fun a ha b hb=>?_⟩
 rcases List.mem_cons.1 hb with rfl|hb
 ·exact left a ha
 ·exact hs'.2.2 a ha b hb
theorem insAll_perm (lt:Int→Int→Bool):∀ (l out:List Int),(insAll lt l out).Perm (l++out)
 | [],out=>List.Perm.refl _
 | x::l,out=>by
  rw [insAll]
  refine (insAll_perm lt l _).trans ?_
  refine ((insAt_perm lt x out).append_left l).trans ?_
  exact List.perm_middle
theorem insAll_sorted {lt:Int→Int→Bool} {P:Int→Prop} (hp:Pre lt P):∀ (l out:List Int),(∀ y ∈ l,P y)→(∀ y ∈ out,P y)→SortedLt lt out→SortedLt lt (insAll lt l out)
 | [],out,_,_,h=>h
 | x::l,out,hl,ho,h=>by
  rw [insAll]
  have hx:=hl x List.mem_cons_self
  refine insAll_sorted hp l _ (fun y hy=>hl y (List.mem_cons_of_mem _ hy)) (fun y hy=>?_) (insAt_sorted hp hx ho h)
  rcases List.mem_cons.1 ((insAt_perm lt x out).mem_iff.1 hy) with rfl|hy
  ·exact hx
  ·exact ho y hy
/-- All numbers below n, sorted. -/
def sortN (lt:Int→Int→Bool) (n:Nat):List Int:=insAll lt (nums_to n) []
theorem sortN_perm (lt:Int→Int→Bool) (n:Nat):(sortN lt n).Perm (nums_to n):=by
 have:=insAll_perm lt (nums_to n) []
 rwa [List.append_nil] at this
theorem sortN_isPerm (lt:Int→Int→Bool) (n:Nat):IsPerm n (sortN lt n):=by
 have h:=sortN_perm lt n
 refine ⟨by rw [h.length_eq,nums_to_length],h.nodup_iff.2 (nums_to_nodup n),fun x hx=>mem_nums_to.1 (h.mem_iff.1 hx)⟩

theorem impl_numbersTo.ev (n:Nat) (hn:n≤1048576):Ev (fun k=>impl_numbersTo.f k (n:Int)) (nums_to n):=by
 have ht:∀ i,i<n→(nums_to n).take i++[(i:Int)]=(nums_to n).take (i + 1):=by
  intro i hi
  rw [List.take_succ_eq_append_getElem (by rw [nums_to_length];exact hi)]
  simp [nums_to]
 have key:=rev_ind (P:=fun i=>Ev (fun k=>impl_numbersTo.l0 k (n:Int) ((nums_to n).take i) (i:Int)) (nums_to n)) n ?_ ?_ 0 (Nat.zero_le _)
 ·simpa [impl_numbersTo.f] using key
 ·refine ev_stop fun k=>?_
  simp only [impl_numbersTo.l0];rw [if_neg (by omega),List.take_of_length_le (by rw [nums_to_length];omega)]
 ·intro i hi ih
  rw [←ht i hi] at ih
  refine ev_go _ (fun k=>?_) ih
  simp only [impl_numbersTo.l0];rw [if_pos (by omega),if_pos (by simp;omega),wr1 (by omega)]

theorem spec_l1Own.eq (l:List Int) (h:l.length≤1000000000000):spec_l1Own.f l=some l:=by
 simp only [spec_l1Own.f,Option.bind_some]
 rw [if_pos (by simp;omega)]
 rfl

abbrev A2:=S72
theorem rdA2 {l:List A2} {i:Nat} (h:i<l.length):rd_T72 l (i:Int)=l[i]:=by simp [rd_T72,h]
theorem a2_ext {a b:A2} (h0:a.f0=b.f0) (h1:a.f1=b.f1):a=b:=by cases a;cases b;simp at h0 h1;rw [h0,h1]

def mkA2 (x:List A2) (i b:Int):List A2:=x.set i.toNat ⟨b,b + 1⟩
theorem laws_markIntA2S.any (l:List A2) (a:Int) (h0:0≤a) (h1:a≤1000000000) (hl:l.length≤1048576):∃ n l',Ev (fun k=>laws_markIntA2S.f k l a) (n,l')∧0≤n∧n≤a + 100000000∧((n<0)=False):=by
 have key:=rev_ind (P:=fun i=>∀ (x:List A2) (b:Int),x.length=l.length→b=a + 2 * i→∃ l',Ev (fun k=>laws_markIntA2S.l0 k x b (i:Int)) (a + 2 * l.length,l')) l.length ?_ ?_ 0 (Nat.zero_le _) l a rfl (by omega)
 ·obtain ⟨l',h⟩:=key
  refine ⟨a + 2 * l.length,l',?_,by omega,by omega,by simp;omega⟩
  unfold laws_markIntA2S.f
  simp only [if_pos hl]
  exact h
 ·intro x b hx hb
  refine ⟨x,ev_stop fun k=>?_⟩
  simp only [laws_markIntA2S.l0];rw [if_neg (by omega),if_neg (by omega),hb]
 ·intro i hi ih x b hx hb
  have w1:wrap64 (b + 1)=b + 1:=wr (by omega) (by omega)
  have w2:wrap64 (b + 1 + 1)=b + 2:=by rw [wr (by omega) (by omega)];omega
  obtain ⟨l',h⟩:=ih (mkA2 x i b) (b + 2) (by simp [mkA2,hx]) (by omega)
  refine ⟨l',ev_go _ (fun k=>?_) h⟩
  simp only [laws_markIntA2S.l0]
  rw [if_pos (by omega),w1,w2,wr1 (by omega)]
  rfl

theorem laws_szIntA2S.eq (l:List A2) (a:Int) (h0:0≤a) (h1:a≤1048576) (hl:l.length≤9223372036854775807):∃ n,laws_szIntA2S.f l a=some n∧n≤1048576∧(0≤n→l.length≤1048576):=by
 unfold laws_szIntA2S.f
 rw [wr (by omega) (by omega)]
 by_cases h:a - (l.length:Int)<0
 ·exact ⟨-1,by rw [if_pos h],by omega,fun h=>absurd h (by omega)⟩
 ·exact ⟨_,by rw [if_neg h],by omega,fun _=>by omega⟩

theorem laws_toIntA2S.ev (l:List A2) (hl:l.length≤1000000000000):Ev (fun k=>laws_toIntA2S.f k l) l:=by
 unfold laws_toIntA2S.f
 rw [show (fun k=>if 0≤(l.length:Int) then (if ((l.length:Int):Int).toNat≤17592186044416 then (laws_toIntA2S.l0 k l (List.replicate ((l.length:Int):Int).toNat z72) 0) else none) else none)=fun k=>laws_toIntA2S.l0 k l (List.replicate l.length z72) 0 from funext fun k=>by rw [if_pos (by omega),if_pos (by omega)];rfl]
 have key:=rev_ind (P:=fun i=>Ev (fun k=>laws_toIntA2S.l0 k l (l.take i++(List.replicate l.length z72).drop i) (i:Int)) l) l.length ?_ ?_ 0 (Nat.zero_le _)
 ·simpa using key
 ·refine ev_stop fun k=>?_
  simp only [laws_toIntA2S.l0];rw [if_neg (by omega),List.take_of_length_le (by simp)];simp
 ·intro i hi ih
  have hlen:(l.take i++(List.replicate l.length z72).drop i).length=l.length:=by simp;omega
  refine ev_go _ (fun k=>?_) ih
  simp only [laws_toIntA2S.l0,laws_toIntA2.f,Option.bind_some];rw [if_pos (by omega),if_pos (by omega),if_pos (by rw [hlen];omega),rdA2 hi,wr1 (by omega)]
  have:=set_copy (l:=l) (z:=List.replicate l.length z72) (i:=i) hi (by simpa using hi)
  rw [show ((i:Int)).toNat=i by omega,←this]

theorem laws_eqIntA2S.ev (l m:List A2) (hl:l.length≤1000000000000000):EvB (fun k=>laws_eqIntA2S.f k l m) (l=m):=by
 unfold laws_eqIntA2S.f
 by_cases e:(l.length:Int)=(m.length:Int)
 ·simp only [if_pos e]
  have key:=rev_ind (P:=fun i=>EvB (fun k=>laws_eqIntA2S.l0 k l m (i:Int)) (l.drop i=m.drop i)) l.length ?_ ?_ 0 (Nat.zero_le _)
  ·simpa using key
  ·refine evB_of (fun _=>ev_stop fun k=>?_) (fun h=>absurd ?_ h)
   ·simp only [laws_eqIntA2S.l0];rw [if_neg (by omega)]
   ·rw [List.drop_eq_nil_of_le (by omega),List.drop_eq_nil_of_le (by omega)]
  ·intro i hi ih
   have hm:i<m.length:=by omega
   rw [drop_cons hi,drop_cons hm]
   have hc:∀ k,laws_eqIntA2.f k l[i].f0 l[i].f1 m[i].f0 m[i].f1=some (decide (l[i].f0=m[i].f0∧l[i].f1=m[i].f1)):=fun k=>rfl
   have hce:decide (l[i].f0=m[i].f0∧l[i].f1=m[i].f1)=true ↔ l[i]=m[i]:=by
    rw [decide_eq_true_eq]
    exact ⟨fun h=>a2_ext h.1 h.2,fun h=>by rw [h];exact ⟨rfl,rfl⟩⟩
   by_cases q:l[i]=m[i]
   ·obtain ⟨b,hb,hP⟩:=ih
    refine ⟨b,ev_go _ (fun k=>?_) hb,by rw [hP,q];exact ⟨fun h=>by rw [h],fun h=>(List.cons.inj h).2⟩⟩
    simp only [laws_eqIntA2S.l0];rw [if_pos (by omega),if_pos (by omega),if_pos (by omega),rdA2 hi,rdA2 hm,hc,Option.bind_some,if_pos (hce.2 q),wr1 (by omega)]
   ·refine evB_of (fun h=>absurd (List.cons.inj h).1 q) (fun _=>ev_stop fun k=>?_)
    simp only [laws_eqIntA2S.l0];rw [if_pos (by omega),if_pos (by omega),if_pos (by omega),rdA2 hi,rdA2 hm,hc,Option.bind_some,if_neg (fun h=>q (hce.1 h))]
 ·simp only [if_neg e]
  exact evB_of (fun h=>absurd (by rw [h]) e) (fun _=>Ev.now _)
theorem laws_eqIntA2S.same (l:List A2) (hl:l.length≤1000000000000000):Ev (fun k=>laws_eqIntA2S.f k l l) true:=evB_true (laws_eqIntA2S.ev l l hl) rfl

/-- A square table of bools. -/
abbrev BF:=Nat→Nat→Bool
def tbl (n:Nat) (f:BF):List (List Bool):=(List.range n).map fun i=>(List.range n).map fun j=>f i j
def upd2 (f:BF) (i j:Nat) (v:Bool):BF:=fun a b=>if a=i∧b=j then v else f a b
theorem tbl_length (n:Nat) (f:BF):(tbl n f).length=n:=by simp [tbl]
theorem tbl_row {n:Nat} {f:BF} {i:Nat} (h:i<n):rd_L3 (tbl n f) (i:Int)=(List.range n).map fun j=>f i j:=by simp [rd_L3,tbl,h]
theorem tbl_rowlen {n:Nat} {f:BF} {i:Nat} (h:i<n):(rd_L3 (tbl n f) (i:Int)).length=n:=by rw [tbl_row h];simp
theorem tbl_at {n:Nat} {f:BF} {i j:Nat} (h:i<n) (h2:j<n):rdOf false (rd_L3 (tbl n f) (i:Int)) (j:Int)=f i j:=by rw [tbl_row h];simp [rdOf,h2]
theorem tbl_set {n:Nat} {f:BF} {i j:Nat} (h:i<n) (h2:j<n) (v:Bool):(tbl n f).set i ((rd_L3 (tbl n f) (i:Int)).set j v)=tbl n (upd2 f i j v):=by
 rw [tbl_row h]
 apply List.ext_getElem
 ·simp [tbl]
 ·intro a h3 h4
  simp only [tbl,List.length_map,List.length_range] at h4
  rw [List.getElem_set]
  by_cases e:i=a
  ·subst e
   rw [if_pos rfl]
   apply List.ext_getElem
   ·simp [tbl]
   ·intro b h5 h6
    simp only [List.length_set,List.length_map,List.length_range] at h5
    rw [List.getElem_set]
    simp only [tbl,List.getElem_map,List.getElem_range,upd2]
    by_cases e2:j=b
    ·subst e2;simp
    ·rw [if_neg e2,if_neg (by rintro ⟨_,h⟩;exact e2 h.symm)]
  ·rw [if_neg e]
   simp only [tbl,List.getElem_map,List.getElem_range,upd2]
   congr 1
   funext b
   rw [if_neg (by rintro ⟨h,_⟩;exact e h.symm)]
/-- The pairs, laid into a table. -/
def edgF:List A2→BF→BF
 | [],f=>f
 | e::E,f=>edgF E (upd2 f e.f0.toNat e.f1.toNat true)
/-- Warshall's rounds. -/
def fwS (k i j:Nat) (f:BF):BF:=upd2 f i j (f i j || (f i k && f k j))
def fwJ (k i:Nat):List Nat→BF→BF:=fun L f=>L.foldl (fun f j=>fwS k i j f) f
def fwI (n k:Nat):List Nat→BF→BF:=fun L f=>L.foldl (fun f i=>fwJ k i (List.range n) f) f
def fwK (n:Nat):List Nat→BF→BF:=fun L f=>L.foldl (fun f k=>fwI n k (List.range n) f) f
def cloF (n:Nat) (E:List A2):BF:=fwK n (List.range n) (edgF E fun _ _=>false)
def EdgIn (n:Nat) (E:List A2):Prop:=∀ e ∈ E,(0≤e.f0∧e.f0<(n:Int))∧(0≤e.f1∧e.f1<(n:Int))
theorem range_drop {n i:Nat} (h:i<n):(List.range n).drop i=i::(List.range n).drop (i + 1):=by rw [drop_cons (by simpa using h)];simp
theorem fwS_same (k i j:Nat) (f:BF) (h:(f i k && f k j)=false):fwS k i j f=f:=by
 funext a b
 unfold fwS upd2
 by_cases e:a=i∧b=j
 ·rw [if_pos e,e.1,e.2,h,Bool.or_false]
 ·rw [if_neg e]

theorem impl_closure.ev (n:Nat) (E:List A2) (hn:n≤8) (hE:E.length≤1000000) (hin:EdgIn n E):Ev (fun k=>impl_closure.f k (n:Int) E) (tbl n (cloF n E)):=by
 unfold impl_closure.f
 rw [show (fun k=>if 0≤(n:Int) then (if ((n:Int):Int).toNat≤11728124029610 then ((some (List.replicate ((n:Int):Int).toNat []:List (List Bool))).bind fun y167=>(impl_closure.l0 k (n:Int) E y167 (y167.length:Int) 0)) else none) else none)=fun k=>impl_closure.l0 k (n:Int) E (List.replicate n ([]:List Bool)) (n:Int) 0 from funext fun k=>by rw [if_pos (by omega),if_pos (by omega),Option.bind_some,Int.toNat_natCast,List.length_replicate]]
 have l4:∀ (a i:Nat) (R:List (List Bool)),a<n→i<n→∀ j,j≤n→∀ f:BF,Ev (fun k=>impl_closure.l3 k (n:Int) (tbl n (fwJ a i ((List.range n).drop j) f)) (a:Int) ((i + 1:Nat):Int)) R→Ev (fun k=>impl_closure.l4 k (n:Int) (tbl n f) (a:Int) (i:Int) (j:Int)) R:=by
  intro a i R ha hi
  refine rev_ind (P:=fun j=>∀ f:BF,Ev (fun k=>impl_closure.l3 k (n:Int) (tbl n (fwJ a i ((List.range n).drop j) f)) (a:Int) ((i + 1:Nat):Int)) R→Ev (fun k=>impl_closure.l4 k (n:Int) (tbl n f) (a:Int) (i:Int) (j:Int)) R) n ?_ ?_
  ·intro f h
   rw [List.drop_of_length_le (by simp)] at h
   refine ev_go _ (fun k=>?_) h
   simp only [impl_closure.l4];rw [if_neg (by omega),wr1 (by omega)];rfl
  ·intro j hj ih f h
   rw [range_drop hj] at h
   have hs:=ih (fwS a i j f) h
   refine ev_go _ (fun k=>?_) hs
   simp only [impl_closure.l4]
   rw [if_pos (by omega),if_pos (by omega),if_pos (by rw [tbl_length];omega),if_pos (by omega),if_pos (by rw [tbl_rowlen hi];omega),tbl_at hi hj,wr1 (by omega)]
   simp only [Int.toNat_natCast]
   by_cases c1:f i j=true
   ·rw [if_pos c1,tbl_set hi hj,fwS,c1];rfl
   ·have c1:f i j=false:=by simpa using c1
    rw [if_neg (by rw [c1];simp),if_pos (by omega),if_pos (by rw [tbl_rowlen hi];omega),tbl_at hi ha]
    by_cases c2:f i a=true
    ·rw [if_pos c2,if_pos (by rw [tbl_length];omega),if_pos (by rw [tbl_rowlen ha];omega),tbl_at ha hj,tbl_set hi hj,fwS,c1,c2];simp
    ·have c2:f i a=false:=by simpa using c2
     rw [if_neg (by rw [c2];simp),tbl_set hi hj,fwS,c1,c2];simp
 have l3:∀ (a:Nat) (R:List (List Bool)),a<n→∀ i,i≤n→∀ f:BF,Ev (fun k=>impl_closure.l2 k (n:Int) (tbl n (fwI n a ((List.range n).drop i) f)) ((a + 1:Nat):Int)) R→Ev (fun k=>impl_closure.l3 k (n:Int) (tbl n f) (a:Int) (i:Int)) R:=by
  intro a R ha
  refine rev_ind (P:=fun i=>∀ f:BF,Ev (fun k=>impl_closure.l2 k (n:Int) (tbl n (fwI n a ((List.range n).drop i) f)) ((a + 1:Nat):Int)) R→Ev (fun k=>impl_closure.l3 k (n:Int) (tbl n f) (a:Int) (i:Int)) R) n ?_ ?_
  ·intro f h
   rw [List.drop_of_length_le (by simp)] at h
   refine ev_go _ (fun k=>?_) h
   simp only [impl_closure.l3];rw [if_neg (by omega),wr1 (by omega)];rfl
  ·intro i hi ih f h
   rw [range_drop hi] at h
   refine ev_go (fun k=>impl_closure.l4 k (n:Int) (tbl n f) (a:Int) (i:Int) 0) (fun k=>?_) (l4 a i R ha hi 0 (Nat.zero_le _) f (ih _ h))
   simp only [impl_closure.l3];rw [if_pos (by omega)]
 have l2:∀ a,a≤n→∀ f:BF,Ev (fun k=>impl_closure.l2 k (n:Int) (tbl n f) (a:Int)) (tbl n (fwK n ((List.range n).drop a) f)):=by
  refine rev_ind (P:=fun a=>∀ f:BF,Ev (fun k=>impl_closure.l2 k (n:Int) (tbl n f) (a:Int)) (tbl n (fwK n ((List.range n).drop a) f))) n ?_ ?_
  ·intro f
   rw [List.drop_of_length_le (by simp)]
   refine ev_stop fun k=>?_
   simp only [impl_closure.l2];rw [if_neg (by omega)];rfl
  ·intro a ha ih f
   rw [range_drop ha]
   refine ev_go (fun k=>impl_closure.l3 k (n:Int) (tbl n f) (a:Int) 0) (fun k=>?_) (l3 a _ ha 0 (Nat.zero_le _) f (ih _))
   simp only [impl_closure.l2];rw [if_pos (by omega)]
 have l1:∀ i,i≤E.length→∀ f:BF,Ev (fun k=>impl_closure.l1 k (n:Int) (tbl n f) E (E.length:Int) (i:Int)) (tbl n (fwK n (List.range n) (edgF (E.drop i) f))):=by
  refine rev_ind (P:=fun i=>∀ f:BF,Ev (fun k=>impl_closure.l1 k (n:Int) (tbl n f) E (E.length:Int) (i:Int)) (tbl n (fwK n (List.range n) (edgF (E.drop i) f)))) E.length ?_ ?_
  ·intro f
   rw [List.drop_length]
   refine ev_go _ (fun k=>?_) (l2 0 (Nat.zero_le _) f)
   simp only [impl_closure.l1];rw [if_neg (by omega)];rfl
  ·intro i hi ih f
   obtain ⟨⟨h1,h2⟩,h3,h4⟩:=hin _ (List.getElem_mem hi)
   rw [drop_cons hi,edgF]
   refine ev_go _ (fun k=>?_) (ih _)
   obtain ⟨x,hx⟩:=Int.eq_ofNat_of_zero_le h1
   obtain ⟨y,hy⟩:=Int.eq_ofNat_of_zero_le h3
   simp only [impl_closure.l1]
   rw [if_pos (by omega),if_pos (by omega),if_pos (by omega),rdA2 hi,hx,hy,if_pos (by omega),if_pos (by rw [tbl_length];omega),if_pos (by omega),if_pos (by rw [tbl_rowlen (by omega)];omega),wr1 (by omega)]
   simp only [Int.toNat_natCast]
   rw [tbl_set (by omega) (by omega)]
 have l0:=rev_ind (P:=fun i=>Ev (fun k=>impl_closure.l0 k (n:Int) E ((tbl n fun _ _=>false).take i++(List.replicate n ([]:List Bool)).drop i) (n:Int) (i:Int)) (tbl n (cloF n E))) n ?_ ?_ 0 (Nat.zero_le _)
 ·simpa using l0
 ·refine ev_go _ (fun k=>?_) (l1 0 (Nat.zero_le _) fun _ _=>false)
  simp only [impl_closure.l0];rw [if_neg (by omega),List.take_of_length_le (by rw [tbl_length];omega),List.drop_of_length_le (by simp),List.append_nil];rfl
 ·intro i hi ih
  have hlen:((tbl n fun _ _=>false).take i++(List.replicate n ([]:List Bool)).drop i).length=n:=by simp [tbl];omega
  refine ev_go _ (fun k=>?_) ih
  simp only [impl_closure.l0]
  rw [if_pos (by omega),if_pos (by omega),if_pos (by omega),if_pos (by omega),if_pos (by rw [hlen];omega),wr1 (by omega)]
  have:=set_copy (l:=tbl n fun _ _=>false) (z:=List.replicate n ([]:List Bool)) (i:=i) (by rw [tbl_length];exact hi) (by simpa using hi)
  rw [←this]
  simp [tbl,List.map_const']

theorem spec_l4Table.ev (n:Nat) (E:List A2) (hn:n≤8) (hE:E.length≤1000000) (hin:EdgIn n E):Ev (fun k=>spec_l4Table.f k (n:Int) E) (tbl n (cloF n E)):=by
 unfold spec_l4Table.f
 have l4:∀ (a i:Nat) (R:List (List Bool)),a<n→i<n→∀ j,j≤n→∀ f:BF,Ev (fun k=>spec_l4Table.l3 k (n:Int) (tbl n (fwJ a i ((List.range n).drop j) f)) (a:Int) ((i + 1:Nat):Int)) R→Ev (fun k=>spec_l4Table.l4 k (n:Int) (tbl n f) (a:Int) (i:Int) (j:Int)) R:=by
  intro a i R ha hi
  refine rev_ind (P:=fun j=>∀ f:BF,Ev (fun k=>spec_l4Table.l3 k (n:Int) (tbl n (fwJ a i ((List.range n).drop j) f)) (a:Int) ((i + 1:Nat):Int)) R→Ev (fun k=>spec_l4Table.l4 k (n:Int) (tbl n f) (a:Int) (i:Int) (j:Int)) R) n ?_ ?_
  ·intro f h
   rw [List.drop_of_length_le (by simp)] at h
   refine ev_go _ (fun k=>?_) h
   simp only [spec_l4Table.l4];rw [if_neg (by omega),wr1 (by omega)];rfl
  ·intro j hj ih f h
   rw [range_drop hj] at h
   have hs:=ih (fwS a i j f) h
   refine ev_go _ (fun k=>?_) hs
   simp only [spec_l4Table.l4]
   rw [if_pos (by omega),if_pos (by omega),if_pos (by rw [tbl_length];omega),if_pos (by omega),if_pos (by rw [tbl_rowlen hi];omega),tbl_at hi ha,wr1 (by omega)]
   simp only [Int.toNat_natCast]
   by_cases c2:f i a=true
   ·rw [if_pos c2,if_pos (by rw [tbl_length];omega),if_pos (by omega),if_pos (by rw [tbl_rowlen ha];omega),tbl_at ha hj]
    by_cases c1:f a j=true
    ·rw [if_pos c1,if_pos (by rw [tbl_rowlen hi];omega),tbl_set hi hj,fwS,c1,c2];simp
    ·have c1:f a j=false:=by simpa using c1
     rw [if_neg (by rw [c1];simp),fwS_same a i j f (by rw [c1,Bool.and_false])]
   ·have c2:f i a=false:=by simpa using c2
    rw [if_neg (by rw [c2];simp),fwS_same a i j f (by rw [c2,Bool.false_and])]
 have l3:∀ (a:Nat) (R:List (List Bool)),a<n→∀ i,i≤n→∀ f:BF,Ev (fun k=>spec_l4Table.l2 k (n:Int) (tbl n (fwI n a ((List.range n).drop i) f)) ((a + 1:Nat):Int)) R→Ev (fun k=>spec_l4Table.l3 k (n:Int) (tbl n f) (a:Int) (i:Int)) R:=by
  intro a R ha
  refine rev_ind (P:=fun i=>∀ f:BF,Ev (fun k=>spec_l4Table.l2 k (n:Int) (tbl n (fwI n a ((List.range n).drop i) f)) ((a + 1:Nat):Int)) R→Ev (fun k=>spec_l4Table.l3 k (n:Int) (tbl n f) (a:Int) (i:Int)) R) n ?_ ?_
  ·intro f h
   rw [List.drop_of_length_le (by simp)] at h
   refine ev_go _ (fun k=>?_) h
   simp only [spec_l4Table.l3];rw [if_neg (by omega),wr1 (by omega)];rfl
  ·intro i hi ih f h
   rw [range_drop hi] at h
   refine ev_go (fun k=>spec_l4Table.l4 k (n:Int) (tbl n f) (a:Int) (i:Int) 0) (fun k=>?_) (l4 a i R ha hi 0 (Nat.zero_le _) f (ih _ h))
   simp only [spec_l4Table.l3];rw [if_pos (by omega)]
 have l2:∀ a,a≤n→∀ f:BF,Ev (fun k=>spec_l4Table.l2 k (n:Int) (tbl n f) (a:Int)) (tbl n (fwK n ((List.range n).drop a) f)):=by
  refine rev_ind (P:=fun a=>∀ f:BF,Ev (fun k=>spec_l4Table.l2 k (n:Int) (tbl n f) (a:Int)) (tbl n (fwK n ((List.range n).drop a) f))) n ?_ ?_
  ·intro f
   rw [List.drop_of_length_le (by simp)]
   refine ev_stop fun k=>?_
   simp only [spec_l4Table.l2];rw [if_neg (by omega)];rfl
  ·intro a ha ih f
   rw [range_drop ha]
   refine ev_go (fun k=>spec_l4Table.l3 k (n:Int) (tbl n f) (a:Int) 0) (fun k=>?_) (l3 a _ ha 0 (Nat.zero_le _) f (ih _))
   simp only [spec_l4Table.l2];rw [if_pos (by omega)]
 have l1:∀ i,i≤E.length→∀ f:BF,Ev (fun k=>spec_l4Table.l1 k (n:Int) E (tbl n f) (i:Int)) (tbl n (fwK n (List.range n) (edgF (E.drop i) f))):=by
  refine rev_ind (P:=fun i=>∀ f:BF,Ev (fun k=>spec_l4Table.l1 k (n:Int) E (tbl n f) (i:Int)) (tbl n (fwK n (List.range n) (edgF (E.drop i) f)))) E.length ?_ ?_
  ·intro f
   rw [List.drop_length]
   refine ev_go _ (fun k=>?_) (l2 0 (Nat.zero_le _) f)
   simp only [spec_l4Table.l1];rw [if_neg (by omega)];rfl
  ·intro i hi ih f
   obtain ⟨⟨h1,h2⟩,h3,h4⟩:=hin _ (List.getElem_mem hi)
   rw [drop_cons hi,edgF]
   refine ev_go _ (fun k=>?_) (ih _)
   obtain ⟨x,hx⟩:=Int.eq_ofNat_of_zero_le h1
   obtain ⟨y,hy⟩:=Int.eq_ofNat_of_zero_le h3
   simp only [spec_l4Table.l1]
   rw [if_pos (by omega),if_pos (by omega),rdA2 hi,hx,hy,if_pos (by omega),if_pos (by rw [tbl_length];omega),if_pos (by omega),if_pos (by rw [tbl_rowlen (by omega)];omega),wr1 (by omega)]
   simp only [Int.toNat_natCast]
   rw [tbl_set (by omega) (by omega)]
 have l0:=rev_ind (P:=fun i=>Ev (fun k=>spec_l4Table.l0 k (n:Int) E ((tbl n fun _ _=>false).take i) (i:Int)) (tbl n (cloF n E))) n ?_ ?_ 0 (Nat.zero_le _)
 ·simpa using l0
 ·refine ev_go _ (fun k=>?_) (l1 0 (Nat.zero_le _) fun _ _=>false)
  simp only [spec_l4Table.l0];rw [if_neg (by omega),List.take_of_length_le (by rw [tbl_length];omega)];rfl
 ·intro i hi ih
  have ht:(tbl n fun _ _=>false).take i++[List.replicate n false]=(tbl n fun _ _=>false).take (i + 1):=by
   rw [List.take_succ_eq_append_getElem (by rw [tbl_length];exact hi)]
   simp [tbl,List.map_const']
  rw [←ht] at ih
  refine ev_go _ (fun k=>?_) ih
  simp only [spec_l4Table.l0]
  rw [if_pos (by omega),if_pos (by omega),if_pos (by omega),if_pos (by rw [List.length_take,tbl_length];omega),wr1 (by omega)]
  rfl

theorem foldl_keep {α β:Type} (P:α→Prop) (u:α→β→α) (h:∀ a b,P a→P (u a b)):∀ (L:List β) (a:α),P a→P (L.foldl u a)
 | [],a,ha=>ha
 | b::L,a,ha=>by rw [List.foldl_cons];exact foldl_keep P u h L _ (h a b ha)
theorem fwK_keep (P:BF→Prop) (h:∀ k i j f,P f→P (fwS k i j f)) (n:Nat) (L:List Nat) (f:BF) (hf:P f):P (fwK n L f):=
 foldl_keep P _ (fun f k hf=>foldl_keep P _ (fun f i hf=>foldl_keep P _ (fun f j hf=>h k i j f hf) _ f hf) _ f hf) L f hf
theorem edgF_true (a b:Nat):∀ (E:List A2) (f:BF),f a b=true→edgF E f a b=true
 | [],f,h=>h
 | e::E,f,h=>by
  rw [edgF]
  refine edgF_true a b E _ ?_
  unfold upd2;split
  ·rfl
  ·exact h
theorem edgF_mem:∀ (E:List A2) (f:BF) (e:A2),e ∈ E→edgF E f e.f0.toNat e.f1.toNat=true
 | [],_,_,h=>absurd h (by simp)
 | d::E,f,e,h=>by
  rw [edgF]
  rcases List.mem_cons.1 h with rfl|h
  ·exact edgF_true _ _ E _ (by simp [upd2])
  ·exact edgF_mem E _ e h
theorem edgF_le (R:Nat→Nat→Prop):∀ (E:List A2) (f:BF),(∀ e ∈ E,R e.f0.toNat e.f1.toNat)→(∀ a b,f a b=true→R a b)→∀ a b,edgF E f a b=true→R a b
 | [],f,_,hf=>hf
 | e::E,f,hE,hf=>by
  rw [edgF]
  refine edgF_le R E _ (fun d hd=>hE d (List.mem_cons_of_mem _ hd)) fun a b h=>?_
  unfold upd2 at h
  split at h
  ·rename_i h2;rw [h2.1,h2.2];exact hE e List.mem_cons_self
  ·exact hf a b h
theorem clo_edge (n:Nat) (E:List A2) {e:A2} (he:e ∈ E):cloF n E e.f0.toNat e.f1.toNat=true:=
 fwK_keep (fun f=>f e.f0.toNat e.f1.toNat=true) (fun k i j f h=>by
  unfold fwS upd2
  split
  ·rename_i h2;rw [←h2.1,←h2.2,h,Bool.true_or]
  ·exact h) n _ _ (edgF_mem E _ e he)
theorem clo_le (R:Nat→Nat→Prop) (htr:∀ a b c,R a b→R b c→R a c) (n:Nat) (E:List A2) (hE:∀ e ∈ E,R e.f0.toNat e.f1.toNat):∀ a b,cloF n E a b=true→R a b:=
 fwK_keep (fun f=>∀ a b,f a b=true→R a b) (fun k i j f h a b hab=>by
  unfold fwS upd2 at hab
  split at hab
  ·rename_i h2
   rw [h2.1,h2.2]
   rw [Bool.or_eq_true,Bool.and_eq_true] at hab
   rcases hab with h3 | ⟨h3,h4⟩
   ·exact h _ _ h3
   ·exact htr _ _ _ (h _ _ h3) (h _ _ h4)
  ·exact h a b hab) n _ _ (edgF_le R E _ hE (fun a b h=>by simp at h))

def LexLt (a b:A2):Prop:=a.f0<b.f0∨a.f0=b.f0∧a.f1<b.f1
instance (a b:A2):Decidable (LexLt a b):=inferInstanceAs (Decidable (_∨_))
def eAt (E:List A2) (i:Nat):A2:=rd_T72 E (i:Int)
theorem eAt_eq {E:List A2} {i:Nat} (h:i<E.length):eAt E i=E[i]:=rdA2 h
/-- What is asked of a pair (m: the greatest number). -/
def PairAt (m:Int) (E:List A2) (i:Nat):Prop:=(0≤(eAt E i).f0∧(eAt E i).f0≤m)∧(0≤(eAt E i).f1∧(eAt E i).f1≤m)∧(eAt E i).f0≠(eAt E i).f1∧(i=0∨LexLt (eAt E (i - 1)) (eAt E i))
instance (m:Int) (E:List A2) (i:Nat):Decidable (PairAt m E i):=inferInstanceAs (Decidable (_∧_))
def PairsOk (n:Int) (E:List A2):Prop:=(0≤n∧n≤8)∧E.length≤28∧∀ i,i<E.length→PairAt (n - 1) E i
def DiagOk (n:Nat) (f:BF):Prop:=∀ i,i<n→f i i=false
def PrecOk (n:Int) (E:List A2):Prop:=PairsOk n E∧DiagOk n.toNat (cloF n.toNat E)
theorem PairsOk.edg {n:Nat} {E:List A2} (h:∀ i,i<E.length→PairAt ((n:Int) - 1) E i):EdgIn n E:=by
 intro e he
 obtain ⟨i,hi,rfl⟩:=List.getElem_of_mem he
 have:=h i hi
 unfold PairAt at this
 rw [eAt_eq hi] at this
 omega

theorem wf_lim {n:Int} (h:(Lit.int .i64 n).wf=true) : -9223372036854775808≤n∧n≤9223372036854775807:=by
 simp [Lit.wf,IntKind.min,IntKind.max,IntKind.signed,IntKind.bits] at h
 omega
theorem spec_l4Before.eq (a b:A2):spec_l4Before.f a.f0 a.f1 b.f0 b.f1=some (decide (LexLt a b)):=by
 unfold spec_l4Before.f
 by_cases h:a.f0<b.f0
 ·rw [if_pos h,decide_eq_true (show LexLt a b from .inl h)]
 ·rw [if_neg h]
  by_cases h2:a.f0=b.f0
  ·rw [if_pos h2]
   by_cases h3:a.f1<b.f1
   ·rw [decide_eq_true h3,decide_eq_true (show LexLt a b from .inr ⟨h2,h3⟩)]
   ·rw [decide_eq_false h3,decide_eq_false (show ¬ LexLt a b from by rintro (h4|h4);exact h h4;exact h3 h4.2)]
  ·rw [if_neg h2,decide_eq_false (show ¬ LexLt a b from by rintro (h4|h4);exact h h4;exact h2 h4.1)]
theorem spec_l4Pairs.ev (n:Int) (E:List A2) (hn:(Lit.int .i64 n).wf=true) (hE:E.length≤1000000000):EvB (fun k=>spec_l4Pairs.f k n E) (PairsOk n E):=by
 have hn2 : -9223372036854775808≤n∧n≤9223372036854775807:=wf_lim hn
 unfold spec_l4Pairs.f
 have key:=evB_loop E.length (fun i k=>spec_l4Pairs.l0 k n E (i:Int)) (fun i=>PairAt (wrap64 (n - 1)) E i) ((0≤n∧n≤8)∧E.length≤28) ?_ ?_
 ·refine evB_iff key ⟨fun h=>?_,fun h=>?_⟩
  ·have hw:wrap64 (n - 1)=n - 1:=wr (by omega) (by omega)
   rw [hw] at h
   exact ⟨h.2.1,h.2.2,h.1⟩
  ·have hw:wrap64 (n - 1)=n - 1:=wr (by have:=h.1;omega) (by have:=h.1;omega)
   rw [hw]
   exact ⟨h.2.2,h.1,h.2.1⟩
 ·refine evB_of (fun h=>ev_stop fun k=>?_) (fun h=>ev_stop fun k=>?_)
  ·simp only [spec_l4Pairs.l0];rw [if_neg (by omega),spec_l1In.eq,Option.bind_some,if_pos (by simpa using h.1),decide_eq_true (by omega)]
  ·simp only [spec_l4Pairs.l0];rw [if_neg (by omega),spec_l1In.eq,Option.bind_some]
   by_cases h1:0≤n∧n≤8
   ·rw [if_pos (by simpa using h1),decide_eq_false (by omega)]
   ·rw [if_neg (by simpa using h1)]
 ·intro i hi R hR
  refine evB_leaf _ (fun h k=>?_) (fun h k=>?_) hR
  ·obtain ⟨h1,h2,h3,h4⟩:=h
   simp only [eAt] at h1 h2 h3 h4
   simp only [spec_l4Pairs.l0]
   rw [if_pos (by omega),if_pos (by omega),spec_l1In.eq,Option.bind_some,if_pos (by simpa using h1),spec_l1In.eq,Option.bind_some,if_pos (by simpa using h2),if_neg h3,wr1 (by omega)]
   by_cases h5:i=0
   ·rw [if_neg (by omega)]
   ·have hw:wrap64 ((i:Int) - 1)=((i - 1:Nat):Int):=by rw [wr (by omega) (by omega)];omega
    rw [if_pos (by omega),hw,if_pos (by omega),if_pos (by omega),spec_l4Before.eq,Option.bind_some,if_pos (by simpa using h4.resolve_left h5)]
  ·simp only [spec_l4Pairs.l0]
   rw [if_pos (by omega),if_pos (by omega),spec_l1In.eq,Option.bind_some]
   by_cases h1:0≤(rd_T72 E (i:Int)).f0∧(rd_T72 E (i:Int)).f0≤wrap64 (n - 1)
   ·rw [if_pos (by simpa using h1),spec_l1In.eq,Option.bind_some]
    by_cases h2:0≤(rd_T72 E (i:Int)).f1∧(rd_T72 E (i:Int)).f1≤wrap64 (n - 1)
    ·rw [if_pos (by simpa using h2)]
     by_cases h3:(rd_T72 E (i:Int)).f0=(rd_T72 E (i:Int)).f1
     ·rw [if_pos h3]
     ·rw [if_neg h3]
      have h5:¬ (i=0):=fun h5=>h ⟨h1,h2,h3,.inl h5⟩
      have hw:wrap64 ((i:Int) - 1)=((i - 1:Nat):Int):=by rw [wr (by omega) (by omega)];omega
      rw [if_pos (by omega),hw,if_pos (by omega),if_pos (by omega),spec_l4Before.eq,Option.bind_some,if_neg (by intro h6;exact h ⟨h1,h2,h3,.inr (by simpa [eAt] using h6)⟩)]
    ·rw [if_neg (by simpa using h2)]
   ·rw [if_neg (by simpa using h1)]
theorem spec_l4Good.ev (n:Int) (E:List A2) (hn:(Lit.int .i64 n).wf=true) (hE:E.length≤1000000000):EvB (fun k=>spec_l4Good.f k n E) (PrecOk n E):=by
 unfold spec_l4Good.f
 have e1:=spec_l4Pairs.ev n E hn hE
 by_cases h:PairsOk n E
 ·obtain ⟨m,rfl⟩:=Int.eq_ofNat_of_zero_le h.1.1
  have h8:=h.1
  have h28:=h.2.1
  have e2:=spec_l4Table.ev m E (by omega) (by omega) (PairsOk.edg h.2.2)
  generalize hf:cloF m E=f at e2
  have e3:EvB (fun k=>spec_l4Good.l0 k (m:Int) (tbl m f) 0) (DiagOk m f):=by
   have key:=evB_loop m (fun i k=>spec_l4Good.l0 k (m:Int) (tbl m f) (i:Int)) (fun i=>f i i=false) True ?_ ?_
   ·exact evB_iff key ⟨fun h=>h.1,fun h=>⟨h,trivial⟩⟩
   ·exact evB_of (fun _=>ev_stop fun k=>by simp only [spec_l4Good.l0];rw [if_neg (by omega)]) (fun h=>absurd trivial h)
   ·intro i hi R hR
    refine evB_leaf _ (fun h k=>?_) (fun h k=>?_) hR
    ·simp only [spec_l4Good.l0];rw [if_pos (by omega),if_pos (by omega),if_pos (by rw [tbl_length];omega),if_pos (by rw [tbl_rowlen hi];omega),tbl_at hi hi,h,if_neg (by simp),wr1 (by omega)]
    ·simp only [spec_l4Good.l0];rw [if_pos (by omega),if_pos (by omega),if_pos (by rw [tbl_length];omega),if_pos (by rw [tbl_rowlen hi];omega),tbl_at hi hi,if_pos (by simpa using h)]
  obtain ⟨b,hb,eb⟩:=e3
  refine ⟨b,ev_guard' e1 (fun _=>ev_bind _ e2 hb) (fun hn=>absurd h hn),eb.trans ⟨fun h2=>⟨h,by rw [Int.toNat_natCast,hf];exact h2⟩,fun h2=>by have:=h2.2;rwa [Int.toNat_natCast,hf] at this⟩⟩
 ·exact evB_of (fun h2=>absurd h2.1 h) (fun _=>ev_guard' e1 (fun h2=>absurd h2 h) (fun _=>Ev.now _))

theorem impl_IsPrecedence.ev (n:Int) (E:List A2) (hE:E.length≤1000000000):EvB (fun k=>impl_IsPrecedence.f k n E) (PrecOk n E):=by
 unfold impl_IsPrecedence.f
 by_cases h0:0≤n∧n≤8
 ·obtain ⟨m,rfl⟩:=Int.eq_ofNat_of_zero_le h0.1
  have w0:(fun k=>(impl_within.f (m:Int) 0 8).bind fun t197=>(if t197=true then (impl_IsPrecedence.j0 k (m:Int) E (decide ((E.length:Int)>28))) else (impl_IsPrecedence.j0 k (m:Int) E true)))=fun k=>impl_IsPrecedence.j0 k (m:Int) E (decide ((E.length:Int)>28)):=funext fun k=>by rw [impl_within.eq,Option.bind_some,if_pos (by simpa using h0)]
  rw [w0]
  by_cases h28:E.length≤28
  ·rw [decide_eq_false (by omega)]
   have key:=evB_loopC E.length (fun i k=>impl_IsPrecedence.l0 k (m:Int) E E (E.length:Int) (i:Int)) (fun i=>PairAt ((m:Int) - 1) E i) (DiagOk m (cloF m E)) ?_ ?_
   ·refine evB_iff (evB_step (fun k=>impl_IsPrecedence.l0 k (m:Int) E E (E.length:Int) 0) (fun k=>by simp only [impl_IsPrecedence.j0];rw [if_neg (by simp)]) key) ⟨fun h=>⟨⟨h0,h28,h.1⟩,by rw [Int.toNat_natCast];exact h.2⟩,fun h=>⟨h.1.2.2,by have:=h.2;rwa [Int.toNat_natCast] at this⟩⟩
   ·intro hall
    have e2:=impl_closure.ev m E (by omega) (by omega) (PairsOk.edg hall)
    generalize cloF m E=f at e2
    have key:=evB_loop m (fun i k=>impl_IsPrecedence.l1 k (tbl m f) (m:Int) (i:Int)) (fun i=>f i i=false) True ?_ ?_
    ·obtain ⟨b,hb,eb⟩:=key
     refine ⟨b,ev_go (fun k=>(impl_closure.f k (m:Int) E).bind fun t=>impl_IsPrecedence.l1 k t (t.length:Int) 0) (fun k=>?_) (ev_bind _ e2 (by simp only [tbl_length];exact hb)),eb.trans ⟨fun h=>h.1,fun h=>⟨h,trivial⟩⟩⟩
     simp only [impl_IsPrecedence.l0];rw [if_neg (by omega)]
    ·exact evB_of (fun _=>ev_stop fun k=>by simp only [impl_IsPrecedence.l1];rw [if_neg (by omega)]) (fun h=>absurd trivial h)
    ·intro i hi R hR
     refine evB_leaf _ (fun h k=>?_) (fun h k=>?_) hR
     ·simp only [impl_IsPrecedence.l1];rw [if_pos (by omega),if_pos (by omega),if_pos (by rw [tbl_length];omega),if_pos (by rw [tbl_rowlen hi];omega),tbl_at hi hi,h,if_neg (by simp),wr1 (by omega)]
     ·simp only [impl_IsPrecedence.l1];rw [if_pos (by omega),if_pos (by omega),if_pos (by rw [tbl_length];omega),if_pos (by rw [tbl_rowlen hi];omega),tbl_at hi hi,if_pos (by simpa using h)]
   ·intro i hi _ R hR
    have jt:∀ a b,Ev (fun k=>impl_IsPrecedence.j2 k (m:Int) E (i:Int) E (E.length:Int) (i:Int) true a b) false:=fun a b=>ev_stop fun k=>by simp only [impl_IsPrecedence.j2];rw [if_pos trivial]
    by_cases h1:0≤(rd_T72 E (i:Int)).f0∧(rd_T72 E (i:Int)).f0<(m:Int)
    ·by_cases h2:0≤(rd_T72 E (i:Int)).f1∧(rd_T72 E (i:Int)).f1<(m:Int)
     ·by_cases h3:(rd_T72 E (i:Int)).f0=(rd_T72 E (i:Int)).f1
      ·refine evB_of (fun h=>absurd h3 h.1.2.2.1) (fun _=>ev_go _ (fun k=>?_) (jt (rd_T72 E (i:Int)).f0 (rd_T72 E (i:Int)).f1))
       simp only [impl_IsPrecedence.l0];rw [if_pos (by omega),if_pos (by omega),if_pos (by omega),impl_isNumber.eq _ _ (by omega) (by omega),Option.bind_some,if_pos (by simpa using h1),impl_isNumber.eq _ _ (by omega) (by omega),Option.bind_some,if_pos (by simpa using h2),beq_iff_eq.2 h3]
      ·refine evB_step (fun k=>impl_IsPrecedence.j2 k (m:Int) E (i:Int) E (E.length:Int) (i:Int) false (rd_T72 E (i:Int)).f0 (rd_T72 E (i:Int)).f1) (fun k=>?_) ?_
       ·simp only [impl_IsPrecedence.l0];rw [if_pos (by omega),if_pos (by omega),if_pos (by omega),impl_isNumber.eq _ _ (by omega) (by omega),Option.bind_some,if_pos (by simpa using h1),impl_isNumber.eq _ _ (by omega) (by omega),Option.bind_some,if_pos (by simpa using h2),beq_eq_false_iff_ne.2 h3]
       ·by_cases h5:i=0
        ·have hP:PairAt ((m:Int) - 1) E i:=by
          simp only [PairAt,eAt];exact ⟨by omega,by omega,h3,.inl h5⟩
         refine evB_iff (evB_step _ (fun k=>?_) (hR hP)) ⟨fun h=>⟨hP,h⟩,fun h=>h.2⟩
         simp only [impl_IsPrecedence.j2];rw [if_neg (by simp),if_neg (by omega),wr1 (by omega)]
        ·have hw:wrap64 ((i:Int) - 1)=((i - 1:Nat):Int):=by rw [wr (by omega) (by omega)];omega
         by_cases h6:LexLt (rd_T72 E ((i - 1:Nat):Int)) (rd_T72 E (i:Int))
         ·have hP:PairAt ((m:Int) - 1) E i:=by
           simp only [PairAt,eAt];exact ⟨by omega,by omega,h3,.inr h6⟩
          refine evB_iff (evB_step _ (fun k=>?_) (hR hP)) ⟨fun h=>⟨hP,h⟩,fun h=>h.2⟩
          unfold LexLt at h6
          simp only [impl_IsPrecedence.j2]
          rw [if_neg (by simp),if_pos (by omega),hw,if_pos (by omega),if_pos (by omega),if_neg (by omega),wr1 (by omega)]
          by_cases h7:(rd_T72 E ((i - 1:Nat):Int)).f0=(rd_T72 E (i:Int)).f0
          ·rw [if_pos h7,if_neg (by omega)]
          ·rw [if_neg h7]
         ·refine evB_of (fun h=>absurd (h.1.2.2.2.resolve_left h5) h6) (fun _=>ev_stop fun k=>?_)
          unfold LexLt at h6
          simp only [impl_IsPrecedence.j2]
          rw [if_neg (by simp),if_pos (by omega),hw,if_pos (by omega),if_pos (by omega)]
          by_cases h8:(rd_T72 E ((i - 1:Nat):Int)).f0>(rd_T72 E (i:Int)).f0
          ·rw [if_pos h8]
          ·rw [if_neg h8,if_pos (by omega),if_pos (by omega)]
     ·refine evB_of (fun h=>absurd h.1.2.1 (by simp only [eAt];omega)) (fun _=>ev_go _ (fun k=>?_) (jt (rd_T72 E (i:Int)).f0 (rd_T72 E (i:Int)).f1))
      simp only [impl_IsPrecedence.l0];rw [if_pos (by omega),if_pos (by omega),if_pos (by omega),impl_isNumber.eq _ _ (by omega) (by omega),Option.bind_some,if_pos (by simpa using h1),impl_isNumber.eq _ _ (by omega) (by omega),Option.bind_some,if_neg (by simpa using h2)]
    ·refine evB_of (fun h=>absurd h.1.1 (by simp only [eAt];omega)) (fun _=>ev_go _ (fun k=>?_) (jt (rd_T72 E (i:Int)).f0 (rd_T72 E (i:Int)).f1))
     simp only [impl_IsPrecedence.l0];rw [if_pos (by omega),if_pos (by omega),if_pos (by omega),impl_isNumber.eq _ _ (by omega) (by omega),Option.bind_some,if_neg (by simpa using h1)]
  ·rw [decide_eq_true (by omega)]
   refine evB_of (fun h=>absurd h.1.2.1 h28) (fun _=>ev_stop fun k=>?_)
   simp only [impl_IsPrecedence.j0];rw [if_pos trivial]
 ·have w0:(fun k=>(impl_within.f n 0 8).bind fun t197=>(if t197=true then (impl_IsPrecedence.j0 k n E (decide ((E.length:Int)>28))) else (impl_IsPrecedence.j0 k n E true)))=fun k=>impl_IsPrecedence.j0 k n E true:=funext fun k=>by rw [impl_within.eq,Option.bind_some,if_neg (by simpa using h0)]
  rw [w0]
  refine evB_of (fun h=>absurd h.1.1 h0) (fun _=>ev_stop fun k=>?_)
  simp only [impl_IsPrecedence.j0];rw [if_pos trivial]

theorem fwJ_eq (k i:Nat):∀ (L:List Nat) (f:BF),L.Nodup→∀ a b,fwJ k i L f a b=if a=i∧b ∈ L then (f i b || (f i k && f k b)) else f a b
 | [],f,_,a,b=>by simp [fwJ]
 | j::L,f,hn,a,b=>by
  have hj:=List.nodup_cons.1 hn
  have ih:=fwJ_eq k i L (fwS k i j f) hj.2 a b
  have e:fwJ k i (j::L) f=fwJ k i L (fwS k i j f):=rfl
  rw [e,ih]
  have s:∀ c d,fwS k i j f c d=if c=i∧d=j then (f i j || (f i k && f k j)) else f c d:=fun c d=>rfl
  have sik:fwS k i j f i k=f i k:=by
   rw [s];split
   ·rename_i h;rw [←h.2];cases f i k <;> simp
   ·rfl
  by_cases ha:a=i
  ·subst ha
   by_cases hb:b=j
   ·subst hb
    rw [if_neg (by rintro ⟨_,h⟩;exact hj.1 h),if_pos ⟨rfl,List.mem_cons_self⟩,s,if_pos ⟨rfl,rfl⟩]
   ·have sb:∀ c,fwS k a j f c b=f c b:=fun c=>by rw [s,if_neg (by rintro ⟨_,h⟩;exact hb h)]
    by_cases hbl:b ∈ L
    ·rw [if_pos ⟨rfl,hbl⟩,if_pos ⟨rfl,List.mem_cons_of_mem _ hbl⟩,sb,sb,sik]
    ·rw [if_neg (by rintro ⟨_,h⟩;exact hbl h),if_neg (by rintro ⟨_,h⟩;rcases List.mem_cons.1 h with h|h;exact hb h;exact hbl h),sb]
  ·rw [if_neg (by rintro ⟨h,_⟩;exact ha h),if_neg (by rintro ⟨h,_⟩;exact ha h),s,if_neg (by rintro ⟨h,_⟩;exact ha h)]
theorem fwI_eq (n k:Nat):∀ (L:List Nat) (f:BF),L.Nodup→k<n→∀ a b,fwI n k L f a b=if a ∈ L∧b<n then (f a b || (f a k && f k b)) else f a b
 | [],f,_,_,a,b=>by simp [fwI]
 | i::L,f,hn,hk,a,b=>by
  have hj:=List.nodup_cons.1 hn
  have ih:=fwI_eq n k L (fwJ k i (List.range n) f) hj.2 hk a b
  have e:fwI n k (i::L) f=fwI n k L (fwJ k i (List.range n) f):=rfl
  rw [e,ih]
  have s:∀ c d,fwJ k i (List.range n) f c d=if c=i∧d ∈ List.range n then (f i d || (f i k && f k d)) else f c d:=fwJ_eq k i _ f List.nodup_range
  have sk:∀ d,fwJ k i (List.range n) f k d=f k d:=fun d=>by
   rw [s];split
   ·rename_i h;rw [←h.1];cases f k d <;> cases f k k <;> simp
   ·rfl
  by_cases ha:a=i
  ·subst ha
   rw [if_neg (by rintro ⟨h,_⟩;exact hj.1 h),s]
   by_cases hb:b<n
   ·rw [if_pos ⟨rfl,List.mem_range.2 hb⟩,if_pos ⟨List.mem_cons_self,hb⟩]
   ·rw [if_neg (by rintro ⟨_,h⟩;exact hb (List.mem_range.1 h)),if_neg (by rintro ⟨_,h⟩;exact hb h)]
  ·have sa:∀ d,fwJ k i (List.range n) f a d=f a d:=fun d=>by rw [s,if_neg (by rintro ⟨h,_⟩;exact ha h)]
   rw [sa,sa,sk]
   by_cases hal:a ∈ L
   ·by_cases hb:b<n
    ·rw [if_pos ⟨hal,hb⟩,if_pos ⟨List.mem_cons_of_mem _ hal,hb⟩]
    ·rw [if_neg (by rintro ⟨_,h⟩;exact hb h),if_neg (by rintro ⟨_,h⟩;exact hb h)]
   ·rw [if_neg (by rintro ⟨h,_⟩;exact hal h),if_neg (by rintro ⟨h,_⟩;rcases List.mem_cons.1 h with h|h;exact ha h;exact hal h)]
/-- Closed under the jobs below k. -/
def ClosedTo (n k:Nat) (f:BF):Prop:=∀ i m j,i<n→j<n→m<k→m<n→f i m=true→f m j=true→f i j=true
theorem closed_step (n k:Nat) (f:BF) (hk:k<n) (h:ClosedTo n k f):ClosedTo n (k + 1) (fwI n k (List.range n) f):=by
 have s:=fwI_eq n k (List.range n) f List.nodup_range hk
 have t:∀ a b,a<n→b<n→(fwI n k (List.range n) f a b=true ↔ (f a b=true∨f a k=true∧f k b=true)):=fun a b ha hb=>by
  rw [s,if_pos ⟨List.mem_range.2 ha,hb⟩,Bool.or_eq_true,Bool.and_eq_true]
 intro i m j hi hj hm hmn h1 h2
 rw [t i m hi hmn] at h1
 rw [t m j hmn hj] at h2
 rw [t i j hi hj]
 by_cases e:m=k
 ·subst e
  have a1:f i m=true:=by rcases h1 with h|h;exact h;exact h.1
  have a2:f m j=true:=by rcases h2 with h|h;exact h;exact h.2
  exact .inr ⟨a1,a2⟩
 ·have hm':m<k:=by omega
  rcases h1 with h1 | ⟨h1,h1'⟩ <;> rcases h2 with h2 | ⟨h2,h2'⟩
  ·exact .inl (h i m j hi hj hm' hmn h1 h2)
  ·exact .inr ⟨h i m k hi hk hm' hmn h1 h2,h2'⟩
  ·exact .inr ⟨h1,h k m j hk hj hm' hmn h1' h2⟩
  ·exact .inr ⟨h1,h2'⟩
theorem closed_all (n:Nat) (f:BF):ClosedTo n n (fwK n (List.range n) f):=by
 have key:∀ k,k≤n→ClosedTo n k (fwK n (List.range k) f):=by
  intro k
  induction k with
  | zero=>intro _ i m j _ _ hm;omega
  | succ k ih=>
   intro hk
   have e:fwK n (List.range (k + 1)) f=fwI n k (List.range n) (fwK n (List.range k) f):=by
    unfold fwK;rw [List.range_succ,List.foldl_append];rfl
   rw [e]
   exact closed_step n k _ (by omega) (ih (by omega))
 exact key n (Nat.le_refl _)
theorem clo_trans {n:Nat} {E:List A2} {i m j:Nat} (hi:i<n) (hm:m<n) (hj:j<n) (h1:cloF n E i m=true) (h2:cloF n E m j=true):cloF n E i j=true:=
 closed_all n (edgF E fun _ _=>false) i m j hi hj hm hm h1 h2
/-- A precedence, as a table. -/
structure PreF (n:Nat) (f:BF):Prop where
 irr:∀ i,i<n→f i i=false
 tr:∀ i m j,i<n→m<n→j<n→f i m=true→f m j=true→f i j=true
theorem preF_of {n:Nat} {E:List A2} (h:DiagOk n (cloF n E)):PreF n (cloF n E):=⟨h,fun _ _ _ hi hm hj h1 h2=>clo_trans hi hm hj h1 h2⟩
/-- How many jobs are behind a job. -/
def cntF (n:Nat) (f:BF) (i:Nat):Nat:=((List.range n).filter fun j=>f i j).length
theorem filter_sub {α:Type} (p q:α→Bool):∀ l:List α,(∀ x ∈ l,p x=true→q x=true)→(l.filter p).length≤(l.filter q).length
 | [],_=>by simp
 | x::l,h=>by
  have ih:=filter_sub p q l (fun y hy=>h y (List.mem_cons_of_mem _ hy))
  by_cases hp:p x=true
  ·rw [List.filter_cons_of_pos hp,List.filter_cons_of_pos (h x List.mem_cons_self hp)];simp;exact ih
  ·rw [List.filter_cons_of_neg hp]
   by_cases hq:q x=true
   ·rw [List.filter_cons_of_pos hq];simp;omega
   ·rw [List.filter_cons_of_neg hq];exact ih
theorem filter_lt {α:Type} (p q:α→Bool) (a:α) (ha:p a=false) (hb:q a=true):∀ l:List α,a ∈ l→(∀ x ∈ l,p x=true→q x=true)→(l.filter p).length<(l.filter q).length
 | [],h,_=>absurd h (by simp)
 | x::l,h,hs=>by
  have sub:=filter_sub p q l (fun y hy=>hs y (List.mem_cons_of_mem _ hy))
  by_cases e:x=a
  ·subst e
   rw [List.filter_cons_of_neg (by simp [ha]),List.filter_cons_of_pos hb];simp;omega
  ·have hm:a ∈ l:=by rcases List.mem_cons.1 h with h|h;exact absurd h.symm e;exact h
   have ih:=filter_lt p q a ha hb l hm (fun y hy=>hs y (List.mem_cons_of_mem _ hy))
   by_cases hp:p x=true
   ·rw [List.filter_cons_of_pos hp,List.filter_cons_of_pos (hs x List.mem_cons_self hp)];simp;exact ih
   ·rw [List.filter_cons_of_neg hp]
    by_cases hq:q x=true
    ·rw [List.filter_cons_of_pos hq];simp;omega
    ·rw [List.filter_cons_of_neg hq];exact ih
theorem cnt_lt {n:Nat} {f:BF} (h:PreF n f) {i j:Nat} (hi:i<n) (hj:j<n) (hij:f i j=true):cntF n f j<cntF n f i:=
 filter_lt _ _ j (h.irr j hj) hij _ (List.mem_range.2 hj) (fun x hx hx2=>h.tr i j x hi hj (List.mem_range.1 hx) hij hx2)
theorem cnt_le {n:Nat} {f:BF} (h:PreF n f) {i:Nat} (hi:i<n):cntF n f i<n:=by
 have h1:=filter_lt (fun j=>f i j) (fun _=>true) i (h.irr i hi) rfl (List.range n) (List.mem_range.2 hi) (fun _ _ _=>rfl)
 have h2:((List.range n).filter fun _=>true).length=n:=by rw [List.filter_eq_self.2 (fun _ _=>rfl),List.length_range]
 unfold cntF
 omega

/-- The greatest of what lies behind a job. -/
def bestB (f:BF) (t:Nat→Int) (i:Nat):List Nat→Int→Int
 | [],s=>s
 | k::L,s=>bestB f t i L (if f i k=true then mx s (t k) else s)
theorem mx_ge2 (a b:Int):a≤mx a b∧b≤mx a b∧(mx a b=a∨mx a b=b):=by unfold mx;split <;> omega
theorem bestB_ge (f:BF) (t:Nat→Int) (i:Nat):∀ (L:List Nat) (s:Int),s≤bestB f t i L s∧∀ k ∈ L,f i k=true→t k≤bestB f t i L s
 | [],s=>⟨Int.le_refl _,fun k hk=>absurd hk (by simp)⟩
 | k::L,s=>by
  rw [bestB]
  have ih:=bestB_ge f t i L (if f i k=true then mx s (t k) else s)
  by_cases c:f i k=true
  ·rw [if_pos c] at ih ⊢
   have h3:=mx_ge2 s (t k)
   refine ⟨Int.le_trans h3.1 ih.1,fun q hq hf=>?_⟩
   rcases List.mem_cons.1 hq with rfl|hq
   ·exact Int.le_trans h3.2.1 ih.1
   ·exact ih.2 q hq hf
  ·rw [if_neg c] at ih ⊢
   refine ⟨ih.1,fun q hq hf=>?_⟩
   rcases List.mem_cons.1 hq with rfl|hq
   ·exact absurd hf c
   ·exact ih.2 q hq hf
theorem bestB_at (f:BF) (t:Nat→Int) (i:Nat):∀ (L:List Nat) (s:Int),bestB f t i L s=s∨∃ k,k ∈ L∧f i k=true∧bestB f t i L s=t k
 | [],s=>.inl rfl
 | k::L,s=>by
  rw [bestB]
  by_cases c:f i k=true
  ·rw [if_pos c]
   rcases bestB_at f t i L (mx s (t k)) with h | ⟨q,hq,hf,h⟩
   ·rcases (mx_ge2 s (t k)).2.2 with e|e
    ·exact .inl (h.trans e)
    ·exact .inr ⟨k,List.mem_cons_self,c,h.trans e⟩
   ·exact .inr ⟨q,List.mem_cons_of_mem _ hq,hf,h⟩
  ·rw [if_neg c]
   rcases bestB_at f t i L s with h | ⟨q,hq,hf,h⟩
   ·exact .inl h
   ·exact .inr ⟨q,List.mem_cons_of_mem _ hq,hf,h⟩
theorem bestB_congr (f:BF) (t u:Nat→Int) (i:Nat):∀ (L:List Nat) (s:Int),(∀ k ∈ L,f i k=true→t k=u k)→bestB f t i L s=bestB f u i L s
 | [],_,_=>rfl
 | k::L,s,h=>by
  rw [bestB,bestB]
  by_cases c:f i k=true
  ·rw [if_pos c,if_pos c,h k List.mem_cons_self c];exact bestB_congr f t u i L _ (fun q hq=>h q (List.mem_cons_of_mem _ hq))
  ·rw [if_neg c,if_neg c];exact bestB_congr f t u i L _ (fun q hq=>h q (List.mem_cons_of_mem _ hq))
def tmF (jobs:List J) (i:Nat):Int:=(rd_T76 jobs (i:Int)).f0
def tailN (jobs:List J) (f:BF):Nat→Nat→Int
 | 0,_=>0
 | d + 1,i=>tmF jobs i + bestB f (tailN jobs f d) i (List.range jobs.length) 0
/-- The tail of a job. -/
def TL (jobs:List J) (f:BF) (i:Nat):Int:=tailN jobs f jobs.length i
theorem tailN_stable (jobs:List J) {f:BF} (h:PreF jobs.length f):∀ (d i:Nat),i<jobs.length→cntF jobs.length f i<d→tailN jobs f d i=tailN jobs f (d + 1) i
 | 0,_,_,h2=>absurd h2 (by omega)
 | d + 1,i,hi,h2=>by
  rw [tailN,tailN]
  congr 1
  exact bestB_congr f _ _ i _ _ fun k hk hf=>tailN_stable jobs h d k (List.mem_range.1 hk) (by have:=cnt_lt h hi (List.mem_range.1 hk) hf;omega)
theorem tailN_up (jobs:List J) {f:BF} (h:PreF jobs.length f) (i:Nat) (hi:i<jobs.length):∀ (e d:Nat),cntF jobs.length f i<d→tailN jobs f d i=tailN jobs f (d + e) i
 | 0,d,_=>rfl
 | e + 1,d,hd=>by rw [←Nat.add_assoc,←tailN_stable jobs h (d + e) i hi (by omega)];exact tailN_up jobs h i hi e d hd
theorem TL_eq (jobs:List J) {f:BF} (h:PreF jobs.length f) (i:Nat) (hi:i<jobs.length):TL jobs f i=tmF jobs i + bestB f (TL jobs f) i (List.range jobs.length) 0:=by
 have h1:TL jobs f i=tailN jobs f (jobs.length + 1) i:=tailN_stable jobs h jobs.length i hi (cnt_le h hi)
 rw [h1,tailN]
 rfl
theorem TL_in (jobs:List J) (hj:JobsOk jobs) (f:BF):∀ (d i:Nat),i<jobs.length→0≤tailN jobs f d i∧tailN jobs f d i≤50 * (d:Int)
 | 0,_,_=>⟨Int.le_refl _,by simp [tailN]⟩
 | d + 1,i,hi=>by
  have ht:1≤tmF jobs i∧tmF jobs i≤50:=by unfold tmF;rw [rdJ hi];exact (hj.2 _ (List.getElem_mem hi)).1
  rw [tailN]
  have h1:=(bestB_ge f (tailN jobs f d) i (List.range jobs.length) 0).1
  have h2:bestB f (tailN jobs f d) i (List.range jobs.length) 0≤50 * (d:Int):=by
   rcases bestB_at f (tailN jobs f d) i (List.range jobs.length) 0 with e | ⟨k,hk,_,e⟩
   ·rw [e];omega
   ·rw [e];exact (TL_in jobs hj f d k (List.mem_range.1 hk)).2
  omega
theorem TL_pos (jobs:List J) (hj:JobsOk jobs) {f:BF} (h:PreF jobs.length f) (i:Nat) (hi:i<jobs.length):(1≤tmF jobs i∧tmF jobs i≤50)∧tmF jobs i≤TL jobs f i∧TL jobs f i≤400:=by
 have ht:1≤tmF jobs i∧tmF jobs i≤50:=by unfold tmF;rw [rdJ hi];exact (hj.2 _ (List.getElem_mem hi)).1
 have h8:=hj.1
 have h2:=(TL_in jobs hj f jobs.length i hi).2
 have h3:=(bestB_ge f (TL jobs f) i (List.range jobs.length) 0).1
 rw [TL_eq jobs h i hi]
 refine ⟨ht,by omega,?_⟩
 rw [←TL_eq jobs h i hi]
 unfold TL
 omega
def tailsL (jobs:List J) (f:BF):List Int:=(List.range jobs.length).map (TL jobs f)
theorem tailsL_len (jobs:List J) (f:BF):(tailsL jobs f).length=jobs.length:=by simp [tailsL]
theorem tailsL_rd (jobs:List J) (f:BF) {i:Nat} (h:i<jobs.length):rd (tailsL jobs f) (i:Int)=TL jobs f i:=by rw [rd_nat (by rw [tailsL_len];exact h)];simp [tailsL]

def ParOk (jobs:List J) (m:Int) (E:List A2):Prop:=PlainOk jobs∧(1≤m∧m≤4)∧PrecOk (jobs.length:Int) E
theorem ParOk.pre {jobs:List J} {m:Int} {E:List A2} (h:ParOk jobs m E):PreF jobs.length (cloF jobs.length E):=preF_of (by have:=h.2.2.2;rwa [Int.toNat_natCast] at this)

def pjs (f:BF) (i:Nat):Nat→Nat→List A2
 | 0,_=>[]
 | c + 1,j=>(if f i j=true then [⟨(i:Int),(j:Int)⟩] else [])++pjs f i c (j + 1)
def pis (f:BF) (n:Nat):Nat→Nat→List A2
 | 0,_=>[]
 | c + 1,i=>pjs f i n 0++pis f n c (i + 1)
theorem pjs_mem (f:BF) (i:Nat) (p:A2):∀ (c j:Nat),p ∈ pjs f i c j ↔ ∃ m,j≤m∧m<j + c∧f i m=true∧p=⟨(i:Int),(m:Int)⟩
 | 0,j=>by simp [pjs];omega
 | c + 1,j=>by
  rw [pjs,List.mem_append,pjs_mem f i p c (j + 1)]
  constructor
  ·rintro (h | ⟨m,h1,h2,h3,h4⟩)
   ·split at h
    ·rename_i hf
     exact ⟨j,by omega,by omega,hf,by simpa using h⟩
    ·simp at h
   ·exact ⟨m,by omega,by omega,h3,h4⟩
  ·rintro ⟨m,h1,h2,h3,h4⟩
   by_cases e:m=j
   ·subst e;exact .inl (by rw [if_pos h3,h4];simp)
   ·exact .inr ⟨m,by omega,by omega,h3,h4⟩
theorem pis_mem (f:BF) (n:Nat) (p:A2):∀ (c i:Nat),p ∈ pis f n c i ↔ ∃ a b,i≤a∧a<i + c∧b<n∧f a b=true∧p=⟨(a:Int),(b:Int)⟩
 | 0,i=>by simp [pis];omega
 | c + 1,i=>by
  rw [pis,List.mem_append,pis_mem f n p c (i + 1),pjs_mem]
  constructor
  ·rintro (⟨m,h1,h2,h3,h4⟩ | ⟨a,b,h1,h2,h3,h4,h5⟩)
   ·exact ⟨i,m,by omega,by omega,by omega,h3,h4⟩
   ·exact ⟨a,b,by omega,by omega,h3,h4,h5⟩
  ·rintro ⟨a,b,h1,h2,h3,h4,h5⟩
   by_cases e:a=i
   ·subst e;exact .inl ⟨b,by omega,by omega,h4,h5⟩
   ·exact .inr ⟨a,b,by omega,by omega,h3,h4,h5⟩
theorem pjs_len (f:BF) (i:Nat):∀ (c j:Nat),(pjs f i c j).length≤c
 | 0,_=>by simp [pjs]
 | c + 1,j=>by
  have:=pjs_len f i c (j + 1)
  rw [pjs,List.length_append]
  split <;> simp <;> omega
theorem pis_len (f:BF) (n:Nat):∀ (c i:Nat),(pis f n c i).length≤c * n
 | 0,_=>by simp [pis]
 | c + 1,i=>by
  have h1:=pis_len f n c (i + 1)
  have h2:=pjs_len f i n 0
  rw [pis,List.length_append,Nat.succ_mul]
  omega

theorem pairsOf_l1 {n:Nat} {f:BF} (hn:n≤1000) (i:Nat) (hi:i<n) (R:List A2):∀ (c j:Nat) (acc:List A2),j + c=n→acc.length + c≤100000000→Ev (fun k=>impl_pairsOf.l0 k (acc++pjs f i c j) (tbl n f) (n:Int) ((i + 1:Nat):Int)) R→Ev (fun k=>impl_pairsOf.l1 k acc (i:Int) (tbl n f) (n:Int) (i:Int) (rd_L3 (tbl n f) (i:Int)) (n:Int) (j:Int)) R:=by
 intro c
 induction c with
 | zero=>
  intro j acc h1 _ h
  rw [pjs,List.append_nil] at h
  refine ev_go _ (fun k=>?_) h
  simp only [impl_pairsOf.l1];rw [if_neg (by omega),wr1 (by omega)]
 | succ c ih=>
  intro j acc h1 h2 h
  have hl:=tbl_rowlen (f:=f) hi
  have ha:=tbl_at (f:=f) hi (show j<n by omega)
  rw [pjs] at h
  by_cases cf:f i j=true
  ·rw [if_pos cf,←List.append_assoc] at h
   refine ev_go _ (fun k=>?_) (ih (j + 1) (acc++[⟨(i:Int),(j:Int)⟩]) (by omega) (by simp;omega) h)
   simp only [impl_pairsOf.l1];rw [if_pos (by omega),if_pos (by omega),if_pos (by rw [hl];omega),ha,if_pos cf,if_pos (by omega),wr1 (by omega)]
  ·rw [if_neg cf,List.nil_append] at h
   refine ev_go _ (fun k=>?_) (ih (j + 1) acc (by omega) (by omega) h)
   simp only [impl_pairsOf.l1];rw [if_pos (by omega),if_pos (by omega),if_pos (by rw [hl];omega),ha,if_neg cf,wr1 (by omega)]
theorem pairsOf_l0 {n:Nat} {f:BF} (hn:n≤1000):∀ (c i:Nat) (acc:List A2),i + c=n→acc.length + c * n≤10000000→Ev (fun k=>impl_pairsOf.l0 k acc (tbl n f) (n:Int) (i:Int)) (acc++pis f n c i):=by
 intro c
 induction c with
 | zero=>
  intro i acc h1 _
  rw [pis,List.append_nil]
  refine ev_stop fun k=>?_
  simp only [impl_pairsOf.l0];rw [if_neg (by omega)]
 | succ c ih=>
  intro i acc h1 h2
  have hl:=tbl_rowlen (f:=f) (show i<n by omega)
  have hp:=pjs_len f i n 0
  rw [Nat.succ_mul] at h2
  have h3:=ih (i + 1) (acc++pjs f i n 0) (by omega) (by simp;omega)
  rw [List.append_assoc] at h3
  refine ev_go _ (fun k=>?_) (pairsOf_l1 hn i (by omega) _ n 0 acc (by omega) (by omega) h3)
  simp only [impl_pairsOf.l0];rw [if_pos (by omega),if_pos (by omega),if_pos (by rw [tbl_length];omega),hl]
  rfl
theorem impl_pairsOf.ev {n:Nat} {f:BF} (hn:n≤1000):Ev (fun k=>impl_pairsOf.f k (tbl n f)) (pis f n n 0):=by
 have hq:n * n≤1000 * 1000:=Nat.mul_le_mul hn hn
 have h:=pairsOf_l0 (f:=f) hn n 0 [] (by omega) (by simp;omega)
 unfold impl_pairsOf.f
 rw [tbl_length]
 exact h

def dirR (f:BF) (a b:Nat):Nat→Nat→Bool→Bool
 | 0,_,s=>s
 | c + 1,m,s=>dirR f a b c (m + 1) (if s=true then !(f a m && f m b) else false)
theorem dirR_true (f:BF) (a b:Nat):∀ (c m:Nat) (s:Bool),dirR f a b c m s=true ↔ s=true∧∀ x,m≤x→x<m + c→¬ (f a x=true∧f x b=true)
 | 0,m,s=>by rw [dirR];exact ⟨fun h=>⟨h,fun x _ _=>by omega⟩,fun h=>h.1⟩
 | c + 1,m,s=>by
  rw [dirR,dirR_true f a b c (m + 1)]
  constructor
  ·rintro ⟨h1,h2⟩
   split at h1
   ·rename_i hs
    refine ⟨hs,fun x hx hx2 h=>?_⟩
    by_cases e:x=m
    ·subst e;rw [h.1,h.2] at h1;simp at h1
    ·exact h2 x (by omega) (by omega) h
   ·simp at h1
  ·rintro ⟨h1,h2⟩
   refine ⟨?_,fun x hx hx2=>h2 x (by omega) (by omega)⟩
   rw [if_pos h1]
   have:=h2 m (by omega) (by omega)
   cases e:f a m
   ·rfl
   ·cases e2:f m b
    ·rfl
    ·exact absurd ⟨e,e2⟩ this
def redL (f:BF) (n:Nat) (L:List A2):List A2:=L.filter fun p=>dirR f p.f0.toNat p.f1.toNat n 0 true
theorem reduction_l1 {n:Nat} {f:BF} (hn:n≤1000) (a b:Nat) (ha:a<n) (hb:b<n) (L:List A2) (i:Nat) (hi:i + 1≤10000000) (R:List A2):∀ (c m:Nat) (s:Bool) (acc:List A2),m + c=n→acc.length≤10000000→Ev (fun k=>impl_reduction.l0 k (tbl n f) (if dirR f a b c m s=true then acc++[⟨(a:Int),(b:Int)⟩] else acc) L (L.length:Int) ((i + 1:Nat):Int)) R→Ev (fun k=>impl_reduction.l1 k (tbl n f) acc s L (L.length:Int) (i:Int) (n:Int) (m:Int) (a:Int) (b:Int)) R:=by
 intro c
 induction c with
 | zero=>
  intro m s acc h1 h2 h
  rw [dirR] at h
  refine ev_go _ (fun k=>?_) h
  simp only [impl_reduction.l1];rw [if_neg (by omega),wr1 (by omega)]
  by_cases cs:s=true
  ·rw [if_pos cs,if_pos cs,if_pos (by omega)]
  ·rw [if_neg cs,if_neg cs]
 | succ c ih=>
  intro m s acc h1 h2 h
  rw [dirR] at h
  have hm:m<n:=by omega
  have la:=tbl_rowlen (f:=f) ha
  have lm:=tbl_rowlen (f:=f) hm
  have ea:=tbl_at (f:=f) ha hm
  have em:=tbl_at (f:=f) hm hb
  by_cases cs:s=true
  ·rw [if_pos cs] at h
   have h3:=ih (m + 1) _ acc (by omega) h2 h
   by_cases c1:f a m=true
   ·rw [c1,Bool.true_and] at h3
    refine ev_go _ (fun k=>?_) h3
    simp only [impl_reduction.l1];rw [if_pos (by omega),if_pos cs,if_pos (by omega),if_pos (by rw [tbl_length];omega),if_pos (by omega),if_pos (by rw [la];omega),ea,if_pos c1,if_pos (by rw [tbl_length];omega),if_pos (by omega),if_pos (by rw [lm];omega),em,wr1 (by omega)]
   ·rw [Bool.eq_false_iff.2 c1,Bool.false_and] at h3
    refine ev_go _ (fun k=>?_) h3
    simp only [impl_reduction.l1];rw [if_pos (by omega),if_pos cs,if_pos (by omega),if_pos (by rw [tbl_length];omega),if_pos (by omega),if_pos (by rw [la];omega),ea,if_neg c1,wr1 (by omega)]
  ·rw [if_neg cs] at h
   refine ev_go _ (fun k=>?_) (ih (m + 1) _ acc (by omega) h2 h)
   simp only [impl_reduction.l1];rw [if_pos (by omega),if_neg cs,wr1 (by omega)]
theorem impl_reduction.ev {n:Nat} {f:BF} (hn:n≤1000):Ev (fun k=>impl_reduction.f k (tbl n f)) (redL f n (pis f n n 0)):=by
 have hq:n * n≤1000 * 1000:=Nat.mul_le_mul hn hn
 have hL:=pis_len f n n 0
 have hmem:=fun p=>pis_mem f n p n 0
 unfold impl_reduction.f
 refine ev_bind _ (impl_pairsOf.ev hn) ?_
 generalize pis f n n 0=L at hL hmem
 have key:=rev_ind (P:=fun i=>Ev (fun k=>impl_reduction.l0 k (tbl n f) (redL f n (L.take i)) L (L.length:Int) (i:Int)) (redL f n L)) L.length ?_ ?_ 0 (Nat.zero_le _)
 ·simpa [redL] using key
 ·refine ev_stop fun k=>?_
  simp only [impl_reduction.l0];rw [if_neg (by omega),List.take_of_length_le (Nat.le_refl _)]
 ·intro i hi ih
  obtain ⟨a,b,_,ha,hb,_,e⟩:=(hmem L[i]).1 (List.getElem_mem hi)
  have hr:rd_T72 L (i:Int)=⟨(a:Int),(b:Int)⟩:=by rw [rdA2 hi,e]
  have e2:redL f n (L.take (i + 1))=if dirR f a b n 0 true=true then redL f n (L.take i)++[⟨(a:Int),(b:Int)⟩] else redL f n (L.take i):=by
   rw [List.take_add_one,List.getElem?_eq_getElem hi,e]
   unfold redL
   rw [List.filter_append]
   by_cases c:dirR f a b n 0 true=true
   ·rw [if_pos c];simp [c]
   ·rw [if_neg c];simp [c]
  rw [e2] at ih
  have hlen:(redL f n (L.take i)).length≤10000000:=by
   have h1:(redL f n (L.take i)).length≤(L.take i).length:=List.length_filter_le _ _
   simp at h1;omega
  refine ev_go _ (fun k=>?_) (reduction_l1 hn a b (by omega) hb L i (by omega) _ n 0 true _ (by omega) hlen ih)
  simp only [impl_reduction.l0];rw [if_pos (by omega),if_pos (by omega),if_pos (by omega),hr,tbl_length]
  rfl
theorem redL_mem {n:Nat} {f:BF} {p:A2} : p ∈ redL f n (pis f n n 0) ↔ ∃ a b,a<n∧b<n∧f a b=true∧(∀ x,x<n→¬ (f a x=true∧f x b=true))∧p=⟨(a:Int),(b:Int)⟩:=by
 unfold redL
 rw [List.mem_filter,pis_mem,dirR_true]
 constructor
 ·rintro ⟨⟨a,b,_,h1,h2,h3,e⟩,_,h4⟩
  subst e
  exact ⟨a,b,by omega,h2,h3,fun x hx=>by have:=h4 x (by omega) (by omega);simpa using this,rfl⟩
 ·rintro ⟨a,b,h1,h2,h3,h4,e⟩
  subst e
  exact ⟨⟨a,b,by omega,by omega,h2,h3,rfl⟩,rfl,fun x _ hx=>by have:=h4 x (by omega);simpa using this⟩

end Go.Proofs.Ytbcfmegepkhlpaa.Pure
-- minified
