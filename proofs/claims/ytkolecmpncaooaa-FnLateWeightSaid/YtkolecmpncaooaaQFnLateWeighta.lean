/- Proved here: what functions that the law FnLateWeight reaches answer (base, perm, spec_l1In, impl_within, spec_l1Has, jobT, spec_l2Good, impl_IsJobs, plainOk, spec_l4Free, spec_l6Good, impl_isPlain, impl_IsPlain, demandF, guard, spec_l1Least, spec_l1Most, ratioF, impl_ratioOf, sumW, spec_l1MostK, twoOk, startsF, spec_l2Starts, impl_endsOf, endsAll, spec_l2Ends, sortP,). Conditions: those that each theorem names. -/
import Derived.Test.YtkolecmpncaooaaXFnLateWeightx0
import Derived.Test.YtkolecmpncaooaaXFnLateWeightx1
import Derived.Test.YtkolecmpncaooaaXFnLateWeightx2
import Derived.Test.YtkolecmpncaooaaXFnLateWeightx3
import Derived.Test.YtkolecmpncaooaaXFnLateWeightx4
import Derived.Test.YtkolecmpncaooaaXFnLateWeightx5
import Derived.Test.YtkolecmpncaooaaXFnLateWeightx6
import Derived.Test.YtkolecmpncaooaaXFnLateWeightx7
import Derived.Test.YtkolecmpncaooaaXFnLateWeightx8
import Derived.Test.YtkolecmpncaooaaXFnLateWeightx9
import Derived.Test.YtkolecmpncaooaaXFnLateWeightx10
import Derived.Test.YtkolecmpncaooaaXFnLateWeightx11
import Derived.Test.YtkolecmpncaooaaXFnLateWeightx12
import Derived.Test.YtkolecmpncaooaaXFnLateWeightx13
import Derived.Test.YtkolecmpncaooaaXFnLateWeightx14
import Derived.Test.YtkolecmpncaooaaXFnLateWeightx15
import Derived.Test.YtkolecmpncaooaaXFnLateWeightx16
import Derived.Test.YtkolecmpncaooaaXFnLateWeightx17
import Derived.Test.YtkolecmpncaooaaXFnLateWeightx18
import Derived.Test.YtkolecmpncaooaaXFnLateWeightx19
import Derived.Test.YtkolecmpncaooaaXFnLateWeightx20
import Derived.Test.YtkolecmpncaooaaXFnLateWeightx21
set_option linter.unusedVariables false
set_option linter.unusedSimpArgs false
namespace Go.Proofs.Ytkolecmpncaooaa.Pure
open Go.RowKit Go.Proofs.Ytkolecmpncaooaa.XFnLateWeight Go.Proofs.YtkolecmpncaooaaW.PrintWords Go.Proofs.YtkolecmpncaooaaW.PrintLast

theorem wr {x:Int} (h0 : -9223372036854775808≤x) (h1:x≤9223372036854775807):wrap64 x=x:=by unfold wrap64;omega
theorem wr1 {i:Nat} (h:i<1000000000000000000):wrap64 ((i:Int) + 1)=((i + 1:Nat):Int):=by rw [wr (by omega) (by omega)];omega
theorem rev_ind {P:Nat→Prop} (n:Nat) (hn:P n) (hs:∀ i,i<n→P (i + 1)→P i):∀ i,i≤n→P i:=by
 intro i hi
 obtain ⟨d,rfl⟩:∃ d,n=i + d:=⟨n - i,by omega⟩
 clear hi
 induction d generalizing i with
 | zero=>exact hn
 | succ d ih=>
  refine hs i (by omega) (ih (i + 1) ?_ ?_)
  ·rw [show i + 1 + d=i + (d + 1) by omega];exact hn
  ·intro j hj;exact hs j (by omega)
theorem ev_stop {α:Type} {g:Nat→Option α} {r:α} (h:∀ k,g (k + 1)=some r):Ev g r:=Ev.step h (Ev.now r)
theorem ev_go {α:Type} {g:Nat→Option α} (f:Nat→Option α) {r:α} (h:∀ k,g (k + 1)=f k) (k:Ev f r):Ev g r:=Ev.step h k
theorem ev_ite {α:Type} {c:Prop} [Decidable c] {g f:Nat→Option α} {r:α} (h1:c→Ev g r) (h2:¬ c→Ev f r):Ev (fun k=>if c then g k else f k) r:=by
 by_cases h:c
 ·simp only [if_pos h];exact h1 h
 ·simp only [if_neg h];exact h2 h
theorem ev_bind {α β:Type} {g:Nat→Option α} {f:Nat→α→Option β} (a:α) {r:β} (h:Ev g a) (k:Ev (fun n=>f n a) r):Ev (fun n=>(g n).bind (f n)) r:=Ev.bind h k
theorem ev_eq {α:Type} {g:Nat→Option α} {r r':α} (h:Ev g r) (e:r=r'):Ev g r':=e ▸ h
/-- A bool that is told in the end, and what it says. -/
def EvB (g:Nat→Option Bool) (P:Prop):Prop:=∃ b:Bool,Ev g b∧(b=true ↔ P)
theorem evB_true {g:Nat→Option Bool} {P:Prop} (h:EvB g P) (hp:P):Ev g true:=by
 obtain ⟨b,hb,e⟩:=h
 rw [e.2 hp] at hb
 exact hb
theorem evB_false {g:Nat→Option Bool} {P:Prop} (h:EvB g P) (hp:¬ P):Ev g false:=by
 obtain ⟨b,hb,e⟩:=h
 cases b with
 | true=>exact absurd (e.1 rfl) hp
 | false=>exact hb
theorem evB_of {g:Nat→Option Bool} {P:Prop} (h1:P→Ev g true) (h2:¬ P→Ev g false):EvB g P:=by
 by_cases h:P
 ·exact ⟨true,h1 h,by simp [h]⟩
 ·exact ⟨false,h2 h,by simp [h]⟩
theorem evB_iff {g:Nat→Option Bool} {P Q:Prop} (h:EvB g P) (e:P ↔ Q):EvB g Q:=by
 obtain ⟨b,hb,e'⟩:=h
 exact ⟨b,hb,e'.trans e⟩
theorem evB_bind {g:Nat→Option Bool} {P:Prop} {α:Type} {f:Nat→Bool→Option α} {r:α} (h:EvB g P) (h1:P→Ev (fun n=>f n true) r) (h2:¬ P→Ev (fun n=>f n false) r):Ev (fun n=>(g n).bind (f n)) r:=by
 by_cases hp:P
 ·exact Ev.bind (evB_true h hp) (h1 hp)
 ·exact Ev.bind (evB_false h hp) (h2 hp)
theorem evB_same {g f:Nat→Option Bool} {P:Prop} (h:EvB g P) (k:EvB f P):∃ b,Ev g b∧Ev f b:=by
 obtain ⟨b,hb,e⟩:=h
 obtain ⟨c,hc,e'⟩:=k
 have:b=c:=by
  cases b <;> cases c <;> simp_all
 subst this
 exact ⟨b,hb,hc⟩
theorem some_bool (P:Prop) [Decidable P] {g:Nat→Option Bool} (h:∀ k,g k=some (decide P)):EvB g P:=⟨decide P,⟨0,fun k _=>h k⟩,by simp⟩
theorem rd_nat {l:List Int} {i:Nat} (h:i<l.length):rd l (i:Int)=l[i]:=by simp [rd,h]
theorem rd_zero {l:List Int} (h:0<l.length):rd l 0=l[0]:=by simp [rd,h]
theorem drop_cons {α:Type} {l:List α} {i:Nat} (h:i<l.length):l.drop i=l[i]::l.drop (i + 1):=List.drop_eq_getElem_cons h
theorem set_copy {α:Type} {l z:List α} {i:Nat} (h:i<l.length) (hz:i<z.length):(l.take i++z.drop i).set i l[i]=l.take (i + 1)++z.drop (i + 1):=by
 have hl:(l.take i).length=i:=by simp;omega
 rw [List.set_append_right _ _ (by omega),hl,Nat.sub_self,drop_cons hz,List.set_cons_zero,List.take_succ_eq_append_getElem h,List.append_assoc]
 rfl

theorem nodup_sub {α:Type} [DecidableEq α]:∀ {l s:List α},l.Nodup→(∀ x ∈ l,x ∈ s)→l.length≤s.length
 | [],_,_,_=>Nat.zero_le _
 | a::l,s,hn,hs=>by
  have ha:a ∈ s:=hs a List.mem_cons_self
  have hn':=List.nodup_cons.1 hn
  have:=nodup_sub (l:=l) (s:=s.erase a) hn'.2 (fun x hx=>by
   have hne:x≠a:=fun e=>hn'.1 (e ▸ hx)
   exact (List.mem_erase_of_ne hne).2 (hs x (List.mem_cons_of_mem _ hx)))
  have hp:0<s.length:=List.length_pos_of_mem ha
  rw [List.length_erase_of_mem ha] at this
  simp only [List.length_cons]
  omega
/-- The numbers 0..n-1. -/
def nums_to (n:Nat):List Int:=(List.range n).map fun (i:Nat)=>(i:Int)
theorem mem_nums_to {n:Nat} {x:Int} : x ∈ nums_to n ↔ 0≤x∧x<n:=by
 unfold nums_to
 simp only [List.mem_map,List.mem_range]
 constructor
 ·rintro ⟨i,hi,rfl⟩;omega
 ·rintro ⟨h0,h1⟩;exact ⟨x.toNat,by omega,by omega⟩
theorem nums_to_nodup (n:Nat):(nums_to n).Nodup:=by
 unfold nums_to
 rw [List.nodup_iff_pairwise_ne]
 rw [List.pairwise_map]
 exact (List.nodup_iff_pairwise_ne.1 List.nodup_range).imp (fun h e=>h (by omega))
theorem nums_to_length (n:Nat):(nums_to n).length=n:=by simp [nums_to]
/-- An order of n jobs. -/
def IsPerm (n:Nat) (l:List Int):Prop:=l.length=n∧l.Nodup∧∀ x ∈ l,0≤x∧x<n
theorem IsPerm.all {n:Nat} {l:List Int} (h:IsPerm n l) (x:Int) (h0:0≤x) (h1:x<n):x ∈ l:=by
 obtain ⟨hl,hn,hr⟩:=h
 by_cases hx:x ∈ l
 ·exact hx
 ·have:=nodup_sub (l:=x::l) (s:=nums_to n) (List.nodup_cons.2 ⟨hx,hn⟩) (fun y hy=>by
   rcases List.mem_cons.1 hy with rfl|hy
   ·exact mem_nums_to.2 ⟨h0,h1⟩
   ·exact mem_nums_to.2 (hr y hy))
  rw [nums_to_length] at this
  simp at this
  omega
theorem isPerm_of_all {n:Nat} {l:List Int} (hl:l.length=n) (ha:∀ x,0≤x→x<(n:Int)→x ∈ l):IsPerm n l:=by
 have big:∀ s:List Int,(∀ x,0≤x→x<(n:Int)→x ∈ s)→n≤s.length:=fun s hs=>by
  have:=nodup_sub (nums_to_nodup n) (fun x hx=>hs x (mem_nums_to.1 hx).1 (mem_nums_to.1 hx).2)
  rwa [nums_to_length] at this
 refine ⟨hl,?_,fun x hx=>?_⟩
 ·by_cases hn:l.Nodup
  ·exact hn
  ·exfalso
   have:∃ a,a ∈ l.erase a∧a ∈ l:=by
    clear hl ha big
    induction l with
    | nil=>exact absurd List.nodup_nil hn
    | cons b l ih=>
     by_cases hb:b ∈ l
     ·exact ⟨b,by simp [hb],List.mem_cons_self⟩
     ·obtain ⟨a,h1,h2⟩:=ih (fun h=>hn (List.nodup_cons.2 ⟨hb,h⟩))
      have hne:b≠a:=fun e=>hb (e ▸ h2)
      refine ⟨a,?_,List.mem_cons_of_mem _ h2⟩
      rw [List.erase_cons_tail (by simpa using hne)]
      exact List.mem_cons_of_mem _ h1
   obtain ⟨a,h1,h2⟩:=this
   have:=big (l.erase a) (fun x h0 h1'=>by
    by_cases e:x=a
    ·subst e;exact h1
    ·exact (List.mem_erase_of_ne e).2 (ha x h0 h1'))
   rw [List.length_erase_of_mem h2] at this
   have:=List.length_pos_of_mem h2
   omega
 ·by_cases hr:0≤x∧x<(n:Int)
  ·exact hr
  ·exfalso
   have:=big (l.erase x) (fun y h0 h1=>(List.mem_erase_of_ne (fun e=>hr (by rw [←e];exact ⟨h0,h1⟩))).2 (ha y h0 h1))
   rw [List.length_erase_of_mem hx] at this
   have:=List.length_pos_of_mem hx
   omega
theorem nodup_drop_step {l:List Int} {i:Nat} (h:i<l.length):(∀ j (hj:j<l.length),i≤j→l[j] ∉ l.take j) ↔ l[i] ∉ l.take i∧(∀ j (hj:j<l.length),i + 1≤j→l[j] ∉ l.take j):=by
 constructor
 ·intro H;exact ⟨H i h (Nat.le_refl _),fun j hj hij=>H j hj (by omega)⟩
 ·rintro ⟨h0,H⟩ j hj hij
  by_cases e:j=i
  ·subst e;exact h0
  ·exact H j hj (by omega)
theorem nodup_iff_take {l:List Int} : l.Nodup ↔ ∀ j (hj:j<l.length),l[j] ∉ l.take j:=by
 rw [List.nodup_iff_pairwise_ne,List.pairwise_iff_getElem]
 constructor
 ·intro H j hj hm
  obtain ⟨i,hi,e⟩:=List.getElem_of_mem hm
  simp only [List.length_take] at hi
  rw [List.getElem_take] at e
  exact H i j (by omega) hj (by omega) e
 ·intro H i j hi hj hij e
  refine H j hj ?_
  rw [←e]
  exact List.mem_take_iff_getElem.2 ⟨i,by omega,rfl⟩

theorem spec_l1In.eq (a b c:Int):spec_l1In.f a b c=some (decide (b≤a∧a≤c)):=by
 unfold spec_l1In.f
 by_cases h:a≥b
 ·rw [if_pos h];congr 1;simp;omega
 ·rw [if_neg h];congr 1;simp;omega

theorem impl_within.eq (a b c:Int):impl_within.f a b c=some (decide (b≤a∧a≤c)):=by
 unfold impl_within.f
 by_cases h:b≤a
 ·rw [if_pos h];congr 1;simp;omega
 ·rw [if_neg h];congr 1;simp;omega

theorem spec_l1Has.ev (l:List Int) (a:Int) (hl:l.length≤1000000000000000):EvB (fun k=>spec_l1Has.f k l a) (a ∈ l):=by
 have key:=rev_ind (P:=fun i=>EvB (fun k=>spec_l1Has.l0 k l a (i:Int)) (a ∈ l.drop i)) l.length ?_ ?_ 0 (Nat.zero_le _)
 ·simpa [spec_l1Has.f] using key
 ·refine evB_of (fun h=>absurd h (by simp)) (fun _=>ev_stop fun k=>?_)
  simp only [spec_l1Has.l0];rw [if_neg (by omega)]
 ·intro i hi ih
  rw [drop_cons hi]
  by_cases e:l[i]=a
  ·refine evB_of (fun _=>ev_stop fun k=>?_) (fun h=>absurd (by simp [e]) h)
   simp only [spec_l1Has.l0];rw [if_pos (by omega),if_pos (by omega),rd_nat hi,if_pos e]
  ·obtain ⟨b,hb,hP⟩:=ih
   refine ⟨b,ev_go _ (fun k=>?_) hb,by rw [hP,List.mem_cons];exact ⟨.inr,fun h=>h.resolve_left (fun h=>e h.symm)⟩⟩
   simp only [spec_l1Has.l0];rw [if_pos (by omega),if_pos (by omega),rd_nat hi,if_neg e,wr1 (by omega)]

abbrev J:=S31
theorem rdJ {l:List J} {i:Nat} (h:i<l.length):rd_T31 l (i:Int)=l[i]:=by simp [rd_T31,h]
theorem rdJ_zero {l:List J} (h:0<l.length):rd_T31 l 0=l[0]:=by simp [rd_T31,h]
/-- A valid job. -/
def JobOk (j:J):Prop:=(1≤j.f0∧j.f0≤50)∧(0≤j.f1∧j.f1≤50)∧(0≤j.f2∧j.f2≤500)∧(0≤j.f3∧j.f3≤500)
/-- A list of jobs. -/
def JobsOk (l:List J):Prop:=l.length≤8∧∀ j ∈ l,JobOk j

theorem spec_l2Job.eq (j:J):∃ c,spec_l2Job.f j.f0 j.f1 j.f2 j.f3=some c∧(c=true ↔ JobOk j):=by
 unfold spec_l2Job.f JobOk
 simp only [spec_l1In.eq,Option.bind_some]
 by_cases h0:1≤j.f0∧j.f0≤50
 ·by_cases h1:0≤j.f1∧j.f1≤50
  ·by_cases h2:0≤j.f2∧j.f2≤500
   ·exact ⟨decide (0≤j.f3∧j.f3≤500),by simp [h0,h1,h2],by simp [h0,h1,h2]⟩
   ·exact ⟨false,by simp [h0,h1,h2],by simp [h2]⟩
  ·exact ⟨false,by simp [h0,h1],by simp [h1]⟩
 ·exact ⟨false,by simp [h0],by simp [h0]⟩
theorem spec_l2Good.ev (l:List J) (hl:l.length≤1000000000000000):EvB (fun k=>spec_l2Good.f k l) (JobsOk l):=by
 have key:=rev_ind (P:=fun i=>EvB (fun k=>spec_l2Good.l0 k l (i:Int)) (l.length≤8∧∀ j ∈ l.drop i,JobOk j)) l.length ?_ ?_ 0 (Nat.zero_le _)
 ·simpa [spec_l2Good.f,JobsOk] using key
 ·refine ⟨decide ((l.length:Int)≤8),ev_stop fun k=>?_,by simp;omega⟩
  simp only [spec_l2Good.l0];rw [if_neg (by omega)]
 ·intro i hi ih
  rw [drop_cons hi]
  obtain ⟨c,hc,hce⟩:=spec_l2Job.eq l[i]
  by_cases q:JobOk l[i]
  ·obtain ⟨b,hb,hP⟩:=ih
   refine ⟨b,ev_go _ (fun k=>?_) hb,hP.trans ⟨fun h=>⟨h.1,fun x hx=>?_⟩,fun h=>⟨h.1,fun x hx=>h.2 x (List.mem_cons_of_mem _ hx)⟩⟩⟩
   ·simp only [spec_l2Good.l0];rw [if_pos (by omega),if_pos (by omega),rdJ hi,hc,Option.bind_some,if_pos (hce.2 q),wr1 (by omega)]
   ·rcases List.mem_cons.1 hx with rfl|hx
    ·exact q
    ·exact h.2 x hx
  ·refine evB_of (fun h=>absurd (h.2 _ List.mem_cons_self) q) (fun _=>ev_stop fun k=>?_)
   simp only [spec_l2Good.l0];rw [if_pos (by omega),if_pos (by omega),rdJ hi,hc,Option.bind_some,if_neg (fun h=>q (hce.1 h))]

theorem impl_IsJobs.ev (l:List J):EvB (fun k=>impl_IsJobs.f k l) (JobsOk l):=by
 unfold impl_IsJobs.f
 by_cases h8:(l.length:Int)>8
 ·simp only [if_pos h8]
  exact evB_of (fun h=>absurd h.1 (by omega)) (fun _=>Ev.now _)
 ·simp only [if_neg h8]
  have key:=rev_ind (P:=fun i=>EvB (fun k=>impl_IsJobs.l0 k l (l.length:Int) (i:Int)) (∀ j ∈ l.drop i,JobOk j)) l.length ?_ ?_ 0 (Nat.zero_le _)
  ·refine evB_iff (by simpa using key) ⟨fun h=>⟨by omega,h⟩,fun h=>h.2⟩
  ·refine evB_of (fun _=>ev_stop fun k=>?_) (fun h=>absurd (by simp) h)
   simp only [impl_IsJobs.l0];rw [if_neg (by omega)]
  ·intro i hi ih
   rw [drop_cons hi]
   by_cases q:JobOk l[i]
   ·obtain ⟨b,hb,hP⟩:=ih
    refine ⟨b,ev_go _ (fun k=>?_) hb,hP.trans ⟨fun h x hx=>?_,fun h x hx=>h x (List.mem_cons_of_mem _ hx)⟩⟩
    ·simp only [impl_IsJobs.l0,impl_within.eq,impl_isDate.f,Option.bind_some]
     rw [if_pos (by omega),if_pos (by omega),if_pos (by omega),rdJ hi,if_pos (by simpa using q.1),if_pos (by simpa using q.2.1),if_pos (by simpa using q.2.2.1),if_pos (by simpa using q.2.2.2),wr1 (by omega)]
    ·rcases List.mem_cons.1 hx with rfl|hx
     ·exact q
     ·exact h x hx
   ·refine evB_of (fun h=>absurd (h _ List.mem_cons_self) q) (fun _=>ev_stop fun k=>?_)
    simp only [impl_IsJobs.l0,impl_within.eq,impl_isDate.f,Option.bind_some]
    rw [if_pos (by omega),if_pos (by omega),if_pos (by omega),rdJ hi]
    unfold JobOk at q
    by_cases h0:1≤l[i].f0∧l[i].f0≤50
    ·rw [if_pos (by simpa using h0)]
     by_cases h1:0≤l[i].f1∧l[i].f1≤50
     ·rw [if_pos (by simpa using h1)]
      by_cases h2:0≤l[i].f2∧l[i].f2≤500
      ·rw [if_pos (by simpa using h2)]
       by_cases h3:0≤l[i].f3∧l[i].f3≤500
       ·exact absurd ⟨h0,h1,h2,h3⟩ q
       ·rw [if_neg (by simpa using h3)]
      ·rw [if_neg (by simpa using h2)]
     ·rw [if_neg (by simpa using h1)]
    ·rw [if_neg (by simpa using h0)]

def NoRel (l:List J):Prop:=∀ j ∈ l,j.f2=0
def PlainOk (l:List J):Prop:=JobsOk l∧NoRel l
theorem noRel_cons {x:J} {l:List J} : NoRel (x::l) ↔ x.f2=0∧NoRel l:=by simp [NoRel]

theorem spec_l4Free.ev (l:List J) (hl:l.length≤1000000000000) (hj:∀ j ∈ l,0≤j.f2):EvB (fun k=>spec_l4Free.f k l) (NoRel l):=by
 have key:=rev_ind (P:=fun i=>EvB (fun k=>spec_l4Free.l0 k l (i:Int)) (NoRel (l.drop i))) l.length ?_ ?_ 0 (Nat.zero_le _)
 ·simpa [spec_l4Free.f] using key
 ·refine evB_of (fun _=>ev_stop fun k=>?_) (fun h=>absurd (by rw [List.drop_length];intro j hj;cases hj) h)
  simp only [spec_l4Free.l0];rw [if_neg (by omega)]
 ·intro i hi ih
  rw [drop_cons hi,noRel_cons]
  have h0:=hj _ (List.getElem_mem hi)
  by_cases q:l[i].f2=0
  ·obtain ⟨c,hb,hP⟩:=ih
   refine ⟨c,ev_go _ (fun k=>?_) hb,hP.trans ⟨fun h=>⟨q,h⟩,fun h=>h.2⟩⟩
   simp only [spec_l4Free.l0];rw [if_pos (by omega),if_pos (by omega),rdJ hi,if_neg (by omega),wr1 (by omega)]
  ·refine evB_of (fun h=>absurd h.1 q) (fun _=>ev_stop fun k=>?_)
   simp only [spec_l4Free.l0];rw [if_pos (by omega),if_pos (by omega),rdJ hi,if_pos (by omega)]

theorem spec_l6Good.ev (l:List J) (hl:l.length≤1000000000000):EvB (fun k=>spec_l6Good.f k l) (PlainOk l):=by
 unfold spec_l6Good.f PlainOk
 refine evB_of (fun h=>?_) (fun h=>?_)
 ·refine evB_bind (spec_l2Good.ev l (by omega)) (fun _=>?_) (fun h'=>absurd h.1 h')
  simp only [if_true]
  exact evB_bind (spec_l4Free.ev l hl (fun j hj=>(h.1.2 j hj).2.2.1.1)) (fun _=>Ev.now _) (fun h'=>absurd h.2 h')
 ·refine evB_bind (spec_l2Good.ev l (by omega)) (fun h1=>?_) (fun _=>by simp only [Bool.false_eq_true,if_false];exact Ev.now _)
  simp only [if_true]
  exact evB_bind (spec_l4Free.ev l hl (fun j hj=>(h1.2 j hj).2.2.1.1)) (fun h2=>absurd ⟨h1,h2⟩ h) (fun _=>Ev.now _)

theorem impl_isPlain.ev (l:List J) (hl:l.length≤1000000000000):EvB (fun k=>impl_isPlain.f k l) (NoRel l):=by
 have key:=rev_ind (P:=fun i=>EvB (fun k=>impl_isPlain.l0 k l (l.length:Int) (i:Int)) (NoRel (l.drop i))) l.length ?_ ?_ 0 (Nat.zero_le _)
 ·simpa [impl_isPlain.f] using key
 ·refine evB_of (fun _=>ev_stop fun k=>?_) (fun h=>absurd (by rw [List.drop_length];intro j hj;cases hj) h)
  simp only [impl_isPlain.l0];rw [if_neg (by omega)]
 ·intro i hi ih
  rw [drop_cons hi,noRel_cons]
  by_cases q:l[i].f2=0
  ·obtain ⟨c,hb,hP⟩:=ih
   refine ⟨c,ev_go _ (fun k=>?_) hb,hP.trans ⟨fun h=>⟨q,h⟩,fun h=>h.2⟩⟩
   simp only [impl_isPlain.l0];rw [if_pos (by omega),if_pos (by omega),if_pos (by omega),rdJ hi,if_pos q,wr1 (by omega)]
  ·refine evB_of (fun h=>absurd h.1 q) (fun _=>ev_stop fun k=>?_)
   simp only [impl_isPlain.l0];rw [if_pos (by omega),if_pos (by omega),if_pos (by omega),rdJ hi,if_neg q]

theorem impl_IsPlain.ev (l:List J) (hl:l.length≤1000000000000):EvB (fun k=>impl_IsPlain.f k l) (PlainOk l):=by
 unfold impl_IsPlain.f PlainOk
 refine evB_of (fun h=>?_) (fun h=>?_)
 ·refine evB_bind (impl_IsJobs.ev l) (fun _=>?_) (fun h'=>absurd h.1 h')
  simp only [if_true]
  exact evB_bind (impl_isPlain.ev l hl) (fun _=>Ev.now _) (fun h'=>absurd h.2 h')
 ·refine evB_bind (impl_IsJobs.ev l) (fun h1=>?_) (fun _=>by simp only [Bool.false_eq_true,if_false];exact Ev.now _)
  simp only [if_true]
  exact evB_bind (impl_isPlain.ev l hl) (fun h2=>absurd ⟨h1,h2⟩ h) (fun _=>Ev.now _)

theorem rdJ_int {l:List J} {x:Int} (h0:0≤x) (h1:x<l.length):rd_T31 l x=l[x.toNat]'(by omega):=by
 have:x.toNat<l.length:=by omega
 simp [rd_T31,this]
def demandF (jobs:List J):List Int→Int→Int→Int
 | [],t,s=>wrap64 (Int.tdiv (wrap64 ((wrap64 (t * t)) + s)) 2)
 | x::xs,t,s=>demandF jobs xs (wrap64 (t + (rd_T31 jobs x).f0)) (wrap64 (s + (wrap64 ((rd_T31 jobs x).f0 * (rd_T31 jobs x).f0))))

theorem ev_guard {g:Nat→Option Bool} {P:Prop} {α:Type} {F:Nat→Option α} {z r:α} (h:EvB g P) (h1:P→Ev F r) (h2:¬ P→r=z):Ev (fun n=>(g n).bind fun t=>if t=true then F n else some z) r:=by
 refine evB_bind h (fun hp=>?_) (fun hp=>?_)
 ·simp only [if_true];exact h1 hp
 ·simp only [Bool.false_eq_true,if_false];rw [h2 hp];exact Ev.now _
theorem ev_guard' {g:Nat→Option Bool} {P:Prop} {α:Type} {F G:Nat→Option α} {r:α} (h:EvB g P) (h1:P→Ev F r) (h2:¬ P→Ev G r):Ev (fun n=>(g n).bind fun t=>if t=true then F n else G n) r:=by
 refine evB_bind h (fun hp=>?_) (fun hp=>?_)
 ·simp only [if_true];exact h1 hp
 ·simp only [Bool.false_eq_true,if_false];exact h2 hp

theorem spec_l1Least.eq (a b:Int):spec_l1Least.f a b=some (mn a b):=by
 unfold spec_l1Least.f mn;split <;> split <;> first|rfl|omega|(congr 1;omega)

theorem spec_l1Most.eq (a b:Int):spec_l1Most.f a b=some (mx a b):=by
 unfold spec_l1Most.f mx;split <;> split <;> first|rfl|omega|(congr 1;omega)

/-- The sum of the weights and of the times of a set's jobs. -/
def ratioF (jobs:List J):List Int→Int→Int→Int × Int
 | [],a,b=>(a,b)
 | x::xs,a,b=>ratioF jobs xs (wrap64 (a + (rd_T31 jobs x).f1)) (wrap64 (b + (rd_T31 jobs x).f0))

theorem impl_ratioOf.ev (jobs:List J) (l:List Int) (hl:l.length≤1000000000000) (hx:∀ x ∈ l,0≤x∧x<jobs.length):Ev (fun k=>impl_ratioOf.f k jobs l) (ratioF jobs l 0 0):=by
 have key:=rev_ind (P:=fun i=>∀ t s,Ev (fun k=>impl_ratioOf.l0 k jobs l (l.length:Int) (i:Int) t s) (ratioF jobs (l.drop i) t s)) l.length ?_ ?_ 0 (Nat.zero_le _) 0 0
 ·simpa [impl_ratioOf.f] using key
 ·intro t s
  refine ev_stop fun k=>?_
  simp only [impl_ratioOf.l0];rw [if_neg (by omega),List.drop_length];rfl
 ·intro i hi ih t s
  rw [drop_cons hi,ratioF]
  have hx:=hx _ (List.getElem_mem hi)
  refine ev_go _ (fun k=>?_) (ih _ _)
  simp only [impl_ratioOf.l0];rw [if_pos (by omega),if_pos (by omega),if_pos (by omega),rd_nat hi,if_pos hx.1,if_pos hx.2,wr1 (by omega)]

def sumW:List Int→Int→Int
 | [],a=>a
 | x::xs,a=>sumW xs (wrap64 (a + x))
def mxW:List Int→Int→Int
 | [],a=>a
 | x::xs,a=>mxW xs (mx a x)
theorem mx_eq (a b:Int):mx a b=if a≤b then b else a:=by unfold mx;split <;> split <;> omega
theorem mxW_mx:∀ (l:List Int) (a b:Int),mxW l (mx a b)=mx a (mxW l b)
 | [],_,_=>rfl
 | x::l,a,b=>by
  rw [mxW,mxW,←mxW_mx l a]
  congr 1
  unfold mx
  repeat' split
  all_goals omega
theorem mxW_ge:∀ (l:List Int) (a:Int),a≤mxW l a
 | [],_=>Int.le_refl _
 | x::l,a=>by
  rw [mxW]
  refine Int.le_trans ?_ (mxW_ge l _)
  unfold mx;split <;> omega
theorem mxW_app:∀ (l m:List Int) (a:Int),mxW (l++m) a=mxW m (mxW l a)
 | [],_,_=>rfl
 | x::l,m,a=>by rw [List.cons_append,mxW,mxW,mxW_app]
theorem mxW_two (l m:List Int):mxW m (mxW l 0)=mx (mxW m 0) (mxW l 0):=by
 have h:mxW l 0=mx (mxW l 0) 0:=by have:=mxW_ge l 0;unfold mx;split <;> omega
 rw [h,mxW_mx,←h]
 unfold mx;split <;> split <;> omega

theorem spec_l1Most.eqk (a b:Int):spec_l1Most.f a b=some (mx a b):=by
 unfold spec_l1Most.f mx;split <;> split <;> first|rfl|omega|(congr 1;omega)

/-- Jobs, and an order of them. -/
def TwoOk (jobs:List J) (l:List Int):Prop:=JobsOk jobs∧IsPerm jobs.length l

def startsF (jobs:List J):List Int→List Int→Int→List Int
 | [],out,_=>out
 | x::xs,out,now=>startsF jobs xs (out.set x.toNat (mx now (rd_T31 jobs x).f2)) (wrap64 (mx now (rd_T31 jobs x).f2 + (rd_T31 jobs x).f0))
def endsF (jobs:List J):List Int→List Int→Int→List Int
 | [],out,_=>out
 | x::xs,out,now=>endsF jobs xs (out.set x.toNat (wrap64 (mx now (rd_T31 jobs x).f2 + (rd_T31 jobs x).f0))) (wrap64 (mx now (rd_T31 jobs x).f2 + (rd_T31 jobs x).f0))
theorem startsF_len (jobs:List J):∀ (l out:List Int) (now:Int),(startsF jobs l out now).length=out.length
 | [],_,_=>rfl
 | x::xs,out,now=>by rw [startsF,startsF_len];simp
theorem endsF_len (jobs:List J):∀ (l out:List Int) (now:Int),(endsF jobs l out now).length=out.length
 | [],_,_=>rfl
 | x::xs,out,now=>by rw [endsF,endsF_len];simp
def InI (x:Int):Prop:= -9223372036854775808≤x∧x≤9223372036854775807
theorem inI_wrap (x:Int):InI (wrap64 x):=by unfold InI wrap64;omega
theorem mx_inI {a b:Int} (ha:InI a) (hb:InI b):InI (mx a b):=by unfold mx InI at *;split <;> omega
/-- Each job's end is its start and its time, and its start is a whole number of the machine. -/
theorem ends_starts (jobs:List J) (hj:∀ j ∈ jobs,InI j.f2):∀ (l out out':List Int) (now:Int),InI now→(∀ x ∈ l,0≤x∧x<jobs.length)→out.length=jobs.length→out'.length=jobs.length→∀ (i:Nat) (hi:i<jobs.length),((i:Int) ∈ l∨(rd out' i=wrap64 (rd out i + (jobs[i]).f0)∧InI (rd out i)))→
  rd (endsF jobs l out' now) i=wrap64 (rd (startsF jobs l out now) i + (jobs[i]).f0)∧InI (rd (startsF jobs l out now) i)
 | [],_,_,_,_,_,_,_,i,hi,h=>h.resolve_left (by simp)
 | x::xs,out,out',now,hn,hx,ho,ho',i,hi,h=>by
  have hx0:=hx x List.mem_cons_self
  rw [startsF,endsF]
  have hr:=rdJ_int hx0.1 hx0.2
  have hjx:=hj _ (List.getElem_mem (show x.toNat<jobs.length by omega))
  refine ends_starts jobs hj xs _ _ _ (inI_wrap _) (fun y hy=>hx y (List.mem_cons_of_mem _ hy)) (by simpa using ho) (by simpa using ho') i hi ?_
  by_cases e:x=(i:Int)
  ·right
   subst e
   rw [rd_nat (by simpa [ho'] using hi),rd_nat (by simpa [ho] using hi),rdJ hi]
   simp only [Int.toNat_natCast,List.getElem_set_self]
   exact ⟨trivial,mx_inI hn (hj _ (List.getElem_mem hi))⟩
  ·rcases h with h|h
   ·left
    exact (List.mem_cons.1 h).resolve_left (fun q=>e q.symm)
   ·right
    rw [rd_nat (by simpa [ho'] using hi),rd_nat (by simpa [ho] using hi),List.getElem_set_ne (by omega),List.getElem_set_ne (by omega),←rd_nat (by omega),←rd_nat (by omega)]
    exact h

theorem spec_l2Starts.ev (jobs:List J) (l:List Int) (hj:jobs.length≤1000000) (hl:l.length≤1000000000) (hx:∀ x ∈ l,0≤x∧x<jobs.length):Ev (fun k=>spec_l2Starts.f k jobs l) (startsF jobs l (List.replicate jobs.length 0) 0):=by
 unfold spec_l2Starts.f
 rw [show (fun k=>if 0≤(jobs.length:Int) then (if ((jobs.length:Int):Int).toNat≤35184372088832 then (spec_l2Starts.l0 k jobs l (List.replicate ((jobs.length:Int):Int).toNat 0) 0 0) else (none)) else (none))=fun k=>spec_l2Starts.l0 k jobs l (List.replicate jobs.length 0) 0 0 from funext fun k=>by rw [if_pos (by omega),if_pos (by omega)];rfl]
 have key:=rev_ind (P:=fun i=>∀ (out:List Int) (now:Int),out.length=jobs.length→Ev (fun k=>spec_l2Starts.l0 k jobs l out now (i:Int)) (startsF jobs (l.drop i) out now)) l.length ?_ ?_ 0 (Nat.zero_le _) (List.replicate jobs.length 0) 0 (by simp)
 ·simpa using key
 ·intro out now _
  refine ev_stop fun k=>?_
  simp only [spec_l2Starts.l0];rw [if_neg (by omega),List.drop_length];rfl
 ·intro i hi ih out now ho
  rw [drop_cons hi,startsF]
  have hx:=hx _ (List.getElem_mem hi)
  refine ev_go _ (fun k=>?_) (ih _ _ (by simpa using ho))
  simp only [spec_l2Starts.l0];rw [if_pos (by omega),if_pos (by omega),rd_nat hi,if_pos hx.1,if_pos hx.2,spec_l1Most.eq,Option.bind_some,if_pos (by omega),Option.bind_some,wr1 (by omega)]
  rw [show rd (out.set (l[i]).toNat (mx now (rd_T31 jobs l[i]).f2)) l[i]=mx now (rd_T31 jobs l[i]).f2 by
   obtain ⟨n,hn⟩:∃ n:Nat,l[i]=n:=⟨(l[i]).toNat,by omega⟩
   rw [hn,rd_nat (by simp;omega)];simp]

theorem impl_endsOf.ev (jobs:List J) (l:List Int) (hj:jobs.length≤1000000) (hl:l.length≤1000000000) (hx:∀ x ∈ l,0≤x∧x<jobs.length):Ev (fun k=>impl_endsOf.f k jobs l) (endsF jobs l (List.replicate jobs.length 0) 0):=by
 unfold impl_endsOf.f
 rw [show (fun k=>if 0≤(jobs.length:Int) then (if ((jobs.length:Int):Int).toNat≤35184372088832 then (impl_endsOf.l0 k jobs (List.replicate ((jobs.length:Int):Int).toNat 0) 0 l (l.length:Int) 0) else (none)) else (none))=fun k=>impl_endsOf.l0 k jobs (List.replicate jobs.length 0) 0 l (l.length:Int) 0 from funext fun k=>by rw [if_pos (by omega),if_pos (by omega)];rfl]
 have key:=rev_ind (P:=fun i=>∀ (out:List Int) (now:Int),out.length=jobs.length→Ev (fun k=>impl_endsOf.l0 k jobs out now l (l.length:Int) (i:Int)) (endsF jobs (l.drop i) out now)) l.length ?_ ?_ 0 (Nat.zero_le _) (List.replicate jobs.length 0) 0 (by simp)
 ·simpa using key
 ·intro out now _
  refine ev_stop fun k=>?_
  simp only [impl_endsOf.l0];rw [if_neg (by omega),List.drop_length];rfl
 ·intro i hi ih out now ho
  rw [drop_cons hi,endsF]
  have hx:=hx _ (List.getElem_mem hi)
  refine ev_go _ (fun k=>?_) (ih _ _ (by simpa using ho))
  simp only [impl_endsOf.l0];rw [if_pos (by omega),if_pos (by omega),if_pos (by omega),rd_nat hi,if_pos hx.1,if_pos hx.2,if_pos (by omega),wr1 (by omega)]

/-- The ends of all jobs, by an order. -/
def endsAll (jobs:List J) (l:List Int):List Int:=endsF jobs l (List.replicate jobs.length 0) 0
def startsAll (jobs:List J) (l:List Int):List Int:=startsF jobs l (List.replicate jobs.length 0) 0
theorem endsAll_len (jobs:List J) (l:List Int):(endsAll jobs l).length=jobs.length:=by rw [endsAll,endsF_len];simp
theorem startsAll_len (jobs:List J) (l:List Int):(startsAll jobs l).length=jobs.length:=by rw [startsAll,startsF_len];simp
theorem endsAll_get (jobs:List J) (l:List Int) (h:TwoOk jobs l) (i:Nat) (hi:i<jobs.length):(endsAll jobs l)[i]'(by rw [endsAll_len];exact hi)=wrap64 ((startsAll jobs l)[i]'(by rw [startsAll_len];exact hi) + (jobs[i]).f0)∧InI ((startsAll jobs l)[i]'(by rw [startsAll_len];exact hi)):=by
 have:=ends_starts jobs (fun j hj=>by have:=(h.1.2 j hj).2.2.1;unfold InI;omega) l (List.replicate jobs.length 0) (List.replicate jobs.length 0) 0 (by unfold InI;omega) h.2.2.2 (by simp) (by simp) i hi (.inl (h.2.all i (by omega) (by omega)))
 rwa [←rd_nat,←rd_nat]

theorem spec_l2Ends.ev (jobs:List J) (l:List Int) (h:TwoOk jobs l):Ev (fun k=>spec_l2Ends.f k jobs l) (endsAll jobs l):=by
 have hj:=h.1.1
 have hl:=h.2.1
 unfold spec_l2Ends.f
 refine ev_bind (startsAll jobs l) (spec_l2Starts.ev jobs l (by omega) (by omega) h.2.2.2) ?_
 have key:=rev_ind (P:=fun i=>Ev (fun k=>spec_l2Ends.l0 k jobs ((endsAll jobs l).take i++(startsAll jobs l).drop i) (i:Int)) (endsAll jobs l)) jobs.length ?_ ?_ 0 (Nat.zero_le _)
 ·simpa using key
 ·refine ev_stop fun k=>?_
  simp only [spec_l2Ends.l0];rw [if_neg (by omega),List.take_of_length_le (by rw [endsAll_len];omega),List.drop_of_length_le (by rw [startsAll_len];omega),List.append_nil]
 ·intro i hi ih
  have he:=endsAll_len jobs l
  have hs:=startsAll_len jobs l
  have hlen:((endsAll jobs l).take i++(startsAll jobs l).drop i).length=jobs.length:=by simp [he,hs];omega
  have hr:rd ((endsAll jobs l).take i++(startsAll jobs l).drop i) (i:Int)=(startsAll jobs l)[i]'(by omega):=by
   rw [rd_nat (by omega),List.getElem_append_right (by simp [he];omega)]
   simp [he,show min i jobs.length=i by omega]
  refine ev_go _ (fun k=>?_) ih
  simp only [spec_l2Ends.l0];rw [if_pos (by omega),if_pos (by omega),if_pos (by omega),wr1 (by omega),hr,rdJ hi,←(endsAll_get jobs l h i hi).1,show ((i:Int)).toNat=i by omega,set_copy (by omega) (by omega)]

/-- An order in which one may stand ahead of another: what 'not ahead' is handed on through, and what is ahead is not behind. -/
structure Pre (lt:Int→Int→Bool) (P:Int→Prop):Prop where
 trans:∀ a b c,P a→P b→P c→lt b a=false→lt c b=false→lt c a=false
 asym:∀ a b,P a→P b→lt a b=true→lt b a=false
def SortedLt (lt:Int→Int→Bool) (l:List Int):Prop:=l.Pairwise fun a b=>lt b a=false
theorem pre_key (f:Int→Int) (P:Int→Prop):Pre (fun a b=>decide (f a<f b)) P:=by
 refine ⟨fun a b c _ _ _ h1 h2=>?_,fun a b _ _ h=>?_⟩ <;> simp at * <;> omega
theorem insPos_at {lt:Int→Int→Bool} {P:Int→Prop} (hp:Pre lt P) {x:Int} {out:List Int} (hx:P x) (ho:∀ y ∈ out,P y) (hs:SortedLt lt out) (j:Nat) (hj:j≤out.length) (h1:∀ y ∈ out.take j,lt x y=false) (h2:∀ h:j<out.length,lt x out[j]=true):insPos lt x out out.length=j:=by
 have key:∀ d,j + d≤out.length→insPos lt x out (j + d)=j:=by
  intro d
  induction d with
  | zero=>
   intro _
   cases j with
   | zero=>rfl
   | succ j=>
    rw [Nat.add_zero,insPos,if_neg]
    have hm:out[j] ∈ out.take (j + 1):=List.mem_take_iff_getElem.2 ⟨j,by omega,rfl⟩
    have:=h1 _ hm
    simp [List.getD_eq_getElem?_getD,show j<out.length by omega,this]
  | succ d ih=>
   intro hd
   rw [←Nat.add_assoc,insPos,if_pos,ih (by omega)]
   have hq:lt x (out[j + d]'(by omega))=true:=by
    refine Classical.byContradiction fun hc=>?_
    have hc:lt x (out[j + d]'(by omega))=false:=by simpa using hc
    have hj2:=h2 (by omega)
    by_cases e:d=0
    ·subst e;simp at hc;rw [hc] at hj2;cases hj2
    ·have hpw:=(List.pairwise_iff_getElem.1 hs) j (j + d) (by omega) (by omega) (by omega)
     have:=hp.trans _ _ _ (ho _ (List.getElem_mem (by omega:j<out.length))) (ho _ (List.getElem_mem (by omega:j + d<out.length))) hx hpw hc
     rw [this] at hj2;cases hj2
   simpa [List.getD_eq_getElem?_getD,show j + d<out.length by omega] using hq
 have:=key (out.length - j) (by omega)
 rwa [show j + (out.length - j)=out.length by omega] at this
theorem insAt_at {lt:Int→Int→Bool} {P:Int→Prop} (hp:Pre lt P) {x:Int} {out:List Int} (hx:P x) (ho:∀ y ∈ out,P y) (hs:SortedLt lt out) (j:Nat) (hj:j≤out.length) (h1:∀ y ∈ out.take j,lt x y=false) (h2:∀ h:j<out.length,lt x out[j]=true):insAt lt x out=out.take j++x::out.drop j:=by
 unfold insAt
 rw [insPos_at hp hx ho hs j hj h1 h2]
theorem insPos_left {lt:Int→Int→Bool} {x:Int} {out:List Int} : ∀ k,k≤out.length→(0<insPos lt x out k→lt x (out.getD (insPos lt x out k - 1) 0)=false)∧(∀ i,insPos lt x out k≤i→i<k→lt x (out.getD i 0)=true)
 | 0,_=>⟨fun h=>absurd h (by simp [insPos]),fun i _ h=>absurd h (by omega)⟩
 | k + 1,hk=>by
  have ih:=insPos_left (lt:=lt) (x:=x) (out:=out) k (by omega)
  rw [insPos]
  by_cases q:lt x (out.getD k 0)=true
  ·rw [if_pos q]
   refine ⟨ih.1,fun i h1 h2=>?_⟩
   by_cases e:i=k
   ·subst e;exact q
   ·exact ih.2 i h1 (by omega)
  ·rw [if_neg q]
   exact ⟨fun _=>by simpa using q,fun i h1 h2=>absurd h1 (by omega)⟩
theorem insAt_perm (lt:Int→Int→Bool) (x:Int) (out:List Int):(insAt lt x out).Perm (x::out):=by
 unfold insAt
 refine List.perm_middle.trans ?_
 rw [List.take_append_drop]
theorem insAt_sorted {lt:Int→Int→Bool} {P:Int→Prop} (hp:Pre lt P) {x:Int} {out:List Int} (hx:P x) (ho:∀ y ∈ out,P y) (hs:SortedLt lt out):SortedLt lt (insAt lt x out):=by
 unfold insAt SortedLt
 obtain ⟨hl,hr⟩:=insPos_left (lt:=lt) (x:=x) (out:=out) out.length (Nat.le_refl _)
 have hle:=insPos_le lt x out out.length
 generalize hq:insPos lt x out out.length=p at hl hr hle ⊢
 rw [List.pairwise_append,List.pairwise_cons]
 have left:∀ a ∈ out.take p,lt x a=false:=by
  intro a ha
  obtain ⟨i,hi,rfl⟩:=List.mem_take_iff_getElem.1 ha
  have hi':i<p:=by omega
  have h0:=hl (by omega)
  rw [List.getD_eq_getElem?_getD,List.getElem?_eq_getElem (by omega),Option.getD_some] at h0
  by_cases e:i=p - 1
  ·subst e;exact h0
  ·exact hp.trans _ _ _ (ho _ (List.getElem_mem _)) (ho _ (List.getElem_mem (by omega:p - 1<out.length))) hx ((List.pairwise_iff_getElem.1 hs) i (p - 1) (by omega) (by omega) (by omega)) h0
 have right:∀ b ∈ out.drop p,lt b x=false:=by
  intro b hb
  obtain ⟨i,hi,rfl⟩:=List.mem_drop_iff_getElem.1 hb
  have h0:=hr (p + i) (by omega) (by omega)
  rw [List.getD_eq_getElem?_getD,List.getElem?_eq_getElem (by omega),Option.getD_some] at h0
  exact hp.asym _ _ hx (ho _ (List.getElem_mem _)) h0
 have hs':=hs
 unfold SortedLt at hs'
 rw [←List.take_append_drop p out,List.pairwise_append] at hs'
 refine ⟨hs'.1,⟨right,hs'.2.1⟩,fun a ha b hb=>?_⟩
 rcases List.mem_cons.1 hb with rfl|hb
 ·exact left a ha
 ·exact hs'.2.2 a ha b hb
theorem insAll_perm (lt:Int→Int→Bool):∀ (l out:List Int),(insAll lt l out).Perm (l++out)
 | [],out=>List.Perm.refl _
 | x::l,out=>by
  rw [insAll]
  refine (insAll_perm lt l _).trans ?_
  refine ((insAt_perm lt x out).append_left l).trans ?_
  exact List.perm_middle
theorem insAll_sorted {lt:Int→Int→Bool} {P:Int→Prop} (hp:Pre lt P):∀ (l out:List Int),(∀ y ∈ l,P y)→(∀ y ∈ out,P y)→SortedLt lt out→SortedLt lt (insAll lt l out)
 | [],out,_,_,h=>h
 | x::l,out,hl,ho,h=>by
  rw [insAll]
  have hx:=hl x List.mem_cons_self
  refine insAll_sorted hp l _ (fun y hy=>hl y (List.mem_cons_of_mem _ hy)) (fun y hy=>?_) (insAt_sorted hp hx ho h)
  rcases List.mem_cons.1 ((insAt_perm lt x out).mem_iff.1 hy) with rfl|hy
  ·exact hx
  ·exact ho y hy
/-- All numbers below n, sorted. -/
def sortN (lt:Int→Int→Bool) (n:Nat):List Int:=insAll lt (nums_to n) []
theorem sortN_perm (lt:Int→Int→Bool) (n:Nat):(sortN lt n).Perm (nums_to n):=by
 have:=insAll_perm lt (nums_to n) []
 rwa [List.append_nil] at this
theorem sortN_isPerm (lt:Int→Int→Bool) (n:Nat):IsPerm n (sortN lt n):=by
 have h:=sortN_perm lt n
 refine ⟨by rw [h.length_eq,nums_to_length],h.nodup_iff.2 (nums_to_nodup n),fun x hx=>mem_nums_to.1 (h.mem_iff.1 hx)⟩

theorem impl_numbersTo.ev (n:Nat) (hn:n≤1048576):Ev (fun k=>impl_numbersTo.f k (n:Int)) (nums_to n):=by
 have ht:∀ i,i<n→(nums_to n).take i++[(i:Int)]=(nums_to n).take (i + 1):=by
  intro i hi
  rw [List.take_succ_eq_append_getElem (by rw [nums_to_length];exact hi)]
  simp [nums_to]
 have key:=rev_ind (P:=fun i=>Ev (fun k=>impl_numbersTo.l0 k (n:Int) ((nums_to n).take i) (i:Int)) (nums_to n)) n ?_ ?_ 0 (Nat.zero_le _)
 ·simpa [impl_numbersTo.f] using key
 ·refine ev_stop fun k=>?_
  simp only [impl_numbersTo.l0];rw [if_neg (by omega),List.take_of_length_le (by rw [nums_to_length];omega)]
 ·intro i hi ih
  rw [←ht i hi] at ih
  refine ev_go _ (fun k=>?_) ih
  simp only [impl_numbersTo.l0];rw [if_pos (by omega),if_pos (by simp;omega),wr1 (by omega)]

theorem ev_mono {α:Type} {g:Nat→Option α} {r:α} (K:Nat) (h:g K=some r) (hm:∀ k,LeO (g k) (g (k + 1))):Ev g r:=by
 refine ⟨K,fun k hk=>?_⟩
 obtain ⟨d,rfl⟩:∃ d,k=K + d:=⟨k - K,by omega⟩
 clear hk
 induction d with
 | zero=>exact h
 | succ d ih=>exact hm _ _ ih

set_option maxRecDepth 100000 in
theorem l4Set_all:∀ n,n<9→spec_l4Set.f 20 ((n:Nat):Int) (wrap64 ((shl .i64 1 ((n:Nat):Int)) - 1))=some (nums_to n):=by decide +kernel
theorem spec_l6All.ev (jobs:List J) (hj:jobs.length≤8):Ev (fun k=>spec_l6All.f k jobs) (nums_to jobs.length):=by
 unfold spec_l6All.f
 exact ev_bind (nums_to jobs.length) (ev_mono 20 (l4Set_all _ (by omega)) (fun k=>spec_l4Set.mono _ _ k)) (Ev.now _)

/-- The sum of the times of those that are due by a date. -/
def dueS (jobs:List J) (d:Int):List Int→Int
 | []=>0
 | x::xs=>(if (rd_T31 jobs x).f3≤d then (rd_T31 jobs x).f0 else 0) + dueS jobs d xs
theorem dueS_perm (jobs:List J) (d:Int) {l m:List Int} (h:l.Perm m):dueS jobs d l=dueS jobs d m:=by
 induction h with
 | nil=>rfl
 | cons x _ ih=>simp only [dueS,ih]
 | swap x y l=>simp only [dueS];omega
 | trans _ _ ih1 ih2=>exact ih1.trans ih2
def InJ (jobs:List J) (l:List Int):Prop:=∀ x ∈ l,0≤x∧x<jobs.length
theorem rdJ_ok {jobs:List J} (h:JobsOk jobs) {x:Int} (h0:0≤x) (h1:x<jobs.length):JobOk (rd_T31 jobs x):=by
 rw [rdJ_int h0 h1];exact h.2 _ (List.getElem_mem _)
theorem dueS_nonneg {jobs:List J} (h:JobsOk jobs) (d:Int):∀ l:List Int,InJ jobs l→0≤dueS jobs d l
 | [],_=>Int.le_refl _
 | x::xs,hx=>by
  have h1:=dueS_nonneg h d xs (fun y hy=>hx y (List.mem_cons_of_mem _ hy))
  have h2:=rdJ_ok h (hx x List.mem_cons_self).1 (hx x List.mem_cons_self).2
  have:=h2.1
  rw [dueS];split <;> omega
theorem dueS_none {jobs:List J} (d:Int):∀ l:List Int,(∀ x ∈ l,d<(rd_T31 jobs x).f3)→dueS jobs d l=0
 | [],_=>rfl
 | x::xs,hx=>by
  rw [dueS,if_neg (by have:=hx x List.mem_cons_self;omega),dueS_none d xs (fun y hy=>hx y (List.mem_cons_of_mem _ hy))];rfl
def DueSorted (jobs:List J) (l:List Int):Prop:=l.Pairwise fun a b=>(rd_T31 jobs a).f3≤(rd_T31 jobs b).f3
theorem onTimeF_iff {jobs:List J} (h:JobsOk jobs):∀ (l:List Int) (t:Int),0≤t→t + 50 * (l.length:Int)≤1000000000000→InJ jobs l→DueSorted jobs l→(onTimeF jobs l t=true ↔ ∀ x ∈ l,t + dueS jobs (rd_T31 jobs x).f3 l≤(rd_T31 jobs x).f3)
 | [],_,_,_,_,_=>by simp [onTimeF]
 | x::xs,t,h0,hb,hx,hs=>by
  have hxs:InJ jobs xs:=fun y hy=>hx y (List.mem_cons_of_mem _ hy)
  have hok:=rdJ_ok h (hx x List.mem_cons_self).1 (hx x List.mem_cons_self).2
  have ht:=hok.1
  have hd:=hok.2.2.2
  obtain ⟨hs1,hs2⟩:=List.pairwise_cons.1 hs
  simp only [List.length_cons] at hb
  have ih:=onTimeF_iff h xs (t + (rd_T31 jobs x).f0) (by omega) (by omega) hxs hs2
  rw [onTimeF,wr (by omega) (by omega)]
  have hS:∀ z ∈ xs,dueS jobs (rd_T31 jobs z).f3 (x::xs)=(rd_T31 jobs x).f0 + dueS jobs (rd_T31 jobs z).f3 xs:=fun z hz=>by
   rw [dueS,if_pos (hs1 z hz)]
  have hSx:dueS jobs (rd_T31 jobs x).f3 (x::xs)=(rd_T31 jobs x).f0 + dueS jobs (rd_T31 jobs x).f3 xs:=by
   rw [dueS,if_pos (Int.le_refl _)]
  have hn:=dueS_nonneg h (rd_T31 jobs x).f3 xs hxs
  by_cases q:t + (rd_T31 jobs x).f0>(rd_T31 jobs x).f3
  ·rw [if_pos q]
   refine ⟨fun e=>absurd e (by simp),fun e=>?_⟩
   have:=e x List.mem_cons_self
   rw [hSx] at this;omega
  ·rw [if_neg q,ih]
   constructor
   ·intro e z hz
    rcases List.mem_cons.1 hz with rfl|hz
    ·rw [hSx]
     by_cases c:∃ y ∈ xs,(rd_T31 jobs y).f3≤(rd_T31 jobs z).f3
     ·obtain ⟨y,hy,hle⟩:=c
      have e1:=e y hy
      have e2:(rd_T31 jobs y).f3=(rd_T31 jobs z).f3:=by have:=hs1 y hy;omega
      rw [e2] at e1;omega
     ·rw [dueS_none _ xs (fun y hy=>Classical.byContradiction fun hc=>c ⟨y,hy,by omega⟩)];omega
    ·rw [hS z hz];have:=e z hz;omega
   ·intro e z hz
    have:=e z (List.mem_cons_of_mem _ hz)
    rw [hS z hz] at this;omega
theorem onTimeF_perm {jobs:List J} (h:JobsOk jobs) {l m:List Int} (hl:l.length≤1000000) (hi:InJ jobs l) (hp:l.Perm m) (h1:DueSorted jobs l) (h2:DueSorted jobs m):onTimeF jobs l 0=onTimeF jobs m 0:=by
 have e1:=onTimeF_iff h l 0 (by omega) (by omega) hi h1
 have e2:=onTimeF_iff h m 0 (by omega) (by rw [←hp.length_eq];omega) (fun x hx=>hi x (hp.mem_iff.2 hx)) h2
 have:onTimeF jobs l 0=true ↔ onTimeF jobs m 0=true:=by
  rw [e1,e2]
  exact ⟨fun H x hx=>by rw [←dueS_perm jobs _ hp];exact H x (hp.mem_iff.2 hx),fun H x hx=>by rw [dueS_perm jobs _ hp];exact H x (hp.mem_iff.1 hx)⟩
 cases q1:onTimeF jobs l 0 <;> cases q2:onTimeF jobs m 0 <;> simp_all

theorem dueLt_pre (jobs:List J) (P:Int→Prop):Pre (dueLt jobs) P:=pre_key (fun a=>(rd_T31 jobs a).f3) P
theorem dueSorted_of {jobs:List J} {l:List Int} (h:SortedLt (dueLt jobs) l):DueSorted jobs l:=by
 unfold SortedLt at h
 unfold DueSorted
 refine h.imp ?_
 intro a b hab
 unfold dueLt at hab
 simp at hab;omega
theorem impl_onTime.ev (jobs:List J) (l:List Int) (hl:l.length≤1000000) (hi:InJ jobs l):Ev (fun k=>impl_onTime.f k jobs l) (onTimeF jobs (insAll (dueLt jobs) l []) 0):=by
 unfold impl_onTime.f
 rw [if_pos ⟨by omega,hi⟩]
 exact Ev.now _
theorem insDue (jobs:List J) (l:List Int):DueSorted jobs (insAll (dueLt jobs) l [])∧l.Perm (insAll (dueLt jobs) l []):=by
 refine ⟨dueSorted_of (insAll_sorted (dueLt_pre jobs (fun _=>True)) l [] (fun _ _=>trivial) (fun _ _=>trivial) List.Pairwise.nil),?_⟩
 have:=insAll_perm (dueLt jobs) l []
 rw [List.append_nil] at this
 exact this.symm

def SoonP (jobs:List J) (a b:Int):Prop:=(rd_T31 jobs a).f3<(rd_T31 jobs b).f3∨((rd_T31 jobs a).f3=(rd_T31 jobs b).f3∧((rd_T31 jobs a).f0<(rd_T31 jobs b).f0∨((rd_T31 jobs a).f0=(rd_T31 jobs b).f0∧a<b)))
instance (jobs:List J) (a b:Int):Decidable (SoonP jobs a b):=by unfold SoonP;exact inferInstance
def soonLt (jobs:List J):Int→Int→Bool:=fun a b=>decide (SoonP jobs a b)
theorem soonLt_eq {jobs:List J} {a b:Int} {p:Prop} [Decidable p] (h:p ↔ SoonP jobs a b):some (decide p)=some (soonLt jobs a b):=by
 unfold soonLt
 by_cases q:p
 ·rw [decide_eq_true q,decide_eq_true (h.1 q)]
 ·rw [decide_eq_false q,decide_eq_false (fun c=>q (h.2 c))]
theorem soonLt_f {jobs:List J} {a b:Int} : soonLt jobs a b=false ↔ ¬ SoonP jobs a b:=by unfold soonLt;exact decide_eq_false_iff_not
theorem soonLt_t {jobs:List J} {a b:Int} : soonLt jobs a b=true ↔ SoonP jobs a b:=by unfold soonLt;exact ⟨of_decide_eq_true,decide_eq_true⟩
theorem soonLt_pre (jobs:List J) (P:Int→Prop):Pre (soonLt jobs) P:=by
 refine ⟨fun a b c _ _ _ h1 h2=>?_,fun a b _ _ h=>?_⟩
 ·rw [soonLt_f] at *
  unfold SoonP at *;omega
 ·rw [soonLt_f]
  rw [soonLt_t] at h
  unfold SoonP at *;omega
theorem spec_l6Sooner.eq (jobs:List J) (a b:Int) (ha:0≤a∧a<jobs.length) (hb:0≤b∧b<jobs.length):spec_l6Sooner.f jobs a b=some (soonLt jobs a b):=by
 unfold spec_l6Sooner.f
 rw [if_pos ha.1,if_pos ha.2,if_pos hb.1,if_pos hb.2]
 by_cases q:(rd_T31 jobs a).f3=(rd_T31 jobs b).f3
 ·rw [if_pos q]
  by_cases q2:(rd_T31 jobs a).f0=(rd_T31 jobs b).f0
  ·rw [if_pos q2]
   exact soonLt_eq (by unfold SoonP;omega)
  ·rw [if_neg q2]
   exact soonLt_eq (by unfold SoonP;omega)
 ·rw [if_neg q]
  exact soonLt_eq (by unfold SoonP;omega)
theorem soon_flip (jobs:List J) {x y:Int} (hne:x≠y):soonLt jobs x y= !soonLt jobs y x:=by
 unfold soonLt
 by_cases q:SoonP jobs y x
 ·have:¬ SoonP jobs x y:=by unfold SoonP at *;omega
  simp [q,this]
 ·have:SoonP jobs x y:=by unfold SoonP at *;omega
  simp [q,this]
theorem spec_l6Due.ev (jobs:List J) (l:List Int) (hl:l.length≤1000000) (hn:l.Nodup) (hi:InJ jobs l):Ev (fun k=>spec_l6Due.f k jobs l) (insAll (soonLt jobs) l []):=by
 have hP:=soonLt_pre jobs (fun y=>0≤y∧y<(jobs.length:Int))
 have key:=rev_ind (P:=fun i=>∀ out:List Int,out.length=i→(∀ y ∈ out,0≤y∧y<jobs.length)→SortedLt (soonLt jobs) out→(∀ y ∈ l.drop i,y ∉ out)→Ev (fun k=>spec_l6Due.l0 k jobs l out (i:Int)) (insAll (soonLt jobs) (l.drop i) out)) l.length ?_ ?_ 0 (Nat.zero_le _) [] rfl (by simp) List.Pairwise.nil (by simp)
 ·simpa [spec_l6Due.f] using key
 ·intro out ho _ _ _
  refine ev_stop fun k=>?_
  simp only [spec_l6Due.l0];rw [if_neg (by omega),List.drop_length,insAll]
 ·intro i hi' ih out ho hm hs hd
  have hnd:(l.drop i).Nodup:=(List.drop_sublist i l).nodup hn
  rw [drop_cons hi'] at hnd hd
  have hxo:=hd _ List.mem_cons_self
  have hxi:=hi _ (List.getElem_mem hi')
  have hrd:=rd_nat hi'
  refine ev_go (fun k=>spec_l6Due.l1 k jobs l out (i:Int) 0) (fun k=>?h) ?e
  case e=>
   rw [drop_cons hi',insAll]
   have hnext:=ih (insAt (soonLt jobs) l[i] out) (by rw [insAt_len];omega) (insAt_mem hxi hm) (insAt_sorted hP hxi hm hs) (fun y hy hmm=>by
    rcases List.mem_cons.1 ((insAt_perm (soonLt jobs) l[i] out).mem_iff.1 hmm) with rfl|hmm
    ·exact (List.nodup_cons.1 hnd).1 hy
    ·exact hd y (List.mem_cons_of_mem _ hy) hmm)
   have inner:=rev_ind (P:=fun j=>(∀ y ∈ out.take j,soonLt jobs l[i] y=false)→Ev (fun k=>spec_l6Due.l1 k jobs l out (i:Int) (j:Int)) (insAll (soonLt jobs) (l.drop (i + 1)) (insAt (soonLt jobs) l[i] out))) out.length ?_ ?_ 0 (Nat.zero_le _) (by simp)
   ·exact inner
   ·intro ht
    have ha:=insAt_at hP hxi hm hs out.length (Nat.le_refl _) ht (fun h=>absurd h (by omega))
    rw [ha] at hnext ⊢
    refine ev_go _ (fun k=>?_) hnext
    simp only [spec_l6Due.l1];rw [if_neg (by omega)]
    simp only [Option.bind_some]
    rw [hrd,if_pos (by omega),if_pos (by omega),if_pos (by simp;omega),if_pos (by omega),if_pos (by omega),if_pos (by simp;omega),if_pos (by simp;omega),wr1 (by omega)]
    simp
   ·intro j hj ihj ht
    have hy:=hm _ (List.getElem_mem hj)
    have hg:=spec_l6Sooner.eq jobs out[j] l[i] hy hxi
    have hne:l[i]≠out[j]:=fun e=>hxo (e ▸ List.getElem_mem hj)
    by_cases q:soonLt jobs out[j] l[i]=true
    ·refine ev_go _ (fun k=>?_) (ihj ?_)
     ·simp only [spec_l6Due.l1];rw [rd_nat hj,hrd,if_pos (by omega),if_pos (by omega),if_pos (by omega),if_pos (by omega),hg,Option.bind_some,if_pos q,wr1 (by omega)]
     ·intro y hy
      rw [List.take_succ_eq_append_getElem hj] at hy
      rcases List.mem_append.1 hy with hy|hy
      ·exact ht y hy
      ·rw [List.mem_singleton] at hy;subst hy;rw [soon_flip jobs hne,q];rfl
    ·have ha:=insAt_at hP hxi hm hs j (by omega) ht (fun _=>by rw [soon_flip jobs hne];simpa using q)
     rw [ha] at hnext ⊢
     refine ev_go _ (fun k=>?_) hnext
     simp only [spec_l6Due.l1];rw [rd_nat hj,hrd,if_pos (by omega),if_pos (by omega),if_pos (by omega),if_pos (by omega),hg,Option.bind_some,if_neg q]
     simp only [Option.bind_some]
     rw [if_pos (by omega),if_pos (by simp;omega),if_pos (by simp;omega),if_pos (by simp;omega),wr1 (by omega)]
     simp
  case h=>simp only [spec_l6Due.l0];rw [if_pos (by omega)]

theorem impl_copyInts.eq (l:List Int) (h:l.length≤1000000000000):impl_copyInts.f l=some l:=by
 simp only [impl_copyInts.f,Option.bind_some]
 rw [if_pos (by simp;omega),List.nil_append]

theorem spec_l2Last.ev (l:List Int) (hl:l.length≤1000000000):Ev (fun k=>spec_l2Last.f k l) (mxW l 0):=by
 have key:=rev_ind (P:=fun i=>∀ s,Ev (fun k=>spec_l2Last.l0 k l s (i:Int)) (mxW (l.drop i) s)) l.length ?_ ?_ 0 (Nat.zero_le _) 0
 ·simpa [spec_l2Last.f] using key
 ·intro s
  refine ev_stop fun k=>?_
  simp only [spec_l2Last.l0];rw [if_neg (by omega),List.drop_length];rfl
 ·intro i hi ih s
  rw [drop_cons hi,mxW]
  refine ev_go _ (fun k=>?_) (ih _)
  simp only [spec_l2Last.l0];rw [if_pos (by omega),if_pos (by omega),rd_nat hi,spec_l1Most.eqk,Option.bind_some,wr1 (by omega)]

/-- The numbers whose bits are set in a code below 256. -/
def bitsL (c:Nat):List Int:=(nums_to 8).filter fun i=>decide (c / 2 ^ i.toNat % 2=1)
theorem mem_bitsL {c:Nat} {x:Int} : x ∈ bitsL c ↔ (0≤x∧x<8)∧c / 2 ^ x.toNat % 2=1:=by
 unfold bitsL
 rw [List.mem_filter,mem_nums_to]
 simp
set_option maxRecDepth 100000 in
theorem listOf_all:∀ c,c<256→impl_listOf.f 20 ((c:Nat):Int)=some (bitsL c):=by decide +kernel
set_option maxRecDepth 100000 in
theorem bitsL_less:∀ c,c<256→∀ i,i<8→(c / 2 ^ i % 2=1→Go.bits .andNot .i64 ((c:Nat):Int) (shl .i64 1 ((i:Nat):Int))=((c - 2 ^ i:Nat):Int)∧bitsL (c - 2 ^ i)=(bitsL c).filter fun y=>decide (y≠((i:Nat):Int))):=by decide +kernel
set_option maxRecDepth 100000 in
theorem bitsL_full:∀ n,n<9→wrap64 (shl .i64 1 ((n:Nat):Int) - 1)=((2 ^ n - 1:Nat):Int)∧bitsL (2 ^ n - 1)=nums_to n∧2 ^ n - 1<256:=by decide +kernel
theorem impl_listOf.ev (c:Nat) (h:c<256):Ev (fun k=>impl_listOf.f k (c:Int)) (bitsL c):=ev_mono 20 (listOf_all c h) (fun k=>impl_listOf.mono _ k)

/-- All orders of the numbers of a list, in lexicographic order if the list is rising. -/
def perms:Nat→List Int→List (List Int)
 | 0,_=>[[]]
 | n + 1,L=>L.flatMap fun x=>(perms n (L.erase x)).map fun l=>x::l
theorem perms_perm:∀ (n:Nat) (L l:List Int),L.length=n→l ∈ perms n L→l.Perm L
 | 0,L,l,hL,h=>by
  rw [perms,List.mem_singleton] at h
  rw [h,List.eq_nil_of_length_eq_zero hL]
 | n + 1,L,l,hL,h=>by
  rw [perms,List.mem_flatMap] at h
  obtain ⟨x,hx,h⟩:=h
  obtain ⟨l',hl',rfl⟩:=List.mem_map.1 h
  exact ((perms_perm n (L.erase x) l' (by rw [List.length_erase_of_mem hx];omega) hl').cons x).trans (List.perm_cons_erase hx).symm
/-- One list of orders behind the other: the next one has a greater number at the last place at which that can be. -/
def Nx (l l':List Int):Prop:=∃ a x r1 y r2,l=a++x::(r1++y::r2)∧(r1++y::r2).Pairwise (fun u v=>v<u)∧x<y∧(∀ z ∈ r2,z<x)∧l'=a++y::(r1++x::r2).reverse
theorem Nx.cons {l l':List Int} (b:Int) (h:Nx l l'):Nx (b::l) (b::l'):=by
 obtain ⟨a,x,r1,y,r2,rfl,h2,h3,h4,rfl⟩:=h
 exact ⟨b::a,x,r1,y,r2,rfl,h2,h3,h4,rfl⟩
/-- Each of the lists is followed by its next one; a: the first, z: the last. -/
def Run (a z:List Int):List (List Int)→Prop
 | []=>False
 | p::t=>p=a∧match t with
  | []=>p=z
  | q::_=>Nx p q∧Run q z t
theorem Run.map {x:Int} : ∀ {P:List (List Int)} {a z:List Int},Run a z P→Run (x::a) (x::z) (P.map fun l=>x::l)
 | [],_,_,h=>h.elim
 | [p],a,z,h=>by
  obtain ⟨h1,h2⟩:=h
  exact ⟨by rw [h1],show x::p=x::z by rw [show p=z from h2]⟩
 | p::q::t,a,z,h=>by
  obtain ⟨h1,h2,h3⟩:=h
  exact ⟨by rw [h1],h2.cons x,Run.map h3⟩
theorem Run.head {P:List (List Int)} {a z:List Int} (h:Run a z P):∃ t,P=a::t:=by
 cases P with
 | nil=>exact h.elim
 | cons p t=>exact ⟨t,by rw [h.1]⟩
theorem Run.append:∀ {P Q:List (List Int)} {a z b y:List Int},Run a z P→Nx z b→Run b y Q→Run a y (P++Q)
 | [],_,_,_,_,_,h,_,_=>h.elim
 | [p],Q,a,z,b,y,h,n,hq=>by
  obtain ⟨t,rfl⟩:=hq.head
  obtain ⟨h1,h2⟩:=h
  have h2:p=z:=h2
  exact ⟨h1,by rw [h2];exact n,hq⟩
 | p::q::t,Q,a,z,b,y,h,n,hq=>by
  obtain ⟨h1,h2,h3⟩:=h
  exact ⟨h1,h2,Run.append h3 n hq⟩
theorem perms_run:∀ (n:Nat) (L:List Int),L.length=n→L.Pairwise (fun u v=>u<v)→Run L L.reverse (perms n L)
 | 0,L,h,_=>by
  rw [List.eq_nil_of_length_eq_zero h]
  exact ⟨rfl,rfl⟩
 | n + 1,L,h,hs=>by
  have key:∀ (L2 L1:List Int) (x:Int),L1++x::L2=L→Run (x::(L1++L2)) L.reverse ((x::L2).flatMap fun x=>(perms n (L.erase x)).map fun l=>x::l):=by
   have er:∀ (L1 L2:List Int) (x:Int),L1++x::L2=L→L.erase x=L1++L2:=by
    rintro L1 L2 x rfl
    rw [List.erase_append_right]
    ·simp
    ·intro hx
     have:=(List.pairwise_append.1 hs).2.2 x hx x List.mem_cons_self
     omega
   have blk:∀ (L1 L2:List Int) (x:Int),L1++x::L2=L→Run (x::(L1++L2)) (x::(L1++L2).reverse) ((perms n (L.erase x)).map fun l=>x::l):=by
    intro L1 L2 x hx
    rw [er L1 L2 x hx]
    refine Run.map (perms_run n (L1++L2) ?_ ?_)
    ·rw [←hx] at h;simp at h ⊢;omega
    ·rw [←er L1 L2 x hx];exact hs.sublist List.erase_sublist
   intro L2
   induction L2 with
   | nil=>
    intro L1 x hx
    have:=blk L1 [] x hx
    rw [List.append_nil] at this
    rw [List.flatMap_cons,List.flatMap_nil,List.append_nil,List.append_nil,←hx,List.reverse_append]
    rw [←hx] at this
    exact this
   | cons y L3 ih=>
    intro L1 x hx
    rw [List.flatMap_cons]
    refine Run.append (blk L1 (y::L3) x hx) ?_ (ih (L1++[x]) y (by rw [←hx];simp))
    rw [←hx] at hs
    have p1:=List.pairwise_append.1 hs
    have p2:=List.pairwise_cons.1 p1.2.1
    refine ⟨[],x,L3.reverse,y,L1.reverse,by simp,?_,p2.1 y List.mem_cons_self,fun z hz=>p1.2.2 z (List.mem_reverse.1 hz) x List.mem_cons_self,by simp⟩
    have:L3.reverse++y::L1.reverse=(L1++y::L3).reverse:=by simp
    rw [this,List.pairwise_reverse]
    refine hs.sublist ?_
    exact List.Sublist.append (List.Sublist.refl _) (List.sublist_cons_self _ _)
  cases L with
  | nil=>simp at h
  | cons x L2=>
   rw [perms]
   exact key L2 [] x rfl
theorem nums_to_sorted (n:Nat):(nums_to n).Pairwise fun u v=>u<v:=by
 unfold nums_to
 rw [List.pairwise_map]
 exact List.pairwise_lt_range.imp (fun h=>by omega)
theorem perms_isPerm {n:Nat} {l:List Int} (h:l ∈ perms n (nums_to n)):IsPerm n l:=by
 have p:=perms_perm n (nums_to n) l (nums_to_length n) h
 exact ⟨by rw [p.length_eq,nums_to_length],p.nodup_iff.2 (nums_to_nodup n),fun x hx=>mem_nums_to.1 (p.mem_iff.1 hx)⟩

/-- A fact that arithmetic needs not look at. -/
def Hide (p:Prop):Prop:=p
theorem rdA {a b:List Int} {i:Nat} (h:i<a.length):rd (a++b) (i:Int)=a[i]:=by rw [rd_nat (by simp;omega),List.getElem_append_left h]
theorem rdM (a b:List Int) (x:Int) (i:Nat) (h:i=a.length):rd (a++x::b) (i:Int)=x:=by subst h;rw [rd_nat (by simp),List.getElem_append_right (Nat.le_refl _)];simp
theorem setM (a b:List Int) (x y:Int) (i:Nat) (h:i=a.length):(a++x::b).set i y=a++y::b:=by subst h;rw [List.set_append_right _ _ (Nat.le_refl _)];simp
theorem impl_nextOrder.rev (q:List Int):∀ (m:Nat) (p s q:List Int),s.length≤m→p.length + s.length + q.length≤1000000→Ev (fun k=>impl_nextOrder.l2 k (p++(s++q)) (p.length:Int) ((p.length:Int) + s.length - 1)) (true,p++(s.reverse++q))
 | 0,p,s,q,h,_=>by
  obtain rfl:=List.eq_nil_of_length_eq_zero (Nat.le_zero.1 h)
  refine ev_stop fun k=>?_
  simp only [impl_nextOrder.l2];rw [if_neg (by simp;omega)];rfl
 | m + 1,p,[],q,_,_=>by
  refine ev_stop fun k=>?_
  simp only [impl_nextOrder.l2];rw [if_neg (by simp;omega)];rfl
 | m + 1,p,[u],q,_,_=>by
  refine ev_stop fun k=>?_
  simp only [impl_nextOrder.l2];rw [if_neg (by simp)];rfl
 | m + 1,p,u::u2::t2,q,h,hb=>by
  obtain ⟨t,v,ht⟩:∃ t v,u2::t2=t++[v]:=⟨(u2::t2).dropLast,(u2::t2).getLast (by simp),(List.dropLast_concat_getLast (by simp)).symm⟩
  rw [ht] at h hb ⊢
  simp only [List.length_cons,List.length_append,List.length_nil] at h hb
  have ih:=impl_nextOrder.rev q m (p++[v]) t (u::q) (by omega) (by simp;omega)
  have e1:((p.length:Int) + ((u::(t++[v])).length:Int) - 1)=((p.length + 1 + t.length:Nat):Int):=by simp;omega
  rw [e1]
  have l1:p++(u::(t++[v])++q)=p++u::(t++v::q):=by simp
  have l2:p++u::(t++v::q)=(p++u::t)++v::q:=by simp
  have r1:rd (p++u::(t++v::q)) (p.length:Int)=u:=rdM p _ u _ rfl
  have r2:rd (p++u::(t++v::q)) ((p.length + 1 + t.length:Nat):Int)=v:=by rw [l2];exact rdM _ q v _ (by simp;omega)
  have hlen:(p++u::(t++v::q)).length=p.length + 1 + t.length + 1 + q.length:=by simp;omega
  rw [l1]
  refine ev_go _ (fun k=>?_) (show Ev (fun k=>impl_nextOrder.l2 k (p++[v]++(t++u::q)) (((p++[v]).length:Nat):Int) (((p++[v]).length:Int) + t.length - 1)) _ from ?_)
  ·simp only [impl_nextOrder.l2]
   rw [if_pos (by omega),if_pos (by omega),if_pos (by omega),if_pos (by omega),if_pos (by omega),r1,r2,wr1 (by omega),wr (x:=((p.length + 1 + t.length:Nat):Int) - 1) (by omega) (by omega),Int.toNat_natCast,Int.toNat_natCast,setM p _ u v _ rfl,show p++v::(t++v::q)=(p++v::t)++v::q by simp,setM (p++v::t) q v u _ (by simp;omega)]
   congr 1
   ·simp
   ·simp
   ·simp only [List.length_append,List.length_cons,List.length_nil];omega
  ·have e:p++((u::(t++[v])).reverse++q)=p++[v]++(t.reverse++u::q):=by simp
   rw [e]
   exact ih
theorem impl_nextOrder.down (l:List Int) (i:Nat) (hl:l.length≤1000000) (hd:∀ j (h:j + 1<l.length),i<j→l[j + 1]<l[j]) {R:Bool × List Int} (h:Ev (fun k=>impl_nextOrder.l0 k l (i:Int)) R):∀ j,i≤j→j + 1<l.length→Ev (fun k=>impl_nextOrder.l0 k l (j:Int)) R
 | 0,hi,hj=>by
  obtain rfl:i=0:=by omega
  exact h
 | j + 1,hi,hj=>by
  by_cases e:i=j + 1
  ·rw [←e];exact h
  ·have ih:=impl_nextOrder.down l i hl hd h j (by omega) (by omega)
   have:=hd (j + 1) hj (by omega)
   refine ev_go _ (fun k=>?_) ih
   have w1:wrap64 (((j + 1:Nat):Int) + 1)=((j + 1 + 1:Nat):Int):=wr1 (by omega)
   simp only [impl_nextOrder.l0]
   rw [w1,if_pos (by omega),if_pos (by omega),if_pos (by omega),if_pos (by omega),if_pos (by omega),rd_nat (by omega),rd_nat hj,if_pos this,wr (x:=((j + 1:Nat):Int) - 1) (by omega) (by omega),show ((j + 1:Nat):Int) - 1=(j:Int) by omega]
theorem impl_nextOrder.none (l:List Int) (hl:l.length≤1000000) (hd:l.Pairwise (fun u v=>v<u)):Ev (fun k=>impl_nextOrder.f k l) (false,l):=by
 unfold impl_nextOrder.f
 have stop:∀ m:Int,m<0→Ev (fun k=>impl_nextOrder.l0 k l m) (false,l):=fun m hm=>by
  refine ev_go (fun k=>impl_nextOrder.j1 k l m) (fun k=>?_) (ev_stop fun k=>?_)
  ·simp only [impl_nextOrder.l0];rw [if_neg (by omega)]
  ·simp only [impl_nextOrder.j1];rw [if_pos hm]
 have hd':∀ j (h:j + 1<l.length),l[j + 1]<l[j]:=fun j h=>List.pairwise_iff_getElem.1 hd j (j + 1) (by omega) h (by omega)
 rw [wr (by omega) (by omega)]
 by_cases h2:l.length≤1
 ·exact stop _ (by omega)
 ·rw [show (l.length:Int) - 2=((l.length - 2:Nat):Int) by omega]
  refine impl_nextOrder.down l 0 hl (fun j h _=>hd' j h) ?_ (l.length - 2) (by omega) (by omega)
  refine ev_go _ (fun k=>?_) (stop (-1) (by omega))
  have h01:=hd' 0 (by omega)
  have w1:wrap64 (((0:Nat):Int) + 1)=((0 + 1:Nat):Int):=wr1 (by omega)
  simp only [impl_nextOrder.l0]
  rw [w1,if_pos (by omega),if_pos (by omega),if_pos (by omega),if_pos (by omega),if_pos (by omega),rd_nat (by omega),rd_nat (by omega),if_pos h01,wr (by omega) (by omega)]
  rfl
theorem impl_nextOrder.main (a r1 r2:List Int) (x y:Int) (hxy:Hide (x<y)) (l:List Int) (hl0:a++x::(r1++y::r2)=l) (hl:l.length≤1000000) (hlen:l.length=a.length + 1 + r1.length + 1 + r2.length) (hdesc:∀ j (h:j + 1<l.length),a.length<j→l[j + 1]<l[j]) (rx:Hide (rd l (a.length:Int)=x)) (ry:Hide (rd l ((a.length + 1 + r1.length:Nat):Int)=y)) (rz:∀ j,a.length + 1 + r1.length<j→j<l.length→rd l (j:Int)<x) (hx1:Hide (x<rd l ((a.length + 1:Nat):Int))):Ev (fun k=>impl_nextOrder.l0 k l (wrap64 ((l.length:Int) - 2))) (true,a++y::(r1++x::r2).reverse):=by
 rw [wr (by omega) (by omega),show (l.length:Int) - 2=((l.length - 2:Nat):Int) by omega]
 refine impl_nextOrder.down l a.length hl hdesc ?_ (l.length - 2) (by omega) (by omega)
 have w1:wrap64 ((a.length:Int) + 1)=((a.length + 1:Nat):Int):=wr1 (by omega)
 refine ev_go (fun k=>impl_nextOrder.j1 k l (a.length:Int)) (fun k=>?_) ?_
 ·simp only [impl_nextOrder.l0]
  rw [w1,if_pos (by omega),if_pos (by omega),if_pos (by omega),if_pos (by omega),if_pos (by omega),show rd l (a.length:Int)=x from rx,if_neg (show ¬ (x>rd l ((a.length + 1:Nat):Int)) from Int.not_lt.2 (Int.le_of_lt hx1))]
 refine ev_go (fun k=>impl_nextOrder.l1 k l (a.length:Int) ((l.length - 1:Nat):Int)) (fun k=>?_) ?_
 ·simp only [impl_nextOrder.j1]
  rw [if_neg (by omega),wr (by omega) (by omega),show (l.length:Int) - 1=((l.length - 1:Nat):Int) by omega]
 have back:∀ j,a.length + 1 + r1.length≤j→j<l.length→Ev (fun k=>impl_nextOrder.l1 k l (a.length:Int) (j:Int)) (true,a++y::(r1++x::r2).reverse):=by
  intro j
  induction j with
  | zero=>intro h;omega
  | succ j ih=>
   intro hj1 hj2
   by_cases e:a.length + 1 + r1.length=j + 1
   ·have rev:=impl_nextOrder.rev [] (r1++x::r2).length (a++[y]) (r1++x::r2) [] (Nat.le_refl _) (by simp;omega)
    refine ev_go _ (fun k=>?_) (show Ev (fun k=>impl_nextOrder.l2 k ((a++[y])++((r1++x::r2)++[])) (((a++[y]).length:Nat):Int) (((a++[y]).length:Int) + (r1++x::r2).length - 1)) _ from ?_)
    ·simp only [impl_nextOrder.l1]
     rw [←e,if_pos (by omega),if_pos (by omega),if_pos (by omega),if_pos (by omega),show rd l (a.length:Int)=x from rx,show rd l ((a.length + 1 + r1.length:Nat):Int)=y from ry,if_neg (show ¬ (y<x) from Int.not_lt.2 (Int.le_of_lt hxy)),w1,Int.toNat_natCast,Int.toNat_natCast,wr (by omega) (by omega),←hl0,setM a _ x y _ rfl,show a++y::(r1++y::r2)=(a++y::r1)++y::r2 by simp,setM (a++y::r1) r2 y x _ (by simp;omega)]
     congr 1
     ·simp
     ·simp
     ·simp only [List.length_append,List.length_cons,List.length_nil];omega
    ·have:(true,a++y::(r1++x::r2).reverse)=(true,a++[y]++((r1++x::r2).reverse++[])):=by simp
     rw [this]
     exact rev
   ·refine ev_go _ (fun k=>?_) (ih (by omega) (by omega))
    have this:Hide (rd l ((j + 1:Nat):Int)<x):=rz (j + 1) (by omega) hj2
    simp only [impl_nextOrder.l1]
    rw [if_pos (by omega),if_pos (by omega),if_pos (by omega),if_pos (by omega),show rd l (a.length:Int)=x from rx,if_pos (show rd l ((j + 1:Nat):Int)<x from this),wr (by omega) (by omega),show ((j + 1:Nat):Int) - 1=(j:Int) by omega]
 exact back (l.length - 1) (by omega) (by omega)
theorem impl_nextOrder.some (l l':List Int) (hl:l.length≤1000000) (h:Nx l l'):Ev (fun k=>impl_nextOrder.f k l) (true,l'):=by
 obtain ⟨a,x,r1,y,r2,rfl,hd,hxy,h2,rfl⟩:=h
 unfold impl_nextOrder.f
 have hlen:(a++x::(r1++y::r2)).length=a.length + 1 + r1.length + 1 + r2.length:=by simp;omega
 have eA:a++x::(r1++y::r2)=(a++[x])++(r1++y::r2):=by simp
 have gi:∀ j (h:j<(a++x::(r1++y::r2)).length) (h2:a.length<j),(a++x::(r1++y::r2))[j]=(r1++y::r2)[j - (a.length + 1)]'(by simp at h ⊢;omega):=fun j h h2=>by
  simp only [eA]
  rw [List.getElem_append_right (by simp;omega)]
  simp
 have hdesc:∀ j (h:j + 1<(a++x::(r1++y::r2)).length),a.length<j→(a++x::(r1++y::r2))[j + 1]<(a++x::(r1++y::r2))[j]:=fun j h hj=>by
  rw [gi j (by omega) hj,gi (j + 1) h (by omega)]
  exact List.pairwise_iff_getElem.1 hd _ _ _ _ (by omega)
 have rx:rd (a++x::(r1++y::r2)) (a.length:Int)=x:=rdM a _ x _ rfl
 have eB:a++x::(r1++y::r2)=(a++x::r1)++y::r2:=by simp
 have ry:rd (a++x::(r1++y::r2)) ((a.length + 1 + r1.length:Nat):Int)=y:=by rw [eB];exact rdM _ r2 y _ (by simp;omega)
 have rz:∀ j,a.length + 1 + r1.length<j→j<(a++x::(r1++y::r2)).length→rd (a++x::(r1++y::r2)) (j:Int)<x:=fun j h1 h3=>by
  rw [rd_nat h3]
  refine h2 _ ?_
  rw [gi j h3 (by omega),List.getElem_append_right (by omega),List.getElem_cons,dif_neg (by omega)]
  exact List.getElem_mem _
 have hx1:x<rd (a++x::(r1++y::r2)) ((a.length + 1:Nat):Int):=by
  rw [rd_nat (by omega),gi _ (by omega) (by omega)]
  cases r1 with
  | nil=>simpa using hxy
  | cons u r1=>
   have:=(List.pairwise_cons.1 hd).1 y (by simp)
   simp
   omega
 exact impl_nextOrder.main a r1 r2 x y hxy _ rfl hl hlen hdesc rx ry rz hx1

/-- A function that is told all orders: the state that it leaves. -/
theorem impl_eachOrder.loop {σ:Type} (step:Nat→List Int→σ→Option σ) (upd:List Int→σ→σ) (Q:σ→Prop):∀ (P:List (List Int)) (a z:List Int) (s:σ),Run a z P→z.Pairwise (fun u v=>v<u)→(∀ l ∈ P,l.length≤1000000)→(∀ l ∈ P,∀ s,Q s→Ev (fun k=>step k l s) (upd l s)∧Q (upd l s))→Q s→Ev (fun k=>impl_eachOrder.l0 step k a s) (P.foldl (fun s l=>upd l s) s)
 | [],_,_,_,h,_,_,_,_=>h.elim
 | [p],a,z,s,h,hz,hl,hs,hq=>by
  obtain ⟨rfl,h2⟩:=h
  obtain rfl:p=z:=h2
  obtain ⟨e1,_⟩:=hs p List.mem_cons_self s hq
  refine ev_go (fun k=>(step k p s).bind fun s'=>(impl_nextOrder.f k p).bind fun b=>if b.1=true then impl_eachOrder.l0 step k b.2 s' else some s') (fun k=>rfl) (ev_bind _ e1 (ev_bind _ (impl_nextOrder.none p (hl p List.mem_cons_self) hz) ?_))
  simp only [Bool.false_eq_true,if_false]
  exact Ev.now _
 | p::q::t,a,z,s,h,hz,hl,hs,hq=>by
  obtain ⟨rfl,h2,h3⟩:=h
  obtain ⟨e1,q1⟩:=hs p List.mem_cons_self s hq
  refine ev_go (fun k=>(step k p s).bind fun s'=>(impl_nextOrder.f k p).bind fun b=>if b.1=true then impl_eachOrder.l0 step k b.2 s' else some s') (fun k=>rfl) (ev_bind _ e1 (ev_bind _ (impl_nextOrder.some p q (hl p List.mem_cons_self) h2) ?_))
  simp only [if_true]
  exact impl_eachOrder.loop step upd Q (q::t) q z (upd p s) h3 hz (fun l h=>hl l (List.mem_cons_of_mem _ h)) (fun l h=>hs l (List.mem_cons_of_mem _ h)) q1
theorem impl_eachOrder.ev {σ:Type} (step:Nat→List Int→σ→Option σ) (upd:List Int→σ→σ) (Q:σ→Prop) (n:Nat) (hn:n≤1000000) (s:σ) (hs:∀ l,IsPerm n l→∀ s,Q s→Ev (fun k=>step k l s) (upd l s)∧Q (upd l s)) (hq:Q s):Ev (fun k=>impl_eachOrder.f step k (n:Int) s) ((perms n (nums_to n)).foldl (fun s l=>upd l s) s):=by
 unfold impl_eachOrder.f
 refine ev_bind _ (impl_numbersTo.ev n (by omega)) ?_
 refine impl_eachOrder.loop step upd Q _ _ _ s (perms_run n _ (nums_to_length n) (nums_to_sorted n)) ?_ (fun l hl=>by have:=(perms_isPerm hl).1;omega) (fun l hl=>hs l (perms_isPerm hl)) hq
 rw [List.pairwise_reverse]
 exact nums_to_sorted n

/-- The numbers below n that are not in a list. -/
def restOf (n:Nat) (begun:List Int):List Int:=(nums_to n).filter fun y=>decide (y ∉ begun)
theorem restOf_erase (n:Nat) (begun:List Int) (x:Int):(restOf n begun).erase x=restOf n (begun++[x]):=by
 unfold restOf
 have hn:=(nums_to_nodup n).filter (fun y=>decide (y ∉ begun))
 rw [List.Nodup.erase_eq_filter hn,List.filter_filter]
 refine List.filter_congr fun y _=>?_
 simp only [List.mem_append,List.mem_singleton,not_or,bne_iff_ne,Bool.decide_and,Bool.and_comm]
 by_cases e:y=x <;> simp [e]
theorem restOf_nil (n:Nat):restOf n []=nums_to n:=by unfold restOf;simp
/-- What is found by all orders that begin in some way. -/
def foldP {σ:Type} (upd:List Int→σ→σ):Nat→List Int→List Int→σ→σ
 | 0,_,begun,s=>upd begun s
 | n + 1,R,begun,s=>R.foldl (fun s x=>foldP upd n (R.erase x) (begun++[x]) s) s
theorem foldP_perms {σ:Type} (upd:List Int→σ→σ):∀ (n:Nat) (R begun:List Int) (s:σ),foldP upd n R begun s=(perms n R).foldl (fun s l=>upd (begun++l) s) s
 | 0,R,begun,s=>by simp [foldP,perms]
 | n + 1,R,begun,s=>by
  rw [foldP,perms,List.foldl_flatMap]
  congr 1
  funext s x
  rw [foldP_perms upd n,List.foldl_map]
  simp

theorem endsF_nonneg (jobs:List J) (hj:∀ j ∈ jobs,0≤j.f0∧j.f0≤50∧0≤j.f2∧j.f2≤500):∀ (l out:List Int) (now B:Int),0≤now→now≤B→500≤B→B + 50 * (l.length:Int)≤1000000000→(∀ x ∈ l,0≤x∧x<jobs.length)→(∀ e ∈ out,0≤e)→∀ e ∈ endsF jobs l out now,0≤e
 | [],_,_,_,_,_,_,_,_,h=>h
 | x::xs,out,now,B,h0,h1,h2,h3,hx,ho=>by
  simp only [List.length_cons] at h3
  have hx0:=hx x List.mem_cons_self
  have hr:=rdJ_int hx0.1 hx0.2
  have hk:=hj _ (List.getElem_mem (show x.toNat<jobs.length by omega))
  rw [←hr] at hk
  have hm:0≤mx now (rd_T31 jobs x).f2∧mx now (rd_T31 jobs x).f2≤B:=by unfold mx;split <;> omega
  have hw:wrap64 (mx now (rd_T31 jobs x).f2 + (rd_T31 jobs x).f0)=mx now (rd_T31 jobs x).f2 + (rd_T31 jobs x).f0:=wr (by omega) (by omega)
  rw [endsF,hw]
  refine endsF_nonneg jobs hj xs _ _ (B + 50) (by omega) (by omega) (by omega) (by omega) (fun y hy=>hx y (List.mem_cons_of_mem _ hy)) (fun e he=>?_)
  rcases List.mem_or_eq_of_mem_set he with he|rfl
  ·exact ho e he
  ·omega
theorem endsAll_nonneg (jobs:List J) (l:List Int) (h:TwoOk jobs l):∀ e ∈ endsAll jobs l,0≤e:=by
 have h8:=h.1.1
 have hl:=h.2.1
 refine endsF_nonneg jobs (fun j hj=>by have:=h.1.2 j hj;unfold JobOk at this;omega) l _ 0 500 (by omega) (by omega) (by omega) (by omega) h.2.2.2 (fun e he=>by rw [(List.mem_replicate.1 he).2];omega)
/-- What a job with an end makes of a value. -/
def addF (s:Int) (j:J) (e f:Int) (first:Bool):Int:=
 if f=1 then mx s e else if f=2 then wrap64 (s + e) else if f=3 then wrap64 (s + wrap64 (j.f1 * e)) else if f=4 then (if first=true then wrap64 (e - j.f3) else mx s (wrap64 (e - j.f3))) else if f=5 then wrap64 (s + mx 0 (wrap64 (e - j.f3))) else if f=6 then wrap64 (s + wrap64 (j.f1 * mx 0 (wrap64 (e - j.f3)))) else if wrap64 (e - j.f3)≤0 then s else if f=7 then wrap64 (s + 1) else wrap64 (s + j.f1)
def valF (jobs:List J) (ends:List Int) (f:Int):Nat→Nat→Int→Int
 | 0,_,s=>s
 | n + 1,i,s=>valF jobs ends f n (i + 1) (addF s (rd_T31 jobs (i:Int)) (rd ends (i:Int)) f (decide (i=0)))
theorem addF_in (s:Int) (j:J) (e f:Int) (b:Bool) (hs:InI s) (he:InI e):InI (addF s j e f b):=by
 unfold addF
 repeat' split
 all_goals first|exact inI_wrap _|exact hs|exact mx_inI hs he|exact mx_inI hs (inI_wrap _)
theorem impl_valueOfEnds.ev (jobs:List J) (ends:List Int) (f:Int) (he:ends.length=jobs.length) (hj:jobs.length≤1000000):Ev (fun k=>impl_valueOfEnds.f k jobs ends f) (valF jobs ends f jobs.length 0 0):=by
 have key:=rev_ind (P:=fun i=>∀ s,Ev (fun k=>impl_valueOfEnds.l0 k ends f s jobs (jobs.length:Int) (i:Int)) (valF jobs ends f (jobs.length - i) i s)) jobs.length ?_ ?_ 0 (Nat.zero_le _) 0
 ·simpa [impl_valueOfEnds.f] using key
 ·intro s
  refine ev_stop fun k=>?_
  simp only [impl_valueOfEnds.l0];rw [if_neg (by omega),Nat.sub_self,valF]
 ·intro i hi ih s
  rw [show jobs.length - i=(jobs.length - (i + 1)) + 1 by omega,valF]
  refine ev_go (fun k=>impl_valueOfEnds.l0 k ends f (addF s (rd_T31 jobs (i:Int)) (rd ends (i:Int)) f (decide (i=0))) jobs (jobs.length:Int) ((i + 1:Nat):Int)) (fun k=>?_) (ih _)
  have hd:(((i:Int)) == 0)=decide (i=0):=by
   by_cases e:i=0
   ·subst e;rfl
   ·rw [decide_eq_false e];simpa using e
  have ha:impl_add.f s (rd_T31 jobs (i:Int)).f0 (rd_T31 jobs (i:Int)).f1 (rd_T31 jobs (i:Int)).f2 (rd_T31 jobs (i:Int)).f3 (rd ends (i:Int)) f (decide (i=0))=some (addF s (rd_T31 jobs (i:Int)) (rd ends (i:Int)) f (decide (i=0))):=by
   unfold impl_add.f addF
   repeat' split
   all_goals rfl
  simp only [impl_valueOfEnds.l0];rw [if_pos (by omega),if_pos (by omega),if_pos (by omega),if_pos (by omega),hd,ha,Option.bind_some,wr1 (by omega)]

theorem spec_l1Most.val (a b:Int):spec_l1Most.f a b=some (if a>b then a else b):=by unfold spec_l1Most.f;split <;> rfl
theorem spec_l2Of.ev (jobs:List J) (ends:List Int) (f:Int) (he:ends.length=jobs.length) (hj:jobs.length≤1000000) (hf:1≤f∧f≤8) (h0:∀ e ∈ ends,0≤e∧InI e):Ev (fun k=>spec_l2Of.f k jobs ends f) (valF jobs ends f jobs.length 0 0):=by
 have key:=rev_ind (P:=fun i=>∀ s,InI s→(i=0→s=0)→Ev (fun k=>spec_l2Of.l0 k jobs ends f s (i:Int)) (valF jobs ends f (jobs.length - i) i s)) jobs.length ?_ ?_ 0 (Nat.zero_le _) 0 (by unfold InI;omega) (fun _=>rfl)
 ·simpa [spec_l2Of.f] using key
 ·intro s _ _
  refine ev_stop fun k=>?_
  simp only [spec_l2Of.l0];rw [if_neg (by omega),Nat.sub_self,valF]
 ·intro i hi ih s hs hz
  rw [show jobs.length - i=(jobs.length - (i + 1)) + 1 by omega,valF]
  have hei:=h0 _ (List.getElem_mem (show i<ends.length by omega))
  rw [←rd_nat (by omega)] at hei
  have hin:=addF_in s (rd_T31 jobs (i:Int)) (rd ends (i:Int)) f (decide (i=0)) hs hei.2
  refine ev_go (fun k=>spec_l2Of.l0 k jobs ends f (addF s (rd_T31 jobs (i:Int)) (rd ends (i:Int)) f (decide (i=0))) ((i + 1:Nat):Int)) (fun k=>?_) (ih _ hin (fun h=>by omega))
  have hd:((i:Int)=0)=(i=0):=by simp
  have hw0:wrap64 (s + 0)=s:=by rw [Int.add_zero];unfold InI at hs;exact wr (by omega) (by omega)
  simp only [spec_l2Of.l0]
  rw [if_pos (by omega)]
  generalize (rd ends (i:Int))=e at hei
  generalize (rd_T31 jobs (i:Int))=j
  rw [wr1 (by omega)]
  by_cases f1:f=1
  ·subst f1
   simp only [spec_l2Greatest.f,Option.bind_some,if_true,addF,hd]
   rw [if_pos (by omega),if_pos (by omega),if_neg (by omega)]
   by_cases q:i=0
   ·rw [if_pos q,hz q,show mx 0 e=e by unfold mx;split <;> omega]
   ·rw [if_neg q]
    by_cases q2:e>s
    ·rw [if_pos q2,show mx s e=e by unfold mx;split <;> omega]
    ·rw [if_neg q2,show mx s e=s by unfold mx;split <;> omega]
  ·by_cases f4:f=4
   ·subst f4
    simp only [spec_l2Greatest.f,Option.bind_some,addF,hd]
    simp only [show ¬ ((4:Int)=1) by omega,show ¬ ((4:Int)=2) by omega,show ¬ ((4:Int)=3) by omega,if_false,if_true,beq_self_eq_true,Option.bind_some,decide_eq_true_eq]
    rw [if_pos (by omega),if_pos (by omega)]
    by_cases q:i=0
    ·rw [if_pos q,if_pos q]
    ·rw [if_neg q,if_neg q]
     by_cases q2:wrap64 (e - j.f3)>s
     ·rw [if_pos q2,show mx s (wrap64 (e - j.f3))=wrap64 (e - j.f3) by unfold mx;split <;> omega]
     ·rw [if_neg q2,show mx s (wrap64 (e - j.f3))=s by unfold mx;split <;> omega]
   ·have hg:spec_l2Greatest.f f=some false:=by unfold spec_l2Greatest.f;rw [if_neg f1];simpa using f4
    rw [hg,Option.bind_some]
    simp only [Bool.false_eq_true,if_false]
    rw [if_pos (by omega),if_pos (by omega)]
    have hc:spec_l2Cost.f j.f0 j.f1 j.f2 j.f3 e f=some (if f=2 then e else if f=3 then wrap64 (j.f1 * e) else if f=5 then mx 0 (wrap64 (e - j.f3)) else if f=6 then wrap64 (j.f1 * mx 0 (wrap64 (e - j.f3))) else if wrap64 (e - j.f3)≤0 then 0 else if f=7 then 1 else j.f1):=by
     unfold spec_l2Cost.f
     rw [spec_l1Most.val,Option.bind_some]
     have hm:(if wrap64 (e - j.f3)>0 then wrap64 (e - j.f3) else 0)=mx 0 (wrap64 (e - j.f3)):=by unfold mx;split <;> first|omega|(split <;> omega)
     rw [hm]
     have hm2:(mx 0 (wrap64 (e - j.f3))=0)=(wrap64 (e - j.f3)≤0):=by apply propext;unfold mx;split <;> omega
     simp only [hm2]
     repeat' split
     all_goals rfl
    rw [hc,Option.bind_some]
    congr 1
    unfold addF
    rw [if_neg f1,if_neg f4]
    repeat' split
    all_goals first|rfl|exact hw0

theorem endsAll_in (jobs:List J) (l:List Int) (h:TwoOk jobs l):∀ e ∈ endsAll jobs l,0≤e∧InI e:=by
 intro e he
 refine ⟨endsAll_nonneg jobs l h e he,?_⟩
 obtain ⟨i,hi,rfl⟩:=List.getElem_of_mem he
 rw [(endsAll_get jobs l h i (by rw [←endsAll_len jobs l];exact hi)).1]
 exact inI_wrap _

def pointF (jobs:List J) (f g:Int) (l:List Int):Int × Int:=(valF jobs (endsAll jobs l) f jobs.length 0 0,valF jobs (endsAll jobs l) g jobs.length 0 0)

def Obj8 (f:Int):Prop:=1≤f∧f≤8
theorem impl_isObjective.ev (f:Int):impl_isObjective.f f=some (decide (1≤f∧f≤8)):=by unfold impl_isObjective.f;rw [impl_within.eq];rfl

theorem spec_l2Objective.ev (f:Int):spec_l2Objective.f f=some (decide (1≤f∧f≤8)):=by unfold spec_l2Objective.f;rw [spec_l1In.eq];rfl

/-- A search through all orders, as the reference makes it: each job that is not there yet is put behind those that are. -/
theorem rec_all {σ:Type} (N:Nat) (upd:List Int→σ→σ) (Q:σ→Prop) (G:Nat→List Int→σ→Option σ) (Lp:Nat→List Int→Int→σ→Option σ)
  (hbase:∀ begun s,IsPerm N begun→Q s→Ev (fun k=>G k begun s) (upd begun s)∧Q (upd begun s))
  (hgo:∀ begun s r,begun.length<N→Ev (fun k=>Lp k begun 0 s) r→Ev (fun k=>G k begun s) r)
  (hend:∀ begun s,begun.length<N→Ev (fun k=>Lp k begun (N:Int) s) s)
  (hskip:∀ begun (i:Nat) s r,begun.length<N→i<N→(i:Int) ∈ begun→Ev (fun k=>Lp k begun ((i + 1:Nat):Int) s) r→Ev (fun k=>Lp k begun (i:Int) s) r)
  (hrec:∀ begun (i:Nat) s s' r,begun.length<N→i<N→(i:Int) ∉ begun→Ev (fun k=>G k (begun++[(i:Int)]) s) s'→Ev (fun k=>Lp k begun ((i + 1:Nat):Int) s') r→Ev (fun k=>Lp k begun (i:Int) s) r) :
  ∀ (n:Nat) (begun:List Int) (s:σ),begun.length + n=N→begun.Nodup→(∀ x ∈ begun,0≤x∧x<(N:Int))→Q s→Ev (fun k=>G k begun s) (foldP upd n (restOf N begun) begun s)∧Q (foldP upd n (restOf N begun) begun s)
 | 0,begun,s,hl,hn,hr,hq=>by
  rw [foldP]
  exact hbase begun s ⟨by omega,hn,hr⟩ hq
 | n + 1,begun,s,hl,hn,hr,hq=>by
  have key:=rev_ind (P:=fun i=>∀ s,Q s→Ev (fun k=>Lp k begun (i:Int) s) ((((nums_to N).drop i).filter fun y=>decide (y ∉ begun)).foldl (fun s x=>foldP upd n ((restOf N begun).erase x) (begun++[x]) s) s)∧Q ((((nums_to N).drop i).filter fun y=>decide (y ∉ begun)).foldl (fun s x=>foldP upd n ((restOf N begun).erase x) (begun++[x]) s) s)) N ?_ ?_ 0 (Nat.zero_le _) s hq
  ·rw [foldP]
   exact ⟨hgo begun s _ (by omega) key.1,key.2⟩
  ·intro s hq
   rw [List.drop_of_length_le (by rw [nums_to_length];omega)]
   exact ⟨hend begun s (by omega),hq⟩
  ·intro i hi ih s hq
   have hi2:(nums_to N)[i]'(by rw [nums_to_length];exact hi)=(i:Int):=by simp [nums_to]
   rw [drop_cons (by rw [nums_to_length];exact hi),hi2]
   by_cases hb:(i:Int) ∈ begun
   ·rw [List.filter_cons_of_neg (by simpa using hb)]
    exact ⟨hskip begun i s _ (by omega) hi hb (ih s hq).1,(ih s hq).2⟩
   ·rw [List.filter_cons_of_pos (by simpa using hb),List.foldl_cons]
    have hrec1:=rec_all N upd Q G Lp hbase hgo hend hskip hrec n (begun++[(i:Int)]) s (by simp;omega) (by
     rw [List.nodup_append]
     refine ⟨hn,by simp,fun a ha b hb2 e=>?_⟩
     rw [List.mem_singleton] at hb2
     exact hb (by rw [←hb2,←e];exact ha)) (fun x hx=>by
     rcases List.mem_append.1 hx with hx|hx
     ·exact hr x hx
     ·rw [List.mem_singleton] at hx;omega) hq
    rw [←restOf_erase] at hrec1
    have nxt:=ih _ hrec1.2
    exact ⟨hrec begun i s _ _ (by omega) hi hb hrec1.1 nxt.1,nxt.2⟩
theorem rec_start {σ:Type} (N:Nat) (upd:List Int→σ→σ) (s:σ):foldP upd N (restOf N []) [] s=(perms N (nums_to N)).foldl (fun s l=>upd l s) s:=by
 rw [foldP_perms,restOf_nil]
 rfl
/-- Two searches side by side. -/
theorem fold_sim {σ τ:Type} (R:σ→τ→Prop) (u:List Int→σ→σ) (v:List Int→τ→τ):∀ (P:List (List Int)) (s:σ) (t:τ),R s t→(∀ l ∈ P,∀ s t,R s t→R (u l s) (v l t))→R (P.foldl (fun s l=>u l s) s) (P.foldl (fun t l=>v l t) t)
 | [],_,_,h,_=>h
 | l::P,s,t,h,hs=>by
  rw [List.foldl_cons,List.foldl_cons]
  exact fold_sim R u v P _ _ (hs l List.mem_cons_self s t h) (fun l h=>hs l (List.mem_cons_of_mem _ h))

theorem spec_l1Own.eq (l:List Int) (h:l.length≤1000000000000):spec_l1Own.f l=some l:=by
 simp only [spec_l1Own.f,Option.bind_some]
 rw [if_pos (by simp;omega)]
 rfl

theorem perms_ne:∀ (n:Nat) (L:List Int),L.length=n→perms n L≠[]
 | 0,L,h=>by rw [perms];simp
 | n + 1,L,h=>by
  cases L with
  | nil=>simp at h
  | cons x t=>
   rw [perms,List.flatMap_cons]
   have:=perms_ne n ((x::t).erase x) (by rw [List.length_erase_of_mem List.mem_cons_self];simp at h ⊢;omega)
   intro c
   have c1:=(List.append_eq_nil_iff.1 c).1
   rw [List.map_eq_nil_iff] at c1
   exact this c1
/-- What holds behind any round holds at the end, if there is a round. -/
theorem fold_end {σ:Type} (u:List Int→σ→σ) (P:σ→Prop) (hs:∀ l s,P (u l s)∨u l s=s) (h1:∀ l s,P s→P (u l s)):∀ (L:List (List Int)) (s:σ),P s→P (L.foldl (fun s l=>u l s) s)
 | [],s,h=>h
 | l::L,s,h=>by rw [List.foldl_cons];exact fold_end u P hs h1 L _ (h1 l s h)

def valJ (jobs:List J) (l:List Int) (f:Int):Int:=valF jobs (endsAll jobs l) f jobs.length 0 0
theorem spec_l2Value.ev (jobs:List J) (l:List Int) (f:Int) (h:TwoOk jobs l) (hf:Obj8 f):Ev (fun k=>spec_l2Value.f k jobs l f) (valJ jobs l f):=by
 have h8:=h.1.1
 unfold spec_l2Value.f
 exact ev_bind (endsAll jobs l) (spec_l2Ends.ev jobs l h) (ev_bind _ (spec_l2Of.ev jobs _ f (endsAll_len jobs l) (by omega) hf (endsAll_in jobs l h)) (Ev.now _))
theorem impl_valueOf.ev (jobs:List J) (l:List Int) (f:Int) (h:TwoOk jobs l):Ev (fun k=>impl_valueOf.f k jobs l f) (valJ jobs l f):=by
 have h8:=h.1.1
 have hl:=h.2.1
 unfold impl_valueOf.f
 exact ev_bind (endsAll jobs l) (impl_endsOf.ev jobs l (by omega) (by omega) h.2.2.2) (ev_bind _ (impl_valueOfEnds.ev jobs _ f (endsAll_len jobs l) (by omega)) (Ev.now _))

def bsU (jobs:List J) (f:Int) (l:List Int) (s:List Int × Int × Int):List Int × Int × Int:=if s.2.2=0∨valJ jobs l f<s.2.1 then (l,valJ jobs l f,1) else if valJ jobs l f=s.2.1 then (s.1,s.2.1,wrap64 (s.2.2 + 1)) else s
theorem spec_l2Try.ev (jobs:List J) (f:Int) (hj:JobsOk jobs) (hf:Obj8 f):Ev (fun k=>spec_l2Try.f k jobs [] f [] 0 0) ((perms jobs.length (nums_to jobs.length)).foldl (fun s l=>bsU jobs f l s) ([],0,0)):=by
 have h8:=hj.1
 have key:=rec_all jobs.length (bsU jobs f) (fun _=>True) (fun k b s=>spec_l2Try.f k jobs b f s.1 s.2.1 s.2.2) (fun k b i s=>spec_l2Try.l0 k jobs b f i s.1 s.2.1 s.2.2) ?_ ?_ ?_ ?_ ?_ jobs.length [] ([],0,0) (by simp) (by simp) (by simp) trivial
 ·rw [←rec_start]
  exact key.1
 ·intro b s hb _
  refine ⟨?_,trivial⟩
  have hp:=spec_l2Value.ev jobs b f ⟨hj,hb⟩ hf
  have own:=spec_l1Own.eq b (by have:=hb.1;omega)
  refine ev_go (fun k=>(spec_l2Value.f k jobs b f).bind fun p=>spec_l2Try.j0 k b p (decide (s.2.2=0∨p<s.2.1)) s.1 s.2.1 s.2.2) (fun k=>?_) (ev_bind _ hp ?_)
  ·simp only [spec_l2Try.f]
   rw [if_pos (by have:=hb.1;omega)]
   congr 1
   funext p
   by_cases c:s.2.2=0
   ·rw [if_pos c,decide_eq_true (.inl c)]
   ·rw [if_neg c]
    by_cases d:p<s.2.1
    ·rw [decide_eq_true d,decide_eq_true (.inr d)]
    ·rw [decide_eq_false d,decide_eq_false (by rintro (h|h);exact c h;exact d h)]
  ·skip
   refine ev_stop fun k=>?_
   unfold bsU
   by_cases c:s.2.2=0∨valJ jobs b f<s.2.1
   ·simp only [spec_l2Try.j0,if_pos c,decide_eq_true c,if_true,own,Option.bind_some]
   ·by_cases d:valJ jobs b f=s.2.1
    ·simp only [spec_l2Try.j0,if_neg c,decide_eq_false c,Bool.false_eq_true,if_false,if_pos d]
    ·simp only [spec_l2Try.j0,if_neg c,decide_eq_false c,Bool.false_eq_true,if_false,if_neg d]
 ·intro b s r hb h
  refine ev_go _ (fun k=>?_) h
  simp only [spec_l2Try.f];rw [if_neg (by omega)]
 ·intro b s _
  refine ev_stop fun k=>?_
  simp only [spec_l2Try.l0];rw [if_neg (by omega)]
 ·intro b i s r hb hi hm h
  refine ev_go (fun k=>(spec_l1Has.f k b (i:Int)).bind fun t=>if t=true then spec_l2Try.l0 k jobs b f ((i + 1:Nat):Int) s.1 s.2.1 s.2.2 else ((spec_l2Try.f k jobs (b++[(i:Int)]) f s.1 s.2.1 s.2.2).bind fun q=>(spec_l2Try.l0 k jobs b f ((i + 1:Nat):Int) q.1 q.2.1 q.2.2))) (fun k=>?_) (evB_bind (spec_l1Has.ev b (i:Int) (by omega)) (fun _=>by simp only [if_true];exact h) (fun hn=>absurd hm hn))
  simp only [spec_l2Try.l0];rw [if_pos (by omega),wr1 (by omega),spec_l1Own.eq b (by omega)]
  simp only [Option.bind_some]
  rw [if_pos (by simp;omega)]
 ·intro b i s s' r hb hi hm h1 h2
  refine ev_go (fun k=>(spec_l1Has.f k b (i:Int)).bind fun t=>if t=true then spec_l2Try.l0 k jobs b f ((i + 1:Nat):Int) s.1 s.2.1 s.2.2 else ((spec_l2Try.f k jobs (b++[(i:Int)]) f s.1 s.2.1 s.2.2).bind fun q=>(spec_l2Try.l0 k jobs b f ((i + 1:Nat):Int) q.1 q.2.1 q.2.2))) (fun k=>?_) (evB_bind (spec_l1Has.ev b (i:Int) (by omega)) (fun hn=>absurd hn hm) (fun _=>by simp only [Bool.false_eq_true,if_false];exact ev_bind _ h1 h2))
  simp only [spec_l2Try.l0];rw [if_pos (by omega),wr1 (by omega),spec_l1Own.eq b (by omega)]
  simp only [Option.bind_some]
  rw [if_pos (by simp;omega)]
def bestF (jobs:List J) (f:Int):List Int × Int × Int:=(perms jobs.length (nums_to jobs.length)).foldl (fun s l=>bsU jobs f l s) ([],0,0)
theorem spec_l2Best.ev (jobs:List J) (f:Int) (hj:JobsOk jobs) (hf:Obj8 f):Ev (fun k=>spec_l2Best.f k jobs f) ((bestF jobs f).1,(bestF jobs f).2.1):=by
 unfold spec_l2Best.f spec_l2All.f
 exact ev_bind _ (ev_bind _ (spec_l2Try.ev jobs f hj hf) (Ev.now _)) (Ev.now _)
theorem impl_best.ev (jobs:List J) (f:Int) (hj:JobsOk jobs):Ev (fun k=>impl_best.f k jobs f) (bestF jobs f):=by
 have h8:=hj.1
 unfold impl_best.f
 refine impl_eachOrder.ev (impl_best.step jobs f) (bsU jobs f) (fun _=>True) jobs.length (by omega) ([],0,0) (fun l hl s _=>⟨?_,trivial⟩) trivial
 unfold impl_best.step
 have hcp:=impl_copyInts.eq l (by have:=hl.1;omega)
 simp only [if_pos hcp]
 exact ev_bind _ (impl_valueOf.ev jobs l f ⟨hj,hl⟩) (Ev.now _)

end Go.Proofs.Ytkolecmpncaooaa.Pure
-- minified
