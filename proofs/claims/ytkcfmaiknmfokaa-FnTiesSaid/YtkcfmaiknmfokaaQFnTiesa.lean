/- Proved here: what functions that the law FnTies reaches answer (base, perm, spec_l1In, impl_within, impl_isNumber, rdLInt, jobT, spec_l2Good, impl_IsJobs, plainOk, spec_l3Plain, impl_isPlain, demandF, guard, twoOk, startsF, impl_endsOf, endsAll, ruledOk, spec_l3Ruled, impl_isRuled, gapF, spec_l3Gap, impl_difference, sortP, insCongr, impl_numbersTo, spec_l3Order,). Conditions: those that each theorem names. -/
import Derived.Test.YtkcfmaiknmfokaaXFnTiesx0
import Derived.Test.YtkcfmaiknmfokaaXFnTiesx1
import Derived.Test.YtkcfmaiknmfokaaXFnTiesx2
import Derived.Test.YtkcfmaiknmfokaaXFnTiesx3
import Derived.Test.YtkcfmaiknmfokaaXFnTiesx4
import Derived.Test.YtkcfmaiknmfokaaXFnTiesx5
import Derived.Test.YtkcfmaiknmfokaaXFnTiesx6
import Derived.Test.YtkcfmaiknmfokaaXFnTiesx7
import Derived.Test.YtkcfmaiknmfokaaXFnTiesx8
import Derived.Test.YtkcfmaiknmfokaaXFnTiesx9
import Derived.Test.YtkcfmaiknmfokaaXFnTiesx10
import Derived.Test.YtkcfmaiknmfokaaXFnTiesx11
import Derived.Test.YtkcfmaiknmfokaaXFnTiesx12
import Derived.Test.YtkcfmaiknmfokaaXFnTiesx13
import Derived.Test.YtkcfmaiknmfokaaXFnTiesx14
import Derived.Test.YtkcfmaiknmfokaaXFnTiesx15
import Derived.Test.YtkcfmaiknmfokaaXFnTiesx16
import Derived.Test.YtkcfmaiknmfokaaXFnTiesx17
import Derived.Test.YtkcfmaiknmfokaaXFnTiesx18
import Derived.Test.YtkcfmaiknmfokaaXFnTiesx19
import Derived.Test.YtkcfmaiknmfokaaXFnTiesx20
import Derived.Test.YtkcfmaiknmfokaaXFnTiesx21
import Derived.Test.YtkcfmaiknmfokaaXFnTiesx22
set_option linter.unusedVariables false
set_option linter.unusedSimpArgs false
namespace Go.Proofs.Ytkcfmaiknmfokaa.Pure
open Go.RowKit Go.Proofs.Ytkcfmaiknmfokaa.XFnTies Go.Proofs.YtkcfmaiknmfokaaW.PrintWords Go.Proofs.YtkcfmaiknmfokaaW.PrintLast

theorem wr {x:Int} (h0 : -9223372036854775808≤x) (h1:x≤9223372036854775807):wrap64 x=x:=by unfold wrap64;omega
theorem wr1 {i:Nat} (h:i<1000000000000000000):wrap64 ((i:Int) + 1)=((i + 1:Nat):Int):=by rw [wr (by omega) (by omega)];omega
theorem rev_ind {P:Nat→Prop} (n:Nat) (hn:P n) (hs:∀ i,i<n→P (i + 1)→P i):∀ i,i≤n→P i:=by
 intro i hi
 obtain ⟨d,rfl⟩:∃ d,n=i + d:=⟨n - i,by omega⟩
 clear hi
 induction d generalizing i with
 | zero=>exact hn
 | succ d ih=>
  refine hs i (by omega) (ih (i + 1) ?_ ?_)
  ·rw [show i + 1 + d=i + (d + 1) by omega];exact hn
  ·intro j hj;exact hs j (by omega)
theorem ev_stop {α:Type} {g:Nat→Option α} {r:α} (h:∀ k,g (k + 1)=some r):Ev g r:=Ev.step h (Ev.now r)
theorem ev_go {α:Type} {g:Nat→Option α} (f:Nat→Option α) {r:α} (h:∀ k,g (k + 1)=f k) (k:Ev f r):Ev g r:=Ev.step h k
theorem ev_ite {α:Type} {c:Prop} [Decidable c] {g f:Nat→Option α} {r:α} (h1:c→Ev g r) (h2:¬ c→Ev f r):Ev (fun k=>if c then g k else f k) r:=by
 by_cases h:c
 ·simp only [if_pos h];exact h1 h
 ·simp only [if_neg h];exact h2 h
theorem ev_bind {α β:Type} {g:Nat→Option α} {f:Nat→α→Option β} (a:α) {r:β} (h:Ev g a) (k:Ev (fun n=>f n a) r):Ev (fun n=>(g n).bind (f n)) r:=Ev.bind h k
theorem ev_eq {α:Type} {g:Nat→Option α} {r r':α} (h:Ev g r) (e:r=r'):Ev g r':=e ▸ h
/-- A bool that is told in the end, and what it says. -/
def EvB (g:Nat→Option Bool) (P:Prop):Prop:=∃ b:Bool,Ev g b∧(b=true ↔ P)
theorem evB_true {g:Nat→Option Bool} {P:Prop} (h:EvB g P) (hp:P):Ev g true:=by
 obtain ⟨b,hb,e⟩:=h
 rw [e.2 hp] at hb
 exact hb
theorem evB_false {g:Nat→Option Bool} {P:Prop} (h:EvB g P) (hp:¬ P):Ev g false:=by
 obtain ⟨b,hb,e⟩:=h
 cases b with
 | true=>exact absurd (e.1 rfl) hp
 | false=>exact hb
theorem evB_of {g:Nat→Option Bool} {P:Prop} (h1:P→Ev g true) (h2:¬ P→Ev g false):EvB g P:=by
 by_cases h:P
 ·exact ⟨true,h1 h,by simp [h]⟩
 ·exact ⟨false,h2 h,by simp [h]⟩
theorem evB_iff {g:Nat→Option Bool} {P Q:Prop} (h:EvB g P) (e:P ↔ Q):EvB g Q:=by
 obtain ⟨b,hb,e'⟩:=h
 exact ⟨b,hb,e'.trans e⟩
theorem evB_bind {g:Nat→Option Bool} {P:Prop} {α:Type} {f:Nat→Bool→Option α} {r:α} (h:EvB g P) (h1:P→Ev (fun n=>f n true) r) (h2:¬ P→Ev (fun n=>f n false) r):Ev (fun n=>(g n).bind (f n)) r:=by
 by_cases hp:P
 ·exact Ev.bind (evB_true h hp) (h1 hp)
 ·exact Ev.bind (evB_false h hp) (h2 hp)
theorem evB_same {g f:Nat→Option Bool} {P:Prop} (h:EvB g P) (k:EvB f P):∃ b,Ev g b∧Ev f b:=by
 obtain ⟨b,hb,e⟩:=h
 obtain ⟨c,hc,e'⟩:=k
 have:b=c:=by
  cases b <;> cases c <;> simp_all
 subst this
 exact ⟨b,hb,hc⟩
theorem some_bool (P:Prop) [Decidable P] {g:Nat→Option Bool} (h:∀ k,g k=some (decide P)):EvB g P:=⟨decide P,⟨0,fun k _=>h k⟩,by simp⟩
theorem rd_nat {l:List Int} {i:Nat} (h:i<l.length):rd l (i:Int)=l[i]:=by simp [rd,h]
theorem rd_zero {l:List Int} (h:0<l.length):rd l 0=l[0]:=by simp [rd,h]
theorem drop_cons {α:Type} {l:List α} {i:Nat} (h:i<l.length):l.drop i=l[i]::l.drop (i + 1):=List.drop_eq_getElem_cons h
theorem set_copy {α:Type} {l z:List α} {i:Nat} (h:i<l.length) (hz:i<z.length):(l.take i++z.drop i).set i l[i]=l.take (i + 1)++z.drop (i + 1):=by
 have hl:(l.take i).length=i:=by simp;omega
 rw [List.set_append_right _ _ (by omega),hl,Nat.sub_self,drop_cons hz,List.set_cons_zero,List.take_succ_eq_append_getElem h,List.append_assoc]
 rfl

theorem nodup_sub {α:Type} [DecidableEq α]:∀ {l s:List α},l.Nodup→(∀ x ∈ l,x ∈ s)→l.length≤s.length
 | [],_,_,_=>Nat.zero_le _
 | a::l,s,hn,hs=>by
  have ha:a ∈ s:=hs a List.mem_cons_self
  have hn':=List.nodup_cons.1 hn
  have:=nodup_sub (l:=l) (s:=s.erase a) hn'.2 (fun x hx=>by
   have hne:x≠a:=fun e=>hn'.1 (e ▸ hx)
   exact (List.mem_erase_of_ne hne).2 (hs x (List.mem_cons_of_mem _ hx)))
  have hp:0<s.length:=List.length_pos_of_mem ha
  rw [List.length_erase_of_mem ha] at this
  simp only [List.length_cons]
  omega
/-- The numbers 0..n-1. -/
def nums_to (n:Nat):List Int:=(List.range n).map fun (i:Nat)=>(i:Int)
theorem mem_nums_to {n:Nat} {x:Int} : x ∈ nums_to n ↔ 0≤x∧x<n:=by
 unfold nums_to
 simp only [List.mem_map,List.mem_range]
 constructor
 ·rintro ⟨i,hi,rfl⟩;omega
 ·rintro ⟨h0,h1⟩;exact ⟨x.toNat,by omega,by omega⟩
theorem nums_to_nodup (n:Nat):(nums_to n).Nodup:=by
 unfold nums_to
 rw [List.nodup_iff_pairwise_ne]
 rw [List.pairwise_map]
 exact (List.nodup_iff_pairwise_ne.1 List.nodup_range).imp (fun h e=>h (by omega))
theorem nums_to_length (n:Nat):(nums_to n).length=n:=by simp [nums_to]
/-- An order of n jobs. -/
def IsPerm (n:Nat) (l:List Int):Prop:=l.length=n∧l.Nodup∧∀ x ∈ l,0≤x∧x<n
theorem IsPerm.all {n:Nat} {l:List Int} (h:IsPerm n l) (x:Int) (h0:0≤x) (h1:x<n):x ∈ l:=by
 obtain ⟨hl,hn,hr⟩:=h
 by_cases hx:x ∈ l
 ·exact hx
 ·have:=nodup_sub (l:=x::l) (s:=nums_to n) (List.nodup_cons.2 ⟨hx,hn⟩) (fun y hy=>by
   rcases List.mem_cons.1 hy with rfl|hy
   ·exact mem_nums_to.2 ⟨h0,h1⟩
   ·exact mem_nums_to.2 (hr y hy))
  rw [nums_to_length] at this
  simp at this
  omega
theorem isPerm_of_all {n:Nat} {l:List Int} (hl:l.length=n) (ha:∀ x,0≤x→x<(n:Int)→x ∈ l):IsPerm n l:=by
 have big:∀ s:List Int,(∀ x,0≤x→x<(n:Int)→x ∈ s)→n≤s.length:=fun s hs=>by
  have:=nodup_sub (nums_to_nodup n) (fun x hx=>hs x (mem_nums_to.1 hx).1 (mem_nums_to.1 hx).2)
  rwa [nums_to_length] at this
 refine ⟨hl,?_,fun x hx=>?_⟩
 ·by_cases hn:l.Nodup
  ·exact hn
  ·exfalso
   have:∃ a,a ∈ l.erase a∧a ∈ l:=by
    clear hl ha big
    induction l with
    | nil=>exact absurd List.nodup_nil hn
    | cons b l ih=>
     by_cases hb:b ∈ l
     ·exact ⟨b,by simp [hb],List.mem_cons_self⟩
     ·obtain ⟨a,h1,h2⟩:=ih (fun h=>hn (List.nodup_cons.2 ⟨hb,h⟩))
      have hne:b≠a:=fun e=>hb (e ▸ h2)
      refine ⟨a,?_,List.mem_cons_of_mem _ h2⟩
      rw [List.erase_cons_tail (by simpa using hne)]
      exact List.mem_cons_of_mem _ h1
   obtain ⟨a,h1,h2⟩:=this
   have:=big (l.erase a) (fun x h0 h1'=>by
    by_cases e:x=a
    ·subst e;exact h1
    ·exact (List.mem_erase_of_ne e).2 (ha x h0 h1'))
   rw [List.length_erase_of_mem h2] at this
   have:=List.length_pos_of_mem h2
   omega
 ·by_cases hr:0≤x∧x<(n:Int)
  ·exact hr
  ·exfalso
   have:=big (l.erase x) (fun y h0 h1=>(List.mem_erase_of_ne (fun e=>hr (by rw [←e];exact ⟨h0,h1⟩))).2 (ha y h0 h1))
   rw [List.length_erase_of_mem hx] at this
   have:=List.length_pos_of_mem hx
   omega
theorem nodup_drop_step {l:List Int} {i:Nat} (h:i<l.length):(∀ j (hj:j<l.length),i≤j→l[j] ∉ l.take j) ↔ l[i] ∉ l.take i∧(∀ j (hj:j<l.length),i + 1≤j→l[j] ∉ l.take j):=by
 constructor
 ·intro H;exact ⟨H i h (Nat.le_refl _),fun j hj hij=>H j hj (by omega)⟩
 ·rintro ⟨h0,H⟩ j hj hij
  by_cases e:j=i
  ·subst e;exact h0
  ·exact H j hj (by omega)
theorem nodup_iff_take {l:List Int} : l.Nodup ↔ ∀ j (hj:j<l.length),l[j] ∉ l.take j:=by
 rw [List.nodup_iff_pairwise_ne,List.pairwise_iff_getElem]
 constructor
 ·intro H j hj hm
  obtain ⟨i,hi,e⟩:=List.getElem_of_mem hm
  simp only [List.length_take] at hi
  rw [List.getElem_take] at e
  exact H i j (by omega) hj (by omega) e
 ·intro H i j hi hj hij e
  refine H j hj ?_
  rw [←e]
  exact List.mem_take_iff_getElem.2 ⟨i,by omega,rfl⟩

theorem spec_l1In.eq (a b c:Int):spec_l1In.f a b c=some (decide (b≤a∧a≤c)):=by
 unfold spec_l1In.f
 by_cases h:a≥b
 ·rw [if_pos h];congr 1;simp;omega
 ·rw [if_neg h];congr 1;simp;omega

theorem impl_within.eq (a b c:Int):impl_within.f a b c=some (decide (b≤a∧a≤c)):=by
 unfold impl_within.f
 by_cases h:b≤a
 ·rw [if_pos h];congr 1;simp;omega
 ·rw [if_neg h];congr 1;simp;omega

theorem impl_isNumber.eq (a n:Int) (h0:0≤n) (h1:n≤1000000000000000):impl_isNumber.f a n=some (decide (0≤a∧a<n)):=by
 unfold impl_isNumber.f
 rw [impl_within.eq,Option.bind_some,wr (by omega) (by omega)]
 simp only [Option.some.injEq,decide_eq_decide];omega

theorem rdL_nat {l:List (List Int)} {i:Nat} (h:i<l.length):rd_L3 l (i:Int)=l[i]:=by simp [rd_L3,h]
theorem rdL_zero {l:List (List Int)} (h:0<l.length):rd_L3 l 0=l[0]:=by simp [rd_L3,h]

abbrev J:=S44
theorem rdJ {l:List J} {i:Nat} (h:i<l.length):rd_T44 l (i:Int)=l[i]:=by simp [rd_T44,h]
theorem rdJ_zero {l:List J} (h:0<l.length):rd_T44 l 0=l[0]:=by simp [rd_T44,h]
/-- A valid job. -/
def JobOk (j:J):Prop:=(1≤j.f0∧j.f0≤50)∧(0≤j.f1∧j.f1≤50)∧(0≤j.f2∧j.f2≤500)∧(0≤j.f3∧j.f3≤500)
/-- A list of jobs. -/
def JobsOk (l:List J):Prop:=l.length≤8∧∀ j ∈ l,JobOk j

theorem spec_l2Job.eq (j:J):∃ c,spec_l2Job.f j.f0 j.f1 j.f2 j.f3=some c∧(c=true ↔ JobOk j):=by
 unfold spec_l2Job.f JobOk
 simp only [spec_l1In.eq,Option.bind_some]
 by_cases h0:1≤j.f0∧j.f0≤50
 ·by_cases h1:0≤j.f1∧j.f1≤50
  ·by_cases h2:0≤j.f2∧j.f2≤500
   ·exact ⟨decide (0≤j.f3∧j.f3≤500),by simp [h0,h1,h2],by simp [h0,h1,h2]⟩
   ·exact ⟨false,by simp [h0,h1,h2],by simp [h2]⟩
  ·exact ⟨false,by simp [h0,h1],by simp [h1]⟩
 ·exact ⟨false,by simp [h0],by simp [h0]⟩
theorem spec_l2Good.ev (l:List J) (hl:l.length≤1000000000000000):EvB (fun k=>spec_l2Good.f k l) (JobsOk l):=by
 have key:=rev_ind (P:=fun i=>EvB (fun k=>spec_l2Good.l0 k l (i:Int)) (l.length≤8∧∀ j ∈ l.drop i,JobOk j)) l.length ?_ ?_ 0 (Nat.zero_le _)
 ·simpa [spec_l2Good.f,JobsOk] using key
 ·refine ⟨decide ((l.length:Int)≤8),ev_stop fun k=>?_,by simp;omega⟩
  simp only [spec_l2Good.l0];rw [if_neg (by omega)]
 ·intro i hi ih
  rw [drop_cons hi]
  obtain ⟨c,hc,hce⟩:=spec_l2Job.eq l[i]
  by_cases q:JobOk l[i]
  ·obtain ⟨b,hb,hP⟩:=ih
   refine ⟨b,ev_go _ (fun k=>?_) hb,hP.trans ⟨fun h=>⟨h.1,fun x hx=>?_⟩,fun h=>⟨h.1,fun x hx=>h.2 x (List.mem_cons_of_mem _ hx)⟩⟩⟩
   ·simp only [spec_l2Good.l0];rw [if_pos (by omega),if_pos (by omega),rdJ hi,hc,Option.bind_some,if_pos (hce.2 q),wr1 (by omega)]
   ·rcases List.mem_cons.1 hx with rfl|hx
    ·exact q
    ·exact h.2 x hx
  ·refine evB_of (fun h=>absurd (h.2 _ List.mem_cons_self) q) (fun _=>ev_stop fun k=>?_)
   simp only [spec_l2Good.l0];rw [if_pos (by omega),if_pos (by omega),rdJ hi,hc,Option.bind_some,if_neg (fun h=>q (hce.1 h))]

theorem impl_IsJobs.ev (l:List J):EvB (fun k=>impl_IsJobs.f k l) (JobsOk l):=by
 unfold impl_IsJobs.f
 by_cases h8:(l.length:Int)>8
 ·simp only [if_pos h8]
  exact evB_of (fun h=>absurd h.1 (by omega)) (fun _=>Ev.now _)
 ·simp only [if_neg h8]
  have key:=rev_ind (P:=fun i=>EvB (fun k=>impl_IsJobs.l0 k l (l.length:Int) (i:Int)) (∀ j ∈ l.drop i,JobOk j)) l.length ?_ ?_ 0 (Nat.zero_le _)
  ·refine evB_iff (by simpa using key) ⟨fun h=>⟨by omega,h⟩,fun h=>h.2⟩
  ·refine evB_of (fun _=>ev_stop fun k=>?_) (fun h=>absurd (by simp) h)
   simp only [impl_IsJobs.l0];rw [if_neg (by omega)]
  ·intro i hi ih
   rw [drop_cons hi]
   by_cases q:JobOk l[i]
   ·obtain ⟨b,hb,hP⟩:=ih
    refine ⟨b,ev_go _ (fun k=>?_) hb,hP.trans ⟨fun h x hx=>?_,fun h x hx=>h x (List.mem_cons_of_mem _ hx)⟩⟩
    ·simp only [impl_IsJobs.l0,impl_within.eq,impl_isDate.f,Option.bind_some]
     rw [if_pos (by omega),if_pos (by omega),if_pos (by omega),rdJ hi,if_pos (by simpa using q.1),if_pos (by simpa using q.2.1),if_pos (by simpa using q.2.2.1),if_pos (by simpa using q.2.2.2),wr1 (by omega)]
    ·rcases List.mem_cons.1 hx with rfl|hx
     ·exact q
     ·exact h x hx
   ·refine evB_of (fun h=>absurd (h _ List.mem_cons_self) q) (fun _=>ev_stop fun k=>?_)
    simp only [impl_IsJobs.l0,impl_within.eq,impl_isDate.f,Option.bind_some]
    rw [if_pos (by omega),if_pos (by omega),if_pos (by omega),rdJ hi]
    unfold JobOk at q
    by_cases h0:1≤l[i].f0∧l[i].f0≤50
    ·rw [if_pos (by simpa using h0)]
     by_cases h1:0≤l[i].f1∧l[i].f1≤50
     ·rw [if_pos (by simpa using h1)]
      by_cases h2:0≤l[i].f2∧l[i].f2≤500
      ·rw [if_pos (by simpa using h2)]
       by_cases h3:0≤l[i].f3∧l[i].f3≤500
       ·exact absurd ⟨h0,h1,h2,h3⟩ q
       ·rw [if_neg (by simpa using h3)]
      ·rw [if_neg (by simpa using h2)]
     ·rw [if_neg (by simpa using h1)]
    ·rw [if_neg (by simpa using h0)]

def NoRel (l:List J):Prop:=∀ j ∈ l,j.f2=0
def PlainOk (l:List J):Prop:=JobsOk l∧NoRel l
theorem noRel_cons {x:J} {l:List J} : NoRel (x::l) ↔ x.f2=0∧NoRel l:=by simp [NoRel]

theorem spec_l3Plain.ev (l:List J) (hl:l.length≤1000000000000):EvB (fun k=>spec_l3Plain.f k l) (NoRel l):=by
 have key:=rev_ind (P:=fun i=>EvB (fun k=>spec_l3Plain.l0 k l (i:Int)) (NoRel (l.drop i))) l.length ?_ ?_ 0 (Nat.zero_le _)
 ·simpa [spec_l3Plain.f] using key
 ·refine evB_of (fun _=>ev_stop fun k=>?_) (fun h=>absurd (by rw [List.drop_length];intro j hj;cases hj) h)
  simp only [spec_l3Plain.l0];rw [if_neg (by omega)]
 ·intro i hi ih
  rw [drop_cons hi,noRel_cons]
  by_cases q:l[i].f2=0
  ·obtain ⟨c,hb,hP⟩:=ih
   refine ⟨c,ev_go _ (fun k=>?_) hb,hP.trans ⟨fun h=>⟨q,h⟩,fun h=>h.2⟩⟩
   simp only [spec_l3Plain.l0];rw [if_pos (by omega),if_pos (by omega),rdJ hi,if_pos q,wr1 (by omega)]
  ·refine evB_of (fun h=>absurd h.1 q) (fun _=>ev_stop fun k=>?_)
   simp only [spec_l3Plain.l0];rw [if_pos (by omega),if_pos (by omega),rdJ hi,if_neg q]

theorem impl_isPlain.ev (l:List J) (hl:l.length≤1000000000000):EvB (fun k=>impl_isPlain.f k l) (NoRel l):=by
 have key:=rev_ind (P:=fun i=>EvB (fun k=>impl_isPlain.l0 k l (l.length:Int) (i:Int)) (NoRel (l.drop i))) l.length ?_ ?_ 0 (Nat.zero_le _)
 ·simpa [impl_isPlain.f] using key
 ·refine evB_of (fun _=>ev_stop fun k=>?_) (fun h=>absurd (by rw [List.drop_length];intro j hj;cases hj) h)
  simp only [impl_isPlain.l0];rw [if_neg (by omega)]
 ·intro i hi ih
  rw [drop_cons hi,noRel_cons]
  by_cases q:l[i].f2=0
  ·obtain ⟨c,hb,hP⟩:=ih
   refine ⟨c,ev_go _ (fun k=>?_) hb,hP.trans ⟨fun h=>⟨q,h⟩,fun h=>h.2⟩⟩
   simp only [impl_isPlain.l0];rw [if_pos (by omega),if_pos (by omega),if_pos (by omega),rdJ hi,if_pos q,wr1 (by omega)]
  ·refine evB_of (fun h=>absurd h.1 q) (fun _=>ev_stop fun k=>?_)
   simp only [impl_isPlain.l0];rw [if_pos (by omega),if_pos (by omega),if_pos (by omega),rdJ hi,if_neg q]

theorem rdJ_int {l:List J} {x:Int} (h0:0≤x) (h1:x<l.length):rd_T44 l x=l[x.toNat]'(by omega):=by
 have:x.toNat<l.length:=by omega
 simp [rd_T44,this]
def demandF (jobs:List J):List Int→Int→Int→Int
 | [],t,s=>wrap64 (Int.tdiv (wrap64 ((wrap64 (t * t)) + s)) 2)
 | x::xs,t,s=>demandF jobs xs (wrap64 (t + (rd_T44 jobs x).f0)) (wrap64 (s + (wrap64 ((rd_T44 jobs x).f0 * (rd_T44 jobs x).f0))))

theorem ev_guard {g:Nat→Option Bool} {P:Prop} {α:Type} {F:Nat→Option α} {z r:α} (h:EvB g P) (h1:P→Ev F r) (h2:¬ P→r=z):Ev (fun n=>(g n).bind fun t=>if t=true then F n else some z) r:=by
 refine evB_bind h (fun hp=>?_) (fun hp=>?_)
 ·simp only [if_true];exact h1 hp
 ·simp only [Bool.false_eq_true,if_false];rw [h2 hp];exact Ev.now _
theorem ev_guard' {g:Nat→Option Bool} {P:Prop} {α:Type} {F G:Nat→Option α} {r:α} (h:EvB g P) (h1:P→Ev F r) (h2:¬ P→Ev G r):Ev (fun n=>(g n).bind fun t=>if t=true then F n else G n) r:=by
 refine evB_bind h (fun hp=>?_) (fun hp=>?_)
 ·simp only [if_true];exact h1 hp
 ·simp only [Bool.false_eq_true,if_false];exact h2 hp

/-- Jobs, and an order of them. -/
def TwoOk (jobs:List J) (l:List Int):Prop:=JobsOk jobs∧IsPerm jobs.length l

def startsF (jobs:List J):List Int→List Int→Int→List Int
 | [],out,_=>out
 | x::xs,out,now=>startsF jobs xs (out.set x.toNat (mx now (rd_T44 jobs x).f2)) (wrap64 (mx now (rd_T44 jobs x).f2 + (rd_T44 jobs x).f0))
def endsF (jobs:List J):List Int→List Int→Int→List Int
 | [],out,_=>out
 | x::xs,out,now=>endsF jobs xs (out.set x.toNat (wrap64 (mx now (rd_T44 jobs x).f2 + (rd_T44 jobs x).f0))) (wrap64 (mx now (rd_T44 jobs x).f2 + (rd_T44 jobs x).f0))
theorem startsF_len (jobs:List J):∀ (l out:List Int) (now:Int),(startsF jobs l out now).length=out.length
 | [],_,_=>rfl
 | x::xs,out,now=>by rw [startsF,startsF_len];simp
theorem endsF_len (jobs:List J):∀ (l out:List Int) (now:Int),(endsF jobs l out now).length=out.length
 | [],_,_=>rfl
 | x::xs,out,now=>by rw [endsF,endsF_len];simp
def InI (x:Int):Prop:= -9223372036854775808≤x∧x≤9223372036854775807
theorem inI_wrap (x:Int):InI (wrap64 x):=by unfold InI wrap64;omega
theorem mx_inI {a b:Int} (ha:InI a) (hb:InI b):InI (mx a b):=by unfold mx InI at *;split <;> omega
/-- Each job's end is its start and its time, and its start is a whole number of the machine. -/
theorem ends_starts (jobs:List J) (hj:∀ j ∈ jobs,InI j.f2):∀ (l out out':List Int) (now:Int),InI now→(∀ x ∈ l,0≤x∧x<jobs.length)→out.length=jobs.length→out'.length=jobs.length→∀ (i:Nat) (hi:i<jobs.length),((i:Int) ∈ l∨(rd out' i=wrap64 (rd out i + (jobs[i]).f0)∧InI (rd out i)))→
  rd (endsF jobs l out' now) i=wrap64 (rd (startsF jobs l out now) i + (jobs[i]).f0)∧InI (rd (startsF jobs l out now) i)
 | [],_,_,_,_,_,_,_,i,hi,h=>h.resolve_left (by simp)
 | x::xs,out,out',now,hn,hx,ho,ho',i,hi,h=>by
  have hx0:=hx x List.mem_cons_self
  rw [startsF,endsF]
  have hr:=rdJ_int hx0.1 hx0.2
  have hjx:=hj _ (List.getElem_mem (show x.toNat<jobs.length by omega))
  refine ends_starts jobs hj xs _ _ _ (inI_wrap _) (fun y hy=>hx y (List.mem_cons_of_mem _ hy)) (by simpa using ho) (by simpa using ho') i hi ?_
  by_cases e:x=(i:Int)
  ·right
   subst e
   rw [rd_nat (by simpa [ho'] using hi),rd_nat (by simpa [ho] using hi),rdJ hi]
   simp only [Int.toNat_natCast,List.getElem_set_self]
   exact ⟨trivial,mx_inI hn (hj _ (List.getElem_mem hi))⟩
  ·rcases h with h|h
   ·left
    exact (List.mem_cons.1 h).resolve_left (fun q=>e q.symm)
   ·right
    rw [rd_nat (by simpa [ho'] using hi),rd_nat (by simpa [ho] using hi),List.getElem_set_ne (by omega),List.getElem_set_ne (by omega),←rd_nat (by omega),←rd_nat (by omega)]
    exact h

theorem impl_endsOf.ev (jobs:List J) (l:List Int) (hj:jobs.length≤1000000) (hl:l.length≤1000000000) (hx:∀ x ∈ l,0≤x∧x<jobs.length):Ev (fun k=>impl_endsOf.f k jobs l) (endsF jobs l (List.replicate jobs.length 0) 0):=by
 unfold impl_endsOf.f
 rw [show (fun k=>if 0≤(jobs.length:Int) then (if ((jobs.length:Int):Int).toNat≤35184372088832 then (impl_endsOf.l0 k jobs (List.replicate ((jobs.length:Int):Int).toNat 0) 0 l (l.length:Int) 0) else (none)) else (none))=fun k=>impl_endsOf.l0 k jobs (List.replicate jobs.length 0) 0 l (l.length:Int) 0 from funext fun k=>by rw [if_pos (by omega),if_pos (by omega)];rfl]
 have key:=rev_ind (P:=fun i=>∀ (out:List Int) (now:Int),out.length=jobs.length→Ev (fun k=>impl_endsOf.l0 k jobs out now l (l.length:Int) (i:Int)) (endsF jobs (l.drop i) out now)) l.length ?_ ?_ 0 (Nat.zero_le _) (List.replicate jobs.length 0) 0 (by simp)
 ·simpa using key
 ·intro out now _
  refine ev_stop fun k=>?_
  simp only [impl_endsOf.l0];rw [if_neg (by omega),List.drop_length];rfl
 ·intro i hi ih out now ho
  rw [drop_cons hi,endsF]
  have hx:=hx _ (List.getElem_mem hi)
  refine ev_go _ (fun k=>?_) (ih _ _ (by simpa using ho))
  simp only [impl_endsOf.l0];rw [if_pos (by omega),if_pos (by omega),if_pos (by omega),rd_nat hi,if_pos hx.1,if_pos hx.2,if_pos (by omega),wr1 (by omega)]

/-- The ends of all jobs, by an order. -/
def endsAll (jobs:List J) (l:List Int):List Int:=endsF jobs l (List.replicate jobs.length 0) 0
def startsAll (jobs:List J) (l:List Int):List Int:=startsF jobs l (List.replicate jobs.length 0) 0
theorem endsAll_len (jobs:List J) (l:List Int):(endsAll jobs l).length=jobs.length:=by rw [endsAll,endsF_len];simp
theorem startsAll_len (jobs:List J) (l:List Int):(startsAll jobs l).length=jobs.length:=by rw [startsAll,startsF_len];simp
theorem endsAll_get (jobs:List J) (l:List Int) (h:TwoOk jobs l) (i:Nat) (hi:i<jobs.length):(endsAll jobs l)[i]'(by rw [endsAll_len];exact hi)=wrap64 ((startsAll jobs l)[i]'(by rw [startsAll_len];exact hi) + (jobs[i]).f0)∧InI ((startsAll jobs l)[i]'(by rw [startsAll_len];exact hi)):=by
 have:=ends_starts jobs (fun j hj=>by have:=(h.1.2 j hj).2.2.1;unfold InI;omega) l (List.replicate jobs.length 0) (List.replicate jobs.length 0) 0 (by unfold InI;omega) h.2.2.2 (by simp) (by simp) i hi (.inl (h.2.all i (by omega) (by omega)))
 rwa [←rd_nat,←rd_nat]

/-- Jobs, and a rule that speaks of them. -/
def RuledOk (jobs:List J) (a:Int):Prop:=JobsOk jobs∧(1≤a∧a≤4)∧(a≠1→NoRel jobs)

theorem spec_l3Ruled.ev (jobs:List J) (a:Int) (hj:jobs.length≤1000000000):EvB (fun k=>spec_l3Ruled.f k jobs a) (RuledOk jobs a):=by
 unfold spec_l3Ruled.f RuledOk
 simp only [spec_l1In.eq,Option.bind_some]
 have g:=spec_l2Good.ev jobs (by omega)
 have p:=spec_l3Plain.ev jobs (by omega)
 by_cases h1:1≤a∧a≤4
 ·simp only [decide_eq_true h1,if_true]
  by_cases h2:a=1
  ·simp only [if_pos h2]
   exact evB_of (fun h=>ev_guard' g (fun _=>Ev.now _) (fun hn=>absurd h.1 hn)) (fun h=>ev_guard' g (fun h3=>absurd ⟨h3,h1,fun c=>absurd h2 c⟩ h) (fun _=>Ev.now _))
  ·simp only [if_neg h2]
   refine evB_of (fun h=>ev_guard' g (fun _=>ev_bind true (evB_true p (h.2.2 h2)) (Ev.now _)) (fun hn=>absurd h.1 hn)) (fun h=>ev_guard' g (fun h3=>ev_bind false (evB_false p (fun h4=>h ⟨h3,h1,fun _=>h4⟩)) (Ev.now _)) (fun _=>Ev.now _))
 ·simp only [decide_eq_false h1,Bool.false_eq_true,if_false]
  exact evB_of (fun h=>absurd h.2.1 h1) (fun _=>ev_guard' g (fun _=>Ev.now _) (fun _=>Ev.now _))

theorem impl_isRuled.ev (jobs:List J) (a:Int) (hj:jobs.length≤1000000000):EvB (fun k=>impl_isRuled.f k jobs a) (RuledOk jobs a):=by
 unfold impl_isRuled.f RuledOk
 simp only [impl_within.eq,Option.bind_some]
 have g:=impl_IsJobs.ev jobs
 have p:=impl_isPlain.ev jobs (by omega)
 by_cases h2:a=1
 ·simp only [if_pos h2]
  exact evB_of (fun h=>ev_guard' g (fun _=>Ev.now _) (fun hn=>absurd h.1 hn)) (fun h=>ev_guard' g (fun h3=>absurd ⟨h3,by omega,fun c=>absurd h2 c⟩ h) (fun _=>Ev.now _))
 ·simp only [if_neg h2]
  by_cases h1:2≤a∧a≤4
  ·simp only [decide_eq_true h1,if_true]
   refine evB_of (fun h=>ev_guard' g (fun _=>ev_bind true (evB_true p (h.2.2 h2)) (Ev.now _)) (fun hn=>absurd h.1 hn)) (fun h=>ev_guard' g (fun h3=>ev_bind false (evB_false p (fun h4=>h ⟨h3,by omega,fun _=>h4⟩)) (Ev.now _)) (fun _=>Ev.now _))
  ·simp only [decide_eq_false h1,Bool.false_eq_true,if_false]
   exact evB_of (fun h=>absurd h.2.1 (by omega)) (fun _=>ev_guard' g (fun _=>Ev.now _) (fun _=>Ev.now _))

/-- How far the one is behind the other, by a rule. -/
def gapF (a:Int) (x y:J):Int:=if a=1 then x.f2 - y.f2 else if a=2 then x.f0 - y.f0 else if a=3 then x.f0 * y.f1 - y.f0 * x.f1 else x.f3 - y.f3
theorem gapF_neg (a:Int) (x y:J):gapF a x y= - gapF a y x:=by
 unfold gapF
 split
 ·omega
 ·split
  ·omega
  ·split <;> omega
theorem mul_small {x y:Int} (h1:0≤x∧x≤50) (h2:0≤y∧y≤50):0≤x * y∧x * y≤2500:=by
 have h3:=Int.mul_nonneg h1.1 h2.1
 have h4:x * y≤50 * 50:=Int.mul_le_mul h1.2 h2.2 h2.1 (by omega)
 omega
theorem gap_wrap {a:Int} {x y:J} (hx:JobOk x) (hy:JobOk y):(if a=1 then wrap64 (x.f2 - y.f2) else if a=2 then wrap64 (x.f0 - y.f0) else if a=3 then wrap64 (wrap64 (x.f0 * y.f1) - wrap64 (y.f0 * x.f1)) else wrap64 (x.f3 - y.f3))=gapF a x y:=by
 obtain ⟨h1,h2,h3,h4⟩:=hx
 obtain ⟨k1,k2,k3,k4⟩:=hy
 have m1:=mul_small (x:=x.f0) (y:=y.f1) (by omega) (by omega)
 have m2:=mul_small (x:=y.f0) (y:=x.f1) (by omega) (by omega)
 unfold gapF
 rw [wr (x:=x.f2 - y.f2) (by omega) (by omega),wr (x:=x.f0 - y.f0) (by omega) (by omega),wr (x:=x.f3 - y.f3) (by omega) (by omega),wr (x:=x.f0 * y.f1) (by omega) (by omega),wr (x:=y.f0 * x.f1) (by omega) (by omega),wr (by omega) (by omega)]

theorem spec_l3Gap.eq (jobs:List J) (a:Int) (i j:Nat) (hi:i<jobs.length) (hj:j<jobs.length) (h:JobsOk jobs):spec_l3Gap.f jobs a (i:Int) (j:Int)=some (gapF a jobs[i] jobs[j]):=by
 unfold spec_l3Gap.f
 rw [if_pos (by omega),if_pos (by omega),if_pos (by omega),if_pos (by omega),rdJ hi,rdJ hj,←gap_wrap (h.2 _ (List.getElem_mem hi)) (h.2 _ (List.getElem_mem hj))]
 split
 ·rfl
 ·split
  ·rfl
  ·split <;> rfl

theorem impl_difference.eq (x y:J) (a:Int) (hx:JobOk x) (hy:JobOk y):impl_difference.f x.f0 x.f1 x.f2 x.f3 y.f0 y.f1 y.f2 y.f3 a=some (gapF a x y):=by
 unfold impl_difference.f
 rw [←gap_wrap hx hy]
 split
 ·rfl
 ·split
  ·rfl
  ·split <;> rfl

/-- An order in which one may stand ahead of another: what 'not ahead' is handed on through, and what is ahead is not behind. -/
structure Pre (lt:Int→Int→Bool) (P:Int→Prop):Prop where
 trans:∀ a b c,P a→P b→P c→lt b a=false→lt c b=false→lt c a=false
 asym:∀ a b,P a→P b→lt a b=true→lt b a=false
def SortedLt (lt:Int→Int→Bool) (l:List Int):Prop:=l.Pairwise fun a b=>lt b a=false
theorem pre_key (f:Int→Int) (P:Int→Prop):Pre (fun a b=>decide (f a<f b)) P:=by
 refine ⟨fun a b c _ _ _ h1 h2=>?_,fun a b _ _ h=>?_⟩ <;> simp at * <;> omega
theorem insPos_at {lt:Int→Int→Bool} {P:Int→Prop} (hp:Pre lt P) {x:Int} {out:List Int} (hx:P x) (ho:∀ y ∈ out,P y) (hs:SortedLt lt out) (j:Nat) (hj:j≤out.length) (h1:∀ y ∈ out.take j,lt x y=false) (h2:∀ h:j<out.length,lt x out[j]=true):insPos lt x out out.length=j:=by
 have key:∀ d,j + d≤out.length→insPos lt x out (j + d)=j:=by
  intro d
  induction d with
  | zero=>
   intro _
   cases j with
   | zero=>rfl
   | succ j=>
    rw [Nat.add_zero,insPos,if_neg]
    have hm:out[j] ∈ out.take (j + 1):=List.mem_take_iff_getElem.2 ⟨j,by omega,rfl⟩
    have:=h1 _ hm
    simp [List.getD_eq_getElem?_getD,show j<out.length by omega,this]
  | succ d ih=>
   intro hd
   rw [←Nat.add_assoc,insPos,if_pos,ih (by omega)]
   have hq:lt x (out[j + d]'(by omega))=true:=by
    refine Classical.byContradiction fun hc=>?_
    have hc:lt x (out[j + d]'(by omega))=false:=by simpa using hc
    have hj2:=h2 (by omega)
    by_cases e:d=0
    ·subst e;simp at hc;rw [hc] at hj2;cases hj2
    ·have hpw:=(List.pairwise_iff_getElem.1 hs) j (j + d) (by omega) (by omega) (by omega)
     have:=hp.trans _ _ _ (ho _ (List.getElem_mem (by omega:j<out.length))) (ho _ (List.getElem_mem (by omega:j + d<out.length))) hx hpw hc
     rw [this] at hj2;cases hj2
   simpa [List.getD_eq_getElem?_getD,show j + d<out.length by omega] using hq
 have:=key (out.length - j) (by omega)
 rwa [show j + (out.length - j)=out.length by omega] at this
theorem insAt_at {lt:Int→Int→Bool} {P:Int→Prop} (hp:Pre lt P) {x:Int} {out:List Int} (hx:P x) (ho:∀ y ∈ out,P y) (hs:SortedLt lt out) (j:Nat) (hj:j≤out.length) (h1:∀ y ∈ out.take j,lt x y=false) (h2:∀ h:j<out.length,lt x out[j]=true):insAt lt x out=out.take j++x::out.drop j:=by
 unfold insAt
 rw [insPos_at hp hx ho hs j hj h1 h2]
theorem insPos_left {lt:Int→Int→Bool} {x:Int} {out:List Int} : ∀ k,k≤out.length→(0<insPos lt x out k→lt x (out.getD (insPos lt x out k - 1) 0)=false)∧(∀ i,insPos lt x out k≤i→i<k→lt x (out.getD i 0)=true)
 | 0,_=>⟨fun h=>absurd h (by simp [insPos]),fun i _ h=>absurd h (by omega)⟩
 | k + 1,hk=>by
  have ih:=insPos_left (lt:=lt) (x:=x) (out:=out) k (by omega)
  rw [insPos]
  by_cases q:lt x (out.getD k 0)=true
  ·rw [if_pos q]
   refine ⟨ih.1,fun i h1 h2=>?_⟩
   by_cases e:i=k
   ·subst e;exact q
   ·exact ih.2 i h1 (by omega)
  ·rw [if_neg q]
   exact ⟨fun _=>by simpa using q,fun i h1 h2=>absurd h1 (by omega)⟩
theorem insAt_perm (lt:Int→Int→Bool) (x:Int) (out:List Int):(insAt lt x out).Perm (x::out):=by
 unfold insAt
 refine List.perm_middle.trans ?_
 rw [List.take_append_drop]
theorem insAt_sorted {lt:Int→Int→Bool} {P:Int→Prop} (hp:Pre lt P) {x:Int} {out:List Int} (hx:P x) (ho:∀ y ∈ out,P y) (hs:SortedLt lt out):SortedLt lt (insAt lt x out):=by
 unfold insAt SortedLt
 obtain ⟨hl,hr⟩:=insPos_left (lt:=lt) (x:=x) (out:=out) out.length (Nat.le_refl _)
 have hle:=insPos_le lt x out out.length
 generalize hq:insPos lt x out out.length=p at hl hr hle ⊢
 rw [List.pairwise_append,List.pairwise_cons]
 have left:∀ a ∈ out.take p,lt x a=false:=by
  intro a ha
  obtain ⟨i,hi,rfl⟩:=List.mem_take_iff_getElem.1 ha
  have hi':i<p:=by omega
  have h0:=hl (by omega)
  rw [List.getD_eq_getElem?_getD,List.getElem?_eq_getElem (by omega),Option.getD_some] at h0
  by_cases e:i=p - 1
  ·subst e;exact h0
  ·exact hp.trans _ _ _ (ho _ (List.getElem_mem _)) (ho _ (List.getElem_mem (by omega:p - 1<out.length))) hx ((List.pairwise_iff_getElem.1 hs) i (p - 1) (by omega) (by omega) (by omega)) h0
 have right:∀ b ∈ out.drop p,lt b x=false:=by
  intro b hb
  obtain ⟨i,hi,rfl⟩:=List.mem_drop_iff_getElem.1 hb
  have h0:=hr (p + i) (by omega) (by omega)
  rw [List.getD_eq_getElem?_getD,List.getElem?_eq_getElem (by omega),Option.getD_some] at h0
  exact hp.asym _ _ hx (ho _ (List.getElem_mem _)) h0
 have hs':=hs
 unfold SortedLt at hs'
 rw [←List.take_append_drop p out,List.pairwise_append] at hs'
 refine ⟨hs'.1,⟨right,hs'.2.1⟩,fun a ha b hb=>?_⟩
 rcases List.mem_cons.1 hb with rfl|hb
 ·exact left a ha
 ·exact hs'.2.2 a ha b hb
theorem insAll_perm (lt:Int→Int→Bool):∀ (l out:List Int),(insAll lt l out).Perm (l++out)
 | [],out=>List.Perm.refl _
 | x::l,out=>by
  rw [insAll]
  refine (insAll_perm lt l _).trans ?_
  refine ((insAt_perm lt x out).append_left l).trans ?_
  exact List.perm_middle
theorem insAll_sorted {lt:Int→Int→Bool} {P:Int→Prop} (hp:Pre lt P):∀ (l out:List Int),(∀ y ∈ l,P y)→(∀ y ∈ out,P y)→SortedLt lt out→SortedLt lt (insAll lt l out)
 | [],out,_,_,h=>h
 | x::l,out,hl,ho,h=>by
  rw [insAll]
  have hx:=hl x List.mem_cons_self
  refine insAll_sorted hp l _ (fun y hy=>hl y (List.mem_cons_of_mem _ hy)) (fun y hy=>?_) (insAt_sorted hp hx ho h)
  rcases List.mem_cons.1 ((insAt_perm lt x out).mem_iff.1 hy) with rfl|hy
  ·exact hx
  ·exact ho y hy
/-- All numbers below n, sorted. -/
def sortN (lt:Int→Int→Bool) (n:Nat):List Int:=insAll lt (nums_to n) []
theorem sortN_perm (lt:Int→Int→Bool) (n:Nat):(sortN lt n).Perm (nums_to n):=by
 have:=insAll_perm lt (nums_to n) []
 rwa [List.append_nil] at this
theorem sortN_isPerm (lt:Int→Int→Bool) (n:Nat):IsPerm n (sortN lt n):=by
 have h:=sortN_perm lt n
 refine ⟨by rw [h.length_eq,nums_to_length],h.nodup_iff.2 (nums_to_nodup n),fun x hx=>mem_nums_to.1 (h.mem_iff.1 hx)⟩

theorem insPos_congr {lt lt':Int→Int→Bool} {P:Int→Prop} (h:∀ a b,P a→P b→lt a b=lt' a b) {x:Int} (hx:P x) {out:List Int} (ho:∀ y ∈ out,P y):∀ k,k≤out.length→insPos lt x out k=insPos lt' x out k
 | 0,_=>rfl
 | k + 1,hk=>by
  have hm:P (out.getD k 0):=by rw [List.getD_eq_getElem?_getD,List.getElem?_eq_getElem (by omega)];exact ho _ (List.getElem_mem _)
  rw [insPos,insPos,h _ _ hx hm,insPos_congr h hx ho k (by omega)]
theorem insAll_congr {lt lt':Int→Int→Bool} {P:Int→Prop} (h:∀ a b,P a→P b→lt a b=lt' a b):∀ (l out:List Int),(∀ y ∈ l,P y)→(∀ y ∈ out,P y)→insAll lt l out=insAll lt' l out
 | [],_,_,_=>rfl
 | x::l,out,hl,ho=>by
  have hx:=hl x List.mem_cons_self
  have e:insAt lt x out=insAt lt' x out:=by unfold insAt;rw [insPos_congr h hx ho _ (Nat.le_refl _)]
  rw [insAll,insAll,e]
  exact insAll_congr h l _ (fun y hy=>hl y (List.mem_cons_of_mem _ hy)) (insAt_mem hx ho)

theorem impl_numbersTo.ev (n:Nat) (hn:n≤1048576):Ev (fun k=>impl_numbersTo.f k (n:Int)) (nums_to n):=by
 have ht:∀ i,i<n→(nums_to n).take i++[(i:Int)]=(nums_to n).take (i + 1):=by
  intro i hi
  rw [List.take_succ_eq_append_getElem (by rw [nums_to_length];exact hi)]
  simp [nums_to]
 have key:=rev_ind (P:=fun i=>Ev (fun k=>impl_numbersTo.l0 k (n:Int) ((nums_to n).take i) (i:Int)) (nums_to n)) n ?_ ?_ 0 (Nat.zero_le _)
 ·simpa [impl_numbersTo.f] using key
 ·refine ev_stop fun k=>?_
  simp only [impl_numbersTo.l0];rw [if_neg (by omega),List.take_of_length_le (by rw [nums_to_length];omega)]
 ·intro i hi ih
  rw [←ht i hi] at ih
  refine ev_go _ (fun k=>?_) ih
  simp only [impl_numbersTo.l0];rw [if_pos (by omega),if_pos (by simp;omega),wr1 (by omega)]

theorem spec_l3Gap.eqI (jobs:List J) (a x y:Int) (hx:0≤x∧x<jobs.length) (hy:0≤y∧y<jobs.length) (h:JobsOk jobs):spec_l3Gap.f jobs a x y=some (gapF a (rd_T44 jobs x) (rd_T44 jobs y)):=by
 obtain ⟨i,rfl⟩:=Int.eq_ofNat_of_zero_le hx.1
 obtain ⟨j,rfl⟩:=Int.eq_ofNat_of_zero_le hy.1
 rw [spec_l3Gap.eq jobs a i j (by omega) (by omega) h,rdJ (by omega),rdJ (by omega)]
theorem spec_l1Own.eq (l:List Int) (h:l.length≤1000000000000):spec_l1Own.f l=some l:=by
 simp only [spec_l1Own.f,Option.bind_some]
 rw [if_pos (by simp;omega),List.nil_append]
/-- Whether the one stands ahead of the other, by a rule. -/
def gapLt (jobs:List J) (a:Int):Int→Int→Bool:=fun x y=>decide (0<gapF a (rd_T44 jobs y) (rd_T44 jobs x))
theorem spec_l3Order.ev (jobs:List J) (a:Int) (h:JobsOk jobs) (hP:Pre (gapLt jobs a) (fun y=>0≤y∧y<(jobs.length:Int))):Ev (fun k=>spec_l3Order.f k jobs a) (sortN (gapLt jobs a) jobs.length):=by
 have hj8:=h.1
 have key:=rev_ind (P:=fun i=>∀ out:List Int,out.length=i→(∀ y ∈ out,0≤y∧y<jobs.length)→SortedLt (gapLt jobs a) out→Ev (fun k=>spec_l3Order.l0 k jobs a out (i:Int)) (insAll (gapLt jobs a) ((nums_to jobs.length).drop i) out)) jobs.length ?_ ?_ 0 (Nat.zero_le _) [] rfl (by simp) List.Pairwise.nil
 ·simpa [spec_l3Order.f,sortN] using key
 ·intro out ho _ _
  refine ev_stop fun k=>?_
  simp only [spec_l3Order.l0];rw [if_neg (by omega),List.drop_of_length_le (by rw [nums_to_length];omega),insAll]
 ·intro i hi ih out ho hm hs
  refine ev_go (fun k=>spec_l3Order.l1 k jobs a out (i:Int) 0) (fun k=>?h) ?e
  case e=>
   have hi2:(nums_to jobs.length)[i]'(by rw [nums_to_length];exact hi)=(i:Int):=by simp [nums_to]
   rw [drop_cons (by rw [nums_to_length];exact hi),hi2,insAll]
   have hxi:0≤(i:Int)∧(i:Int)<(jobs.length:Int):=by omega
   have inner:=rev_ind (P:=fun j=>(∀ y ∈ out.take j,gapLt jobs a (i:Int) y=false)→Ev (fun k=>spec_l3Order.l1 k jobs a out (i:Int) (j:Int)) (insAll (gapLt jobs a) ((nums_to jobs.length).drop (i + 1)) (insAt (gapLt jobs a) (i:Int) out))) out.length ?_ ?_ 0 (Nat.zero_le _) (by simp)
   ·exact inner
   ·intro ht
    have ha:=insAt_at hP hxi hm hs out.length (Nat.le_refl _) ht (fun h=>absurd h (by omega))
    have hn:=ih (insAt (gapLt jobs a) (i:Int) out) (by rw [insAt_len];omega) (insAt_mem hxi hm) (insAt_sorted hP hxi hm hs)
    rw [ha] at hn ⊢
    refine ev_go _ (fun k=>?_) hn
    simp only [spec_l3Order.l1];rw [if_neg (by omega)]
    rw [spec_l1Own.eq _ (by simp;omega)]
    simp only [Option.bind_some]
    rw [if_pos (by omega),if_pos (by omega),if_pos (by simp;omega),if_pos (by simp;omega),wr1 (by omega)]
    simp
   ·intro j hj ihj ht
    have hy:=hm _ (List.getElem_mem hj)
    have hg:=spec_l3Gap.eqI jobs a out[j] (i:Int) hy hxi h
    by_cases q:gapF a (rd_T44 jobs out[j]) (rd_T44 jobs (i:Int))≤0
    ·refine ev_go _ (fun k=>?_) (ihj ?_)
     ·simp only [spec_l3Order.l1];rw [rd_nat hj,if_pos (by omega),if_pos (by omega),hg,Option.bind_some,if_pos q,wr1 (by omega)]
     ·intro y hy
      rw [List.take_succ_eq_append_getElem hj] at hy
      rcases List.mem_append.1 hy with hy|hy
      ·exact ht y hy
      ·rw [List.mem_singleton] at hy;subst hy;unfold gapLt;simp;omega
    ·have ha:=insAt_at hP hxi hm hs j (by omega) ht (fun _=>by unfold gapLt;simp;omega)
     have hn:=ih (insAt (gapLt jobs a) (i:Int) out) (by rw [insAt_len];omega) (insAt_mem hxi hm) (insAt_sorted hP hxi hm hs)
     rw [ha] at hn ⊢
     refine ev_go _ (fun k=>?_) hn
     simp only [spec_l3Order.l1];rw [rd_nat hj,if_pos (by omega),if_pos (by omega),hg,Option.bind_some,if_neg q]
     rw [spec_l1Own.eq _ (by simp;omega)]
     simp only [Option.bind_some]
     rw [if_pos (by omega),if_pos (by simp;omega),if_pos (by simp;omega),wr1 (by omega)]
     simp
  case h=>simp only [spec_l3Order.l0];rw [if_pos (by omega)]

theorem impl_copyInts.eq (l:List Int) (h:l.length≤1000000000000):impl_copyInts.f l=some l:=by
 simp only [impl_copyInts.f,Option.bind_some]
 rw [if_pos (by simp;omega),List.nil_append]

/-- All orders of the numbers of a list, in lexicographic order if the list is rising. -/
def perms:Nat→List Int→List (List Int)
 | 0,_=>[[]]
 | n + 1,L=>L.flatMap fun x=>(perms n (L.erase x)).map fun l=>x::l
theorem perms_perm:∀ (n:Nat) (L l:List Int),L.length=n→l ∈ perms n L→l.Perm L
 | 0,L,l,hL,h=>by
  rw [perms,List.mem_singleton] at h
  rw [h,List.eq_nil_of_length_eq_zero hL]
 | n + 1,L,l,hL,h=>by
  rw [perms,List.mem_flatMap] at h
  obtain ⟨x,hx,h⟩:=h
  obtain ⟨l',hl',rfl⟩:=List.mem_map.1 h
  exact ((perms_perm n (L.erase x) l' (by rw [List.length_erase_of_mem hx];omega) hl').cons x).trans (List.perm_cons_erase hx).symm
/-- One list of orders behind the other: the next one has a greater number at the last place at which that can be. -/
def Nx (l l':List Int):Prop:=∃ a x r1 y r2,l=a++x::(r1++y::r2)∧(r1++y::r2).Pairwise (fun u v=>v<u)∧x<y∧(∀ z ∈ r2,z<x)∧l'=a++y::(r1++x::r2).reverse
theorem Nx.cons {l l':List Int} (b:Int) (h:Nx l l'):Nx (b::l) (b::l'):=by
 obtain ⟨a,x,r1,y,r2,rfl,h2,h3,h4,rfl⟩:=h
 exact ⟨b::a,x,r1,y,r2,rfl,h2,h3,h4,rfl⟩
/-- Each of the lists is followed by its next one; a: the first, z: the last. -/
def Run (a z:List Int):List (List Int)→Prop
 | []=>False
 | p::t=>p=a∧match t with
  | []=>p=z
  | q::_=>Nx p q∧Run q z t
theorem Run.map {x:Int} : ∀ {P:List (List Int)} {a z:List Int},Run a z P→Run (x::a) (x::z) (P.map fun l=>x::l)
 | [],_,_,h=>h.elim
 | [p],a,z,h=>by
  obtain ⟨h1,h2⟩:=h
  exact ⟨by rw [h1],show x::p=x::z by rw [show p=z from h2]⟩
 | p::q::t,a,z,h=>by
  obtain ⟨h1,h2,h3⟩:=h
  exact ⟨by rw [h1],h2.cons x,Run.map h3⟩
theorem Run.head {P:List (List Int)} {a z:List Int} (h:Run a z P):∃ t,P=a::t:=by
 cases P with
 | nil=>exact h.elim
 | cons p t=>exact ⟨t,by rw [h.1]⟩
theorem Run.append:∀ {P Q:List (List Int)} {a z b y:List Int},Run a z P→Nx z b→Run b y Q→Run a y (P++Q)
 | [],_,_,_,_,_,h,_,_=>h.elim
 | [p],Q,a,z,b,y,h,n,hq=>by
  obtain ⟨t,rfl⟩:=hq.head
  obtain ⟨h1,h2⟩:=h
  have h2:p=z:=h2
  exact ⟨h1,by rw [h2];exact n,hq⟩
 | p::q::t,Q,a,z,b,y,h,n,hq=>by
  obtain ⟨h1,h2,h3⟩:=h
  exact ⟨h1,h2,Run.append h3 n hq⟩
theorem perms_run:∀ (n:Nat) (L:List Int),L.length=n→L.Pairwise (fun u v=>u<v)→Run L L.reverse (perms n L)
 | 0,L,h,_=>by
  rw [List.eq_nil_of_length_eq_zero h]
  exact ⟨rfl,rfl⟩
 | n + 1,L,h,hs=>by
  have key:∀ (L2 L1:List Int) (x:Int),L1++x::L2=L→Run (x::(L1++L2)) L.reverse ((x::L2).flatMap fun x=>(perms n (L.erase x)).map fun l=>x::l):=by
   have er:∀ (L1 L2:List Int) (x:Int),L1++x::L2=L→L.erase x=L1++L2:=by
    rintro L1 L2 x rfl
    rw [List.erase_append_right]
    ·simp
    ·intro hx
     have:=(List.pairwise_append.1 hs).2.2 x hx x List.mem_cons_self
     omega
   have blk:∀ (L1 L2:List Int) (x:Int),L1++x::L2=L→Run (x::(L1++L2)) (x::(L1++L2).reverse) ((perms n (L.erase x)).map fun l=>x::l):=by
    intro L1 L2 x hx
    rw [er L1 L2 x hx]
    refine Run.map (perms_run n (L1++L2) ?_ ?_)
    ·rw [←hx] at h;simp at h ⊢;omega
    ·rw [←er L1 L2 x hx];exact hs.sublist List.erase_sublist
   intro L2
   induction L2 with
   | nil=>
    intro L1 x hx
    have:=blk L1 [] x hx
    rw [List.append_nil] at this
    rw [List.flatMap_cons,List.flatMap_nil,List.append_nil,List.append_nil,←hx,List.reverse_append]
    rw [←hx] at this
    exact this
   | cons y L3 ih=>
    intro L1 x hx
    rw [List.flatMap_cons]
    refine Run.append (blk L1 (y::L3) x hx) ?_ (ih (L1++[x]) y (by rw [←hx];simp))
    rw [←hx] at hs
    have p1:=List.pairwise_append.1 hs
    have p2:=List.pairwise_cons.1 p1.2.1
    refine ⟨[],x,L3.reverse,y,L1.reverse,by simp,?_,p2.1 y List.mem_cons_self,fun z hz=>p1.2.2 z (List.mem_reverse.1 hz) x List.mem_cons_self,by simp⟩
    have:L3.reverse++y::L1.reverse=(L1++y::L3).reverse:=by simp
    rw [this,List.pairwise_reverse]
    refine hs.sublist ?_
    exact List.Sublist.append (List.Sublist.refl _) (List.sublist_cons_self _ _)
  cases L with
  | nil=>simp at h
  | cons x L2=>
   rw [perms]
   exact key L2 [] x rfl
theorem nums_to_sorted (n:Nat):(nums_to n).Pairwise fun u v=>u<v:=by
 unfold nums_to
 rw [List.pairwise_map]
 exact List.pairwise_lt_range.imp (fun h=>by omega)
theorem perms_isPerm {n:Nat} {l:List Int} (h:l ∈ perms n (nums_to n)):IsPerm n l:=by
 have p:=perms_perm n (nums_to n) l (nums_to_length n) h
 exact ⟨by rw [p.length_eq,nums_to_length],p.nodup_iff.2 (nums_to_nodup n),fun x hx=>mem_nums_to.1 (p.mem_iff.1 hx)⟩

/-- A fact that arithmetic needs not look at. -/
def Hide (p:Prop):Prop:=p
theorem rdA {a b:List Int} {i:Nat} (h:i<a.length):rd (a++b) (i:Int)=a[i]:=by rw [rd_nat (by simp;omega),List.getElem_append_left h]
theorem rdM (a b:List Int) (x:Int) (i:Nat) (h:i=a.length):rd (a++x::b) (i:Int)=x:=by subst h;rw [rd_nat (by simp),List.getElem_append_right (Nat.le_refl _)];simp
theorem setM (a b:List Int) (x y:Int) (i:Nat) (h:i=a.length):(a++x::b).set i y=a++y::b:=by subst h;rw [List.set_append_right _ _ (Nat.le_refl _)];simp
theorem impl_nextOrder.rev (q:List Int):∀ (m:Nat) (p s q:List Int),s.length≤m→p.length + s.length + q.length≤1000000→Ev (fun k=>impl_nextOrder.l2 k (p++(s++q)) (p.length:Int) ((p.length:Int) + s.length - 1)) (true,p++(s.reverse++q))
 | 0,p,s,q,h,_=>by
  obtain rfl:=List.eq_nil_of_length_eq_zero (Nat.le_zero.1 h)
  refine ev_stop fun k=>?_
  simp only [impl_nextOrder.l2];rw [if_neg (by simp;omega)];rfl
 | m + 1,p,[],q,_,_=>by
  refine ev_stop fun k=>?_
  simp only [impl_nextOrder.l2];rw [if_neg (by simp;omega)];rfl
 | m + 1,p,[u],q,_,_=>by
  refine ev_stop fun k=>?_
  simp only [impl_nextOrder.l2];rw [if_neg (by simp)];rfl
 | m + 1,p,u::u2::t2,q,h,hb=>by
  obtain ⟨t,v,ht⟩:∃ t v,u2::t2=t++[v]:=⟨(u2::t2).dropLast,(u2::t2).getLast (by simp),(List.dropLast_concat_getLast (by simp)).symm⟩
  rw [ht] at h hb ⊢
  simp only [List.length_cons,List.length_append,List.length_nil] at h hb
  have ih:=impl_nextOrder.rev q m (p++[v]) t (u::q) (by omega) (by simp;omega)
  have e1:((p.length:Int) + ((u::(t++[v])).length:Int) - 1)=((p.length + 1 + t.length:Nat):Int):=by simp;omega
  rw [e1]
  have l1:p++(u::(t++[v])++q)=p++u::(t++v::q):=by simp
  have l2:p++u::(t++v::q)=(p++u::t)++v::q:=by simp
  have r1:rd (p++u::(t++v::q)) (p.length:Int)=u:=rdM p _ u _ rfl
  have r2:rd (p++u::(t++v::q)) ((p.length + 1 + t.length:Nat):Int)=v:=by rw [l2];exact rdM _ q v _ (by simp;omega)
  have hlen:(p++u::(t++v::q)).length=p.length + 1 + t.length + 1 + q.length:=by simp;omega
  rw [l1]
  refine ev_go _ (fun k=>?_) (show Ev (fun k=>impl_nextOrder.l2 k (p++[v]++(t++u::q)) (((p++[v]).length:Nat):Int) (((p++[v]).length:Int) + t.length - 1)) _ from ?_)
  ·simp only [impl_nextOrder.l2]
   rw [if_pos (by omega),if_pos (by omega),if_pos (by omega),if_pos (by omega),if_pos (by omega),r1,r2,wr1 (by omega),wr (x:=((p.length + 1 + t.length:Nat):Int) - 1) (by omega) (by omega),Int.toNat_natCast,Int.toNat_natCast,setM p _ u v _ rfl,show p++v::(t++v::q)=(p++v::t)++v::q by simp,setM (p++v::t) q v u _ (by simp;omega)]
   congr 1
   ·simp
   ·simp
   ·simp only [List.length_append,List.length_cons,List.length_nil];omega
  ·have e:p++((u::(t++[v])).reverse++q)=p++[v]++(t.reverse++u::q):=by simp
   rw [e]
   exact ih
theorem impl_nextOrder.down (l:List Int) (i:Nat) (hl:l.length≤1000000) (hd:∀ j (h:j + 1<l.length),i<j→l[j + 1]<l[j]) {R:Bool × List Int} (h:Ev (fun k=>impl_nextOrder.l0 k l (i:Int)) R):∀ j,i≤j→j + 1<l.length→Ev (fun k=>impl_nextOrder.l0 k l (j:Int)) R
 | 0,hi,hj=>by
  obtain rfl:i=0:=by omega
  exact h
 | j + 1,hi,hj=>by
  by_cases e:i=j + 1
  ·rw [←e];exact h
  ·have ih:=impl_nextOrder.down l i hl hd h j (by omega) (by omega)
   have:=hd (j + 1) hj (by omega)
   refine ev_go _ (fun k=>?_) ih
   have w1:wrap64 (((j + 1:Nat):Int) + 1)=((j + 1 + 1:Nat):Int):=wr1 (by omega)
   simp only [impl_nextOrder.l0]
   rw [w1,if_pos (by omega),if_pos (by omega),if_pos (by omega),if_pos (by omega),if_pos (by omega),rd_nat (by omega),rd_nat hj,if_pos this,wr (x:=((j + 1:Nat):Int) - 1) (by omega) (by omega),show ((j + 1:Nat):Int) - 1=(j:Int) by omega]
theorem impl_nextOrder.none (l:List Int) (hl:l.length≤1000000) (hd:l.Pairwise (fun u v=>v<u)):Ev (fun k=>impl_nextOrder.f k l) (false,l):=by
 unfold impl_nextOrder.f
 have stop:∀ m:Int,m<0→Ev (fun k=>impl_nextOrder.l0 k l m) (false,l):=fun m hm=>by
  refine ev_go (fun k=>impl_nextOrder.j1 k l m) (fun k=>?_) (ev_stop fun k=>?_)
  ·simp only [impl_nextOrder.l0];rw [if_neg (by omega)]
  ·simp only [impl_nextOrder.j1];rw [if_pos hm]
 have hd':∀ j (h:j + 1<l.length),l[j + 1]<l[j]:=fun j h=>List.pairwise_iff_getElem.1 hd j (j + 1) (by omega) h (by omega)
 rw [wr (by omega) (by omega)]
 by_cases h2:l.length≤1
 ·exact stop _ (by omega)
 ·rw [show (l.length:Int) - 2=((l.length - 2:Nat):Int) by omega]
  refine impl_nextOrder.down l 0 hl (fun j h _=>hd' j h) ?_ (l.length - 2) (by omega) (by omega)
  refine ev_go _ (fun k=>?_) (stop (-1) (by omega))
  have h01:=hd' 0 (by omega)
  have w1:wrap64 (((0:Nat):Int) + 1)=((0 + 1:Nat):Int):=wr1 (by omega)
  simp only [impl_nextOrder.l0]
  rw [w1,if_pos (by omega),if_pos (by omega),if_pos (by omega),if_pos (by omega),if_pos (by omega),rd_nat (by omega),rd_nat (by omega),if_pos h01,wr (by omega) (by omega)]
  rfl
theorem impl_nextOrder.main (a r1 r2:List Int) (x y:Int) (hxy:Hide (x<y)) (l:List Int) (hl0:a++x::(r1++y::r2)=l) (hl:l.length≤1000000) (hlen:l.length=a.length + 1 + r1.length + 1 + r2.length) (hdesc:∀ j (h:j + 1<l.length),a.length<j→l[j + 1]<l[j]) (rx:Hide (rd l (a.length:Int)=x)) (ry:Hide (rd l ((a.length + 1 + r1.length:Nat):Int)=y)) (rz:∀ j,a.length + 1 + r1.length<j→j<l.length→rd l (j:Int)<x) (hx1:Hide (x<rd l ((a.length + 1:Nat):Int))):Ev (fun k=>impl_nextOrder.l0 k l (wrap64 ((l.length:Int) - 2))) (true,a++y::(r1++x::r2).reverse):=by
 rw [wr (by omega) (by omega),show (l.length:Int) - 2=((l.length - 2:Nat):Int) by omega]
 refine impl_nextOrder.down l a.length hl hdesc ?_ (l.length - 2) (by omega) (by omega)
 have w1:wrap64 ((a.length:Int) + 1)=((a.length + 1:Nat):Int):=wr1 (by omega)
 refine ev_go (fun k=>impl_nextOrder.j1 k l (a.length:Int)) (fun k=>?_) ?_
 ·simp only [impl_nextOrder.l0]
  rw [w1,if_pos (by omega),if_pos (by omega),if_pos (by omega),if_pos (by omega),if_pos (by omega),show rd l (a.length:Int)=x from rx,if_neg (show ¬ (x>rd l ((a.length + 1:Nat):Int)) from Int.not_lt.2 (Int.le_of_lt hx1))]
 refine ev_go (fun k=>impl_nextOrder.l1 k l (a.length:Int) ((l.length - 1:Nat):Int)) (fun k=>?_) ?_
 ·simp only [impl_nextOrder.j1]
  rw [if_neg (by omega),wr (by omega) (by omega),show (l.length:Int) - 1=((l.length - 1:Nat):Int) by omega]
 have back:∀ j,a.length + 1 + r1.length≤j→j<l.length→Ev (fun k=>impl_nextOrder.l1 k l (a.length:Int) (j:Int)) (true,a++y::(r1++x::r2).reverse):=by
  intro j
  induction j with
  | zero=>intro h;omega
  | succ j ih=>
   intro hj1 hj2
   by_cases e:a.length + 1 + r1.length=j + 1
   ·have rev:=impl_nextOrder.rev [] (r1++x::r2).length (a++[y]) (r1++x::r2) [] (Nat.le_refl _) (by simp;omega)
    refine ev_go _ (fun k=>?_) (show Ev (fun k=>impl_nextOrder.l2 k ((a++[y])++((r1++x::r2)++[])) (((a++[y]).length:Nat):Int) (((a++[y]).length:Int) + (r1++x::r2).length - 1)) _ from ?_)
    ·simp only [impl_nextOrder.l1]
     rw [←e,if_pos (by omega),if_pos (by omega),if_pos (by omega),if_pos (by omega),show rd l (a.length:Int)=x from rx,show rd l ((a.length + 1 + r1.length:Nat):Int)=y from ry,if_neg (show ¬ (y<x) from Int.not_lt.2 (Int.le_of_lt hxy)),w1,Int.toNat_natCast,Int.toNat_natCast,wr (by omega) (by omega),←hl0,setM a _ x y _ rfl,show a++y::(r1++y::r2)=(a++y::r1)++y::r2 by simp,setM (a++y::r1) r2 y x _ (by simp;omega)]
     congr 1
     ·simp
     ·simp
     ·simp only [List.length_append,List.length_cons,List.length_nil];omega
    ·have:(true,a++y::(r1++x::r2).reverse)=(true,a++[y]++((r1++x::r2).reverse++[])):=by simp
     rw [this]
     exact rev
   ·refine ev_go _ (fun k=>?_) (ih (by omega) (by omega))
    have this:Hide (rd l ((j + 1:Nat):Int)<x):=rz (j + 1) (by omega) hj2
    simp only [impl_nextOrder.l1]
    rw [if_pos (by omega),if_pos (by omega),if_pos (by omega),if_pos (by omega),show rd l (a.length:Int)=x from rx,if_pos (show rd l ((j + 1:Nat):Int)<x from this),wr (by omega) (by omega),show ((j + 1:Nat):Int) - 1=(j:Int) by omega]
 exact back (l.length - 1) (by omega) (by omega)
theorem impl_nextOrder.some (l l':List Int) (hl:l.length≤1000000) (h:Nx l l'):Ev (fun k=>impl_nextOrder.f k l) (true,l'):=by
 obtain ⟨a,x,r1,y,r2,rfl,hd,hxy,h2,rfl⟩:=h
 unfold impl_nextOrder.f
 have hlen:(a++x::(r1++y::r2)).length=a.length + 1 + r1.length + 1 + r2.length:=by simp;omega
 have eA:a++x::(r1++y::r2)=(a++[x])++(r1++y::r2):=by simp
 have gi:∀ j (h:j<(a++x::(r1++y::r2)).length) (h2:a.length<j),(a++x::(r1++y::r2))[j]=(r1++y::r2)[j - (a.length + 1)]'(by simp at h ⊢;omega):=fun j h h2=>by
  simp only [eA]
  rw [List.getElem_append_right (by simp;omega)]
  simp
 have hdesc:∀ j (h:j + 1<(a++x::(r1++y::r2)).length),a.length<j→(a++x::(r1++y::r2))[j + 1]<(a++x::(r1++y::r2))[j]:=fun j h hj=>by
  rw [gi j (by omega) hj,gi (j + 1) h (by omega)]
  exact List.pairwise_iff_getElem.1 hd _ _ _ _ (by omega)
 have rx:rd (a++x::(r1++y::r2)) (a.length:Int)=x:=rdM a _ x _ rfl
 have eB:a++x::(r1++y::r2)=(a++x::r1)++y::r2:=by simp
 have ry:rd (a++x::(r1++y::r2)) ((a.length + 1 + r1.length:Nat):Int)=y:=by rw [eB];exact rdM _ r2 y _ (by simp;omega)
 have rz:∀ j,a.length + 1 + r1.length<j→j<(a++x::(r1++y::r2)).length→rd (a++x::(r1++y::r2)) (j:Int)<x:=fun j h1 h3=>by
  rw [rd_nat h3]
  refine h2 _ ?_
  rw [gi j h3 (by omega),List.getElem_append_right (by omega),List.getElem_cons,dif_neg (by omega)]
  exact List.getElem_mem _
 have hx1:x<rd (a++x::(r1++y::r2)) ((a.length + 1:Nat):Int):=by
  rw [rd_nat (by omega),gi _ (by omega) (by omega)]
  cases r1 with
  | nil=>simpa using hxy
  | cons u r1=>
   have:=(List.pairwise_cons.1 hd).1 y (by simp)
   simp
   omega
 exact impl_nextOrder.main a r1 r2 x y hxy _ rfl hl hlen hdesc rx ry rz hx1

/-- A function that is told all orders: the state that it leaves. -/
theorem impl_eachOrder.loop {σ:Type} (step:Nat→List Int→σ→Option σ) (upd:List Int→σ→σ) (Q:σ→Prop):∀ (P:List (List Int)) (a z:List Int) (s:σ),Run a z P→z.Pairwise (fun u v=>v<u)→(∀ l ∈ P,l.length≤1000000)→(∀ l ∈ P,∀ s,Q s→Ev (fun k=>step k l s) (upd l s)∧Q (upd l s))→Q s→Ev (fun k=>impl_eachOrder.l0 step k a s) (P.foldl (fun s l=>upd l s) s)
 | [],_,_,_,h,_,_,_,_=>h.elim
 | [p],a,z,s,h,hz,hl,hs,hq=>by
  obtain ⟨rfl,h2⟩:=h
  obtain rfl:p=z:=h2
  obtain ⟨e1,_⟩:=hs p List.mem_cons_self s hq
  refine ev_go (fun k=>(step k p s).bind fun s'=>(impl_nextOrder.f k p).bind fun b=>if b.1=true then impl_eachOrder.l0 step k b.2 s' else some s') (fun k=>rfl) (ev_bind _ e1 (ev_bind _ (impl_nextOrder.none p (hl p List.mem_cons_self) hz) ?_))
  simp only [Bool.false_eq_true,if_false]
  exact Ev.now _
 | p::q::t,a,z,s,h,hz,hl,hs,hq=>by
  obtain ⟨rfl,h2,h3⟩:=h
  obtain ⟨e1,q1⟩:=hs p List.mem_cons_self s hq
  refine ev_go (fun k=>(step k p s).bind fun s'=>(impl_nextOrder.f k p).bind fun b=>if b.1=true then impl_eachOrder.l0 step k b.2 s' else some s') (fun k=>rfl) (ev_bind _ e1 (ev_bind _ (impl_nextOrder.some p q (hl p List.mem_cons_self) h2) ?_))
  simp only [if_true]
  exact impl_eachOrder.loop step upd Q (q::t) q z (upd p s) h3 hz (fun l h=>hl l (List.mem_cons_of_mem _ h)) (fun l h=>hs l (List.mem_cons_of_mem _ h)) q1
theorem impl_eachOrder.ev {σ:Type} (step:Nat→List Int→σ→Option σ) (upd:List Int→σ→σ) (Q:σ→Prop) (n:Nat) (hn:n≤1000000) (s:σ) (hs:∀ l,IsPerm n l→∀ s,Q s→Ev (fun k=>step k l s) (upd l s)∧Q (upd l s)) (hq:Q s):Ev (fun k=>impl_eachOrder.f step k (n:Int) s) ((perms n (nums_to n)).foldl (fun s l=>upd l s) s):=by
 unfold impl_eachOrder.f
 refine ev_bind _ (impl_numbersTo.ev n (by omega)) ?_
 refine impl_eachOrder.loop step upd Q _ _ _ s (perms_run n _ (nums_to_length n) (nums_to_sorted n)) ?_ (fun l hl=>by have:=(perms_isPerm hl).1;omega) (fun l hl=>hs l (perms_isPerm hl)) hq
 rw [List.pairwise_reverse]
 exact nums_to_sorted n

theorem endsF_nonneg (jobs:List J) (hj:∀ j ∈ jobs,0≤j.f0∧j.f0≤50∧0≤j.f2∧j.f2≤500):∀ (l out:List Int) (now B:Int),0≤now→now≤B→500≤B→B + 50 * (l.length:Int)≤1000000000→(∀ x ∈ l,0≤x∧x<jobs.length)→(∀ e ∈ out,0≤e)→∀ e ∈ endsF jobs l out now,0≤e
 | [],_,_,_,_,_,_,_,_,h=>h
 | x::xs,out,now,B,h0,h1,h2,h3,hx,ho=>by
  simp only [List.length_cons] at h3
  have hx0:=hx x List.mem_cons_self
  have hr:=rdJ_int hx0.1 hx0.2
  have hk:=hj _ (List.getElem_mem (show x.toNat<jobs.length by omega))
  rw [←hr] at hk
  have hm:0≤mx now (rd_T44 jobs x).f2∧mx now (rd_T44 jobs x).f2≤B:=by unfold mx;split <;> omega
  have hw:wrap64 (mx now (rd_T44 jobs x).f2 + (rd_T44 jobs x).f0)=mx now (rd_T44 jobs x).f2 + (rd_T44 jobs x).f0:=wr (by omega) (by omega)
  rw [endsF,hw]
  refine endsF_nonneg jobs hj xs _ _ (B + 50) (by omega) (by omega) (by omega) (by omega) (fun y hy=>hx y (List.mem_cons_of_mem _ hy)) (fun e he=>?_)
  rcases List.mem_or_eq_of_mem_set he with he|rfl
  ·exact ho e he
  ·omega
theorem endsAll_nonneg (jobs:List J) (l:List Int) (h:TwoOk jobs l):∀ e ∈ endsAll jobs l,0≤e:=by
 have h8:=h.1.1
 have hl:=h.2.1
 refine endsF_nonneg jobs (fun j hj=>by have:=h.1.2 j hj;unfold JobOk at this;omega) l _ 0 500 (by omega) (by omega) (by omega) (by omega) h.2.2.2 (fun e he=>by rw [(List.mem_replicate.1 he).2];omega)
/-- What a job with an end makes of a value. -/
def addF (s:Int) (j:J) (e f:Int) (first:Bool):Int:=
 if f=1 then mx s e else if f=2 then wrap64 (s + e) else if f=3 then wrap64 (s + wrap64 (j.f1 * e)) else if f=4 then (if first=true then wrap64 (e - j.f3) else mx s (wrap64 (e - j.f3))) else if f=5 then wrap64 (s + mx 0 (wrap64 (e - j.f3))) else if f=6 then wrap64 (s + wrap64 (j.f1 * mx 0 (wrap64 (e - j.f3)))) else if wrap64 (e - j.f3)≤0 then s else if f=7 then wrap64 (s + 1) else wrap64 (s + j.f1)
def valF (jobs:List J) (ends:List Int) (f:Int):Nat→Nat→Int→Int
 | 0,_,s=>s
 | n + 1,i,s=>valF jobs ends f n (i + 1) (addF s (rd_T44 jobs (i:Int)) (rd ends (i:Int)) f (decide (i=0)))
theorem addF_in (s:Int) (j:J) (e f:Int) (b:Bool) (hs:InI s) (he:InI e):InI (addF s j e f b):=by
 unfold addF
 repeat' split
 all_goals first|exact inI_wrap _|exact hs|exact mx_inI hs he|exact mx_inI hs (inI_wrap _)
theorem impl_valueOfEnds.ev (jobs:List J) (ends:List Int) (f:Int) (he:ends.length=jobs.length) (hj:jobs.length≤1000000):Ev (fun k=>impl_valueOfEnds.f k jobs ends f) (valF jobs ends f jobs.length 0 0):=by
 have key:=rev_ind (P:=fun i=>∀ s,Ev (fun k=>impl_valueOfEnds.l0 k ends f s jobs (jobs.length:Int) (i:Int)) (valF jobs ends f (jobs.length - i) i s)) jobs.length ?_ ?_ 0 (Nat.zero_le _) 0
 ·simpa [impl_valueOfEnds.f] using key
 ·intro s
  refine ev_stop fun k=>?_
  simp only [impl_valueOfEnds.l0];rw [if_neg (by omega),Nat.sub_self,valF]
 ·intro i hi ih s
  rw [show jobs.length - i=(jobs.length - (i + 1)) + 1 by omega,valF]
  refine ev_go (fun k=>impl_valueOfEnds.l0 k ends f (addF s (rd_T44 jobs (i:Int)) (rd ends (i:Int)) f (decide (i=0))) jobs (jobs.length:Int) ((i + 1:Nat):Int)) (fun k=>?_) (ih _)
  have hd:(((i:Int)) == 0)=decide (i=0):=by
   by_cases e:i=0
   ·subst e;rfl
   ·rw [decide_eq_false e];simpa using e
  have ha:impl_add.f s (rd_T44 jobs (i:Int)).f0 (rd_T44 jobs (i:Int)).f1 (rd_T44 jobs (i:Int)).f2 (rd_T44 jobs (i:Int)).f3 (rd ends (i:Int)) f (decide (i=0))=some (addF s (rd_T44 jobs (i:Int)) (rd ends (i:Int)) f (decide (i=0))):=by
   unfold impl_add.f addF
   repeat' split
   all_goals rfl
  simp only [impl_valueOfEnds.l0];rw [if_pos (by omega),if_pos (by omega),if_pos (by omega),if_pos (by omega),hd,ha,Option.bind_some,wr1 (by omega)]

theorem endsAll_in (jobs:List J) (l:List Int) (h:TwoOk jobs l):∀ e ∈ endsAll jobs l,0≤e∧InI e:=by
 intro e he
 refine ⟨endsAll_nonneg jobs l h e he,?_⟩
 obtain ⟨i,hi,rfl⟩:=List.getElem_of_mem he
 rw [(endsAll_get jobs l h i (by rw [←endsAll_len jobs l];exact hi)).1]
 exact inI_wrap _

def pointF (jobs:List J) (f g:Int) (l:List Int):Int × Int:=(valF jobs (endsAll jobs l) f jobs.length 0 0,valF jobs (endsAll jobs l) g jobs.length 0 0)

def Obj8 (f:Int):Prop:=1≤f∧f≤8
theorem impl_isObjective.ev (f:Int):impl_isObjective.f f=some (decide (1≤f∧f≤8)):=by unfold impl_isObjective.f;rw [impl_within.eq];rfl

/-- The bytes of a draw. -/
def ByteL (s:List Int):Prop:=∀ x ∈ s,(Lit.int .u8 x).wf=true
theorem byte_in {x:Int} (h:(Lit.int .u8 x).wf=true):0≤x∧x≤255:=by
 simp [Lit.wf,IntKind.min,IntKind.max,IntKind.signed,IntKind.bits] at h
 omega
theorem u64_range (n:Int):0≤IntKind.u64.wrap n∧IntKind.u64.wrap n<18446744073709551616:=by
 have:IntKind.u64.wrap n=n % 18446744073709551616:=by simp [IntKind.wrap,IntKind.bits,IntKind.signed]
 rw [this];omega
theorem u64_small (n:Int) (h0:0≤n) (h1:n<2 ^ 24):IntKind.u64.wrap n=n:=by
 have:IntKind.u64.wrap n=n % 18446744073709551616:=by simp [IntKind.wrap,IntKind.bits,IntKind.signed]
 rw [this];omega
theorem u64_byte (n:Int):0≤wrap64 (Go.bits .and .u64 (IntKind.u64.wrap n / 1099511627776) 255)∧wrap64 (Go.bits .and .u64 (IntKind.u64.wrap n / 1099511627776) 255)≤255:=by
 have hr:=u64_range n
 have h:=bits_mask .u64 24 (by decide) u64_small 8 (by decide) (IntKind.u64.wrap n / 1099511627776) (by omega) (by omega)
 have h2:Go.bits .and .u64 (IntKind.u64.wrap n / 1099511627776) 255=IntKind.u64.wrap n / 1099511627776 % 256:=by simpa using h
 rw [h2,wr (by omega) (by omega)]
 omega

theorem nx {s:List Int} (hs:ByteL s) (p q:Int) (hp:0≤p) (hb:p≤1000000000000000):∃ v q',spec_l1Cur_next.f s p q=some (v,p + 1,q')∧0≤v∧v≤255:=by
 unfold spec_l1Cur_next.f
 have w:wrap64 (p + 1)=p + 1:=wr (by omega) (by omega)
 rw [w]
 by_cases c1:p<(s.length:Int)
 ·rw [if_pos c1,if_pos hp,if_pos (by omega)]
  have hm:rd s p ∈ s:=by
   rw [rd,List.getD_eq_getElem?_getD,List.getElem?_eq_getElem (by omega)]
   exact List.getElem_mem _
  have hx:=byte_in (hs _ hm)
  exact ⟨_,_,rfl,by rw [wr (by omega) (by omega)];omega,by rw [wr (by omega) (by omega)];omega⟩
 ·rw [if_neg c1,if_neg (by omega)]
  exact ⟨_,_,rfl,(u64_byte _).1,(u64_byte _).2⟩

theorem pk {s:List Int} (hs:ByteL s) (p q a:Int) (hp:0≤p) (hb:p≤900000000000000):∃ v p' q',spec_l1Cur_pick.f s p q a=some (v,p',q')∧0≤v∧(1≤a→v<a)∧p≤p'∧p'≤p + 2:=by
 unfold spec_l1Cur_pick.f
 by_cases h1:a≤1
 ·rw [if_pos h1]
  exact ⟨0,p,q,rfl,by omega,by omega,by omega,by omega⟩
 ·rw [if_neg h1]
  obtain ⟨v,q1,e1,hv0,hv1⟩:=nx hs p q hp (by omega)
  rw [e1,Option.bind_some]
  by_cases h2:a>200
  ·rw [if_pos h2]
   obtain ⟨u,q2,e2,hu0,hu1⟩:=nx hs (p + 1) q1 (by omega) (by omega)
   rw [e2,Option.bind_some,if_neg (by omega)]
   have hw:wrap64 (wrap64 (v * 256) + u)=v * 256 + u:=by rw [wr (x:=v * 256) (by omega) (by omega),wr (by omega) (by omega)]
   refine ⟨_,_,_,rfl,?_,fun _=>?_,by show p≤p + 1 + 1;omega,by show p + 1 + 1≤p + 2;omega⟩
   ·rw [hw];exact Int.tmod_nonneg _ (by omega)
   ·rw [hw];exact Int.tmod_lt_of_pos _ (by omega)
  ·rw [if_neg h2,if_neg (by omega)]
   exact ⟨_,_,_,rfl,Int.tmod_nonneg _ hv0,fun _=>Int.tmod_lt_of_pos _ (by omega),by show p≤p + 1;omega,by show p + 1≤p + 2;omega⟩

theorem on {s:List Int} (hs:ByteL s) (p q a:Int) (hp:0≤p) (hb:p≤900000000000000):∃ b p' q',spec_l1Cur_one.f s p q a=some (b,p',q')∧p≤p'∧p'≤p + 2:=by
 unfold spec_l1Cur_one.f
 obtain ⟨v,p1,q1,e,_,_,h1,h2⟩:=pk hs p q a hp hb
 rw [e,Option.bind_some]
 exact ⟨_,_,_,rfl,h1,h2⟩

theorem am {s:List Int} (hs:ByteL s) (p q:Int) (l:List Int) (hl:0<l.length) (hp:0≤p) (hb:p≤900000000000000):∃ v p' q',spec_l1Cur_among.f s p q l=some (v,p',q')∧v ∈ l∧p≤p'∧p'≤p + 2:=by
 unfold spec_l1Cur_among.f
 obtain ⟨v,p1,q1,e,h0,h3,h1,h2⟩:=pk hs p q (l.length:Int) hp hb
 have h4:=h3 (by omega)
 rw [e,Option.bind_some,if_pos h0,if_pos h4]
 refine ⟨_,_,_,rfl,?_,h1,h2⟩
 show rd l v ∈ l
 rw [rd,List.getD_eq_getElem?_getD,List.getElem?_eq_getElem (by omega)]
 exact List.getElem_mem _

theorem jb {s:List Int} (hs:ByteL s) (p q:Int) (a:Bool) (hp:0≤p) (hb:p≤800000000000000):∃ x0 x1 x2 x3 p' q',spec_l1Cur_job.f s p q a=some (x0,x1,x2,x3,p',q')∧p≤p'∧p'≤p + 8:=by
 unfold spec_l1Cur_job.f
 obtain ⟨v1,p1,q1,e1,_,h1,h2⟩:=am hs p q [1,2,3,4,5,7,9] (by simp) hp (by omega)
 rw [e1,Option.bind_some]
 obtain ⟨v2,p2,q2,e2,_,h3,h4⟩:=am hs p1 q1 [0,1,1,2,3,5,8] (by simp) (by omega) (by omega)
 simp only [e2,Option.bind_some]
 obtain ⟨v3,p3,q3,e3,_,_,h5,h6⟩:=pk hs p2 q2 24 (by omega) (by omega)
 simp only [e3,Option.bind_some]
 by_cases c:a=true
 ·rw [if_pos c]
  obtain ⟨v4,p4,q4,e4,_,_,h7,h8⟩:=pk hs p3 q3 12 (by omega) (by omega)
  simp only [e4,Option.bind_some]
  exact ⟨_,_,_,_,_,_,rfl,by omega,by omega⟩
 ·rw [if_neg c]
  exact ⟨_,_,_,_,_,_,rfl,by omega,by omega⟩

theorem sj {s:List Int} (hs:ByteL s) (p q a0 a1 a2 a3:Int) (hp:0≤p) (hb:p≤800000000000000):∃ x0 x1 x2 x3 p' q',spec_l1Cur_spoiltJob.f s p q a0 a1 a2 a3=some (x0,x1,x2,x3,p',q')∧p≤p'∧p'≤p + 8:=by
 unfold spec_l1Cur_spoiltJob.f
 obtain ⟨v,p1,q1,e1,_,_,h1,h2⟩:=pk hs p q 4 hp (by omega)
 rw [e1,Option.bind_some]
 have g:=fun (l:List Int) (hl:0<l.length)=>am hs p1 q1 l hl (by omega) (by omega)
 dsimp only
 split
 ·obtain ⟨u,p2,q2,e2,_,h3,h4⟩:=g [0,50,51,(-1),4611686018427387904] (by simp)
  rw [e2,Option.bind_some]
  exact ⟨_,_,_,_,_,_,rfl,by show p≤p2;omega,by show p2≤p + 8;omega⟩
 ·split
  ·obtain ⟨u,p2,q2,e2,_,h3,h4⟩:=g [(-1),50,51] (by simp)
   rw [e2,Option.bind_some]
   exact ⟨_,_,_,_,_,_,rfl,by show p≤p2;omega,by show p2≤p + 8;omega⟩
  ·split
   ·obtain ⟨u,p2,q2,e2,_,h3,h4⟩:=g [(-1),500,501] (by simp)
    rw [e2,Option.bind_some]
    exact ⟨_,_,_,_,_,_,rfl,by show p≤p2;omega,by show p2≤p + 8;omega⟩
   ·obtain ⟨u,p2,q2,e2,_,h3,h4⟩:=g [(-1),500,501,(-9223372036854775808)] (by simp)
    rw [e2,Option.bind_some]
    exact ⟨_,_,_,_,_,_,rfl,by show p≤p2;omega,by show p2≤p + 8;omega⟩

theorem someJobs_l1 {s:List Int} (hs:ByteL s) (a:Bool):∀ (c:Nat) (jobs:List J) (p q:Int),jobs.length≤100→9≤jobs.length + c→c≤1000→0≤p→p + 8 * c≤700000000000000→∃ r p' q',Ev (fun k=>spec_l1Cur_someJobs.l1 k a jobs s p q) (r,p',q')∧r.length≤100∧p≤p'∧p'≤p + 8 * c:=by
 intro c
 induction c with
 | zero=>
  intro jobs p q h1 h2 _ hp hb
  refine ⟨jobs,p,q,ev_stop fun k=>?_,h1,by omega,by omega⟩
  simp only [spec_l1Cur_someJobs.l1];rw [if_neg (by omega)]
 | succ c ih=>
  intro jobs p q h1 h2 h3 hp hb
  by_cases hl:(jobs.length:Int)<9
  ·obtain ⟨x0,x1,x2,x3,p1,q1,e,h4,h5⟩:=jb hs p q a hp (by omega)
   obtain ⟨r,p2,q2,hr,h6,h7,h8⟩:=ih (jobs++[⟨x0,x1,x2,x3⟩]) p1 q1 (by simp;omega) (by simp;omega) (by omega) (by omega) (by omega)
   refine ⟨r,p2,q2,ev_go _ (fun k=>?_) hr,h6,by omega,by omega⟩
   simp only [spec_l1Cur_someJobs.l1];rw [if_pos hl,e,Option.bind_some,if_pos (by omega)]
  ·refine ⟨jobs,p,q,ev_stop fun k=>?_,h1,by omega,by omega⟩
   simp only [spec_l1Cur_someJobs.l1];rw [if_neg hl]
theorem someJobs_j5 {s:List Int} (hs:ByteL s) (a:Bool) (jobs:List J) (p q:Int) (h1:jobs.length≤100) (hp:0≤p) (hb:p≤600000000000000):∃ r p' q',Ev (fun k=>spec_l1Cur_someJobs.j5 k a jobs s p q) (r,p',q')∧r.length≤100∧p≤p'∧p'≤p + 100:=by
 obtain ⟨b,p1,q1,e,h2,h3⟩:=on hs p q 60 hp (by omega)
 by_cases c:b=true
 ·obtain ⟨r,p2,q2,hr,h4,h5,h6⟩:=someJobs_l1 hs a 9 jobs p1 q1 h1 (by omega) (by omega) (by omega) (by omega)
  refine ⟨r,p2,q2,ev_go _ (fun k=>?_) hr,h4,by omega,by omega⟩
  simp only [spec_l1Cur_someJobs.j5];rw [e,Option.bind_some,if_pos c]
 ·refine ⟨jobs,p1,q1,ev_stop fun k=>?_,h1,by omega,by omega⟩
  simp only [spec_l1Cur_someJobs.j5];rw [e,Option.bind_some,if_neg c]
theorem someJobs_j4 {s:List Int} (hs:ByteL s) (a b:Bool) (jobs:List J) (p q:Int) (hne:b=true→0<jobs.length) (h1:jobs.length≤100) (hp:0≤p) (hb:p≤500000000000000):∃ r p' q',Ev (fun k=>spec_l1Cur_someJobs.j4 k a jobs b s p q) (r,p',q')∧r.length≤100∧p≤p'∧p'≤p + 120:=by
 by_cases c:b=true
 ·obtain ⟨v,p1,q1,e,h2,h3,h4,h5⟩:=pk hs p q (jobs.length:Int) hp (by omega)
  have h6:=h3 (by have:=hne c;omega)
  obtain ⟨x0,x1,x2,x3,p2,q2,e2,h7,h8⟩:=sj hs p1 q1 (rd_T44 jobs v).f0 (rd_T44 jobs v).f1 (rd_T44 jobs v).f2 (rd_T44 jobs v).f3 (by omega) (by omega)
  obtain ⟨r,p3,q3,hr,h9,h10,h11⟩:=someJobs_j5 hs a (jobs.set v.toNat ⟨x0,x1,x2,x3⟩) p2 q2 (by simpa using h1) (by omega) (by omega)
  refine ⟨r,p3,q3,ev_go _ (fun k=>?_) hr,h9,by omega,by omega⟩
  simp only [spec_l1Cur_someJobs.j4];rw [if_pos c,e,Option.bind_some,if_pos h2,if_pos h6,e2,Option.bind_some]
 ·obtain ⟨r,p3,q3,hr,h9,h10,h11⟩:=someJobs_j5 hs a jobs p q h1 (by omega) (by omega)
  refine ⟨r,p3,q3,ev_go _ (fun k=>?_) hr,h9,by omega,by omega⟩
  simp only [spec_l1Cur_someJobs.j4];rw [if_neg c]
theorem someJobs_j3 {s:List Int} (hs:ByteL s) (a:Bool) (jobs:List J) (p q:Int) (h1:jobs.length≤100) (hp:0≤p) (hb:p≤400000000000000):∃ r p' q',Ev (fun k=>spec_l1Cur_someJobs.j3 k a jobs s p q) (r,p',q')∧r.length≤100∧p≤p'∧p'≤p + 150:=by
 by_cases c:(jobs.length:Int)>0
 ·obtain ⟨b,p1,q1,e,h2,h3⟩:=on hs p q 20 hp (by omega)
  obtain ⟨r,p2,q2,hr,h4,h5,h6⟩:=someJobs_j4 hs a b jobs p1 q1 (fun _=>by omega) h1 (by omega) (by omega)
  refine ⟨r,p2,q2,ev_go _ (fun k=>?_) hr,h4,by omega,by omega⟩
  simp only [spec_l1Cur_someJobs.j3];rw [if_pos c,e,Option.bind_some]
 ·obtain ⟨r,p2,q2,hr,h4,h5,h6⟩:=someJobs_j4 hs a false jobs p q (by simp) h1 (by omega) (by omega)
  refine ⟨r,p2,q2,ev_go _ (fun k=>?_) hr,h4,by omega,by omega⟩
  simp only [spec_l1Cur_someJobs.j3];rw [if_neg c]
theorem someJobs_l0 {s:List Int} (hs:ByteL s) (a:Bool) (m:Int) (hm:m≤100):∀ (c:Nat) (n:Int) (jobs:List J) (p q:Int),n≤c→c≤1000→jobs.length≤100→0≤p→p + 8 * c≤300000000000000→∃ r p' q',Ev (fun k=>spec_l1Cur_someJobs.l0 k a m jobs n s p q) (r,p',q')∧r.length≤100∧p≤p'∧p'≤p + 8 * c + 150:=by
 intro c
 induction c with
 | zero=>
  intro n jobs p q h1 _ h2 hp hb
  obtain ⟨r,p2,q2,hr,h4,h5,h6⟩:=someJobs_j3 hs a jobs p q h2 hp (by omega)
  refine ⟨r,p2,q2,ev_go _ (fun k=>?_) hr,h4,by omega,by omega⟩
  simp only [spec_l1Cur_someJobs.l0];rw [if_neg (by omega)]
 | succ c ih=>
  intro n jobs p q h1 h3 h2 hp hb
  by_cases cn:n>0∧(jobs.length:Int)<m
  ·obtain ⟨x0,x1,x2,x3,p1,q1,e,h4,h5⟩:=jb hs p q a hp (by omega)
   obtain ⟨r,p2,q2,hr,h6,h7,h8⟩:=ih (n - 1) (jobs++[⟨x0,x1,x2,x3⟩]) p1 q1 (by omega) (by omega) (by simp;omega) (by omega) (by omega)
   refine ⟨r,p2,q2,ev_go _ (fun k=>?_) hr,h6,by omega,by omega⟩
   simp only [spec_l1Cur_someJobs.l0];rw [if_pos cn.1,if_pos cn.2,e,Option.bind_some,if_pos (by omega),wr (x:=n - 1) (by omega) (by omega)]
  ·obtain ⟨r,p2,q2,hr,h4,h5,h6⟩:=someJobs_j3 hs a jobs p q h2 hp (by omega)
   refine ⟨r,p2,q2,ev_go _ (fun k=>?_) hr,h4,by omega,by omega⟩
   simp only [spec_l1Cur_someJobs.l0]
   by_cases c1:n>0
   ·rw [if_pos c1,if_neg (fun c2=>cn ⟨c1,c2⟩)]
   ·rw [if_neg c1]
theorem spec_l1Cur_someJobs.tot {s:List Int} (hs:ByteL s) (a:Bool) (m p q:Int) (hm:m≤100) (hp:0≤p) (hb:p≤200000000000000):∃ r p' q',Ev (fun k=>spec_l1Cur_someJobs.f k s p q a m) (r,p',q')∧r.length≤100∧p≤p'∧p'≤p + 300:=by
 unfold spec_l1Cur_someJobs.f
 simp only [Option.bind_some]
 obtain ⟨v,p1,q1,e1,hv,h1,h2⟩:=am hs p q [3,4,5,2,6,1,0] (by simp) hp (by omega)
 simp only [e1,Option.bind_some]
 have hv6:v≤6:=by simp at hv;omega
 have J1:=fun (n p q:Int) (hn:n≤8) (hp:0≤p) (hb:p≤250000000000000)=>someJobs_l0 hs a m hm 8 n [] p q hn (by omega) (by simp) hp (by omega)
 by_cases c:m>6
 ·simp only [if_pos c]
  obtain ⟨b,p2,q2,e2,h3,h4⟩:=on hs p1 q1 6 (by omega) (by omega)
  simp only [e2,Option.bind_some]
  by_cases cb:b=true
  ·obtain ⟨u,p3,q3,e3,h5,h6,h7,h8⟩:=pk hs p2 q2 2 (by omega) (by omega)
   have h9:=h6 (by omega)
   obtain ⟨r,p4,q4,hr,h10,h11,h12⟩:=J1 (7 + u) p3 q3 (by omega) (by omega) (by omega)
   refine ⟨r,p4,q4,ev_go (fun k=>spec_l1Cur_someJobs.j1 k a m [] (7 + u) s p3 q3) (fun k=>?_) (ev_go _ (fun k=>by simp only [spec_l1Cur_someJobs.j1]) hr),h10,by omega,by omega⟩
   simp only [spec_l1Cur_someJobs.j0];rw [if_pos cb,e3,Option.bind_some,wr (x:=7 + u) (by omega) (by omega)]
  ·obtain ⟨r,p4,q4,hr,h10,h11,h12⟩:=J1 v p2 q2 (by omega) (by omega) (by omega)
   refine ⟨r,p4,q4,ev_go (fun k=>spec_l1Cur_someJobs.j1 k a m [] v s p2 q2) (fun k=>?_) (ev_go _ (fun k=>by simp only [spec_l1Cur_someJobs.j1]) hr),h10,by omega,by omega⟩
   simp only [spec_l1Cur_someJobs.j0];rw [if_neg cb]
 ·simp only [if_neg c]
  obtain ⟨r,p4,q4,hr,h10,h11,h12⟩:=J1 v p1 q1 (by omega) (by omega) (by omega)
  refine ⟨r,p4,q4,ev_go (fun k=>spec_l1Cur_someJobs.j1 k a m [] v s p1 q1) (fun k=>?_) (ev_go _ (fun k=>by simp only [spec_l1Cur_someJobs.j1]) hr),h10,by omega,by omega⟩
  simp only [spec_l1Cur_someJobs.j0];rw [if_neg (by simp)]

theorem spec_l1Cur_jobs.tot {s:List Int} (hs:ByteL s) (p q:Int) (hp:0≤p) (hb:p≤100000000000000):∃ r p' q',Ev (fun k=>spec_l1Cur_jobs.f k s p q) (r,p',q')∧r.length≤100∧p≤p'∧p'≤p + 400:=by
 unfold spec_l1Cur_jobs.f
 obtain ⟨b,p1,q1,e,h1,h2⟩:=on hs p q 2 hp (by omega)
 simp only [e,Option.bind_some]
 obtain ⟨r,p2,q2,hr,h3,h4,h5⟩:=spec_l1Cur_someJobs.tot hs b 6 p1 q1 (by omega) (by omega) (by omega)
 exact ⟨r,p2,q2,ev_bind _ hr (Ev.now _),h3,by omega,by omega⟩

def pl1 (x:List J) (i:Int):List J:=x.set i.toNat ⟨(rd_T44 x i).f0,(rd_T44 x i).f1,0,(rd_T44 x i).f3⟩
def pl2 (x:List J) (i:Int):List J:=x.set i.toNat ⟨(rd_T44 x (wrap64 (i - 1))).f0,(rd_T44 x i).f1,(rd_T44 x i).f2,(rd_T44 x i).f3⟩
def pl3 (x:List J) (i:Int):List J:=x.set i.toNat ⟨(rd_T44 x i).f0,(rd_T44 x (wrap64 (i - 1))).f1,(rd_T44 x i).f2,(rd_T44 x i).f3⟩
theorem plain3_l0 {s:List Int} (hs:ByteL s):∀ (c i:Nat) (jobs:List J) (p q:Int),jobs.length=i + c→jobs.length≤100→0≤p→p + 2 * c≤90000000000000→∃ r p' q',Ev (fun k=>spec_l1Cur_plain3.l0 k jobs (i:Int) s p q) (r,p',q')∧r.length≤100∧p≤p'∧p'≤p + 2 * c:=by
 intro c
 induction c with
 | zero=>
  intro i jobs p q h1 h2 hp hb
  refine ⟨jobs,p,q,ev_stop fun k=>?_,h2,by omega,by omega⟩
  simp only [spec_l1Cur_plain3.l0];rw [if_neg (by omega)]
 | succ c ih=>
  intro i jobs p q h1 h2 hp hb
  by_cases c0:(i:Int)>0
  ·obtain ⟨b,p1,q1,e,h3,h4⟩:=on hs p q 3 hp (by omega)
   have w1:wrap64 ((i:Int) - 1)=(i:Int) - 1:=wr (by omega) (by omega)
   by_cases cb:b=true
   ·obtain ⟨r,p2,q2,hr,h5,h6,h7⟩:=ih (i + 1) (pl3 (pl2 (pl1 jobs i) i) i) p1 q1 (by simp [pl1,pl2,pl3];omega) (by simp [pl1,pl2,pl3];omega) (by omega) (by omega)
    refine ⟨r,p2,q2,ev_go _ (fun k=>?_) hr,h5,by omega,by omega⟩
    simp only [spec_l1Cur_plain3.l0]
    rw [if_pos (by omega),if_pos (by omega),Option.bind_some,if_pos c0,e,Option.bind_some,if_pos cb,if_pos (by omega),if_pos (by omega),Option.bind_some,wr1 (by omega)]
    rfl
   ·obtain ⟨r,p2,q2,hr,h5,h6,h7⟩:=ih (i + 1) (pl1 jobs i) p1 q1 (by simp [pl1];omega) (by simp [pl1];omega) (by omega) (by omega)
    refine ⟨r,p2,q2,ev_go _ (fun k=>?_) hr,h5,by omega,by omega⟩
    simp only [spec_l1Cur_plain3.l0]
    rw [if_pos (by omega),if_pos (by omega),Option.bind_some,if_pos c0,e,Option.bind_some,if_neg cb,wr1 (by omega)]
    rfl
  ·obtain ⟨r,p2,q2,hr,h5,h6,h7⟩:=ih (i + 1) (pl1 jobs i) p q (by simp [pl1];omega) (by simp [pl1];omega) (by omega) (by omega)
   refine ⟨r,p2,q2,ev_go _ (fun k=>?_) hr,h5,by omega,by omega⟩
   simp only [spec_l1Cur_plain3.l0]
   rw [if_pos (by omega),if_pos (by omega),Option.bind_some,if_neg c0,wr1 (by omega)]
   rfl
theorem spec_l1Cur_plain3.tot {s:List Int} (hs:ByteL s) (p q:Int) (hp:0≤p) (hb:p≤10000000000000):∃ r p' q',Ev (fun k=>spec_l1Cur_plain3.f k s p q) (r,p',q')∧r.length≤100∧p≤p'∧p'≤p + 1000:=by
 unfold spec_l1Cur_plain3.f
 obtain ⟨r,p1,q1,hr,h1,h2,h3⟩:=spec_l1Cur_jobs.tot hs p q hp (by omega)
 obtain ⟨b,p2,q2,e,h4,h5⟩:=on hs p1 q1 24 (by omega) (by omega)
 by_cases cb:b=true
 ·exact ⟨r,p2,q2,ev_bind _ hr (by simp only [e,Option.bind_some,if_pos cb];exact Ev.now _),h1,by omega,by omega⟩
 ·obtain ⟨r2,p3,q3,hr2,h6,h7,h8⟩:=plain3_l0 hs r.length 0 r p2 q2 (by omega) h1 (by omega) (by omega)
  exact ⟨r2,p3,q3,ev_bind _ hr (by simp only [e,Option.bind_some,if_neg cb];exact hr2),h6,by omega,by omega⟩

theorem perms_all:∀ (n:Nat) (L l:List Int),L.length=n→L.Nodup→l.Perm L→l ∈ perms n L
 | 0,L,l,hL,_,hp=>by
  obtain rfl:=List.eq_nil_of_length_eq_zero hL
  have:=hp.eq_nil
  subst this
  simp [perms]
 | n + 1,L,l,hL,hn,hp=>by
  have hlen:=hp.length_eq
  cases l with
  | nil=>simp at hlen;omega
  | cons x t=>
   have hx:x ∈ L:=hp.subset List.mem_cons_self
   have ht:t.Perm (L.erase x):=by
    have h2:=hp.erase x
    rwa [List.erase_cons_head] at h2
   have:=perms_all n (L.erase x) t (by rw [List.length_erase_of_mem hx];omega) (hn.erase x) ht
   show x::t ∈ L.flatMap fun x=>(perms n (L.erase x)).map fun l=>x::l
   exact List.mem_flatMap.2 ⟨x,hx,List.mem_map.2 ⟨t,this,rfl⟩⟩
theorem count_nodup:∀ {l:List Int},l.Nodup→∀ a,l.count a=if a ∈ l then 1 else 0
 | [],_,a=>by simp
 | b::l,h,a=>by
  have h':=List.nodup_cons.1 h
  rw [List.count_cons,count_nodup h'.2]
  by_cases e:b=a
  ·subst e
   simp [h'.1]
  ·have e':¬ a=b:=fun h2=>e h2.symm
   simp [e,e']
theorem isPerm_perms {n:Nat} {l:List Int} (h:IsPerm n l):l ∈ perms n (nums_to n):=by
 refine perms_all n _ l (nums_to_length n) (nums_to_nodup n) ?_
 have h1:l.Perm (nums_to n):=by
  rw [List.perm_iff_count]
  intro a
  have c1:=count_nodup h.2.1 a
  have c2:=count_nodup (nums_to_nodup n) a
  rw [c1,c2]
  have:a ∈ l ↔ a ∈ nums_to n:=⟨fun h2=>mem_nums_to.2 (h.2.2 a h2),fun h2=>h.all a (mem_nums_to.1 h2).1 (mem_nums_to.1 h2).2⟩
  simp [this]
 exact h1

theorem endsF_le (jobs:List J) (hj:∀ j ∈ jobs,0≤j.f0∧j.f0≤50∧0≤j.f2∧j.f2≤500):∀ (l out:List Int) (now B:Int),0≤now→now≤B→500≤B→B + 50 * (l.length:Int)≤1000000000→(∀ x ∈ l,0≤x∧x<jobs.length)→(∀ e ∈ out,e≤B)→∀ e ∈ endsF jobs l out now,e≤B + 50 * (l.length:Int)
 | [],_,_,_,_,_,_,_,_,h=>fun e he=>by have:=h e he;simp;omega
 | x::xs,out,now,B,h0,h1,h2,h3,hx,ho=>by
  simp only [List.length_cons] at h3
  have hx0:=hx x List.mem_cons_self
  have hr:=rdJ_int hx0.1 hx0.2
  have hk:=hj _ (List.getElem_mem (show x.toNat<jobs.length by omega))
  rw [←hr] at hk
  have hm:0≤mx now (rd_T44 jobs x).f2∧mx now (rd_T44 jobs x).f2≤B:=by unfold mx;split <;> omega
  have hw:wrap64 (mx now (rd_T44 jobs x).f2 + (rd_T44 jobs x).f0)=mx now (rd_T44 jobs x).f2 + (rd_T44 jobs x).f0:=wr (by omega) (by omega)
  rw [endsF,hw]
  intro e he
  have:=endsF_le jobs hj xs _ _ (B + 50) (by omega) (by omega) (by omega) (by omega) (fun y hy=>hx y (List.mem_cons_of_mem _ hy)) (fun e he=>by
   rcases List.mem_or_eq_of_mem_set he with he|rfl
   ·have:=ho e he;omega
   ·omega) e he
  simp only [List.length_cons];omega
theorem endsAll_le (jobs:List J) (l:List Int) (h:TwoOk jobs l):∀ e ∈ endsAll jobs l,e≤900:=by
 have h8:=h.1.1
 have hl:=h.2.1
 intro e he
 have:=endsF_le jobs (fun j hj=>by have:=h.1.2 j hj;unfold JobOk at this;omega) l _ 0 500 (by omega) (by omega) (by omega) (by omega) h.2.2.2 (fun e he=>by rw [(List.mem_replicate.1 he).2];omega) e he
 omega

end Go.Proofs.Ytkcfmaiknmfokaa.Pure
-- minified
