/- Proved here: what functions that the law FnExactSmithPrices reaches answer (base, perm, spec_l1In, impl_within, laws_eqIntS, jobT, ljobT, laws_szJobS, laws_toJobS, laws_eqJobS, spec_l2Good, impl_IsJobs, marks, laws_markIntS, laws_markJobS, plainOk, spec_l4Free, spec_l6Good, impl_isPlain, impl_IsPlain, demandF, guard, sortP, impl_numbersTo, ltI, spec_l1Put, spec_l6Ascending,). Conditions: those that each theorem names. -/
import Derived.Test.YtbblhmpcpmamfaaXFnExactSmithPricesx0
import Derived.Test.YtbblhmpcpmamfaaXFnExactSmithPricesx1
import Derived.Test.YtbblhmpcpmamfaaXFnExactSmithPricesx2
import Derived.Test.YtbblhmpcpmamfaaXFnExactSmithPricesx3
import Derived.Test.YtbblhmpcpmamfaaXFnExactSmithPricesx4
import Derived.Test.YtbblhmpcpmamfaaXFnExactSmithPricesx5
import Derived.Test.YtbblhmpcpmamfaaXFnExactSmithPricesx6
import Derived.Test.YtbblhmpcpmamfaaXFnExactSmithPricesx7
import Derived.Test.YtbblhmpcpmamfaaXFnExactSmithPricesx8
import Derived.Test.YtbblhmpcpmamfaaXFnExactSmithPricesx9
import Derived.Test.YtbblhmpcpmamfaaXFnExactSmithPricesx10
import Derived.Test.YtbblhmpcpmamfaaXFnExactSmithPricesx11
import Derived.Test.YtbblhmpcpmamfaaXFnExactSmithPricesx12
import Derived.Test.YtbblhmpcpmamfaaXFnExactSmithPricesx13
import Derived.Test.YtbblhmpcpmamfaaXFnExactSmithPricesx14
import Derived.Test.YtbblhmpcpmamfaaXFnExactSmithPricesx15
import Derived.Test.YtbblhmpcpmamfaaXFnExactSmithPricesx16
import Derived.Test.YtbblhmpcpmamfaaXFnExactSmithPricesx17
set_option linter.unusedVariables false
set_option linter.unusedSimpArgs false
namespace Go.Proofs.Ytbblhmpcpmamfaa.Pure
open Go.RowKit Go.Proofs.Ytbblhmpcpmamfaa.XFnExactSmithPrices Go.Proofs.YtbblhmpcpmamfaaW.PrintWords Go.Proofs.YtbblhmpcpmamfaaW.PrintLast

theorem wr {x:Int} (h0 : -9223372036854775808≤x) (h1:x≤9223372036854775807):wrap64 x=x:=by unfold wrap64;omega
theorem wr1 {i:Nat} (h:i<1000000000000000000):wrap64 ((i:Int) + 1)=((i + 1:Nat):Int):=by rw [wr (by omega) (by omega)];omega
theorem rev_ind {P:Nat→Prop} (n:Nat) (hn:P n) (hs:∀ i,i<n→P (i + 1)→P i):∀ i,i≤n→P i:=by
 intro i hi
 obtain ⟨d,rfl⟩:∃ d,n=i + d:=⟨n - i,by omega⟩
 clear hi
 induction d generalizing i with
 | zero=>exact hn
 | succ d ih=>
  refine hs i (by omega) (ih (i + 1) ?_ ?_)
  ·rw [show i + 1 + d=i + (d + 1) by omega];exact hn
  ·intro j hj;exact hs j (by omega)
theorem ev_stop {α:Type} {g:Nat→Option α} {r:α} (h:∀ k,g (k + 1)=some r):Ev g r:=Ev.step h (Ev.now r)
theorem ev_go {α:Type} {g:Nat→Option α} (f:Nat→Option α) {r:α} (h:∀ k,g (k + 1)=f k) (k:Ev f r):Ev g r:=Ev.step h k
theorem ev_ite {α:Type} {c:Prop} [Decidable c] {g f:Nat→Option α} {r:α} (h1:c→Ev g r) (h2:¬ c→Ev f r):Ev (fun k=>if c then g k else f k) r:=by
 by_cases h:c
 ·simp only [if_pos h];exact h1 h
 ·simp only [if_neg h];exact h2 h
theorem ev_bind {α β:Type} {g:Nat→Option α} {f:Nat→α→Option β} (a:α) {r:β} (h:Ev g a) (k:Ev (fun n=>f n a) r):Ev (fun n=>(g n).bind (f n)) r:=Ev.bind h k
/-- A bool that is told in the end, and what it says. -/
def EvB (g:Nat→Option Bool) (P:Prop):Prop:=∃ b:Bool,Ev g b∧(b=true ↔ P)
theorem evB_true {g:Nat→Option Bool} {P:Prop} (h:EvB g P) (hp:P):Ev g true:=by
 obtain ⟨b,hb,e⟩:=h
 rw [e.2 hp] at hb
 exact hb
theorem evB_false {g:Nat→Option Bool} {P:Prop} (h:EvB g P) (hp:¬ P):Ev g false:=by
 obtain ⟨b,hb,e⟩:=h
 cases b with
 | true=>exact absurd (e.1 rfl) hp
 | false=>exact hb
theorem evB_of {g:Nat→Option Bool} {P:Prop} (h1:P→Ev g true) (h2:¬ P→Ev g false):EvB g P:=by
 by_cases h:P
 ·exact ⟨true,h1 h,by simp [h]⟩
 ·exact ⟨false,h2 h,by simp [h]⟩
theorem evB_iff {g:Nat→Option Bool} {P Q:Prop} (h:EvB g P) (e:P ↔ Q):EvB g Q:=by
 obtain ⟨b,hb,e'⟩:=h
 exact ⟨b,hb,e'.trans e⟩
theorem evB_bind {g:Nat→Option Bool} {P:Prop} {α:Type} {f:Nat→Bool→Option α} {r:α} (h:EvB g P) (h1:P→Ev (fun n=>f n true) r) (h2:¬ P→Ev (fun n=>f n false) r):Ev (fun n=>(g n).bind (f n)) r:=by
 by_cases hp:P
 ·exact Ev.bind (evB_true h hp) (h1 hp)
 ·exact Ev.bind (evB_false h hp) (h2 hp)
theorem evB_same {g f:Nat→Option Bool} {P:Prop} (h:EvB g P) (k:EvB f P):∃ b,Ev g b∧Ev f b:=by
 obtain ⟨b,hb,e⟩:=h
 obtain ⟨c,hc,e'⟩:=k
 have:b=c:=by
  cases b <;> cases c <;> simp_all
 subst this
 exact ⟨b,hb,hc⟩
theorem some_bool (P:Prop) [Decidable P] {g:Nat→Option Bool} (h:∀ k,g k=some (decide P)):EvB g P:=⟨decide P,⟨0,fun k _=>h k⟩,by simp⟩
theorem rd_nat {l:List Int} {i:Nat} (h:i<l.length):rd l (i:Int)=l[i]:=by simp [rd,h]
theorem rd_zero {l:List Int} (h:0<l.length):rd l 0=l[0]:=by simp [rd,h]
theorem drop_cons {α:Type} {l:List α} {i:Nat} (h:i<l.length):l.drop i=l[i]::l.drop (i + 1):=List.drop_eq_getElem_cons h
theorem set_copy {α:Type} {l z:List α} {i:Nat} (h:i<l.length) (hz:i<z.length):(l.take i++z.drop i).set i l[i]=l.take (i + 1)++z.drop (i + 1):=by
 have hl:(l.take i).length=i:=by simp;omega
 rw [List.set_append_right _ _ (by omega),hl,Nat.sub_self,drop_cons hz,List.set_cons_zero,List.take_succ_eq_append_getElem h,List.append_assoc]
 rfl

theorem nodup_sub {α:Type} [DecidableEq α]:∀ {l s:List α},l.Nodup→(∀ x ∈ l,x ∈ s)→l.length≤s.length
 | [],_,_,_=>Nat.zero_le _
 | a::l,s,hn,hs=>by
  have ha:a ∈ s:=hs a List.mem_cons_self
  have hn':=List.nodup_cons.1 hn
  have:=nodup_sub (l:=l) (s:=s.erase a) hn'.2 (fun x hx=>by
   have hne:x≠a:=fun e=>hn'.1 (e ▸ hx)
   exact (List.mem_erase_of_ne hne).2 (hs x (List.mem_cons_of_mem _ hx)))
  have hp:0<s.length:=List.length_pos_of_mem ha
  rw [List.length_erase_of_mem ha] at this
  simp only [List.length_cons]
  omega
/-- The numbers 0..n-1. -/
def nums_to (n:Nat):List Int:=(List.range n).map fun (i:Nat)=>(i:Int)
theorem mem_nums_to {n:Nat} {x:Int} : x ∈ nums_to n ↔ 0≤x∧x<n:=by
 unfold nums_to
 simp only [List.mem_map,List.mem_range]
 constructor
 ·rintro ⟨i,hi,rfl⟩;omega
 ·rintro ⟨h0,h1⟩;exact ⟨x.toNat,by omega,by omega⟩
theorem nums_to_nodup (n:Nat):(nums_to n).Nodup:=by
 unfold nums_to
 rw [List.nodup_iff_pairwise_ne]
 rw [List.pairwise_map]
 exact (List.nodup_iff_pairwise_ne.1 List.nodup_range).imp (fun h e=>h (by omega))
theorem nums_to_length (n:Nat):(nums_to n).length=n:=by simp [nums_to]
/-- An order of n jobs. -/
def IsPerm (n:Nat) (l:List Int):Prop:=l.length=n∧l.Nodup∧∀ x ∈ l,0≤x∧x<n
theorem IsPerm.all {n:Nat} {l:List Int} (h:IsPerm n l) (x:Int) (h0:0≤x) (h1:x<n):x ∈ l:=by
 obtain ⟨hl,hn,hr⟩:=h
 by_cases hx:x ∈ l
 ·exact hx
 ·have:=nodup_sub (l:=x::l) (s:=nums_to n) (List.nodup_cons.2 ⟨hx,hn⟩) (fun y hy=>by
   rcases List.mem_cons.1 hy with rfl|hy
   ·exact mem_nums_to.2 ⟨h0,h1⟩
   ·exact mem_nums_to.2 (hr y hy))
  rw [nums_to_length] at this
  simp at this
  omega
theorem isPerm_of_all {n:Nat} {l:List Int} (hl:l.length=n) (ha:∀ x,0≤x→x<(n:Int)→x ∈ l):IsPerm n l:=by
 have big:∀ s:List Int,(∀ x,0≤x→x<(n:Int)→x ∈ s)→n≤s.length:=fun s hs=>by
  have:=nodup_sub (nums_to_nodup n) (fun x hx=>hs x (mem_nums_to.1 hx).1 (mem_nums_to.1 hx).2)
  rwa [nums_to_length] at this
 refine ⟨hl,?_,fun x hx=>?_⟩
 ·by_cases hn:l.Nodup
  ·exact hn
  ·exfalso
   have:∃ a,a ∈ l.erase a∧a ∈ l:=by
    clear hl ha big
    induction l with
    | nil=>exact absurd List.nodup_nil hn
    | cons b l ih=>
     by_cases hb:b ∈ l
     ·exact ⟨b,by simp [hb],List.mem_cons_self⟩
     ·obtain ⟨a,h1,h2⟩:=ih (fun h=>hn (List.nodup_cons.2 ⟨hb,h⟩))
      have hne:b≠a:=fun e=>hb (e ▸ h2)
      refine ⟨a,?_,List.mem_cons_of_mem _ h2⟩
      rw [List.erase_cons_tail (by simpa using hne)]
      exact List.mem_cons_of_mem _ h1
   obtain ⟨a,h1,h2⟩:=this
   have:=big (l.erase a) (fun x h0 h1'=>by
    by_cases e:x=a
    ·subst e;exact h1
    ·exact (List.mem_erase_of_ne e).2 (ha x h0 h1'))
   rw [List.length_erase_of_mem h2] at this
   have:=List.length_pos_of_mem h2
   omega
 ·by_cases hr:0≤x∧x<(n:Int)
  ·exact hr
  ·exfalso
   have:=big (l.erase x) (fun y h0 h1=>(List.mem_erase_of_ne (fun e=>hr (by rw [←e];exact ⟨h0,h1⟩))).2 (ha y h0 h1))
   rw [List.length_erase_of_mem hx] at this
   have:=List.length_pos_of_mem hx
   omega
theorem nodup_drop_step {l:List Int} {i:Nat} (h:i<l.length):(∀ j (hj:j<l.length),i≤j→l[j] ∉ l.take j) ↔ l[i] ∉ l.take i∧(∀ j (hj:j<l.length),i + 1≤j→l[j] ∉ l.take j):=by
 constructor
 ·intro H;exact ⟨H i h (Nat.le_refl _),fun j hj hij=>H j hj (by omega)⟩
 ·rintro ⟨h0,H⟩ j hj hij
  by_cases e:j=i
  ·subst e;exact h0
  ·exact H j hj (by omega)
theorem nodup_iff_take {l:List Int} : l.Nodup ↔ ∀ j (hj:j<l.length),l[j] ∉ l.take j:=by
 rw [List.nodup_iff_pairwise_ne,List.pairwise_iff_getElem]
 constructor
 ·intro H j hj hm
  obtain ⟨i,hi,e⟩:=List.getElem_of_mem hm
  simp only [List.length_take] at hi
  rw [List.getElem_take] at e
  exact H i j (by omega) hj (by omega) e
 ·intro H i j hi hj hij e
  refine H j hj ?_
  rw [←e]
  exact List.mem_take_iff_getElem.2 ⟨i,by omega,rfl⟩

theorem spec_l1In.eq (a b c:Int):spec_l1In.f a b c=some (decide (b≤a∧a≤c)):=by
 unfold spec_l1In.f
 by_cases h:a≥b
 ·rw [if_pos h];congr 1;simp;omega
 ·rw [if_neg h];congr 1;simp;omega

theorem impl_within.eq (a b c:Int):impl_within.f a b c=some (decide (b≤a∧a≤c)):=by
 unfold impl_within.f
 by_cases h:b≤a
 ·rw [if_pos h];congr 1;simp;omega
 ·rw [if_neg h];congr 1;simp;omega

theorem laws_eqIntS.ev (l m:List Int) (hl:l.length≤1000000000000000):EvB (fun k=>laws_eqIntS.f k l m) (l=m):=by
 unfold laws_eqIntS.f
 by_cases e:(l.length:Int)=(m.length:Int)
 ·simp only [if_pos e]
  have key:=rev_ind (P:=fun i=>EvB (fun k=>laws_eqIntS.l0 k l m (i:Int)) (l.drop i=m.drop i)) l.length ?_ ?_ 0 (Nat.zero_le _)
  ·simpa using key
  ·refine evB_of (fun _=>ev_stop fun k=>?_) (fun h=>absurd ?_ h)
   ·simp only [laws_eqIntS.l0];rw [if_neg (by omega)]
   ·rw [List.drop_eq_nil_of_le (by omega),List.drop_eq_nil_of_le (by omega)]
  ·intro i hi ih
   have hm:i<m.length:=by omega
   rw [drop_cons hi,drop_cons hm]
   by_cases q:l[i]=m[i]
   ·obtain ⟨b,hb,hP⟩:=ih
    refine ⟨b,ev_go _ (fun k=>?_) hb,by rw [hP,q];exact ⟨fun h=>by rw [h],fun h=>(List.cons.inj h).2⟩⟩
    simp only [laws_eqIntS.l0];rw [if_pos (by omega),if_pos (by omega),if_pos (by omega),rd_nat hi,rd_nat hm,if_pos q,wr1 (by omega)]
   ·refine evB_of (fun h=>absurd (List.cons.inj h).1 q) (fun _=>ev_stop fun k=>?_)
    simp only [laws_eqIntS.l0];rw [if_pos (by omega),if_pos (by omega),if_pos (by omega),rd_nat hi,rd_nat hm,if_neg q]
 ·simp only [if_neg e]
  exact evB_of (fun h=>absurd (by rw [h]) e) (fun _=>Ev.now _)
theorem laws_eqIntS.same (l:List Int) (hl:l.length≤1000000000000000):Ev (fun k=>laws_eqIntS.f k l l) true:=evB_true (laws_eqIntS.ev l l hl) rfl

abbrev J:=S62
theorem rdJ {l:List J} {i:Nat} (h:i<l.length):rd_T62 l (i:Int)=l[i]:=by simp [rd_T62,h]
theorem rdJ_zero {l:List J} (h:0<l.length):rd_T62 l 0=l[0]:=by simp [rd_T62,h]
/-- A valid job. -/
def JobOk (j:J):Prop:=(1≤j.f0∧j.f0≤50)∧(0≤j.f1∧j.f1≤50)∧(0≤j.f2∧j.f2≤500)∧(0≤j.f3∧j.f3≤500)
/-- A list of jobs. -/
def JobsOk (l:List J):Prop:=l.length≤8∧∀ j ∈ l,JobOk j

abbrev LJ:=S64
theorem rdLJ {l:List LJ} {i:Nat} (h:i<l.length):rd_T64 l (i:Int)=l[i]:=by simp [rd_T64,h]
def cvJ (x:LJ):J:=⟨x.f0,x.f1,x.f2,x.f3⟩

theorem laws_szJobS.eq (l:List LJ) (a:Int) (h0:0≤a) (h1:a≤1048576) (hl:l.length≤9223372036854775807):∃ n,laws_szJobS.f l a=some n∧n≤1048576∧(0≤n→l.length≤1048576):=by
 unfold laws_szJobS.f
 rw [wr (by omega) (by omega)]
 by_cases h:a - (l.length:Int)<0
 ·exact ⟨-1,by rw [if_pos h],by omega,fun h=>absurd h (by omega)⟩
 ·exact ⟨_,by rw [if_neg h],by omega,fun _=>by omega⟩

theorem laws_toJobS.ev (l:List LJ) (hl:l.length≤1000000000000):Ev (fun k=>laws_toJobS.f k l) (l.map cvJ):=by
 unfold laws_toJobS.f
 rw [show (fun k=>if 0≤(l.length:Int) then (if ((l.length:Int):Int).toNat≤8796093022208 then (laws_toJobS.l0 k l (List.replicate ((l.length:Int):Int).toNat z62) 0) else none) else none)=fun k=>laws_toJobS.l0 k l (List.replicate l.length z62) 0 from funext fun k=>by rw [if_pos (by omega),if_pos (by omega)];rfl]
 have key:=rev_ind (P:=fun i=>Ev (fun k=>laws_toJobS.l0 k l ((l.map cvJ).take i++(List.replicate l.length z62).drop i) (i:Int)) (l.map cvJ)) l.length ?_ ?_ 0 (Nat.zero_le _)
 ·simpa using key
 ·refine ev_stop fun k=>?_
  simp only [laws_toJobS.l0];rw [if_neg (by omega),List.take_of_length_le (by simp)];simp
 ·intro i hi ih
  have hlen:((l.map cvJ).take i++(List.replicate l.length z62).drop i).length=l.length:=by simp;omega
  refine ev_go _ (fun k=>?_) ih
  simp only [laws_toJobS.l0,laws_toJob.f,Option.bind_some];rw [if_pos (by omega),if_pos (by omega),if_pos (by rw [hlen];omega),rdLJ hi,wr1 (by omega)]
  have:=set_copy (l:=l.map cvJ) (z:=List.replicate l.length z62) (i:=i) (by simpa using hi) (by simpa using hi)
  rw [show ((i:Int)).toNat=i by omega,←this]
  simp [cvJ]

theorem laws_eqJob.eq (a b:J):∃ c,laws_eqJob.f a.f0 a.f1 a.f2 a.f3 b.f0 b.f1 b.f2 b.f3=some c∧(c=true ↔ a=b):=by
 obtain ⟨a0,a1,a2,a3⟩:=a
 obtain ⟨b0,b1,b2,b3⟩:=b
 unfold laws_eqJob.f
 by_cases h0:a0=b0
 ·by_cases h1:a1=b1
  ·by_cases h2:a2=b2
   ·by_cases h3:a3=b3
    ·exact ⟨true,by simp [h0,h1,h2,h3],by simp [h0,h1,h2,h3]⟩
    ·exact ⟨false,by simp [h0,h1,h2,h3],by simp [h3]⟩
   ·exact ⟨false,by simp [h0,h1,h2],by simp [h2]⟩
  ·exact ⟨false,by simp [h0,h1],by simp [h1]⟩
 ·exact ⟨false,by simp [h0],by simp [h0]⟩
theorem laws_eqJobS.ev (l m:List J) (hl:l.length≤1000000000000000):EvB (fun k=>laws_eqJobS.f k l m) (l=m):=by
 unfold laws_eqJobS.f
 by_cases e:(l.length:Int)=(m.length:Int)
 ·simp only [if_pos e]
  have key:=rev_ind (P:=fun i=>EvB (fun k=>laws_eqJobS.l0 k l m (i:Int)) (l.drop i=m.drop i)) l.length ?_ ?_ 0 (Nat.zero_le _)
  ·simpa using key
  ·refine evB_of (fun _=>ev_stop fun k=>?_) (fun h=>absurd ?_ h)
   ·simp only [laws_eqJobS.l0];rw [if_neg (by omega)]
   ·rw [List.drop_eq_nil_of_le (by omega),List.drop_eq_nil_of_le (by omega)]
  ·intro i hi ih
   have hm:i<m.length:=by omega
   rw [drop_cons hi,drop_cons hm]
   obtain ⟨c,hc,hce⟩:=laws_eqJob.eq l[i] m[i]
   by_cases q:l[i]=m[i]
   ·obtain ⟨b,hb,hP⟩:=ih
    refine ⟨b,ev_go _ (fun k=>?_) hb,by rw [hP,q];exact ⟨fun h=>by rw [h],fun h=>(List.cons.inj h).2⟩⟩
    simp only [laws_eqJobS.l0];rw [if_pos (by omega),if_pos (by omega),if_pos (by omega),rdJ hi,rdJ hm,hc,Option.bind_some,if_pos (hce.2 q),wr1 (by omega)]
   ·refine evB_of (fun h=>absurd (List.cons.inj h).1 q) (fun _=>ev_stop fun k=>?_)
    simp only [laws_eqJobS.l0];rw [if_pos (by omega),if_pos (by omega),if_pos (by omega),rdJ hi,rdJ hm,hc,Option.bind_some,if_neg (fun h=>q (hce.1 h))]
 ·simp only [if_neg e]
  exact evB_of (fun h=>absurd (by rw [h]) e) (fun _=>Ev.now _)
theorem laws_eqJobS.same (l:List J) (hl:l.length≤1000000000000000):Ev (fun k=>laws_eqJobS.f k l l) true:=evB_true (laws_eqJobS.ev l l hl) rfl

theorem spec_l2Job.eq (j:J):∃ c,spec_l2Job.f j.f0 j.f1 j.f2 j.f3=some c∧(c=true ↔ JobOk j):=by
 unfold spec_l2Job.f JobOk
 simp only [spec_l1In.eq,Option.bind_some]
 by_cases h0:1≤j.f0∧j.f0≤50
 ·by_cases h1:0≤j.f1∧j.f1≤50
  ·by_cases h2:0≤j.f2∧j.f2≤500
   ·exact ⟨decide (0≤j.f3∧j.f3≤500),by simp [h0,h1,h2],by simp [h0,h1,h2]⟩
   ·exact ⟨false,by simp [h0,h1,h2],by simp [h2]⟩
  ·exact ⟨false,by simp [h0,h1],by simp [h1]⟩
 ·exact ⟨false,by simp [h0],by simp [h0]⟩
theorem spec_l2Good.ev (l:List J) (hl:l.length≤1000000000000000):EvB (fun k=>spec_l2Good.f k l) (JobsOk l):=by
 have key:=rev_ind (P:=fun i=>EvB (fun k=>spec_l2Good.l0 k l (i:Int)) (l.length≤8∧∀ j ∈ l.drop i,JobOk j)) l.length ?_ ?_ 0 (Nat.zero_le _)
 ·simpa [spec_l2Good.f,JobsOk] using key
 ·refine ⟨decide ((l.length:Int)≤8),ev_stop fun k=>?_,by simp;omega⟩
  simp only [spec_l2Good.l0];rw [if_neg (by omega)]
 ·intro i hi ih
  rw [drop_cons hi]
  obtain ⟨c,hc,hce⟩:=spec_l2Job.eq l[i]
  by_cases q:JobOk l[i]
  ·obtain ⟨b,hb,hP⟩:=ih
   refine ⟨b,ev_go _ (fun k=>?_) hb,hP.trans ⟨fun h=>⟨h.1,fun x hx=>?_⟩,fun h=>⟨h.1,fun x hx=>h.2 x (List.mem_cons_of_mem _ hx)⟩⟩⟩
   ·simp only [spec_l2Good.l0];rw [if_pos (by omega),if_pos (by omega),rdJ hi,hc,Option.bind_some,if_pos (hce.2 q),wr1 (by omega)]
   ·rcases List.mem_cons.1 hx with rfl|hx
    ·exact q
    ·exact h.2 x hx
  ·refine evB_of (fun h=>absurd (h.2 _ List.mem_cons_self) q) (fun _=>ev_stop fun k=>?_)
   simp only [spec_l2Good.l0];rw [if_pos (by omega),if_pos (by omega),rdJ hi,hc,Option.bind_some,if_neg (fun h=>q (hce.1 h))]

theorem impl_IsJobs.ev (l:List J):EvB (fun k=>impl_IsJobs.f k l) (JobsOk l):=by
 unfold impl_IsJobs.f
 by_cases h8:(l.length:Int)>8
 ·simp only [if_pos h8]
  exact evB_of (fun h=>absurd h.1 (by omega)) (fun _=>Ev.now _)
 ·simp only [if_neg h8]
  have key:=rev_ind (P:=fun i=>EvB (fun k=>impl_IsJobs.l0 k l (l.length:Int) (i:Int)) (∀ j ∈ l.drop i,JobOk j)) l.length ?_ ?_ 0 (Nat.zero_le _)
  ·refine evB_iff (by simpa using key) ⟨fun h=>⟨by omega,h⟩,fun h=>h.2⟩
  ·refine evB_of (fun _=>ev_stop fun k=>?_) (fun h=>absurd (by simp) h)
   simp only [impl_IsJobs.l0];rw [if_neg (by omega)]
  ·intro i hi ih
   rw [drop_cons hi]
   by_cases q:JobOk l[i]
   ·obtain ⟨b,hb,hP⟩:=ih
    refine ⟨b,ev_go _ (fun k=>?_) hb,hP.trans ⟨fun h x hx=>?_,fun h x hx=>h x (List.mem_cons_of_mem _ hx)⟩⟩
    ·simp only [impl_IsJobs.l0,impl_within.eq,impl_isDate.f,Option.bind_some]
     rw [if_pos (by omega),if_pos (by omega),if_pos (by omega),rdJ hi,if_pos (by simpa using q.1),if_pos (by simpa using q.2.1),if_pos (by simpa using q.2.2.1),if_pos (by simpa using q.2.2.2),wr1 (by omega)]
    ·rcases List.mem_cons.1 hx with rfl|hx
     ·exact q
     ·exact h x hx
   ·refine evB_of (fun h=>absurd (h _ List.mem_cons_self) q) (fun _=>ev_stop fun k=>?_)
    simp only [impl_IsJobs.l0,impl_within.eq,impl_isDate.f,Option.bind_some]
    rw [if_pos (by omega),if_pos (by omega),if_pos (by omega),rdJ hi]
    unfold JobOk at q
    by_cases h0:1≤l[i].f0∧l[i].f0≤50
    ·rw [if_pos (by simpa using h0)]
     by_cases h1:0≤l[i].f1∧l[i].f1≤50
     ·rw [if_pos (by simpa using h1)]
      by_cases h2:0≤l[i].f2∧l[i].f2≤500
      ·rw [if_pos (by simpa using h2)]
       by_cases h3:0≤l[i].f3∧l[i].f3≤500
       ·exact absurd ⟨h0,h1,h2,h3⟩ q
       ·rw [if_neg (by simpa using h3)]
      ·rw [if_neg (by simpa using h2)]
     ·rw [if_neg (by simpa using h1)]
    ·rw [if_neg (by simpa using h0)]

theorem ev_succ {α:Type} {g:Nat→Option α} {r:α} (h:Ev (fun k=>g (k + 1)) r):Ev g r:=Ev.step (fun _=>rfl) h
/-- a, a + 1, .. -/
def iotaI (a:Int):Nat→List Int
 | 0=>[]
 | n + 1=>a::iotaI (a + 1) n
theorem iotaI_length (n:Nat):∀ a,(iotaI a n).length=n:=by
 induction n with
 | zero=>intro a;rfl
 | succ n ih=>intro a;simp [iotaI,ih]
theorem iotaI_snoc (n:Nat):∀ a:Int,iotaI a (n + 1)=iotaI a n++[a + n]:=by
 induction n with
 | zero=>intro a;simp [iotaI]
 | succ n ih=>
  intro a
  rw [iotaI,ih,iotaI,List.cons_append]
  congr 3
  omega
theorem iotaI_get (n:Nat):∀ (a:Int) (i:Nat) (h:i<(iotaI a n).length),(iotaI a n)[i]=a + i:=by
 induction n with
 | zero=>intro a i h;simp [iotaI] at h
 | succ n ih=>
  intro a i h
  cases i with
  | zero=>simp [iotaI]
  | succ i=>
   simp only [iotaI,List.getElem_cons_succ]
   rw [ih];omega

theorem laws_markIntS.ev (l:List Int) (a:Int) (h0:0≤a) (h1:a≤1000000000000000) (hl:l.length≤1000000000000):Ev (fun k=>laws_markIntS.f k l a) (a + l.length,iotaI a l.length):=by
 have key:=rev_ind (P:=fun i=>Ev (fun k=>laws_markIntS.l0 k (iotaI a i++l.drop i) (a + i) (i:Int)) (a + l.length,iotaI a l.length)) l.length ?_ ?_ 0 (Nat.zero_le _)
 ·simpa [laws_markIntS.f,iotaI] using key
 ·refine ev_stop fun k=>?_
  have hlen:(iotaI a l.length++l.drop l.length).length=l.length:=by simp [iotaI_length]
  simp only [laws_markIntS.l0];rw [if_neg (by rw [hlen];omega)];simp
 ·intro i hi ih
  have hlen:(iotaI a i++l.drop i).length=l.length:=by simp [iotaI_length];omega
  refine ev_go _ (fun k=>?_) ih
  simp only [laws_markIntS.l0];rw [if_pos (by rw [hlen];omega),if_pos (by omega),wr (x:=a + i + 1) (by omega) (by omega),wr1 (by omega)]
  rw [show ((i:Int)).toNat=i by omega,drop_cons hi,List.set_append_right _ _ (by simp [iotaI_length]),iotaI_length,Nat.sub_self,List.set_cons_zero,iotaI_snoc,List.append_assoc]
  congr 1;omega
theorem laws_heldIntS.ev (n:Nat) (a:Int) (h0:0≤a) (h1:a≤1000000000000000) (hl:n≤1000000000000):Ev (fun k=>laws_heldIntS.f k (iotaI a n) a) (a + n):=by
 have key:=rev_ind (P:=fun i=>Ev (fun k=>laws_heldIntS.l0 k (iotaI a n) (a + i) (i:Int)) (a + n)) n ?_ ?_ 0 (Nat.zero_le _)
 ·simpa [laws_heldIntS.f] using key
 ·refine ev_stop fun k=>?_
  simp only [laws_heldIntS.l0];rw [if_neg (by rw [iotaI_length];omega)]
 ·intro i hi ih
  refine ev_go _ (fun k=>?_) ih
  have hi':i<(iotaI a n).length:=by rw [iotaI_length];exact hi
  simp only [laws_heldIntS.l0];rw [if_pos (by rw [iotaI_length];omega),if_pos (by omega),rd_nat hi',iotaI_get,if_pos rfl,wr (x:=a + i + 1) (by omega) (by omega),wr1 (by omega)]
  congr 1;omega
/-- An argument is marked: the next mark is no negative number. -/
theorem laws_markIntS.any (l:List Int) (a:Int) (h0:0≤a) (h1:a≤100000000000000) (hl:l.length≤1048576):∃ n l',Ev (fun k=>laws_markIntS.f k l a) (n,l')∧0≤n∧n≤a + 100000000∧((n<0)=False):=
 ⟨_,_,laws_markIntS.ev l a h0 (by omega) (by omega),by omega,by omega,by simp;omega⟩
/-- A result is marked, and holds its marks. -/
theorem laws_markIntS.held (l:List Int) (hl:l.length≤1048576):∃ n l',Ev (fun k=>laws_markIntS.f k l 1) (n,l')∧Ev (fun k=>laws_heldIntS.f k l' 1) n∧((n<0)=False):=
 ⟨_,_,laws_markIntS.ev l 1 (by omega) (by omega) (by omega),laws_heldIntS.ev l.length 1 (by omega) (by omega) (by omega),by simp;omega⟩

def mkJ1 (x:List J) (i b:Int):List J:=x.set i.toNat ⟨b,(rd_T62 x i).f1,(rd_T62 x i).f2,(rd_T62 x i).f3⟩
def mkJ2 (x:List J) (i b:Int):List J:=x.set i.toNat ⟨(rd_T62 x i).f0,b,(rd_T62 x i).f2,(rd_T62 x i).f3⟩
def mkJ3 (x:List J) (i b:Int):List J:=x.set i.toNat ⟨(rd_T62 x i).f0,(rd_T62 x i).f1,b,(rd_T62 x i).f3⟩
def mkJ4 (x:List J) (i b:Int):List J:=x.set i.toNat ⟨(rd_T62 x i).f0,(rd_T62 x i).f1,(rd_T62 x i).f2,b⟩
theorem laws_markJobS.any (l:List J) (a:Int) (h0:0≤a) (h1:a≤1000000000) (hl:l.length≤1048576):∃ n l',Ev (fun k=>laws_markJobS.f k l a) (n,l')∧0≤n∧n≤a + 100000000∧((n<0)=False):=by
 have key:=rev_ind (P:=fun i=>∀ (x:List J) (b:Int),x.length=l.length→b=a + 4 * i→∃ l',Ev (fun k=>laws_markJobS.l0 k x b (i:Int)) (a + 4 * l.length,l')) l.length ?_ ?_ 0 (Nat.zero_le _) l a rfl (by omega)
 ·obtain ⟨l',h⟩:=key
  exact ⟨_,l',by simpa [laws_markJobS.f] using h,by omega,by omega,by simp;omega⟩
 ·intro x b hx hb
  refine ⟨x,ev_stop fun k=>?_⟩
  simp only [laws_markJobS.l0];rw [if_neg (by omega),hb]
 ·intro i hi ih x b hx hb
  have gen:∀ y:List J,y.length=l.length→∃ l',Ev (fun k=>laws_markJobS.l0 k y (b + 4) ((i + 1:Nat):Int)) (a + 4 * l.length,l'):=fun y hy=>ih y (b + 4) hy (by omega)
  have w1:wrap64 (b + 1)=b + 1:=wr (by omega) (by omega)
  have w2:wrap64 (b + 1 + 1)=b + 2:=by rw [wr (by omega) (by omega)];omega
  have w3:wrap64 (b + 2 + 1)=b + 3:=by rw [wr (by omega) (by omega)];omega
  have w4:wrap64 (b + 3 + 1)=b + 4:=by rw [wr (by omega) (by omega)];omega
  have step:∃ y:List J,y.length=l.length∧∀ k,laws_markJobS.l0 (k + 1) x b (i:Int)=laws_markJobS.l0 k y (b + 4) ((i + 1:Nat):Int):=by
   refine ⟨mkJ4 (mkJ3 (mkJ2 (mkJ1 x i b) i (b + 1)) i (b + 2)) i (b + 3),by simp [mkJ1,mkJ2,mkJ3,mkJ4,hx],fun k=>?_⟩
   simp only [laws_markJobS.l0,Option.bind_some]
   rw [if_pos (by omega),if_pos (by omega),w1,w2,w3,w4,wr1 (by omega)]
   rfl
  obtain ⟨y,hy,hs⟩:=step
  obtain ⟨l',h⟩:=gen y hy
  exact ⟨l',ev_go _ hs h⟩

def NoRel (l:List J):Prop:=∀ j ∈ l,j.f2=0
def PlainOk (l:List J):Prop:=JobsOk l∧NoRel l
theorem noRel_cons {x:J} {l:List J} : NoRel (x::l) ↔ x.f2=0∧NoRel l:=by simp [NoRel]

theorem spec_l4Free.ev (l:List J) (hl:l.length≤1000000000000) (hj:∀ j ∈ l,0≤j.f2):EvB (fun k=>spec_l4Free.f k l) (NoRel l):=by
 have key:=rev_ind (P:=fun i=>EvB (fun k=>spec_l4Free.l0 k l (i:Int)) (NoRel (l.drop i))) l.length ?_ ?_ 0 (Nat.zero_le _)
 ·simpa [spec_l4Free.f] using key
 ·refine evB_of (fun _=>ev_stop fun k=>?_) (fun h=>absurd (by rw [List.drop_length];intro j hj;cases hj) h)
  simp only [spec_l4Free.l0];rw [if_neg (by omega)]
 ·intro i hi ih
  rw [drop_cons hi,noRel_cons]
  have h0:=hj _ (List.getElem_mem hi)
  by_cases q:l[i].f2=0
  ·obtain ⟨c,hb,hP⟩:=ih
   refine ⟨c,ev_go _ (fun k=>?_) hb,hP.trans ⟨fun h=>⟨q,h⟩,fun h=>h.2⟩⟩
   simp only [spec_l4Free.l0];rw [if_pos (by omega),if_pos (by omega),rdJ hi,if_neg (by omega),wr1 (by omega)]
  ·refine evB_of (fun h=>absurd h.1 q) (fun _=>ev_stop fun k=>?_)
   simp only [spec_l4Free.l0];rw [if_pos (by omega),if_pos (by omega),rdJ hi,if_pos (by omega)]

theorem spec_l6Good.ev (l:List J) (hl:l.length≤1000000000000):EvB (fun k=>spec_l6Good.f k l) (PlainOk l):=by
 unfold spec_l6Good.f PlainOk
 refine evB_of (fun h=>?_) (fun h=>?_)
 ·refine evB_bind (spec_l2Good.ev l (by omega)) (fun _=>?_) (fun h'=>absurd h.1 h')
  simp only [if_true]
  exact evB_bind (spec_l4Free.ev l hl (fun j hj=>(h.1.2 j hj).2.2.1.1)) (fun _=>Ev.now _) (fun h'=>absurd h.2 h')
 ·refine evB_bind (spec_l2Good.ev l (by omega)) (fun h1=>?_) (fun _=>by simp only [Bool.false_eq_true,if_false];exact Ev.now _)
  simp only [if_true]
  exact evB_bind (spec_l4Free.ev l hl (fun j hj=>(h1.2 j hj).2.2.1.1)) (fun h2=>absurd ⟨h1,h2⟩ h) (fun _=>Ev.now _)

theorem impl_isPlain.ev (l:List J) (hl:l.length≤1000000000000):EvB (fun k=>impl_isPlain.f k l) (NoRel l):=by
 have key:=rev_ind (P:=fun i=>EvB (fun k=>impl_isPlain.l0 k l (l.length:Int) (i:Int)) (NoRel (l.drop i))) l.length ?_ ?_ 0 (Nat.zero_le _)
 ·simpa [impl_isPlain.f] using key
 ·refine evB_of (fun _=>ev_stop fun k=>?_) (fun h=>absurd (by rw [List.drop_length];intro j hj;cases hj) h)
  simp only [impl_isPlain.l0];rw [if_neg (by omega)]
 ·intro i hi ih
  rw [drop_cons hi,noRel_cons]
  by_cases q:l[i].f2=0
  ·obtain ⟨c,hb,hP⟩:=ih
   refine ⟨c,ev_go _ (fun k=>?_) hb,hP.trans ⟨fun h=>⟨q,h⟩,fun h=>h.2⟩⟩
   simp only [impl_isPlain.l0];rw [if_pos (by omega),if_pos (by omega),if_pos (by omega),rdJ hi,if_pos q,wr1 (by omega)]
  ·refine evB_of (fun h=>absurd h.1 q) (fun _=>ev_stop fun k=>?_)
   simp only [impl_isPlain.l0];rw [if_pos (by omega),if_pos (by omega),if_pos (by omega),rdJ hi,if_neg q]

theorem impl_IsPlain.ev (l:List J) (hl:l.length≤1000000000000):EvB (fun k=>impl_IsPlain.f k l) (PlainOk l):=by
 unfold impl_IsPlain.f PlainOk
 refine evB_of (fun h=>?_) (fun h=>?_)
 ·refine evB_bind (impl_IsJobs.ev l) (fun _=>?_) (fun h'=>absurd h.1 h')
  simp only [if_true]
  exact evB_bind (impl_isPlain.ev l hl) (fun _=>Ev.now _) (fun h'=>absurd h.2 h')
 ·refine evB_bind (impl_IsJobs.ev l) (fun h1=>?_) (fun _=>by simp only [Bool.false_eq_true,if_false];exact Ev.now _)
  simp only [if_true]
  exact evB_bind (impl_isPlain.ev l hl) (fun h2=>absurd ⟨h1,h2⟩ h) (fun _=>Ev.now _)

theorem rdJ_int {l:List J} {x:Int} (h0:0≤x) (h1:x<l.length):rd_T62 l x=l[x.toNat]'(by omega):=by
 have:x.toNat<l.length:=by omega
 simp [rd_T62,this]
def demandF (jobs:List J):List Int→Int→Int→Int
 | [],t,s=>wrap64 (Int.tdiv (wrap64 ((wrap64 (t * t)) + s)) 2)
 | x::xs,t,s=>demandF jobs xs (wrap64 (t + (rd_T62 jobs x).f0)) (wrap64 (s + (wrap64 ((rd_T62 jobs x).f0 * (rd_T62 jobs x).f0))))

theorem ev_guard {g:Nat→Option Bool} {P:Prop} {α:Type} {F:Nat→Option α} {z r:α} (h:EvB g P) (h1:P→Ev F r) (h2:¬ P→r=z):Ev (fun n=>(g n).bind fun t=>if t=true then F n else some z) r:=by
 refine evB_bind h (fun hp=>?_) (fun hp=>?_)
 ·simp only [if_true];exact h1 hp
 ·simp only [Bool.false_eq_true,if_false];rw [h2 hp];exact Ev.now _
theorem ev_guard' {g:Nat→Option Bool} {P:Prop} {α:Type} {F G:Nat→Option α} {r:α} (h:EvB g P) (h1:P→Ev F r) (h2:¬ P→Ev G r):Ev (fun n=>(g n).bind fun t=>if t=true then F n else G n) r:=by
 refine evB_bind h (fun hp=>?_) (fun hp=>?_)
 ·simp only [if_true];exact h1 hp
 ·simp only [Bool.false_eq_true,if_false];exact h2 hp

/-- An order in which one may stand ahead of another: what 'not ahead' is handed on through, and what is ahead is not behind. -/
structure Pre (lt:Int→Int→Bool) (P:Int→Prop):Prop where
 trans:∀ a b c,P a→P b→P c→lt b a=false→lt c b=false→lt c a=false
 asym:∀ a b,P a→P b→lt a b=true→lt b a=false
def SortedLt (lt:Int→Int→Bool) (l:List Int):Prop:=l.Pairwise fun a b=>lt b a=false
theorem pre_key (f:Int→Int) (P:Int→Prop):Pre (fun a b=>decide (f a<f b)) P:=by
 refine ⟨fun a b c _ _ _ h1 h2=>?_,fun a b _ _ h=>?_⟩ <;> simp at * <;> omega
theorem insPos_at {lt:Int→Int→Bool} {P:Int→Prop} (hp:Pre lt P) {x:Int} {out:List Int} (hx:P x) (ho:∀ y ∈ out,P y) (hs:SortedLt lt out) (j:Nat) (hj:j≤out.length) (h1:∀ y ∈ out.take j,lt x y=false) (h2:∀ h:j<out.length,lt x out[j]=true):insPos lt x out out.length=j:=by
 have key:∀ d,j + d≤out.length→insPos lt x out (j + d)=j:=by
  intro d
  induction d with
  | zero=>
   intro _
   cases j with
   | zero=>rfl
   | succ j=>
    rw [Nat.add_zero,insPos,if_neg]
    have hm:out[j] ∈ out.take (j + 1):=List.mem_take_iff_getElem.2 ⟨j,by omega,rfl⟩
    have:=h1 _ hm
    simp [List.getD_eq_getElem?_getD,show j<out.length by omega,this]
  | succ d ih=>
   intro hd
   rw [←Nat.add_assoc,insPos,if_pos,ih (by omega)]
   have hq:lt x (out[j + d]'(by omega))=true:=by
    refine Classical.byContradiction fun hc=>?_
    have hc:lt x (out[j + d]'(by omega))=false:=by simpa using hc
    have hj2:=h2 (by omega)
    by_cases e:d=0
    ·subst e;simp at hc;rw [hc] at hj2;cases hj2
    ·have hpw:=(List.pairwise_iff_getElem.1 hs) j (j + d) (by omega) (by omega) (by omega)
     have:=hp.trans _ _ _ (ho _ (List.getElem_mem (by omega:j<out.length))) (ho _ (List.getElem_mem (by omega:j + d<out.length))) hx hpw hc
     rw [this] at hj2;cases hj2
   simpa [List.getD_eq_getElem?_getD,show j + d<out.length by omega] using hq
 have:=key (out.length - j) (by omega)
 rwa [show j + (out.length - j)=out.length by omega] at this
theorem insAt_at {lt:Int→Int→Bool} {P:Int→Prop} (hp:Pre lt P) {x:Int} {out:List Int} (hx:P x) (ho:∀ y ∈ out,P y) (hs:SortedLt lt out) (j:Nat) (hj:j≤out.length) (h1:∀ y ∈ out.take j,lt x y=false) (h2:∀ h:j<out.length,lt x out[j]=true):insAt lt x out=out.take j++x::out.drop j:=by
 unfold insAt
 rw [insPos_at hp hx ho hs j hj h1 h2]
theorem insPos_left {lt:Int→Int→Bool} {x:Int} {out:List Int} : ∀ k,k≤out.length→(0<insPos lt x out k→lt x (out.getD (insPos lt x out k - 1) 0)=false)∧(∀ i,insPos lt x out k≤i→i<k→lt x (out.getD i 0)=true)
 | 0,_=>⟨fun h=>absurd h (by simp [insPos]),fun i _ h=>absurd h (by omega)⟩
 | k + 1,hk=>by
  have ih:=insPos_left (lt:=lt) (x:=x) (out:=out) k (by omega)
  rw [insPos]
  by_cases q:lt x (out.getD k 0)=true
  ·rw [if_pos q]
   refine ⟨ih.1,fun i h1 h2=>?_⟩
   by_cases e:i=k
   ·subst e;exact q
   ·exact ih.2 i h1 (by omega)
  ·rw [if_neg q]
   exact ⟨fun _=>by simpa using q,fun i h1 h2=>absurd h1 (by omega)⟩
theorem insAt_perm (lt:Int→Int→Bool) (x:Int) (out:List Int):(insAt lt x out).Perm (x::out):=by
 unfold insAt
 refine List.perm_middle.trans ?_
 rw [List.take_append_drop]
theorem insAt_sorted {lt:Int→Int→Bool} {P:Int→Prop} (hp:Pre lt P) {x:Int} {out:List Int} (hx:P x) (ho:∀ y ∈ out,P y) (hs:SortedLt lt out):SortedLt lt (insAt lt x out):=by
 unfold insAt SortedLt
 obtain ⟨hl,hr⟩:=insPos_left (lt:=lt) (x:=x) (out:=out) out.length (Nat.le_refl _)
 have hle:=insPos_le lt x out out.length
 generalize hq:insPos lt x out out.length=p at hl hr hle ⊢
 rw [List.pairwise_append,List.pairwise_cons]
 have left:∀ a ∈ out.take p,lt x a=false:=by
  intro a ha
  obtain ⟨i,hi,rfl⟩:=List.mem_take_iff_getElem.1 ha
  have hi':i<p:=by omega
  have h0:=hl (by omega)
  rw [List.getD_eq_getElem?_getD,List.getElem?_eq_getElem (by omega),Option.getD_some] at h0
  by_cases e:i=p - 1
  ·subst e;exact h0
  ·exact hp.trans _ _ _ (ho _ (List.getElem_mem _)) (ho _ (List.getElem_mem (by omega:p - 1<out.length))) hx ((List.pairwise_iff_getElem.1 hs) i (p - 1) (by omega) (by omega) (by omega)) h0
 have right:∀ b ∈ out.drop p,lt b x=false:=by
  intro b hb
  obtain ⟨i,hi,rfl⟩:=List.mem_drop_iff_getElem.1 hb
  have h0:=hr (p + i) (by omega) (by omega)
  rw [List.getD_eq_getElem?_getD,List.getElem?_eq_getElem (by omega),Option.getD_some] at h0
  exact hp.asym _ _ hx (ho _ (List.getElem_mem _)) h0
 have hs':=hs
 unfold SortedLt at hs'
 rw [←List.take_append_drop p out,List.pairwise_append] at hs'
 refine ⟨hs'.1,⟨right,hs'.2.1⟩,fun a ha b hb=>?_⟩
 rcases List.mem_cons.1 hb with rfl|hb
 ·exact left a ha
 ·exact hs'.2.2 a ha b hb
theorem insAll_perm (lt:Int→Int→Bool):∀ (l out:List Int),(insAll lt l out).Perm (l++out)
 | [],out=>List.Perm.refl _
 | x::l,out=>by
  rw [insAll]
  refine (insAll_perm lt l _).trans ?_
  refine ((insAt_perm lt x out).append_left l).trans ?_
  exact List.perm_middle
theorem insAll_sorted {lt:Int→Int→Bool} {P:Int→Prop} (hp:Pre lt P):∀ (l out:List Int),(∀ y ∈ l,P y)→(∀ y ∈ out,P y)→SortedLt lt out→SortedLt lt (insAll lt l out)
 | [],out,_,_,h=>h
 | x::l,out,hl,ho,h=>by
  rw [insAll]
  have hx:=hl x List.mem_cons_self
  refine insAll_sorted hp l _ (fun y hy=>hl y (List.mem_cons_of_mem _ hy)) (fun y hy=>?_) (insAt_sorted hp hx ho h)
  rcases List.mem_cons.1 ((insAt_perm lt x out).mem_iff.1 hy) with rfl|hy
  ·exact hx
  ·exact ho y hy
/-- All numbers below n, sorted. -/
def sortN (lt:Int→Int→Bool) (n:Nat):List Int:=insAll lt (nums_to n) []
theorem sortN_perm (lt:Int→Int→Bool) (n:Nat):(sortN lt n).Perm (nums_to n):=by
 have:=insAll_perm lt (nums_to n) []
 rwa [List.append_nil] at this
theorem sortN_isPerm (lt:Int→Int→Bool) (n:Nat):IsPerm n (sortN lt n):=by
 have h:=sortN_perm lt n
 refine ⟨by rw [h.length_eq,nums_to_length],h.nodup_iff.2 (nums_to_nodup n),fun x hx=>mem_nums_to.1 (h.mem_iff.1 hx)⟩

theorem impl_numbersTo.ev (n:Nat) (hn:n≤1048576):Ev (fun k=>impl_numbersTo.f k (n:Int)) (nums_to n):=by
 have ht:∀ i,i<n→(nums_to n).take i++[(i:Int)]=(nums_to n).take (i + 1):=by
  intro i hi
  rw [List.take_succ_eq_append_getElem (by rw [nums_to_length];exact hi)]
  simp [nums_to]
 have key:=rev_ind (P:=fun i=>Ev (fun k=>impl_numbersTo.l0 k (n:Int) ((nums_to n).take i) (i:Int)) (nums_to n)) n ?_ ?_ 0 (Nat.zero_le _)
 ·simpa [impl_numbersTo.f] using key
 ·refine ev_stop fun k=>?_
  simp only [impl_numbersTo.l0];rw [if_neg (by omega),List.take_of_length_le (by rw [nums_to_length];omega)]
 ·intro i hi ih
  rw [←ht i hi] at ih
  refine ev_go _ (fun k=>?_) ih
  simp only [impl_numbersTo.l0];rw [if_pos (by omega),if_pos (by simp;omega),wr1 (by omega)]

def ltI:Int→Int→Bool:=fun a b=>decide (a<b)
theorem ltI_pre (P:Int→Prop):Pre ltI P:=pre_key (fun x=>x) P
theorem insAll_len (lt:Int→Int→Bool) (l:List Int):(insAll lt l []).length=l.length:=by
 have:=(insAll_perm lt l []).length_eq
 simpa using this
theorem insAll_mem {lt:Int→Int→Bool} {l:List Int} {x:Int} : x ∈ insAll lt l [] ↔ x ∈ l:=by
 have:=(insAll_perm lt l []).mem_iff (a:=x)
 simpa using this

theorem spec_l1Put.ev (l:List Int) (n:Int) (hl:l.length≤1000000) (hs:SortedLt ltI l) (hn:n ∉ l):Ev (fun k=>spec_l1Put.f k l n) (insAt ltI n l):=by
 have hP:=ltI_pre (fun _=>True)
 have key:=rev_ind (P:=fun j=>(∀ y ∈ l.take j,ltI n y=false)→Ev (fun k=>spec_l1Put.l0 k l n (j:Int)) (insAt ltI n l)) l.length ?_ ?_ 0 (Nat.zero_le _) (by simp)
 ·simpa [spec_l1Put.f] using key
 ·intro ht
  rw [insAt_at hP trivial (fun _ _=>trivial) hs l.length (Nat.le_refl _) ht (fun h=>absurd h (by omega))]
  refine ev_stop fun k=>?_
  simp only [spec_l1Put.l0];rw [if_neg (by omega)]
  simp only [Option.bind_some]
  rw [if_pos (by omega),if_pos (by omega),if_pos (by simp;omega),if_pos (by simp;omega),if_pos (by simp;omega)]
  simp
 ·intro j hj ih ht
  by_cases q:l[j]<n
  ·refine ev_go _ (fun k=>?_) (ih ?_)
   ·simp only [spec_l1Put.l0];rw [rd_nat hj,if_pos (by omega),if_pos (by omega),if_pos q,wr1 (by omega)]
   ·intro y hy
    rw [List.take_succ_eq_append_getElem hj] at hy
    rcases List.mem_append.1 hy with hy|hy
    ·exact ht y hy
    ·rw [List.mem_singleton] at hy;subst hy;unfold ltI;simp;omega
  ·have hne:l[j]≠n:=fun e=>hn (e ▸ List.getElem_mem hj)
   rw [insAt_at hP trivial (fun _ _=>trivial) hs j (by omega) ht (fun _=>by unfold ltI;simp;omega)]
   refine ev_stop fun k=>?_
   simp only [spec_l1Put.l0];rw [rd_nat hj,if_pos (by omega),if_pos (by omega),if_neg q,if_neg hne]
   simp only [Option.bind_some]
   rw [if_pos (by omega),if_pos (by simp;omega),if_pos (by simp;omega),if_pos (by simp;omega)]
   simp

theorem spec_l6Ascending.ev (l:List Int) (hl:l.length≤1000000) (hn:l.Nodup):Ev (fun k=>spec_l6Ascending.f k l) (insAll ltI l []):=by
 have key:=rev_ind (P:=fun i=>∀ out:List Int,out.length=i→SortedLt ltI out→(∀ y ∈ l.drop i,y ∉ out)→Ev (fun k=>spec_l6Ascending.l0 k l out (i:Int)) (insAll ltI (l.drop i) out)) l.length ?_ ?_ 0 (Nat.zero_le _) [] rfl List.Pairwise.nil (by simp)
 ·simpa [spec_l6Ascending.f] using key
 ·intro out ho _ _
  refine ev_stop fun k=>?_
  simp only [spec_l6Ascending.l0];rw [if_neg (by omega),List.drop_length,insAll]
 ·intro i hi ih out ho hs hd
  rw [drop_cons hi,insAll]
  have hnd:(l.drop i).Nodup:=(List.drop_sublist i l).nodup hn
  rw [drop_cons hi] at hnd hd
  have hx:=hd _ List.mem_cons_self
  refine ev_go (fun k=>(spec_l1Put.f k out l[i]).bind fun t=>spec_l6Ascending.l0 k l t ((i + 1:Nat):Int)) (fun k=>?_) (ev_bind _ (spec_l1Put.ev out l[i] (by omega) hs hx) (ih _ (by rw [insAt_len];omega) (insAt_sorted (ltI_pre (fun _=>True)) trivial (fun _ _=>trivial) hs) ?_))
  ·simp only [spec_l6Ascending.l0];rw [if_pos (by omega),if_pos (by omega),rd_nat hi,wr1 (by omega)]
  ·intro y hy hm
   rcases List.mem_cons.1 ((insAt_perm ltI l[i] out).mem_iff.1 hm) with rfl|hm
   ·exact (List.nodup_cons.1 hnd).1 hy
   ·exact hd y (List.mem_cons_of_mem _ hy) hm

theorem impl_ascending.ev (l:List Int) (hl:l.length≤1000000):Ev (fun k=>impl_ascending.f k l) (insAll ltI l []):=by
 unfold impl_ascending.f
 rw [if_pos (by omega)]
 exact Ev.now _

abbrev SP:=S68
theorem rdSP {l:List SP} {i:Nat} (h:i<l.length):rd_T68 l (i:Int)=l[i]:=by simp [rd_T68,h]
theorem rdSP_mid (dn:List SP) (y:SP) (ys:List SP):rd_T68 (dn++y::ys) (dn.length:Int)=y:=by
 rw [rdSP (by simp),List.getElem_append_right (Nat.le_refl _)];simp

theorem laws_eqSetPriceS.same (l:List SP) (hl:l.length≤1000000000) (hw:∀ y ∈ l,y.f0.length≤1000000000):Ev (fun k=>laws_eqSetPriceS.f k l l) true:=by
 have key:=rev_ind (P:=fun i=>Ev (fun k=>laws_eqSetPriceS.l0 k l l (i:Int)) true) l.length ?_ ?_ 0 (Nat.zero_le _)
 ·simpa [laws_eqSetPriceS.f] using key
 ·refine ev_stop fun k=>?_
  simp only [laws_eqSetPriceS.l0];rw [if_neg (by omega)]
 ·intro i hi ih
  refine ev_go (fun k=>(laws_eqSetPrice.f k l[i].f0 l[i].f1 l[i].f0 l[i].f1).bind fun t=>if t=true then laws_eqSetPriceS.l0 k l l ((i + 1:Nat):Int) else some false) (fun k=>?_) ?_
  ·simp only [laws_eqSetPriceS.l0];rw [if_pos (by omega),if_pos (by omega),if_pos (by omega),rdSP hi,wr1 (by omega)]
  ·refine ev_bind true ?_ (by simp only [if_true];exact ih)
   unfold laws_eqSetPrice.f
   exact ev_bind true (laws_eqIntS.same _ (by have:=hw _ (List.getElem_mem hi);omega)) (by simp only [if_true];exact Ev.now _)

def sumSP:List SP→Nat
 | []=>0
 | y::ys=>y.f0.length + 1 + sumSP ys
def markSP (a:Int):List SP→List SP
 | []=>[]
 | y::ys=>⟨iotaI a y.f0.length,a + y.f0.length⟩::markSP (a + y.f0.length + 1) ys
theorem sumSP_le:∀ l:List SP,(∀ y ∈ l,y.f0.length≤1048576)→sumSP l≤l.length * 1048577
 | [],_=>Nat.zero_le _
 | y::ys,h=>by
  have:=h y List.mem_cons_self
  have:=sumSP_le ys (fun z hz=>h z (List.mem_cons_of_mem _ hz))
  simp only [sumSP,List.length_cons];omega
theorem laws_markSetPriceS.go:∀ (l dn:List SP) (a:Int),0≤a→a + sumSP l≤500000000000000→dn.length + l.length≤1048576→(∀ y ∈ l,y.f0.length≤1048576)→Ev (fun k=>laws_markSetPriceS.l0 k (dn++l) a (dn.length:Int)) (a + sumSP l,dn++markSP a l)
 | [],dn,a,_,_,_,_=>by
  refine ev_stop fun k=>?_
  simp only [laws_markSetPriceS.l0,List.append_nil];rw [if_neg (by omega),if_neg (by omega)];simp [sumSP,markSP]
 | y::ys,dn,a,h0,h1,h2,h3=>by
  simp only [sumSP,List.length_cons] at h1 h2
  have hy:=h3 y List.mem_cons_self
  have ih:=laws_markSetPriceS.go ys (dn++[⟨iotaI a y.f0.length,a + y.f0.length⟩]) (a + y.f0.length + 1) (by omega) (by omega) (by simp;omega) (fun z hz=>h3 z (List.mem_cons_of_mem _ hz))
  rw [List.length_append,List.length_singleton,List.append_assoc,List.append_assoc] at ih
  rw [sumSP,markSP,show a + ((y.f0.length + 1 + sumSP ys:Nat):Int)=a + (y.f0.length:Int) + 1 + (sumSP ys:Int) by omega]
  refine ev_go (fun k=>(laws_markIntS.f k y.f0 a).bind fun b=>laws_markSetPriceS.l0 k ((dn++y::ys).set dn.length ⟨b.2,b.1⟩) (wrap64 (b.1 + 1)) ((dn.length + 1:Nat):Int)) (fun k=>?_) (ev_bind _ (laws_markIntS.ev y.f0 a h0 (by omega) (by omega)) ?_)
  ·simp only [laws_markSetPriceS.l0];rw [if_pos (by simp;omega),rdSP_mid,wr1 (by omega)];rfl
  ·rw [List.set_append_right _ _ (Nat.le_refl _),Nat.sub_self,List.set_cons_zero]
   show Ev (fun n=>laws_markSetPriceS.l0 n (dn++⟨iotaI a y.f0.length,a + (y.f0.length:Int)⟩::ys) (wrap64 (a + (y.f0.length:Int) + 1)) ((dn.length + 1:Nat):Int)) _
   rw [wr (x:=a + (y.f0.length:Int) + 1) (by omega) (by omega)]
   exact ih
theorem laws_heldSetPriceS.go:∀ (l dn:List SP) (a:Int),0≤a→a + sumSP l≤500000000000000→dn.length + l.length≤1048576→(∀ y ∈ l,y.f0.length≤1048576)→Ev (fun k=>laws_heldSetPriceS.l0 k (dn++markSP a l) a (dn.length:Int)) (a + sumSP l)
 | [],dn,a,_,_,_,_=>by
  refine ev_stop fun k=>?_
  simp only [laws_heldSetPriceS.l0,markSP,List.append_nil];rw [if_neg (by omega)];simp [sumSP]
 | y::ys,dn,a,h0,h1,h2,h3=>by
  simp only [sumSP,List.length_cons] at h1 h2
  have hy:=h3 y List.mem_cons_self
  have ih:=laws_heldSetPriceS.go ys (dn++[⟨iotaI a y.f0.length,a + y.f0.length⟩]) (a + y.f0.length + 1) (by omega) (by omega) (by simp;omega) (fun z hz=>h3 z (List.mem_cons_of_mem _ hz))
  rw [List.length_append,List.length_singleton,List.append_assoc] at ih
  rw [sumSP,markSP,show a + ((y.f0.length + 1 + sumSP ys:Nat):Int)=a + (y.f0.length:Int) + 1 + (sumSP ys:Int) by omega]
  refine ev_go (fun k=>(laws_heldIntS.f k (iotaI a y.f0.length) a).bind fun t=>if t<0 then some (-1) else (if a + (y.f0.length:Int)=t then laws_heldSetPriceS.l0 k (dn++⟨iotaI a y.f0.length,a + y.f0.length⟩::markSP (a + y.f0.length + 1) ys) (wrap64 (t + 1)) ((dn.length + 1:Nat):Int) else some (-1))) (fun k=>?_) (ev_bind _ (laws_heldIntS.ev y.f0.length a h0 (by omega) (by omega)) ?_)
  ·simp only [laws_heldSetPriceS.l0];rw [if_pos (by simp;omega),if_pos (by omega),rdSP_mid,wr1 (by omega)]
  ·simp only [if_neg (show ¬ (a + (y.f0.length:Int)<0) by omega),if_true]
   rw [wr (x:=a + (y.f0.length:Int) + 1) (by omega) (by omega)]
   exact ih
theorem laws_markSetPriceS.held (l:List SP) (hl:l.length≤1048576) (hw:∀ y ∈ l,y.f0.length≤1048576):∃ n l',Ev (fun k=>laws_markSetPriceS.f k l 1) (n,l')∧Ev (fun k=>laws_heldSetPriceS.f k l' 1) n∧((n<0)=False):=by
 have:=sumSP_le l hw
 refine ⟨1 + sumSP l,markSP 1 l,?_,?_,by simp;omega⟩
 ·unfold laws_markSetPriceS.f
  simp only [if_pos hl]
  exact laws_markSetPriceS.go l [] 1 (by omega) (by omega) (by simpa using hl) hw
 ·unfold laws_heldSetPriceS.f
  exact laws_heldSetPriceS.go l [] 1 (by omega) (by omega) (by simpa using hl) hw

theorem mul_bds {x y M N:Int} (h0:0≤x) (h1:x≤M) (h2:0≤y) (h3:y≤N):0≤x * y∧x * y≤M * N:=⟨Int.mul_nonneg h0 h2,Int.mul_le_mul h1 h3 h2 (by omega)⟩
theorem job_at {jobs:List J} (hj:JobsOk jobs) {x:Int} (hx:0≤x∧x<(jobs.length:Int)):(1≤(rd_T62 jobs x).f0∧(rd_T62 jobs x).f0≤50)∧(0≤(rd_T62 jobs x).f1∧(rd_T62 jobs x).f1≤50):=by
 rw [rdJ_int hx.1 hx.2]
 have:=hj.2 _ (List.getElem_mem (show x.toNat<jobs.length by omega))
 exact ⟨this.1,this.2.1⟩
theorem smith_lt {jobs:List J} (hj:JobsOk jobs) {a b:Int} (ha:0≤a∧a<(jobs.length:Int)) (hb:0≤b∧b<(jobs.length:Int)):ruledLt jobs 3 a b=decide ((rd_T62 jobs a).f0 * (rd_T62 jobs b).f1<(rd_T62 jobs b).f0 * (rd_T62 jobs a).f1):=by
 have h1:=job_at hj ha
 have h2:=job_at hj hb
 unfold ruledLt diffO impl_difference.f
 generalize (rd_T62 jobs a).f0=ta at *
 generalize (rd_T62 jobs a).f1=wa at *
 generalize (rd_T62 jobs b).f0=tb at *
 generalize (rd_T62 jobs b).f1=wb at *
 have p1:=mul_bds (x:=ta) (y:=wb) (by omega) h1.1.2 h2.2.1 h2.2.2
 have p2:=mul_bds (x:=tb) (y:=wa) (by omega) h2.1.2 h1.2.1 h1.2.2
 rw [if_neg (by omega),if_neg (by omega),if_pos rfl,Option.getD_some]
 generalize ta * wb=X at *
 generalize tb * wa=Y at *
 rw [wr (x:=X) (by omega) (by omega),wr (x:=Y) (by omega) (by omega),wr (x:=X - Y) (by omega) (by omega)]
 exact decide_eq_decide.2 (by omega)
theorem smith_pre {jobs:List J} (hj:JobsOk jobs):Pre (ruledLt jobs 3) (fun x=>0≤x∧x<(jobs.length:Int)):=by
 refine ⟨fun a b c ha hb hc=>?_,fun a b ha hb=>?_⟩
 ·rw [smith_lt hj hb ha,smith_lt hj hc hb,smith_lt hj hc ha]
  have h1:=job_at hj ha
  have h2:=job_at hj hb
  have h3:=job_at hj hc
  generalize (rd_T62 jobs a).f0=ta at *
  generalize (rd_T62 jobs a).f1=wa at *
  generalize (rd_T62 jobs b).f0=tb at *
  generalize (rd_T62 jobs b).f1=wb at *
  generalize (rd_T62 jobs c).f0=tc at *
  generalize (rd_T62 jobs c).f1=wc at *
  intro q1 q2
  have q1':ta * wb≤tb * wa:=by have:=of_decide_eq_false q1;omega
  have q2':tb * wc≤tc * wb:=by have:=of_decide_eq_false q2;omega
  have m1:=Int.mul_le_mul_of_nonneg_left q2' (show 0≤ta by omega)
  have m2:=Int.mul_le_mul_of_nonneg_left q1' (show 0≤tc by omega)
  have e1:ta * (tb * wc)=tb * (ta * wc):=by rw [←Int.mul_assoc,Int.mul_comm ta tb,Int.mul_assoc]
  have e2:ta * (tc * wb)=tc * (ta * wb):=by rw [←Int.mul_assoc,Int.mul_comm ta tc,Int.mul_assoc]
  have e3:tc * (tb * wa)=tb * (tc * wa):=by rw [←Int.mul_assoc,Int.mul_comm tc tb,Int.mul_assoc]
  have m3:tb * (ta * wc)≤tb * (tc * wa):=by rw [←e1,←e3];exact Int.le_trans m1 (by rw [e2];exact m2)
  have m4:=Int.le_of_mul_le_mul_left m3 (by omega)
  exact decide_eq_false (by omega)
 ·rw [smith_lt hj ha hb,smith_lt hj hb ha]
  intro q
  have:=of_decide_eq_true q
  exact decide_eq_false (by omega)
theorem impl_ruledOrder.smith (jobs:List J) (h8:jobs.length≤8):Ev (fun k=>impl_ruledOrder.f k jobs 3) (sortN (ruledLt jobs 3) jobs.length):=by
 unfold impl_ruledOrder.f
 refine ev_bind _ (impl_numbersTo.ev jobs.length (by omega)) ?_
 rw [if_pos ⟨by rw [nums_to_length];omega,fun x hx=>mem_nums_to.1 hx,fun x _ y _=>by unfold diffO impl_difference.f;rw [if_neg (by omega),if_neg (by omega),if_pos rfl];rfl⟩]
 exact Ev.now _

theorem spec_l10Smith.ev {jobs:List J} (hj:JobsOk jobs):Ev (fun k=>spec_l10Smith.f k jobs) (sortN (ruledLt jobs 3) jobs.length):=by
 have h8:=hj.1
 have key:=rev_ind (P:=fun i=>∀ out:List Int,out.length=i→(∀ y ∈ out,0≤y∧y<jobs.length)→SortedLt (ruledLt jobs 3) out→Ev (fun k=>spec_l10Smith.l0 k jobs out (i:Int)) (insAll (ruledLt jobs 3) ((nums_to jobs.length).drop i) out)) jobs.length ?_ ?_ 0 (Nat.zero_le _) [] rfl (by simp) List.Pairwise.nil
 ·simpa [spec_l10Smith.f,sortN] using key
 ·intro out ho _ _
  refine ev_stop fun k=>?_
  simp only [spec_l10Smith.l0];rw [if_neg (by omega),List.drop_of_length_le (by rw [nums_to_length];omega),insAll]
 ·intro i hi ih out ho hm hs
  refine ev_go (fun k=>spec_l10Smith.l1 k jobs out (i:Int) 0) (fun k=>?h) ?e
  case e=>
   have hi2:(nums_to jobs.length)[i]'(by rw [nums_to_length];exact hi)=(i:Int):=by simp [nums_to]
   rw [drop_cons (by rw [nums_to_length];exact hi),hi2,insAll]
   have hP:=smith_pre hj
   have hxi:0≤(i:Int)∧(i:Int)<(jobs.length:Int):=by omega
   have inner:=rev_ind (P:=fun j=>(∀ y ∈ out.take j,ruledLt jobs 3 (i:Int) y=false)→Ev (fun k=>spec_l10Smith.l1 k jobs out (i:Int) (j:Int)) (insAll (ruledLt jobs 3) ((nums_to jobs.length).drop (i + 1)) (insAt (ruledLt jobs 3) (i:Int) out))) out.length ?_ ?_ 0 (Nat.zero_le _) (by simp)
   ·exact inner
   ·intro ht
    have ha:=insAt_at hP hxi hm hs out.length (Nat.le_refl _) ht (fun h=>absurd h (by omega))
    have hn:=ih (insAt (ruledLt jobs 3) (i:Int) out) (by rw [insAt_len];omega) (insAt_mem hxi hm) (insAt_sorted hP hxi hm hs)
    rw [ha] at hn ⊢
    refine ev_go _ (fun k=>?_) hn
    simp only [spec_l10Smith.l1];rw [if_neg (by omega)]
    simp only [Option.bind_some]
    rw [if_pos (by omega),if_pos (by omega),if_pos (by simp;omega),if_pos (by simp;omega),if_pos (by simp;omega),wr1 (by omega)]
    simp
   ·intro j hj2 ihj ht
    have hy:=hm _ (List.getElem_mem hj2)
    have h1:=job_at hj hxi
    have h2:=job_at hj hy
    have p1:=mul_bds (x:=(rd_T62 jobs out[j]).f1) (y:=(rd_T62 jobs (i:Int)).f0) h2.2.1 h2.2.2 (by omega) h1.1.2
    have p2:=mul_bds (x:=(rd_T62 jobs (i:Int)).f1) (y:=(rd_T62 jobs out[j]).f0) h1.2.1 h1.2.2 (by omega) h2.1.2
    have w1:wrap64 ((rd_T62 jobs out[j]).f1 * (rd_T62 jobs (i:Int)).f0)=(rd_T62 jobs out[j]).f1 * (rd_T62 jobs (i:Int)).f0:=wr (by omega) (by omega)
    have w2:wrap64 ((rd_T62 jobs (i:Int)).f1 * (rd_T62 jobs out[j]).f0)=(rd_T62 jobs (i:Int)).f1 * (rd_T62 jobs out[j]).f0:=wr (by omega) (by omega)
    have hlt:=smith_lt hj hxi hy
    rw [Int.mul_comm (rd_T62 jobs (i:Int)).f0,Int.mul_comm (rd_T62 jobs out[j]).f0] at hlt
    by_cases q:(rd_T62 jobs out[j]).f1 * (rd_T62 jobs (i:Int)).f0≥(rd_T62 jobs (i:Int)).f1 * (rd_T62 jobs out[j]).f0
    ·refine ev_go _ (fun k=>?_) (ihj ?_)
     ·simp only [spec_l10Smith.l1];rw [rd_nat hj2,if_pos (by omega),if_pos (by omega),if_pos (by omega),if_pos (by omega),if_pos (by omega),if_pos (by omega),w1,w2,if_pos q,wr1 (by omega)]
     ·intro y hy
      rw [List.take_succ_eq_append_getElem hj2] at hy
      rcases List.mem_append.1 hy with hy|hy
      ·exact ht y hy
      ·rw [List.mem_singleton] at hy;subst hy;rw [hlt];exact decide_eq_false (by omega)
    ·have ha:=insAt_at hP hxi hm hs j (by omega) ht (fun _=>by rw [hlt];exact decide_eq_true (by omega))
     have hn:=ih (insAt (ruledLt jobs 3) (i:Int) out) (by rw [insAt_len];omega) (insAt_mem hxi hm) (insAt_sorted hP hxi hm hs)
     rw [ha] at hn ⊢
     refine ev_go _ (fun k=>?_) hn
     simp only [spec_l10Smith.l1];rw [rd_nat hj2,if_pos (by omega),if_pos (by omega),if_pos (by omega),if_pos (by omega),if_pos (by omega),if_pos (by omega),w1,w2,if_neg q]
     simp only [Option.bind_some]
     rw [if_pos (by omega),if_pos (by simp;omega),if_pos (by simp;omega),if_pos (by simp;omega),wr1 (by omega)]
     simp
  case h=>simp only [spec_l10Smith.l0];rw [if_pos (by omega)]

def lcI (s:Nat) (j:J):Nat:=s / Nat.gcd s j.f0.toNat * j.f0.toNat
theorem lcI_lcm (s:Nat) (j:J):lcI s j=Nat.lcm s j.f0.toNat:=by
 unfold lcI Nat.lcm
 exact Nat.div_mul_right_comm (Nat.gcd_dvd_left _ _) _
theorem lcI_bd (s:Nat) (j:J) (hs:1≤s) (hj:JobOk j):s≤lcI s j∧lcI s j≤s * 50:=by
 unfold JobOk at hj
 refine ⟨?_,?_⟩
 ·rw [lcI_lcm]
  exact Nat.le_of_dvd (Nat.lcm_pos (by omega) (by omega)) (Nat.dvd_lcm_left _ _)
 ·unfold lcI
  exact Nat.mul_le_mul (Nat.div_le_self _ _) (by omega)
theorem lcI_fold_ge:∀ (l:List J) (s:Nat),1≤s→(∀ j ∈ l,JobOk j)→s≤l.foldl lcI s∧(s∣ l.foldl lcI s)∧∀ j ∈ l,j.f0.toNat∣ l.foldl lcI s
 | [],s,_,_=>⟨Nat.le_refl _,Nat.dvd_refl _,by simp⟩
 | a::l,s,hs,hj=>by
  have h1:=lcI_bd s a hs (hj a List.mem_cons_self)
  have ih:=lcI_fold_ge l (lcI s a) (by omega) (fun j h=>hj j (List.mem_cons_of_mem _ h))
  rw [List.foldl_cons]
  have d1:s∣ lcI s a:=by rw [lcI_lcm];exact Nat.dvd_lcm_left _ _
  have d2:a.f0.toNat∣ lcI s a:=by rw [lcI_lcm];exact Nat.dvd_lcm_right _ _
  refine ⟨by omega,Nat.dvd_trans d1 ih.2.1,fun j h=>?_⟩
  rcases List.mem_cons.1 h with rfl|h
  ·exact Nat.dvd_trans d2 ih.2.1
  ·exact ih.2.2 j h
theorem gcd_step {a b:Nat} (h:b≠0):Nat.gcd a b=Nat.gcd b (a % b):=by
 rw [Nat.gcd_comm a b,Nat.gcd_rec b a,Nat.gcd_comm]
theorem impl_gcd.evL:∀ (b a:Nat),Ev (fun k=>impl_gcd.l0 k (a:Int) (b:Int)) (Nat.gcd a b:Int):=by
 intro b
 induction b using Nat.strongRecOn with
 | _ b ih=>
  intro a
  by_cases h:b=0
  ·subst h
   refine ev_stop fun k=>?_
   simp only [impl_gcd.l0];rw [if_pos (by rfl)];simp
  ·have:=ih (a % b) (Nat.mod_lt _ (by omega)) b
   rw [gcd_step h]
   refine ev_go _ (fun k=>?_) this
   simp only [impl_gcd.l0];rw [if_neg (by omega)];rfl
theorem spec_l10Multiple.inner (jobs:List J) (s:Int) (i:Int) (R:Int):∀ (b a:Nat),Ev (fun k=>spec_l10Multiple.l1 k jobs s i (Nat.gcd a b:Int) 0) R→Ev (fun k=>spec_l10Multiple.l1 k jobs s i (a:Int) (b:Int)) R:=by
 intro b
 induction b using Nat.strongRecOn with
 | _ b ih=>
  intro a hR
  by_cases h:b=0
  ·subst h
   simpa using hR
  ·have:=ih (a % b) (Nat.mod_lt _ (by omega)) b (by rw [←gcd_step h];exact hR)
   refine ev_go _ (fun k=>?_) this
   simp only [spec_l10Multiple.l1];rw [if_pos (by omega),if_neg (by omega)];rfl
theorem spec_l10Multiple.ev {jobs:List J} (hj:JobsOk jobs):Ev (fun k=>spec_l10Multiple.f k jobs) ((jobs.foldl lcI 1:Nat):Int):=by
 have h8:=hj.1
 have key:=rev_ind (P:=fun i=>∀ s:Nat,1≤s→s≤50 ^ i→Ev (fun k=>spec_l10Multiple.l0 k jobs (s:Int) (i:Int)) (((jobs.drop i).foldl lcI s:Nat):Int)) jobs.length ?_ ?_ 0 (Nat.zero_le _) 1 (Nat.le_refl _) (by simp)
 ·simpa [spec_l10Multiple.f] using key
 ·intro s _ _
  refine ev_stop fun k=>?_
  simp only [spec_l10Multiple.l0];rw [if_neg (by omega),List.drop_length];rfl
 ·intro i hi ih s h1 h2
  have hjo:=hj.2 _ (List.getElem_mem hi)
  have hb:=lcI_bd s jobs[i] h1 hjo
  have hp:50 ^ i≤50 ^ 7:=Nat.pow_le_pow_right (by omega) (by omega)
  have hnx:=ih (lcI s jobs[i]) (by omega) (by rw [Nat.pow_succ];omega)
  rw [drop_cons hi,List.foldl_cons]
  obtain ⟨t,ht⟩:=Int.eq_ofNat_of_zero_le (show 0≤jobs[i].f0 by unfold JobOk at hjo;omega)
  have hr:(rd_T62 jobs (i:Int)).f0=(t:Int):=by rw [rdJ hi,ht]
  have htt:jobs[i].f0.toNat=t:=by omega
  have hg:1≤Nat.gcd s t:=Nat.gcd_pos_of_pos_left _ h1
  have e:lcI s jobs[i]=s / Nat.gcd s t * t:=by unfold lcI;rw [htt]
  have hd:s / Nat.gcd s t≤s:=Nat.div_le_self _ _
  refine ev_go (fun k=>spec_l10Multiple.l1 k jobs (s:Int) (i:Int) (s:Int) (t:Int)) (fun k=>?_) (spec_l10Multiple.inner jobs _ _ _ t s ?_)
  ·simp only [spec_l10Multiple.l0];rw [if_pos (by omega),if_pos (by omega),hr]
  ·refine ev_go _ (fun k=>?_) hnx
   simp only [spec_l10Multiple.l1];rw [if_neg (by omega),if_neg (by omega),if_pos (by omega),if_pos (by omega),hr,wr1 (by omega)]
   obtain ⟨q,hq⟩:∃ q,s / Nat.gcd s t=q:=⟨_,rfl⟩
   rw [hq] at e hd
   rw [show Int.tdiv (s:Int) (Nat.gcd s t:Int)=(q:Int) from by rw [←hq];rfl,wr (x:=(q:Int)) (by omega) (by omega)]
   rw [show (q:Int) * (t:Int)=((lcI s jobs[i]:Nat):Int) by rw [e];simp,wr (by omega) (by omega)]

def prI (jobs:List J) (M:Nat) (x:Int):Int:=(rd_T62 jobs x).f1 * ((M / (rd_T62 jobs x).f0.toNat:Nat):Int)
theorem pr_both {jobs:List J} (hj:JobsOk jobs) {x:Int} (hx:0≤x∧x<(jobs.length:Int)) {M:Nat} (hM:M≤1000000):wrap64 ((rd_T62 jobs x).f1 * wrap64 (Int.tdiv (M:Int) (rd_T62 jobs x).f0))=prI jobs M x∧wrap64 (wrap64 (Int.tdiv (M:Int) (rd_T62 jobs x).f0) * (rd_T62 jobs x).f1)=prI jobs M x∧0≤prI jobs M x∧prI jobs M x≤50000000:=by
 have h:=job_at hj hx
 unfold prI
 generalize (rd_T62 jobs x).f1=W at *
 obtain ⟨t,ht⟩:=Int.eq_ofNat_of_zero_le (show 0≤(rd_T62 jobs x).f0 by omega)
 rw [ht,Int.toNat_natCast]
 have hd:M / t≤M:=Nat.div_le_self _ _
 rw [show Int.tdiv (M:Int) (t:Int)=((M / t:Nat):Int) from rfl]
 generalize M / t=q at *
 rw [wr (x:=(q:Int)) (by omega) (by omega)]
 have p:=mul_bds (x:=W) (y:=(q:Int)) (N:=1000000) h.2.1 h.2.2 (by omega) (by omega)
 rw [Int.mul_comm (q:Int) W,wr (by omega) (by omega)]
 exact ⟨rfl,rfl,p.1,by omega⟩
theorem pr_le {jobs:List J} (hj:JobsOk jobs) {x y:Int} (hx:0≤x∧x<(jobs.length:Int)) (hy:0≤y∧y<(jobs.length:Int)) {M:Nat} (dx:(rd_T62 jobs x).f0.toNat∣ M) (dy:(rd_T62 jobs y).f0.toNat∣ M) (h:ruledLt jobs 3 y x=false):prI jobs M y≤prI jobs M x:=by
 rw [smith_lt hj hy hx] at h
 have hle:=of_decide_eq_false h
 have h1:=job_at hj hx
 have h2:=job_at hj hy
 unfold prI
 generalize (rd_T62 jobs x).f1=wx at *
 generalize (rd_T62 jobs y).f1=wy at *
 obtain ⟨tx,htx⟩:=Int.eq_ofNat_of_zero_le (show 0≤(rd_T62 jobs x).f0 by omega)
 obtain ⟨ty,hty⟩:=Int.eq_ofNat_of_zero_le (show 0≤(rd_T62 jobs y).f0 by omega)
 rw [htx] at dx h1 hle ⊢
 rw [hty] at dy h2 hle ⊢
 rw [Int.toNat_natCast] at dx dy ⊢
 rw [Int.toNat_natCast]
 obtain ⟨wx,rfl⟩:=Int.eq_ofNat_of_zero_le h1.2.1
 obtain ⟨wy,rfl⟩:=Int.eq_ofNat_of_zero_le h2.2.1
 obtain ⟨a,ha⟩:=dx
 obtain ⟨b,hb⟩:=dy
 have ex:M / tx=a:=by rw [ha];exact Nat.mul_div_cancel_left _ (by omega)
 have ey:M / ty=b:=by rw [hb];exact Nat.mul_div_cancel_left _ (by omega)
 rw [ex,ey]
 have hle2:tx * wy≤ty * wx:=by
  have:((tx * wy:Nat):Int)≤((ty * wx:Nat):Int):=by rw [Int.natCast_mul,Int.natCast_mul];omega
  omega
 have k1:(tx * ty) * (wy * b)=(tx * wy) * M:=by rw [hb];ac_rfl
 have k2:(tx * ty) * (wx * a)=(ty * wx) * M:=by rw [ha];ac_rfl
 have k3:(tx * ty) * (wy * b)≤(tx * ty) * (wx * a):=by rw [k1,k2];exact Nat.mul_le_mul_right _ hle2
 have k4:wy * b≤wx * a:=Nat.le_of_mul_le_mul_left k3 (Nat.mul_pos (by omega) (by omega))
 have:((wy * b:Nat):Int)≤((wx * a:Nat):Int):=by omega
 rwa [Int.natCast_mul,Int.natCast_mul] at this
theorem made_both {jobs:List J} (hj:JobsOk jobs) {M:Nat} (hM:M≤1000000) (hd:∀ x,(0≤x∧x<(jobs.length:Int))→(rd_T62 jobs x).f0.toNat∣ M) (ord:List Int) (ho:IsPerm jobs.length ord) (hs:SortedLt (ruledLt jobs 3) ord):∃ r,Ev (fun k=>spec_l10Made.l0 k jobs (M:Int) [] ord 0) r∧Ev (fun k=>impl_SmithPrices.l1 k jobs (M:Int) ord [] ord (ord.length:Int) 0) (r,(M:Int),true)∧r.length≤8∧∀ y ∈ r,y.f0.length≤8:=by
 have h8:=hj.1
 have hlen:=ho.1
 have key:=rev_ind (P:=fun i=>∀ acc:List SP,acc.length≤i→(∀ y ∈ acc,y.f0.length≤8)→∃ r,Ev (fun k=>spec_l10Made.l0 k jobs (M:Int) acc ord (i:Int)) r∧Ev (fun k=>impl_SmithPrices.l1 k jobs (M:Int) ord acc ord (ord.length:Int) (i:Int)) (r,(M:Int),true)∧r.length≤8∧∀ y ∈ r,y.f0.length≤8) ord.length ?_ ?_ 0 (Nat.zero_le _) [] (Nat.le_refl _) (by simp)
 ·exact key
 ·intro acc ha hy
  refine ⟨acc,ev_stop fun k=>?_,ev_stop fun k=>?_,by omega,hy⟩
  ·simp only [spec_l10Made.l0];rw [if_neg (by omega)]
  ·simp only [impl_SmithPrices.l1];rw [if_neg (by omega)]
 ·intro i hi ih acc ha hy
  have hx:=ho.2.2 _ (List.getElem_mem hi)
  have jx:=job_at hj hx
  have px:=pr_both hj hx hM
  have tl:(ord.take (i + 1)).length≤8:=by simp;omega
  have asc1:=spec_l6Ascending.ev (ord.take (i + 1)) (by omega) ((List.take_sublist _ _).nodup ho.2.1)
  have asc2:=impl_ascending.ev (ord.take (i + 1)) (by omega)
  have al:(insAll ltI (ord.take (i + 1)) []).length≤8:=by rw [insAll_len];exact tl
  by_cases hi1:i + 1<ord.length
  ·have hx1:=ho.2.2 _ (List.getElem_mem hi1)
   have jx1:=job_at hj hx1
   have px1:=pr_both hj hx1 hM
   have hsl:ruledLt jobs 3 ord[i + 1] ord[i]=false:=(List.pairwise_iff_getElem.1 hs) i (i + 1) hi hi1 (by omega)
   have hle:=pr_le hj hx hx1 (hd _ hx) (hd _ hx1) hsl
   have wd:wrap64 (prI jobs M ord[i] - prI jobs M ord[i + 1])=prI jobs M ord[i] - prI jobs M ord[i + 1]:=wr (by omega) (by omega)
   by_cases q:prI jobs M ord[i] - prI jobs M ord[i + 1]=0
   ·obtain ⟨r,e1,e2,e3⟩:=ih acc (by omega) hy
    refine ⟨r,ev_go _ (fun k=>?_) e1,ev_go _ (fun k=>?_) e2,e3⟩
    ·simp only [spec_l10Made.l0];rw [if_pos (by omega),if_pos (by omega),rd_nat hi,if_pos hx.1,if_pos hx.2,if_neg (by omega),wr1 (by omega),if_pos (by omega),if_pos (by omega),rd_nat hi1,if_pos hx1.1,if_pos hx1.2,if_neg (by omega),px.1,px1.1,wd,if_neg (by omega)]
    ·simp only [impl_SmithPrices.l1];rw [if_pos (by omega),if_pos (by omega),if_pos (by omega),rd_nat hi,if_pos hx.1,if_pos hx.2,if_neg (by omega),wr1 (by omega),if_pos (by omega),if_pos (by omega),rd_nat hi1,if_pos hx1.1,if_pos hx1.2,if_neg (by omega),px.2.1,px1.2.1,wd,if_pos q]
   ·obtain ⟨r,e1,e2,e3⟩:=ih (acc++[⟨insAll ltI (ord.take (i + 1)) [],prI jobs M ord[i] - prI jobs M ord[i + 1]⟩]) (by simp;omega) (fun y h=>by
     rcases List.mem_append.1 h with h|h
     ·exact hy y h
     ·rw [List.mem_singleton] at h;subst h;exact al)
    refine ⟨r,ev_go (fun k=>(spec_l6Ascending.f k (ord.take (i + 1))).bind fun t241=>(if acc.length<4398046511104 then (spec_l10Made.l0 k jobs (M:Int) (acc++[(⟨t241,prI jobs M ord[i] - prI jobs M ord[i + 1]⟩:SP)]) ord ((i + 1:Nat):Int)) else (none))) (fun k=>?_) (ev_bind _ asc1 (by simp only [if_pos (show acc.length<4398046511104 by omega)];exact e1)),ev_go (fun k=>(impl_ascending.f k (ord.take (i + 1))).bind fun t241=>(if acc.length<4398046511104 then (impl_SmithPrices.l1 k jobs (M:Int) ord (acc++[(⟨t241,prI jobs M ord[i] - prI jobs M ord[i + 1]⟩:SP)]) ord (ord.length:Int) ((i + 1:Nat):Int)) else (none))) (fun k=>?_) (ev_bind _ asc2 (by simp only [if_pos (show acc.length<4398046511104 by omega)];exact e2)),e3⟩
    ·simp only [spec_l10Made.l0];rw [if_pos (by omega),if_pos (by omega),rd_nat hi,if_pos hx.1,if_pos hx.2,if_neg (by omega),wr1 (by omega),if_pos (by omega),if_pos (by omega),rd_nat hi1,if_pos hx1.1,if_pos hx1.2,if_neg (by omega),px.1,px1.1,wd,if_pos (by omega),if_pos (by omega)]
     rfl
    ·simp only [impl_SmithPrices.l1];rw [if_pos (by omega),if_pos (by omega),if_pos (by omega),rd_nat hi,if_pos hx.1,if_pos hx.2,if_neg (by omega),wr1 (by omega),if_pos (by omega),if_pos (by omega),rd_nat hi1,if_pos hx1.1,if_pos hx1.2,if_neg (by omega),px.2.1,px1.2.1,wd,if_neg q,if_pos (by omega)]
     rfl
  ·by_cases q:prI jobs M ord[i]=0
   ·obtain ⟨r,e1,e2,e3⟩:=ih acc (by omega) hy
    refine ⟨r,ev_go _ (fun k=>?_) e1,ev_go _ (fun k=>?_) e2,e3⟩
    ·simp only [spec_l10Made.l0];rw [if_pos (by omega),if_pos (by omega),rd_nat hi,if_pos hx.1,if_pos hx.2,if_neg (by omega),wr1 (by omega),if_neg (by omega),px.1,if_neg (by omega)]
    ·simp only [impl_SmithPrices.l1];rw [if_pos (by omega),if_pos (by omega),if_pos (by omega),rd_nat hi,if_pos hx.1,if_pos hx.2,if_neg (by omega),wr1 (by omega),if_neg (by omega),px.2.1,if_pos q]
   ·obtain ⟨r,e1,e2,e3⟩:=ih (acc++[⟨insAll ltI (ord.take (i + 1)) [],prI jobs M ord[i]⟩]) (by simp;omega) (fun y h=>by
     rcases List.mem_append.1 h with h|h
     ·exact hy y h
     ·rw [List.mem_singleton] at h;subst h;exact al)
    refine ⟨r,ev_go (fun k=>(spec_l6Ascending.f k (ord.take (i + 1))).bind fun t241=>(if acc.length<4398046511104 then (spec_l10Made.l0 k jobs (M:Int) (acc++[(⟨t241,prI jobs M ord[i]⟩:SP)]) ord ((i + 1:Nat):Int)) else (none))) (fun k=>?_) (ev_bind _ asc1 (by simp only [if_pos (show acc.length<4398046511104 by omega)];exact e1)),ev_go (fun k=>(impl_ascending.f k (ord.take (i + 1))).bind fun t241=>(if acc.length<4398046511104 then (impl_SmithPrices.l1 k jobs (M:Int) ord (acc++[(⟨t241,prI jobs M ord[i]⟩:SP)]) ord (ord.length:Int) ((i + 1:Nat):Int)) else (none))) (fun k=>?_) (ev_bind _ asc2 (by simp only [if_pos (show acc.length<4398046511104 by omega)];exact e2)),e3⟩
    ·simp only [spec_l10Made.l0];rw [if_pos (by omega),if_pos (by omega),rd_nat hi,if_pos hx.1,if_pos hx.2,if_neg (by omega),wr1 (by omega),if_neg (by omega),px.1,if_pos (by omega),if_pos (by omega),if_pos (by omega)]
     rfl
    ·simp only [impl_SmithPrices.l1];rw [if_pos (by omega),if_pos (by omega),if_pos (by omega),rd_nat hi,if_pos hx.1,if_pos hx.2,if_neg (by omega),wr1 (by omega),if_neg (by omega),px.2.1,if_neg q,if_pos (by omega),if_pos (by omega)]
     rfl

theorem big_iff (m:Nat):((m:Int)>1000000) ↔ ¬ m≤1000000:=by omega
theorem ev_bind_eq {α β:Type} {g:Nat→Option α} {f:Nat→α→Option β} {h:Nat→Option β} {r:β} (a:α) (hg:Ev g a) (e:∀ k,f k a=h k) (hh:Ev h r):Ev (fun n=>(g n).bind (f n)) r:=by
 have e2:(fun n=>f n a)=h:=funext e
 exact ev_bind a hg (by rw [e2];exact hh)
theorem core_SmithPrices (jobs:List J) (hj:jobs.length≤1048576):∃ r t b,Ev (fun k=>spec_SmithPrices.f k jobs) (r,t,b)∧Ev (fun k=>impl_SmithPrices.f k jobs) (r,t,b)∧r.length≤1048576∧∀ y ∈ r,y.f0.length≤1048576:=by
 have es:=spec_l6Good.ev jobs (by omega)
 have ei:=impl_IsPlain.ev jobs (by omega)
 unfold spec_SmithPrices.f impl_SmithPrices.f
 have no:Ev (fun k=>spec_SmithPrices.j0 k jobs true) ([],0,false):=ev_stop fun k=>by simp only [spec_SmithPrices.j0];rw [if_pos trivial]
 by_cases h:PlainOk jobs
 ·have h8:=h.1.1
  have eM:=spec_l10Multiple.ev h.1
  have eS:=spec_l10Smith.ev h.1
  have eR:=impl_ruledOrder.smith jobs h8
  have hpos:=(lcI_fold_ge jobs 1 (Nat.le_refl _) h.1.2).1
  have loop:∀ (F:Nat),F=jobs.foldl lcI 1→∀ (Rr:List SP) (T:Int) (B:Bool),(F≤1000000→Ev (fun k=>(impl_ruledOrder.f k jobs 3).bind fun t298=>(impl_SmithPrices.l1 k jobs (F:Int) t298 ([]:List SP) t298 (t298.length:Int) 0)) (Rr,T,B))→(¬ F≤1000000→(Rr,T,B)=([],0,false))→Ev (fun k=>impl_SmithPrices.l0 k jobs 1 jobs (jobs.length:Int) 0) (Rr,T,B):=by
   intro F hF Rr T B hA hB
   have key:=rev_ind (P:=fun i=>∀ s:Nat,1≤s→s≤1000000→(jobs.drop i).foldl lcI s=F→Ev (fun k=>impl_SmithPrices.l0 k jobs (s:Int) jobs (jobs.length:Int) (i:Int)) (Rr,T,B)) jobs.length ?_ ?_ 0 (Nat.zero_le _) 1 (Nat.le_refl _) (by omega) (by rw [hF];rfl)
   ·exact key
   ·intro s h1 h2 he
    rw [List.drop_length,List.foldl_nil] at he
    refine ev_go _ (fun k=>?_) (hA (by omega))
    simp only [impl_SmithPrices.l0];rw [if_neg (by omega),he]
   ·intro i hi ih s h1 h2 he
    have hjo:=h.1.2 _ (List.getElem_mem hi)
    have hb:=lcI_bd s jobs[i] h1 hjo
    rw [drop_cons hi,List.foldl_cons] at he
    have hfold:=(lcI_fold_ge (jobs.drop (i + 1)) (lcI s jobs[i]) (Nat.le_trans h1 hb.1) (fun j hm=>h.1.2 j (List.mem_of_mem_drop hm))).1
    rw [he] at hfold
    obtain ⟨t,ht⟩:=Int.eq_ofNat_of_zero_le (show 0≤jobs[i].f0 by unfold JobOk at hjo;omega)
    have hr:(rd_T62 jobs (i:Int)).f0=(t:Int):=by rw [rdJ hi,ht]
    have htt:jobs[i].f0.toNat=t:=by omega
    have hg:1≤Nat.gcd s t:=Nat.gcd_pos_of_pos_left _ h1
    have e:lcI s jobs[i]=s / Nat.gcd s t * t:=by unfold lcI;rw [htt]
    have hd:s / Nat.gcd s t≤s:=Nat.div_le_self _ _
    have val:wrap64 (wrap64 (Int.tdiv (s:Int) (Nat.gcd s t:Int)) * (t:Int))=((lcI s jobs[i]:Nat):Int):=by
     obtain ⟨q,hq⟩:∃ q,s / Nat.gcd s t=q:=⟨_,rfl⟩
     rw [hq] at e hd
     rw [show Int.tdiv (s:Int) (Nat.gcd s t:Int)=(q:Int) from by rw [←hq];rfl,wr (x:=(q:Int)) (by omega) (by omega)]
     rw [show (q:Int) * (t:Int)=((lcI s jobs[i]:Nat):Int) by rw [e];simp,wr (by omega) (by omega)]
    clear hF hd
    obtain ⟨m,hm⟩:∃ m,m=lcI s jobs[i]:=⟨_,rfl⟩
    rw [←hm] at he hb val hfold
    clear e hm
    have eg:Ev (fun k=>impl_gcd.f k (s:Int) (t:Int)) (Nat.gcd s t:Int):=impl_gcd.evL t s
    have step:∀ (h:Nat→Option (List SP × Int × Bool)),(∀ k,(if (m:Int)>1000000 then (some (([]:List SP),(0:Int),false)) else (impl_SmithPrices.l0 k jobs (m:Int) jobs (jobs.length:Int) ((i + 1:Nat):Int)))=h k)→Ev h (Rr,T,B)→Ev (fun k=>impl_SmithPrices.l0 k jobs (s:Int) jobs (jobs.length:Int) (i:Int)) (Rr,T,B):=by
     intro h' he' hh'
     refine ev_go (fun k=>(impl_gcd.f k (s:Int) (t:Int)).bind fun t297=>(if t297=0 then (none) else (if (wrap64 ((wrap64 (Int.tdiv (s:Int) t297)) * (t:Int)))>1000000 then (some (([]:List SP),0,false)) else (impl_SmithPrices.l0 k jobs (wrap64 ((wrap64 (Int.tdiv (s:Int) t297)) * (t:Int))) jobs (jobs.length:Int) ((i + 1:Nat):Int))))) (fun k=>?_) (ev_bind_eq _ eg (fun k=>?_) hh')
     ·simp only [impl_SmithPrices.l0];rw [if_pos (by omega),if_pos (by omega),if_pos (by omega),hr,wr1 (by omega)]
     ·rw [if_neg (show ¬ ((Nat.gcd s t:Nat):Int)=0 by omega),val]
      exact he' k
    by_cases c:m≤1000000
    ·exact step _ (fun k=>if_neg (fun hh=>(big_iff m).1 hh c)) (ih _ (Nat.le_trans h1 hb.1) c he)
    ·have hB2:=hB (fun hF2=>c (Nat.le_trans hfold hF2))
     rw [hB2] at step ⊢
     exact step _ (fun k=>if_pos ((big_iff m).2 c)) (Ev.now _)
  by_cases hM:jobs.foldl lcI 1≤1000000
  ·have hdv:∀ x,(0≤x∧x<(jobs.length:Int))→(rd_T62 jobs x).f0.toNat∣ jobs.foldl lcI 1:=fun x hx=>by
    rw [rdJ_int hx.1 hx.2]
    exact (lcI_fold_ge jobs 1 (Nat.le_refl _) h.1.2).2.2 _ (List.getElem_mem _)
   have hperm:=sortN_isPerm (ruledLt jobs 3) jobs.length
   have hsorted:SortedLt (ruledLt jobs 3) (sortN (ruledLt jobs 3) jobs.length):=insAll_sorted (smith_pre h.1) _ _ (fun y hy=>mem_nums_to.1 hy) (by simp) List.Pairwise.nil
   obtain ⟨r,m1,m2,m3,m4⟩:=made_both h.1 hM hdv _ hperm hsorted
   refine ⟨r,((jobs.foldl lcI 1:Nat):Int),true,ev_guard' es (fun _=>ev_bind _ eM ?_) (fun hn=>absurd h hn),ev_guard' ei (fun _=>loop _ rfl _ _ _ (fun _=>ev_bind _ eR m2) (fun hn=>absurd hM hn)) (fun hn=>absurd h hn),by omega,fun y hy=>by have:=m4 y hy;omega⟩
   rw [show (decide (((jobs.foldl lcI 1:Nat):Int)>1000000))=false from decide_eq_false (by omega)]
   refine ev_go (fun k=>(spec_l10Multiple.f k jobs).bind fun t262=>((spec_l10Made.f k jobs t262).bind fun t263=>(some (t263,t262,true)))) (fun k=>?_) (ev_bind _ eM (ev_bind r ?_ (Ev.now _)))
   ·simp only [spec_SmithPrices.j0];rfl
   ·unfold spec_l10Made.f
    exact ev_bind _ eS m1
  ·refine ⟨[],0,false,ev_guard' es (fun _=>ev_bind _ eM ?_) (fun hn=>absurd h hn),ev_guard' ei (fun _=>loop _ rfl _ _ _ (fun hn=>absurd hn hM) (fun _=>rfl)) (fun hn=>absurd h hn),by simp,by simp⟩
   rw [show (decide (((jobs.foldl lcI 1:Nat):Int)>1000000))=true from decide_eq_true (by omega)]
   exact no
 ·refine ⟨[],0,false,ev_guard' es (fun h1=>absurd h1 h) (fun _=>no),ev_guard' ei (fun h1=>absurd h1 h) (fun _=>Ev.now _),by simp,by simp⟩

end Go.Proofs.Ytbblhmpcpmamfaa.Pure
-- minified
