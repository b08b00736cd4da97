/- Proved here: what functions that the law FnShared reaches answer (base, spec_l1In, impl_within, impl_isNumber, jobT, spec_l2Good, impl_IsJobs, tySpan, marks, plainOk, spec_l3Plain, impl_isPlain, impl_IsPlain, guard, spec_l1Least, spec_l1Most, sumW, spec_l1MostK, impl_greatestOf, evbLoop, evbC, spec_l2Last, a2T, tblP, impl_closure, spec_l4Table, cloL, precOk, spec_). Conditions: those that each theorem names. -/
import Derived.Test.YtbcfmegepkhlpaaXFnSharedx0
import Derived.Test.YtbcfmegepkhlpaaXFnSharedx1
import Derived.Test.YtbcfmegepkhlpaaXFnSharedx2
import Derived.Test.YtbcfmegepkhlpaaXFnSharedx3
import Derived.Test.YtbcfmegepkhlpaaXFnSharedx4
import Derived.Test.YtbcfmegepkhlpaaXFnSharedx5
import Derived.Test.YtbcfmegepkhlpaaXFnSharedx6
import Derived.Test.YtbcfmegepkhlpaaXFnSharedx7
import Derived.Test.YtbcfmegepkhlpaaXFnSharedx8
import Derived.Test.YtbcfmegepkhlpaaXFnSharedx9
import Derived.Test.YtbcfmegepkhlpaaXFnSharedx10
import Derived.Test.YtbcfmegepkhlpaaXFnSharedx11
import Derived.Test.YtbcfmegepkhlpaaXFnSharedx12
import Derived.Test.YtbcfmegepkhlpaaXFnSharedx13
import Derived.Test.YtbcfmegepkhlpaaXFnSharedx14
import Derived.Test.YtbcfmegepkhlpaaXFnSharedx15
import Derived.Test.YtbcfmegepkhlpaaXFnSharedx16
import Derived.Test.YtbcfmegepkhlpaaXFnSharedx17
import Derived.Test.YtbcfmegepkhlpaaXFnSharedx18
import Derived.Test.YtbcfmegepkhlpaaXFnSharedx19
set_option linter.unusedVariables false
set_option linter.unusedSimpArgs false
namespace Go.Proofs.Ytbcfmegepkhlpaa.Pure
open Go.RowKit Go.Proofs.Ytbcfmegepkhlpaa.XFnShared Go.Proofs.YtbcfmegepkhlpaaW.PrintWords Go.Proofs.YtbcfmegepkhlpaaW.PrintLast

theorem wr {x:Int} (h0 : -9223372036854775808≤x) (h1:x≤9223372036854775807):wrap64 x=x:=by unfold wrap64;omega
theorem wr1 {i:Nat} (h:i<1000000000000000000):wrap64 ((i:Int) + 1)=((i + 1:Nat):Int):=by rw [wr (by omega) (by omega)];omega
theorem rev_ind {P:Nat→Prop} (n:Nat) (hn:P n) (hs:∀ i,i<n→P (i + 1)→P i):∀ i,i≤n→P i:=by
 intro i hi
 obtain ⟨d,rfl⟩:∃ d,n=i + d:=⟨n - i,by omega⟩
 clear hi
 induction d generalizing i with
 | zero=>exact hn
 | succ d ih=>
  refine hs i (by omega) (ih (i + 1) ?_ ?_)
  ·rw [show i + 1 + d=i + (d + 1) by omega];exact hn
  ·intro j hj;exact hs j (by omega)
theorem ev_stop {α:Type} {g:Nat→Option α} {r:α} (h:∀ k,g (k + 1)=some r):Ev g r:=Ev.step h (Ev.now r)
theorem ev_go {α:Type} {g:Nat→Option α} (f:Nat→Option α) {r:α} (h:∀ k,g (k + 1)=f k) (k:Ev f r):Ev g r:=Ev.step h k
theorem ev_ite {α:Type} {c:Prop} [Decidable c] {g f:Nat→Option α} {r:α} (h1:c→Ev g r) (h2:¬ c→Ev f r):Ev (fun k=>if c then g k else f k) r:=by
 by_cases h:c
 ·simp only [if_pos h];exact h1 h
 ·simp only [if_neg h];exact h2 h
theorem ev_bind {α β:Type} {g:Nat→Option α} {f:Nat→α→Option β} (a:α) {r:β} (h:Ev g a) (k:Ev (fun n=>f n a) r):Ev (fun n=>(g n).bind (f n)) r:=Ev.bind h k
/-- A bool that is told in the end, and what it says. -/
def EvB (g:Nat→Option Bool) (P:Prop):Prop:=∃ b:Bool,Ev g b∧(b=true ↔ P)
theorem evB_true {g:Nat→Option Bool} {P:Prop} (h:EvB g P) (hp:P):Ev g true:=by
 obtain ⟨b,hb,e⟩:=h
 rw [e.2 hp] at hb
 exact hb
theorem evB_false {g:Nat→Option Bool} {P:Prop} (h:EvB g P) (hp:¬ P):Ev g false:=by
 obtain ⟨b,hb,e⟩:=h
 cases b with
 | true=>exact absurd (e.1 rfl) hp
 | false=>exact hb
theorem evB_of {g:Nat→Option Bool} {P:Prop} (h1:P→Ev g true) (h2:¬ P→Ev g false):EvB g P:=by
 by_cases h:P
 ·exact ⟨true,h1 h,by simp [h]⟩
 ·exact ⟨false,h2 h,by simp [h]⟩
theorem evB_iff {g:Nat→Option Bool} {P Q:Prop} (h:EvB g P) (e:P ↔ Q):EvB g Q:=by
 obtain ⟨b,hb,e'⟩:=h
 exact ⟨b,hb,e'.trans e⟩
theorem evB_bind {g:Nat→Option Bool} {P:Prop} {α:Type} {f:Nat→Bool→Option α} {r:α} (h:EvB g P) (h1:P→Ev (fun n=>f n true) r) (h2:¬ P→Ev (fun n=>f n false) r):Ev (fun n=>(g n).bind (f n)) r:=by
 by_cases hp:P
 ·exact Ev.bind (evB_true h hp) (h1 hp)
 ·exact Ev.bind (evB_false h hp) (h2 hp)
theorem evB_same {g f:Nat→Option Bool} {P:Prop} (h:EvB g P) (k:EvB f P):∃ b,Ev g b∧Ev f b:=by
 obtain ⟨b,hb,e⟩:=h
 obtain ⟨c,hc,e'⟩:=k
 have:b=c:=by
  cases b <;> cases c <;> simp_all
 subst this
 exact ⟨b,hb,hc⟩
theorem some_bool (P:Prop) [Decidable P] {g:Nat→Option Bool} (h:∀ k,g k=some (decide P)):EvB g P:=⟨decide P,⟨0,fun k _=>h k⟩,by simp⟩
theorem rd_nat {l:List Int} {i:Nat} (h:i<l.length):rd l (i:Int)=l[i]:=by simp [rd,h]
theorem rd_zero {l:List Int} (h:0<l.length):rd l 0=l[0]:=by simp [rd,h]
theorem drop_cons {α:Type} {l:List α} {i:Nat} (h:i<l.length):l.drop i=l[i]::l.drop (i + 1):=List.drop_eq_getElem_cons h
theorem set_copy {α:Type} {l z:List α} {i:Nat} (h:i<l.length) (hz:i<z.length):(l.take i++z.drop i).set i l[i]=l.take (i + 1)++z.drop (i + 1):=by
 have hl:(l.take i).length=i:=by simp;omega
 rw [List.set_append_right _ _ (by omega),hl,Nat.sub_self,drop_cons hz,List.set_cons_zero,List.take_succ_eq_append_getElem h,List.append_assoc]
 rfl

theorem spec_l1In.eq (a b c:Int):spec_l1In.f a b c=some (decide (b≤a∧a≤c)):=by
 unfold spec_l1In.f
 by_cases h:a≥b
 ·rw [if_pos h];congr 1;simp;omega
 ·rw [if_neg h];congr 1;simp;omega

theorem impl_within.eq (a b c:Int):impl_within.f a b c=some (decide (b≤a∧a≤c)):=by
 unfold impl_within.f
 by_cases h:b≤a
 ·rw [if_pos h];congr 1;simp;omega
 ·rw [if_neg h];congr 1;simp;omega

theorem impl_isNumber.eq (a n:Int) (h0:0≤n) (h1:n≤1000000000000000):impl_isNumber.f a n=some (decide (0≤a∧a<n)):=by
 unfold impl_isNumber.f
 rw [impl_within.eq,Option.bind_some,wr (by omega) (by omega)]
 simp only [Option.some.injEq,decide_eq_decide];omega

abbrev J:=S76
theorem rdJ {l:List J} {i:Nat} (h:i<l.length):rd_T76 l (i:Int)=l[i]:=by simp [rd_T76,h]
theorem rdJ_zero {l:List J} (h:0<l.length):rd_T76 l 0=l[0]:=by simp [rd_T76,h]
/-- A valid job. -/
def JobOk (j:J):Prop:=(1≤j.f0∧j.f0≤50)∧(0≤j.f1∧j.f1≤50)∧(0≤j.f2∧j.f2≤500)∧(0≤j.f3∧j.f3≤500)
/-- A list of jobs. -/
def JobsOk (l:List J):Prop:=l.length≤8∧∀ j ∈ l,JobOk j

theorem spec_l2Job.eq (j:J):∃ c,spec_l2Job.f j.f0 j.f1 j.f2 j.f3=some c∧(c=true ↔ JobOk j):=by
 unfold spec_l2Job.f JobOk
 simp only [spec_l1In.eq,Option.bind_some]
 by_cases h0:1≤j.f0∧j.f0≤50
 ·by_cases h1:0≤j.f1∧j.f1≤50
  ·by_cases h2:0≤j.f2∧j.f2≤500
   ·exact ⟨decide (0≤j.f3∧j.f3≤500),by simp [h0,h1,h2],by simp [h0,h1,h2]⟩
   ·exact ⟨false,by simp [h0,h1,h2],by simp [h2]⟩
  ·exact ⟨false,by simp [h0,h1],by simp [h1]⟩
 ·exact ⟨false,by simp [h0],by simp [h0]⟩
theorem spec_l2Good.ev (l:List J) (hl:l.length≤1000000000000000):EvB (fun k=>spec_l2Good.f k l) (JobsOk l):=by
 have key:=rev_ind (P:=fun i=>EvB (fun k=>spec_l2Good.l0 k l (i:Int)) (l.length≤8∧∀ j ∈ l.drop i,JobOk j)) l.length ?_ ?_ 0 (Nat.zero_le _)
 ·simpa [spec_l2Good.f,JobsOk] using key
 ·refine ⟨decide ((l.length:Int)≤8),ev_stop fun k=>?_,by simp;omega⟩
  simp only [spec_l2Good.l0];rw [if_neg (by omega)]
 ·intro i hi ih
  rw [drop_cons hi]
  obtain ⟨c,hc,hce⟩:=spec_l2Job.eq l[i]
  by_cases q:JobOk l[i]
  ·obtain ⟨b,hb,hP⟩:=ih
   refine ⟨b,ev_go _ (fun k=>?_) hb,hP.trans ⟨fun h=>⟨h.1,fun x hx=>?_⟩,fun h=>⟨h.1,fun x hx=>h.2 x (List.mem_cons_of_mem _ hx)⟩⟩⟩
   ·simp only [spec_l2Good.l0];rw [if_pos (by omega),if_pos (by omega),rdJ hi,hc,Option.bind_some,if_pos (hce.2 q),wr1 (by omega)]
   ·rcases List.mem_cons.1 hx with rfl|hx
    ·exact q
    ·exact h.2 x hx
  ·refine evB_of (fun h=>absurd (h.2 _ List.mem_cons_self) q) (fun _=>ev_stop fun k=>?_)
   simp only [spec_l2Good.l0];rw [if_pos (by omega),if_pos (by omega),rdJ hi,hc,Option.bind_some,if_neg (fun h=>q (hce.1 h))]

theorem impl_IsJobs.ev (l:List J):EvB (fun k=>impl_IsJobs.f k l) (JobsOk l):=by
 unfold impl_IsJobs.f
 by_cases h8:(l.length:Int)>8
 ·simp only [if_pos h8]
  exact evB_of (fun h=>absurd h.1 (by omega)) (fun _=>Ev.now _)
 ·simp only [if_neg h8]
  have key:=rev_ind (P:=fun i=>EvB (fun k=>impl_IsJobs.l0 k l (l.length:Int) (i:Int)) (∀ j ∈ l.drop i,JobOk j)) l.length ?_ ?_ 0 (Nat.zero_le _)
  ·refine evB_iff (by simpa using key) ⟨fun h=>⟨by omega,h⟩,fun h=>h.2⟩
  ·refine evB_of (fun _=>ev_stop fun k=>?_) (fun h=>absurd (by simp) h)
   simp only [impl_IsJobs.l0];rw [if_neg (by omega)]
  ·intro i hi ih
   rw [drop_cons hi]
   by_cases q:JobOk l[i]
   ·obtain ⟨b,hb,hP⟩:=ih
    refine ⟨b,ev_go _ (fun k=>?_) hb,hP.trans ⟨fun h x hx=>?_,fun h x hx=>h x (List.mem_cons_of_mem _ hx)⟩⟩
    ·simp only [impl_IsJobs.l0,impl_within.eq,impl_isDate.f,Option.bind_some]
     rw [if_pos (by omega),if_pos (by omega),if_pos (by omega),rdJ hi,if_pos (by simpa using q.1),if_pos (by simpa using q.2.1),if_pos (by simpa using q.2.2.1),if_pos (by simpa using q.2.2.2),wr1 (by omega)]
    ·rcases List.mem_cons.1 hx with rfl|hx
     ·exact q
     ·exact h x hx
   ·refine evB_of (fun h=>absurd (h _ List.mem_cons_self) q) (fun _=>ev_stop fun k=>?_)
    simp only [impl_IsJobs.l0,impl_within.eq,impl_isDate.f,Option.bind_some]
    rw [if_pos (by omega),if_pos (by omega),if_pos (by omega),rdJ hi]
    unfold JobOk at q
    by_cases h0:1≤l[i].f0∧l[i].f0≤50
    ·rw [if_pos (by simpa using h0)]
     by_cases h1:0≤l[i].f1∧l[i].f1≤50
     ·rw [if_pos (by simpa using h1)]
      by_cases h2:0≤l[i].f2∧l[i].f2≤500
      ·rw [if_pos (by simpa using h2)]
       by_cases h3:0≤l[i].f3∧l[i].f3≤500
       ·exact absurd ⟨h0,h1,h2,h3⟩ q
       ·rw [if_neg (by simpa using h3)]
      ·rw [if_neg (by simpa using h2)]
     ·rw [if_neg (by simpa using h1)]
    ·rw [if_neg (by simpa using h0)]

abbrev PSpan:=S116
theorem rdPSpan {l:List PSpan} {i:Nat} (h:i<l.length):rd_T116 l (i:Int)=l[i]:=by simp [rd_T116,h]
theorem rdPSpan_zero {l:List PSpan} (h:0<l.length):rd_T116 l 0=l[0]:=by simp [rd_T116,h]

theorem ev_succ {α:Type} {g:Nat→Option α} {r:α} (h:Ev (fun k=>g (k + 1)) r):Ev g r:=Ev.step (fun _=>rfl) h
/-- a, a + 1, .. -/
def iotaI (a:Int):Nat→List Int
 | 0=>[]
 | n + 1=>a::iotaI (a + 1) n
theorem iotaI_length (n:Nat):∀ a,(iotaI a n).length=n:=by
 induction n with
 | zero=>intro a;rfl
 | succ n ih=>intro a;simp [iotaI,ih]
theorem iotaI_snoc (n:Nat):∀ a:Int,iotaI a (n + 1)=iotaI a n++[a + n]:=by
 induction n with
 | zero=>intro a;simp [iotaI]
 | succ n ih=>
  intro a
  rw [iotaI,ih,iotaI,List.cons_append]
  congr 3
  omega
theorem iotaI_get (n:Nat):∀ (a:Int) (i:Nat) (h:i<(iotaI a n).length),(iotaI a n)[i]=a + i:=by
 induction n with
 | zero=>intro a i h;simp [iotaI] at h
 | succ n ih=>
  intro a i h
  cases i with
  | zero=>simp [iotaI]
  | succ i=>
   simp only [iotaI,List.getElem_cons_succ]
   rw [ih];omega

def NoRel (l:List J):Prop:=∀ j ∈ l,j.f2=0
def PlainOk (l:List J):Prop:=JobsOk l∧NoRel l
theorem noRel_cons {x:J} {l:List J} : NoRel (x::l) ↔ x.f2=0∧NoRel l:=by simp [NoRel]

theorem spec_l3Plain.ev (l:List J) (hl:l.length≤1000000000000):EvB (fun k=>spec_l3Plain.f k l) (NoRel l):=by
 have key:=rev_ind (P:=fun i=>EvB (fun k=>spec_l3Plain.l0 k l (i:Int)) (NoRel (l.drop i))) l.length ?_ ?_ 0 (Nat.zero_le _)
 ·simpa [spec_l3Plain.f] using key
 ·refine evB_of (fun _=>ev_stop fun k=>?_) (fun h=>absurd (by rw [List.drop_length];intro j hj;cases hj) h)
  simp only [spec_l3Plain.l0];rw [if_neg (by omega)]
 ·intro i hi ih
  rw [drop_cons hi,noRel_cons]
  by_cases q:l[i].f2=0
  ·obtain ⟨c,hb,hP⟩:=ih
   refine ⟨c,ev_go _ (fun k=>?_) hb,hP.trans ⟨fun h=>⟨q,h⟩,fun h=>h.2⟩⟩
   simp only [spec_l3Plain.l0];rw [if_pos (by omega),if_pos (by omega),rdJ hi,if_pos q,wr1 (by omega)]
  ·refine evB_of (fun h=>absurd h.1 q) (fun _=>ev_stop fun k=>?_)
   simp only [spec_l3Plain.l0];rw [if_pos (by omega),if_pos (by omega),rdJ hi,if_neg q]

theorem impl_isPlain.ev (l:List J) (hl:l.length≤1000000000000):EvB (fun k=>impl_isPlain.f k l) (NoRel l):=by
 have key:=rev_ind (P:=fun i=>EvB (fun k=>impl_isPlain.l0 k l (l.length:Int) (i:Int)) (NoRel (l.drop i))) l.length ?_ ?_ 0 (Nat.zero_le _)
 ·simpa [impl_isPlain.f] using key
 ·refine evB_of (fun _=>ev_stop fun k=>?_) (fun h=>absurd (by rw [List.drop_length];intro j hj;cases hj) h)
  simp only [impl_isPlain.l0];rw [if_neg (by omega)]
 ·intro i hi ih
  rw [drop_cons hi,noRel_cons]
  by_cases q:l[i].f2=0
  ·obtain ⟨c,hb,hP⟩:=ih
   refine ⟨c,ev_go _ (fun k=>?_) hb,hP.trans ⟨fun h=>⟨q,h⟩,fun h=>h.2⟩⟩
   simp only [impl_isPlain.l0];rw [if_pos (by omega),if_pos (by omega),if_pos (by omega),rdJ hi,if_pos q,wr1 (by omega)]
  ·refine evB_of (fun h=>absurd h.1 q) (fun _=>ev_stop fun k=>?_)
   simp only [impl_isPlain.l0];rw [if_pos (by omega),if_pos (by omega),if_pos (by omega),rdJ hi,if_neg q]

theorem impl_IsPlain.ev (l:List J) (hl:l.length≤1000000000000):EvB (fun k=>impl_IsPlain.f k l) (PlainOk l):=by
 unfold impl_IsPlain.f PlainOk
 refine evB_of (fun h=>?_) (fun h=>?_)
 ·refine evB_bind (impl_IsJobs.ev l) (fun _=>?_) (fun h'=>absurd h.1 h')
  simp only [if_true]
  exact evB_bind (impl_isPlain.ev l hl) (fun _=>Ev.now _) (fun h'=>absurd h.2 h')
 ·refine evB_bind (impl_IsJobs.ev l) (fun h1=>?_) (fun _=>by simp only [Bool.false_eq_true,if_false];exact Ev.now _)
  simp only [if_true]
  exact evB_bind (impl_isPlain.ev l hl) (fun h2=>absurd ⟨h1,h2⟩ h) (fun _=>Ev.now _)

theorem ev_guard {g:Nat→Option Bool} {P:Prop} {α:Type} {F:Nat→Option α} {z r:α} (h:EvB g P) (h1:P→Ev F r) (h2:¬ P→r=z):Ev (fun n=>(g n).bind fun t=>if t=true then F n else some z) r:=by
 refine evB_bind h (fun hp=>?_) (fun hp=>?_)
 ·simp only [if_true];exact h1 hp
 ·simp only [Bool.false_eq_true,if_false];rw [h2 hp];exact Ev.now _
theorem ev_guard' {g:Nat→Option Bool} {P:Prop} {α:Type} {F G:Nat→Option α} {r:α} (h:EvB g P) (h1:P→Ev F r) (h2:¬ P→Ev G r):Ev (fun n=>(g n).bind fun t=>if t=true then F n else G n) r:=by
 refine evB_bind h (fun hp=>?_) (fun hp=>?_)
 ·simp only [if_true];exact h1 hp
 ·simp only [Bool.false_eq_true,if_false];exact h2 hp

theorem spec_l1Least.eq (a b:Int):spec_l1Least.f a b=some (mn a b):=by
 unfold spec_l1Least.f mn;split <;> split <;> first|rfl|omega|(congr 1;omega)

theorem spec_l1Most.eq (a b:Int):spec_l1Most.f a b=some (mx a b):=by
 unfold spec_l1Most.f mx;split <;> split <;> first|rfl|omega|(congr 1;omega)

def sumW:List Int→Int→Int
 | [],a=>a
 | x::xs,a=>sumW xs (wrap64 (a + x))
def mxW:List Int→Int→Int
 | [],a=>a
 | x::xs,a=>mxW xs (mx a x)
theorem mx_eq (a b:Int):mx a b=if a≤b then b else a:=by unfold mx;split <;> split <;> omega
theorem mxW_mx:∀ (l:List Int) (a b:Int),mxW l (mx a b)=mx a (mxW l b)
 | [],_,_=>rfl
 | x::l,a,b=>by
  rw [mxW,mxW,←mxW_mx l a]
  congr 1
  unfold mx
  repeat' split
  all_goals omega
theorem mxW_ge:∀ (l:List Int) (a:Int),a≤mxW l a
 | [],_=>Int.le_refl _
 | x::l,a=>by
  rw [mxW]
  refine Int.le_trans ?_ (mxW_ge l _)
  unfold mx;split <;> omega
theorem mxW_app:∀ (l m:List Int) (a:Int),mxW (l++m) a=mxW m (mxW l a)
 | [],_,_=>rfl
 | x::l,m,a=>by rw [List.cons_append,mxW,mxW,mxW_app]
theorem mxW_two (l m:List Int):mxW m (mxW l 0)=mx (mxW m 0) (mxW l 0):=by
 have h:mxW l 0=mx (mxW l 0) 0:=by have:=mxW_ge l 0;unfold mx;split <;> omega
 rw [h,mxW_mx,←h]
 unfold mx;split <;> split <;> omega

theorem spec_l1Most.eqk (a b:Int):spec_l1Most.f a b=some (mx a b):=by
 unfold spec_l1Most.f mx;split <;> split <;> first|rfl|omega|(congr 1;omega)

theorem impl_greatestOf.ev (l:List Int) (hl:l.length≤1000000000):Ev (fun k=>impl_greatestOf.f k l) (mxW l 0):=by
 have key:=rev_ind (P:=fun i=>∀ s,Ev (fun k=>impl_greatestOf.l0 k s l (l.length:Int) (i:Int)) (mxW (l.drop i) s)) l.length ?_ ?_ 0 (Nat.zero_le _) 0
 ·simpa [impl_greatestOf.f] using key
 ·intro s
  refine ev_stop fun k=>?_
  simp only [impl_greatestOf.l0];rw [if_neg (by omega),List.drop_length];rfl
 ·intro i hi ih s
  rw [drop_cons hi,mxW]
  refine ev_go _ (fun k=>?_) (ih _)
  simp only [impl_greatestOf.l0];rw [if_pos (by omega),if_pos (by omega),if_pos (by omega),rd_nat hi,wr1 (by omega)]

theorem evB_step {g:Nat→Option Bool} (g':Nat→Option Bool) {R:Prop} (h:∀ k,g (k + 1)=g' k) (hR:EvB g' R):EvB g R:=by
 obtain ⟨b,hb,e⟩:=hR
 exact ⟨b,ev_go _ h hb,e⟩
theorem evB_leaf {g:Nat→Option Bool} (g':Nat→Option Bool) {P R:Prop} (h1:P→∀ k,g (k + 1)=g' k) (h2:¬ P→∀ k,g (k + 1)=some false) (hR:EvB g' R):EvB g (P∧R):=by
 by_cases p:P
 ·exact evB_iff (evB_step g' (h1 p) hR) ⟨fun r=>⟨p,r⟩,fun r=>r.2⟩
 ·exact evB_of (fun h=>absurd h.1 p) (fun _=>ev_stop (h2 p))
theorem evB_loop (n:Nat) (g:Nat→Nat→Option Bool) (P:Nat→Prop) (Q:Prop) (hstop:EvB (g n) Q) (hstep:∀ i,i<n→∀ R,EvB (g (i + 1)) R→EvB (g i) (P i∧R)):EvB (g 0) ((∀ i,i<n→P i)∧Q):=by
 have key:=rev_ind (P:=fun i=>EvB (g i) ((∀ j,i≤j→j<n→P j)∧Q)) n ?_ ?_ 0 (Nat.zero_le _)
 ·exact evB_iff key ⟨fun h=>⟨fun i hi=>h.1 i (Nat.zero_le _) hi,h.2⟩,fun h=>⟨fun i _ hi=>h.1 i hi,h.2⟩⟩
 ·exact evB_iff hstop ⟨fun h=>⟨fun j h1 h2=>absurd h1 (by omega),h⟩,fun h=>h.2⟩
 ·intro i hi ih
  refine evB_iff (hstep i hi _ ih) ⟨fun h=>⟨fun j h1 h2=>?_,h.2.2⟩,fun h=>⟨h.1 i (Nat.le_refl _) hi,fun j h1 h2=>h.1 j (by omega) h2,h.2⟩⟩
  by_cases e:j=i
  ·rw [e];exact h.1
  ·exact h.2.1 j (by omega) h2

theorem evB_condC {g:Nat→Option Bool} (g':Nat→Option Bool) {C R:Prop} (h1:C→∀ k,g (k + 1)=g' k) (h2:¬ C→Ev g false) (hR:C→EvB g' R):EvB g (C∧R):=by
 by_cases c:C
 ·obtain ⟨b,hb,e⟩:=hR c
  exact ⟨b,ev_go _ (h1 c) hb,e.trans ⟨fun r=>⟨c,r⟩,fun r=>r.2⟩⟩
 ·exact evB_of (fun h=>absurd h.1 c) (fun _=>h2 c)
theorem evB_loopC (n:Nat) (g:Nat→Nat→Option Bool) (P:Nat→Prop) (Q:Prop) (hstop:(∀ j,j<n→P j)→EvB (g n) Q) (hstep:∀ i,i<n→(∀ j,j<i→P j)→∀ R,(P i→EvB (g (i + 1)) R)→EvB (g i) (P i∧R)):EvB (g 0) ((∀ i,i<n→P i)∧Q):=by
 have key:=rev_ind (P:=fun i=>(∀ j,j<i→P j)→EvB (g i) ((∀ j,i≤j→j<n→P j)∧Q)) n ?_ ?_ 0 (Nat.zero_le _) (fun j hj=>absurd hj (by omega))
 ·exact evB_iff key ⟨fun h=>⟨fun i hi=>h.1 i (Nat.zero_le _) hi,h.2⟩,fun h=>⟨fun i _ hi=>h.1 i hi,h.2⟩⟩
 ·intro hlt
  exact evB_iff (hstop hlt) ⟨fun h=>⟨fun j h1 h2=>absurd h1 (by omega),h⟩,fun h=>h.2⟩
 ·intro i hi ih hlt
  refine evB_iff (hstep i hi hlt _ (fun hp=>ih (fun j hj=>?_))) ⟨fun h=>⟨fun j h1 h2=>?_,h.2.2⟩,fun h=>⟨h.1 i (Nat.le_refl _) hi,fun j h1 h2=>h.1 j (by omega) h2,h.2⟩⟩
  ·by_cases e:j=i
   ·rw [e];exact hp
   ·exact hlt j (by omega)
  ·by_cases e:j=i
   ·rw [e];exact h.1
   ·exact h.2.1 j (by omega) h2

theorem spec_l2Last.ev (l:List Int) (hl:l.length≤1000000000):Ev (fun k=>spec_l2Last.f k l) (mxW l 0):=by
 have key:=rev_ind (P:=fun i=>∀ s,Ev (fun k=>spec_l2Last.l0 k l s (i:Int)) (mxW (l.drop i) s)) l.length ?_ ?_ 0 (Nat.zero_le _) 0
 ·simpa [spec_l2Last.f] using key
 ·intro s
  refine ev_stop fun k=>?_
  simp only [spec_l2Last.l0];rw [if_neg (by omega),List.drop_length];rfl
 ·intro i hi ih s
  rw [drop_cons hi,mxW]
  refine ev_go _ (fun k=>?_) (ih _)
  simp only [spec_l2Last.l0];rw [if_pos (by omega),if_pos (by omega),rd_nat hi,spec_l1Most.eqk,Option.bind_some,wr1 (by omega)]

abbrev A2:=S72
theorem rdA2 {l:List A2} {i:Nat} (h:i<l.length):rd_T72 l (i:Int)=l[i]:=by simp [rd_T72,h]
theorem a2_ext {a b:A2} (h0:a.f0=b.f0) (h1:a.f1=b.f1):a=b:=by cases a;cases b;simp at h0 h1;rw [h0,h1]

/-- A square table of bools. -/
abbrev BF:=Nat→Nat→Bool
def tbl (n:Nat) (f:BF):List (List Bool):=(List.range n).map fun i=>(List.range n).map fun j=>f i j
def upd2 (f:BF) (i j:Nat) (v:Bool):BF:=fun a b=>if a=i∧b=j then v else f a b
theorem tbl_length (n:Nat) (f:BF):(tbl n f).length=n:=by simp [tbl]
theorem tbl_row {n:Nat} {f:BF} {i:Nat} (h:i<n):rd_L4 (tbl n f) (i:Int)=(List.range n).map fun j=>f i j:=by simp [rd_L4,tbl,h]
theorem tbl_rowlen {n:Nat} {f:BF} {i:Nat} (h:i<n):(rd_L4 (tbl n f) (i:Int)).length=n:=by rw [tbl_row h];simp
theorem tbl_at {n:Nat} {f:BF} {i j:Nat} (h:i<n) (h2:j<n):rdOf false (rd_L4 (tbl n f) (i:Int)) (j:Int)=f i j:=by rw [tbl_row h];simp [rdOf,h2]
theorem tbl_set {n:Nat} {f:BF} {i j:Nat} (h:i<n) (h2:j<n) (v:Bool):(tbl n f).set i ((rd_L4 (tbl n f) (i:Int)).set j v)=tbl n (upd2 f i j v):=by
 rw [tbl_row h]
 apply List.ext_getElem
 ·simp [tbl]
 ·intro a h3 h4
  simp only [tbl,List.length_map,List.length_range] at h4
  rw [List.getElem_set]
  by_cases e:i=a
  ·subst e
   rw [if_pos rfl]
   apply List.ext_getElem
   ·simp [tbl]
   ·intro b h5 h6
    simp only [List.length_set,List.length_map,List.length_range] at h5
    rw [List.getElem_set]
    simp only [tbl,List.getElem_map,List.getElem_range,upd2]
    by_cases e2:j=b
    ·subst e2;simp
    ·rw [if_neg e2,if_neg (by rintro ⟨_,h⟩;exact e2 h.symm)]
  ·rw [if_neg e]
   simp only [tbl,List.getElem_map,List.getElem_range,upd2]
   congr 1
   funext b
   rw [if_neg (by rintro ⟨h,_⟩;exact e h.symm)]
/-- The pairs, laid into a table. -/
def edgF:List A2→BF→BF
 | [],f=>f
 | e::E,f=>edgF E (upd2 f e.f0.toNat e.f1.toNat true)
/-- Warshall's rounds. -/
def fwS (k i j:Nat) (f:BF):BF:=upd2 f i j (f i j || (f i k && f k j))
def fwJ (k i:Nat):List Nat→BF→BF:=fun L f=>L.foldl (fun f j=>fwS k i j f) f
def fwI (n k:Nat):List Nat→BF→BF:=fun L f=>L.foldl (fun f i=>fwJ k i (List.range n) f) f
def fwK (n:Nat):List Nat→BF→BF:=fun L f=>L.foldl (fun f k=>fwI n k (List.range n) f) f
def cloF (n:Nat) (E:List A2):BF:=fwK n (List.range n) (edgF E fun _ _=>false)
def EdgIn (n:Nat) (E:List A2):Prop:=∀ e ∈ E,(0≤e.f0∧e.f0<(n:Int))∧(0≤e.f1∧e.f1<(n:Int))
theorem range_drop {n i:Nat} (h:i<n):(List.range n).drop i=i::(List.range n).drop (i + 1):=by rw [drop_cons (by simpa using h)];simp
theorem fwS_same (k i j:Nat) (f:BF) (h:(f i k && f k j)=false):fwS k i j f=f:=by
 funext a b
 unfold fwS upd2
 by_cases e:a=i∧b=j
 ·rw [if_pos e,e.1,e.2,h,Bool.or_false]
 ·rw [if_neg e]

theorem impl_closure.ev (n:Nat) (E:List A2) (hn:n≤8) (hE:E.length≤1000000) (hin:EdgIn n E):Ev (fun k=>impl_closure.f k (n:Int) E) (tbl n (cloF n E)):=by
 unfold impl_closure.f
 rw [show (fun k=>if 0≤(n:Int) then (if ((n:Int):Int).toNat≤11728124029610 then ((some (List.replicate ((n:Int):Int).toNat []:List (List Bool))).bind fun y167=>(impl_closure.l0 k (n:Int) E y167 (y167.length:Int) 0)) else none) else none)=fun k=>impl_closure.l0 k (n:Int) E (List.replicate n ([]:List Bool)) (n:Int) 0 from funext fun k=>by rw [if_pos (by omega),if_pos (by omega),Option.bind_some,Int.toNat_natCast,List.length_replicate]]
 have l4:∀ (a i:Nat) (R:List (List Bool)),a<n→i<n→∀ j,j≤n→∀ f:BF,Ev (fun k=>impl_closure.l3 k (n:Int) (tbl n (fwJ a i ((List.range n).drop j) f)) (a:Int) ((i + 1:Nat):Int)) R→Ev (fun k=>impl_closure.l4 k (n:Int) (tbl n f) (a:Int) (i:Int) (j:Int)) R:=by
  intro a i R ha hi
  refine rev_ind (P:=fun j=>∀ f:BF,Ev (fun k=>impl_closure.l3 k (n:Int) (tbl n (fwJ a i ((List.range n).drop j) f)) (a:Int) ((i + 1:Nat):Int)) R→Ev (fun k=>impl_closure.l4 k (n:Int) (tbl n f) (a:Int) (i:Int) (j:Int)) R) n ?_ ?_
  ·intro f h
   rw [List.drop_of_length_le (by simp)] at h
   refine ev_go _ (fun k=>?_) h
   simp only [impl_closure.l4];rw [if_neg (by omega),wr1 (by omega)];rfl
  ·intro j hj ih f h
   rw [range_drop hj] at h
   have hs:=ih (fwS a i j f) h
   refine ev_go _ (fun k=>?_) hs
   simp only [impl_closure.l4]
   rw [if_pos (by omega),if_pos (by omega),if_pos (by rw [tbl_length];omega),if_pos (by omega),if_pos (by rw [tbl_rowlen hi];omega),tbl_at hi hj,wr1 (by omega)]
   simp only [Int.toNat_natCast]
   by_cases c1:f i j=true
   ·rw [if_pos c1,tbl_set hi hj,fwS,c1];rfl
   ·have c1:f i j=false:=by simpa using c1
    rw [if_neg (by rw [c1];simp),if_pos (by omega),if_pos (by rw [tbl_rowlen hi];omega),tbl_at hi ha]
    by_cases c2:f i a=true
    ·rw [if_pos c2,if_pos (by rw [tbl_length];omega),if_pos (by rw [tbl_rowlen ha];omega),tbl_at ha hj,tbl_set hi hj,fwS,c1,c2];simp
    ·have c2:f i a=false:=by simpa using c2
     rw [if_neg (by rw [c2];simp),tbl_set hi hj,fwS,c1,c2];simp
 have l3:∀ (a:Nat) (R:List (List Bool)),a<n→∀ i,i≤n→∀ f:BF,Ev (fun k=>impl_closure.l2 k (n:Int) (tbl n (fwI n a ((List.range n).drop i) f)) ((a + 1:Nat):Int)) R→Ev (fun k=>impl_closure.l3 k (n:Int) (tbl n f) (a:Int) (i:Int)) R:=by
  intro a R ha
  refine rev_ind (P:=fun i=>∀ f:BF,Ev (fun k=>impl_closure.l2 k (n:Int) (tbl n (fwI n a ((List.range n).drop i) f)) ((a + 1:Nat):Int)) R→Ev (fun k=>impl_closure.l3 k (n:Int) (tbl n f) (a:Int) (i:Int)) R) n ?_ ?_
  ·intro f h
   rw [List.drop_of_length_le (by simp)] at h
   refine ev_go _ (fun k=>?_) h
   simp only [impl_closure.l3];rw [if_neg (by omega),wr1 (by omega)];rfl
  ·intro i hi ih f h
   rw [range_drop hi] at h
   refine ev_go (fun k=>impl_closure.l4 k (n:Int) (tbl n f) (a:Int) (i:Int) 0) (fun k=>?_) (l4 a i R ha hi 0 (Nat.zero_le _) f (ih _ h))
   simp only [impl_closure.l3];rw [if_pos (by omega)]
 have l2:∀ a,a≤n→∀ f:BF,Ev (fun k=>impl_closure.l2 k (n:Int) (tbl n f) (a:Int)) (tbl n (fwK n ((List.range n).drop a) f)):=by
  refine rev_ind (P:=fun a=>∀ f:BF,Ev (fun k=>impl_closure.l2 k (n:Int) (tbl n f) (a:Int)) (tbl n (fwK n ((List.range n).drop a) f))) n ?_ ?_
  ·intro f
   rw [List.drop_of_length_le (by simp)]
   refine ev_stop fun k=>?_
   simp only [impl_closure.l2];rw [if_neg (by omega)];rfl
  ·intro a ha ih f
   rw [range_drop ha]
   refine ev_go (fun k=>impl_closure.l3 k (n:Int) (tbl n f) (a:Int) 0) (fun k=>?_) (l3 a _ ha 0 (Nat.zero_le _) f (ih _))
   simp only [impl_closure.l2];rw [if_pos (by omega)]
 have l1:∀ i,i≤E.length→∀ f:BF,Ev (fun k=>impl_closure.l1 k (n:Int) (tbl n f) E (E.length:Int) (i:Int)) (tbl n (fwK n (List.range n) (edgF (E.drop i) f))):=by
  refine rev_ind (P:=fun i=>∀ f:BF,Ev (fun k=>impl_closure.l1 k (n:Int) (tbl n f) E (E.length:Int) (i:Int)) (tbl n (fwK n (List.range n) (edgF (E.drop i) f)))) E.length ?_ ?_
  ·intro f
   rw [List.drop_length]
   refine ev_go _ (fun k=>?_) (l2 0 (Nat.zero_le _) f)
   simp only [impl_closure.l1];rw [if_neg (by omega)];rfl
  ·intro i hi ih f
   obtain ⟨⟨h1,h2⟩,h3,h4⟩:=hin _ (List.getElem_mem hi)
   rw [drop_cons hi,edgF]
   refine ev_go _ (fun k=>?_) (ih _)
   obtain ⟨x,hx⟩:=Int.eq_ofNat_of_zero_le h1
   obtain ⟨y,hy⟩:=Int.eq_ofNat_of_zero_le h3
   simp only [impl_closure.l1]
   rw [if_pos (by omega),if_pos (by omega),if_pos (by omega),rdA2 hi,hx,hy,if_pos (by omega),if_pos (by rw [tbl_length];omega),if_pos (by omega),if_pos (by rw [tbl_rowlen (by omega)];omega),wr1 (by omega)]
   simp only [Int.toNat_natCast]
   rw [tbl_set (by omega) (by omega)]
 have l0:=rev_ind (P:=fun i=>Ev (fun k=>impl_closure.l0 k (n:Int) E ((tbl n fun _ _=>false).take i++(List.replicate n ([]:List Bool)).drop i) (n:Int) (i:Int)) (tbl n (cloF n E))) n ?_ ?_ 0 (Nat.zero_le _)
 ·simpa using l0
 ·refine ev_go _ (fun k=>?_) (l1 0 (Nat.zero_le _) fun _ _=>false)
  simp only [impl_closure.l0];rw [if_neg (by omega),List.take_of_length_le (by rw [tbl_length];omega),List.drop_of_length_le (by simp),List.append_nil];rfl
 ·intro i hi ih
  have hlen:((tbl n fun _ _=>false).take i++(List.replicate n ([]:List Bool)).drop i).length=n:=by simp [tbl];omega
  refine ev_go _ (fun k=>?_) ih
  simp only [impl_closure.l0]
  rw [if_pos (by omega),if_pos (by omega),if_pos (by omega),if_pos (by omega),if_pos (by rw [hlen];omega),wr1 (by omega)]
  have:=set_copy (l:=tbl n fun _ _=>false) (z:=List.replicate n ([]:List Bool)) (i:=i) (by rw [tbl_length];exact hi) (by simpa using hi)
  rw [←this]
  simp [tbl,List.map_const']

theorem spec_l4Table.ev (n:Nat) (E:List A2) (hn:n≤8) (hE:E.length≤1000000) (hin:EdgIn n E):Ev (fun k=>spec_l4Table.f k (n:Int) E) (tbl n (cloF n E)):=by
 unfold spec_l4Table.f
 have l4:∀ (a i:Nat) (R:List (List Bool)),a<n→i<n→∀ j,j≤n→∀ f:BF,Ev (fun k=>spec_l4Table.l3 k (n:Int) (tbl n (fwJ a i ((List.range n).drop j) f)) (a:Int) ((i + 1:Nat):Int)) R→Ev (fun k=>spec_l4Table.l4 k (n:Int) (tbl n f) (a:Int) (i:Int) (j:Int)) R:=by
  intro a i R ha hi
  refine rev_ind (P:=fun j=>∀ f:BF,Ev (fun k=>spec_l4Table.l3 k (n:Int) (tbl n (fwJ a i ((List.range n).drop j) f)) (a:Int) ((i + 1:Nat):Int)) R→Ev (fun k=>spec_l4Table.l4 k (n:Int) (tbl n f) (a:Int) (i:Int) (j:Int)) R) n ?_ ?_
  ·intro f h
   rw [List.drop_of_length_le (by simp)] at h
   refine ev_go _ (fun k=>?_) h
   simp only [spec_l4Table.l4];rw [if_neg (by omega),wr1 (by omega)];rfl
  ·intro j hj ih f h
   rw [range_drop hj] at h
   have hs:=ih (fwS a i j f) h
   refine ev_go _ (fun k=>?_) hs
   simp only [spec_l4Table.l4]
   rw [if_pos (by omega),if_pos (by omega),if_pos (by rw [tbl_length];omega),if_pos (by omega),if_pos (by rw [tbl_rowlen hi];omega),tbl_at hi ha,wr1 (by omega)]
   simp only [Int.toNat_natCast]
   by_cases c2:f i a=true
   ·rw [if_pos c2,if_pos (by rw [tbl_length];omega),if_pos (by omega),if_pos (by rw [tbl_rowlen ha];omega),tbl_at ha hj]
    by_cases c1:f a j=true
    ·rw [if_pos c1,if_pos (by rw [tbl_rowlen hi];omega),tbl_set hi hj,fwS,c1,c2];simp
    ·have c1:f a j=false:=by simpa using c1
     rw [if_neg (by rw [c1];simp),fwS_same a i j f (by rw [c1,Bool.and_false])]
   ·have c2:f i a=false:=by simpa using c2
    rw [if_neg (by rw [c2];simp),fwS_same a i j f (by rw [c2,Bool.false_and])]
 have l3:∀ (a:Nat) (R:List (List Bool)),a<n→∀ i,i≤n→∀ f:BF,Ev (fun k=>spec_l4Table.l2 k (n:Int) (tbl n (fwI n a ((List.range n).drop i) f)) ((a + 1:Nat):Int)) R→Ev (fun k=>spec_l4Table.l3 k (n:Int) (tbl n f) (a:Int) (i:Int)) R:=by
  intro a R ha
  refine rev_ind (P:=fun i=>∀ f:BF,Ev (fun k=>spec_l4Table.l2 k (n:Int) (tbl n (fwI n a ((List.range n).drop i) f)) ((a + 1:Nat):Int)) R→Ev (fun k=>spec_l4Table.l3 k (n:Int) (tbl n f) (a:Int) (i:Int)) R) n ?_ ?_
  ·intro f h
   rw [List.drop_of_length_le (by simp)] at h
   refine ev_go _ (fun k=>?_) h
   simp only [spec_l4Table.l3];rw [if_neg (by omega),wr1 (by omega)];rfl
  ·intro i hi ih f h
   rw [range_drop hi] at h
   refine ev_go (fun k=>spec_l4Table.l4 k (n:Int) (tbl n f) (a:Int) (i:Int) 0) (fun k=>?_) (l4 a i R ha hi 0 (Nat.zero_le _) f (ih _ h))
   simp only [spec_l4Table.l3];rw [if_pos (by omega)]
 have l2:∀ a,a≤n→∀ f:BF,Ev (fun k=>spec_l4Table.l2 k (n:Int) (tbl n f) (a:Int)) (tbl n (fwK n ((List.range n).drop a) f)):=by
  refine rev_ind (P:=fun a=>∀ f:BF,Ev (fun k=>spec_l4Table.l2 k (n:Int) (tbl n f) (a:Int)) (tbl n (fwK n ((List.range n).drop a) f))) n ?_ ?_
  ·intro f
   rw [List.drop_of_length_le (by simp)]
   refine ev_stop fun k=>?_
   simp only [spec_l4Table.l2];rw [if_neg (by omega)];rfl
  ·intro a ha ih f
   rw [range_drop ha]
   refine ev_go (fun k=>spec_l4Table.l3 k (n:Int) (tbl n f) (a:Int) 0) (fun k=>?_) (l3 a _ ha 0 (Nat.zero_le _) f (ih _))
   simp only [spec_l4Table.l2];rw [if_pos (by omega)]
 have l1:∀ i,i≤E.length→∀ f:BF,Ev (fun k=>spec_l4Table.l1 k (n:Int) E (tbl n f) (i:Int)) (tbl n (fwK n (List.range n) (edgF (E.drop i) f))):=by
  refine rev_ind (P:=fun i=>∀ f:BF,Ev (fun k=>spec_l4Table.l1 k (n:Int) E (tbl n f) (i:Int)) (tbl n (fwK n (List.range n) (edgF (E.drop i) f)))) E.length ?_ ?_
  ·intro f
   rw [List.drop_length]
   refine ev_go _ (fun k=>?_) (l2 0 (Nat.zero_le _) f)
   simp only [spec_l4Table.l1];rw [if_neg (by omega)];rfl
  ·intro i hi ih f
   obtain ⟨⟨h1,h2⟩,h3,h4⟩:=hin _ (List.getElem_mem hi)
   rw [drop_cons hi,edgF]
   refine ev_go _ (fun k=>?_) (ih _)
   obtain ⟨x,hx⟩:=Int.eq_ofNat_of_zero_le h1
   obtain ⟨y,hy⟩:=Int.eq_ofNat_of_zero_le h3
   simp only [spec_l4Table.l1]
   rw [if_pos (by omega),if_pos (by omega),rdA2 hi,hx,hy,if_pos (by omega),if_pos (by rw [tbl_length];omega),if_pos (by omega),if_pos (by rw [tbl_rowlen (by omega)];omega),wr1 (by omega)]
   simp only [Int.toNat_natCast]
   rw [tbl_set (by omega) (by omega)]
 have l0:=rev_ind (P:=fun i=>Ev (fun k=>spec_l4Table.l0 k (n:Int) E ((tbl n fun _ _=>false).take i) (i:Int)) (tbl n (cloF n E))) n ?_ ?_ 0 (Nat.zero_le _)
 ·simpa using l0
 ·refine ev_go _ (fun k=>?_) (l1 0 (Nat.zero_le _) fun _ _=>false)
  simp only [spec_l4Table.l0];rw [if_neg (by omega),List.take_of_length_le (by rw [tbl_length];omega)];rfl
 ·intro i hi ih
  have ht:(tbl n fun _ _=>false).take i++[List.replicate n false]=(tbl n fun _ _=>false).take (i + 1):=by
   rw [List.take_succ_eq_append_getElem (by rw [tbl_length];exact hi)]
   simp [tbl,List.map_const']
  rw [←ht] at ih
  refine ev_go _ (fun k=>?_) ih
  simp only [spec_l4Table.l0]
  rw [if_pos (by omega),if_pos (by omega),if_pos (by omega),if_pos (by rw [List.length_take,tbl_length];omega),wr1 (by omega)]
  rfl

theorem foldl_keep {α β:Type} (P:α→Prop) (u:α→β→α) (h:∀ a b,P a→P (u a b)):∀ (L:List β) (a:α),P a→P (L.foldl u a)
 | [],a,ha=>ha
 | b::L,a,ha=>by rw [List.foldl_cons];exact foldl_keep P u h L _ (h a b ha)
theorem fwK_keep (P:BF→Prop) (h:∀ k i j f,P f→P (fwS k i j f)) (n:Nat) (L:List Nat) (f:BF) (hf:P f):P (fwK n L f):=
 foldl_keep P _ (fun f k hf=>foldl_keep P _ (fun f i hf=>foldl_keep P _ (fun f j hf=>h k i j f hf) _ f hf) _ f hf) L f hf
theorem edgF_true (a b:Nat):∀ (E:List A2) (f:BF),f a b=true→edgF E f a b=true
 | [],f,h=>h
 | e::E,f,h=>by
  rw [edgF]
  refine edgF_true a b E _ ?_
  unfold upd2;split
  ·rfl
  ·exact h
theorem edgF_mem:∀ (E:List A2) (f:BF) (e:A2),e ∈ E→edgF E f e.f0.toNat e.f1.toNat=true
 | [],_,_,h=>absurd h (by simp)
 | d::E,f,e,h=>by
  rw [edgF]
  rcases List.mem_cons.1 h with rfl|h
  ·exact edgF_true _ _ E _ (by simp [upd2])
  ·exact edgF_mem E _ e h
theorem edgF_le (R:Nat→Nat→Prop):∀ (E:List A2) (f:BF),(∀ e ∈ E,R e.f0.toNat e.f1.toNat)→(∀ a b,f a b=true→R a b)→∀ a b,edgF E f a b=true→R a b
 | [],f,_,hf=>hf
 | e::E,f,hE,hf=>by
  rw [edgF]
  refine edgF_le R E _ (fun d hd=>hE d (List.mem_cons_of_mem _ hd)) fun a b h=>?_
  unfold upd2 at h
  split at h
  ·rename_i h2;rw [h2.1,h2.2];exact hE e List.mem_cons_self
  ·exact hf a b h
theorem clo_edge (n:Nat) (E:List A2) {e:A2} (he:e ∈ E):cloF n E e.f0.toNat e.f1.toNat=true:=
 fwK_keep (fun f=>f e.f0.toNat e.f1.toNat=true) (fun k i j f h=>by
  unfold fwS upd2
  split
  ·rename_i h2;rw [←h2.1,←h2.2,h,Bool.true_or]
  ·exact h) n _ _ (edgF_mem E _ e he)
theorem clo_le (R:Nat→Nat→Prop) (htr:∀ a b c,R a b→R b c→R a c) (n:Nat) (E:List A2) (hE:∀ e ∈ E,R e.f0.toNat e.f1.toNat):∀ a b,cloF n E a b=true→R a b:=
 fwK_keep (fun f=>∀ a b,f a b=true→R a b) (fun k i j f h a b hab=>by
  unfold fwS upd2 at hab
  split at hab
  ·rename_i h2
   rw [h2.1,h2.2]
   rw [Bool.or_eq_true,Bool.and_eq_true] at hab
   rcases hab with h3 | ⟨h3,h4⟩
   ·exact h _ _ h3
   ·exact htr _ _ _ (h _ _ h3) (h _ _ h4)
  ·exact h a b hab) n _ _ (edgF_le R E _ hE (fun a b h=>by simp at h))

def LexLt (a b:A2):Prop:=a.f0<b.f0∨a.f0=b.f0∧a.f1<b.f1
instance (a b:A2):Decidable (LexLt a b):=inferInstanceAs (Decidable (_∨_))
def eAt (E:List A2) (i:Nat):A2:=rd_T72 E (i:Int)
theorem eAt_eq {E:List A2} {i:Nat} (h:i<E.length):eAt E i=E[i]:=rdA2 h
/-- What is asked of a pair (m: the greatest number). -/
def PairAt (m:Int) (E:List A2) (i:Nat):Prop:=(0≤(eAt E i).f0∧(eAt E i).f0≤m)∧(0≤(eAt E i).f1∧(eAt E i).f1≤m)∧(eAt E i).f0≠(eAt E i).f1∧(i=0∨LexLt (eAt E (i - 1)) (eAt E i))
instance (m:Int) (E:List A2) (i:Nat):Decidable (PairAt m E i):=inferInstanceAs (Decidable (_∧_))
def PairsOk (n:Int) (E:List A2):Prop:=(0≤n∧n≤8)∧E.length≤28∧∀ i,i<E.length→PairAt (n - 1) E i
def DiagOk (n:Nat) (f:BF):Prop:=∀ i,i<n→f i i=false
def PrecOk (n:Int) (E:List A2):Prop:=PairsOk n E∧DiagOk n.toNat (cloF n.toNat E)
theorem PairsOk.edg {n:Nat} {E:List A2} (h:∀ i,i<E.length→PairAt ((n:Int) - 1) E i):EdgIn n E:=by
 intro e he
 obtain ⟨i,hi,rfl⟩:=List.getElem_of_mem he
 have:=h i hi
 unfold PairAt at this
 rw [eAt_eq hi] at this
 omega

theorem wf_lim {n:Int} (h:(Lit.int .i64 n).wf=true) : -9223372036854775808≤n∧n≤9223372036854775807:=by
 simp [Lit.wf,IntKind.min,IntKind.max,IntKind.signed,IntKind.bits] at h
 omega
theorem spec_l4Before.eq (a b:A2):spec_l4Before.f a.f0 a.f1 b.f0 b.f1=some (decide (LexLt a b)):=by
 unfold spec_l4Before.f
 by_cases h:a.f0<b.f0
 ·rw [if_pos h,decide_eq_true (show LexLt a b from .inl h)]
 ·rw [if_neg h]
  by_cases h2:a.f0=b.f0
  ·rw [if_pos h2]
   by_cases h3:a.f1<b.f1
   ·rw [decide_eq_true h3,decide_eq_true (show LexLt a b from .inr ⟨h2,h3⟩)]
   ·rw [decide_eq_false h3,decide_eq_false (show ¬ LexLt a b from by rintro (h4|h4);exact h h4;exact h3 h4.2)]
  ·rw [if_neg h2,decide_eq_false (show ¬ LexLt a b from by rintro (h4|h4);exact h h4;exact h2 h4.1)]
theorem spec_l4Pairs.ev (n:Int) (E:List A2) (hn:(Lit.int .i64 n).wf=true) (hE:E.length≤1000000000):EvB (fun k=>spec_l4Pairs.f k n E) (PairsOk n E):=by
 have hn2 : -9223372036854775808≤n∧n≤9223372036854775807:=wf_lim hn
 unfold spec_l4Pairs.f
 have key:=evB_loop E.length (fun i k=>spec_l4Pairs.l0 k n E (i:Int)) (fun i=>PairAt (wrap64 (n - 1)) E i) ((0≤n∧n≤8)∧E.length≤28) ?_ ?_
 ·refine evB_iff key ⟨fun h=>?_,fun h=>?_⟩
  ·have hw:wrap64 (n - 1)=n - 1:=wr (by omega) (by omega)
   rw [hw] at h
   exact ⟨h.2.1,h.2.2,h.1⟩
  ·have hw:wrap64 (n - 1)=n - 1:=wr (by have:=h.1;omega) (by have:=h.1;omega)
   rw [hw]
   exact ⟨h.2.2,h.1,h.2.1⟩
 ·refine evB_of (fun h=>ev_stop fun k=>?_) (fun h=>ev_stop fun k=>?_)
  ·simp only [spec_l4Pairs.l0];rw [if_neg (by omega),spec_l1In.eq,Option.bind_some,if_pos (by simpa using h.1),decide_eq_true (by omega)]
  ·simp only [spec_l4Pairs.l0];rw [if_neg (by omega),spec_l1In.eq,Option.bind_some]
   by_cases h1:0≤n∧n≤8
   ·rw [if_pos (by simpa using h1),decide_eq_false (by omega)]
   ·rw [if_neg (by simpa using h1)]
 ·intro i hi R hR
  refine evB_leaf _ (fun h k=>?_) (fun h k=>?_) hR
  ·obtain ⟨h1,h2,h3,h4⟩:=h
   simp only [eAt] at h1 h2 h3 h4
   simp only [spec_l4Pairs.l0]
   rw [if_pos (by omega),if_pos (by omega),spec_l1In.eq,Option.bind_some,if_pos (by simpa using h1),spec_l1In.eq,Option.bind_some,if_pos (by simpa using h2),if_neg h3,wr1 (by omega)]
   by_cases h5:i=0
   ·rw [if_neg (by omega)]
   ·have hw:wrap64 ((i:Int) - 1)=((i - 1:Nat):Int):=by rw [wr (by omega) (by omega)];omega
    rw [if_pos (by omega),hw,if_pos (by omega),if_pos (by omega),spec_l4Before.eq,Option.bind_some,if_pos (by simpa using h4.resolve_left h5)]
  ·simp only [spec_l4Pairs.l0]
   rw [if_pos (by omega),if_pos (by omega),spec_l1In.eq,Option.bind_some]
   by_cases h1:0≤(rd_T72 E (i:Int)).f0∧(rd_T72 E (i:Int)).f0≤wrap64 (n - 1)
   ·rw [if_pos (by simpa using h1),spec_l1In.eq,Option.bind_some]
    by_cases h2:0≤(rd_T72 E (i:Int)).f1∧(rd_T72 E (i:Int)).f1≤wrap64 (n - 1)
    ·rw [if_pos (by simpa using h2)]
     by_cases h3:(rd_T72 E (i:Int)).f0=(rd_T72 E (i:Int)).f1
     ·rw [if_pos h3]
     ·rw [if_neg h3]
      have h5:¬ (i=0):=fun h5=>h ⟨h1,h2,h3,.inl h5⟩
      have hw:wrap64 ((i:Int) - 1)=((i - 1:Nat):Int):=by rw [wr (by omega) (by omega)];omega
      rw [if_pos (by omega),hw,if_pos (by omega),if_pos (by omega),spec_l4Before.eq,Option.bind_some,if_neg (by intro h6;exact h ⟨h1,h2,h3,.inr (by simpa [eAt] using h6)⟩)]
    ·rw [if_neg (by simpa using h2)]
   ·rw [if_neg (by simpa using h1)]
theorem spec_l4Good.ev (n:Int) (E:List A2) (hn:(Lit.int .i64 n).wf=true) (hE:E.length≤1000000000):EvB (fun k=>spec_l4Good.f k n E) (PrecOk n E):=by
 unfold spec_l4Good.f
 have e1:=spec_l4Pairs.ev n E hn hE
 by_cases h:PairsOk n E
 ·obtain ⟨m,rfl⟩:=Int.eq_ofNat_of_zero_le h.1.1
  have h8:=h.1
  have h28:=h.2.1
  have e2:=spec_l4Table.ev m E (by omega) (by omega) (PairsOk.edg h.2.2)
  generalize hf:cloF m E=f at e2
  have e3:EvB (fun k=>spec_l4Good.l0 k (m:Int) (tbl m f) 0) (DiagOk m f):=by
   have key:=evB_loop m (fun i k=>spec_l4Good.l0 k (m:Int) (tbl m f) (i:Int)) (fun i=>f i i=false) True ?_ ?_
   ·exact evB_iff key ⟨fun h=>h.1,fun h=>⟨h,trivial⟩⟩
   ·exact evB_of (fun _=>ev_stop fun k=>by simp only [spec_l4Good.l0];rw [if_neg (by omega)]) (fun h=>absurd trivial h)
   ·intro i hi R hR
    refine evB_leaf _ (fun h k=>?_) (fun h k=>?_) hR
    ·simp only [spec_l4Good.l0];rw [if_pos (by omega),if_pos (by omega),if_pos (by rw [tbl_length];omega),if_pos (by rw [tbl_rowlen hi];omega),tbl_at hi hi,h,if_neg (by simp),wr1 (by omega)]
    ·simp only [spec_l4Good.l0];rw [if_pos (by omega),if_pos (by omega),if_pos (by rw [tbl_length];omega),if_pos (by rw [tbl_rowlen hi];omega),tbl_at hi hi,if_pos (by simpa using h)]
  obtain ⟨b,hb,eb⟩:=e3
  refine ⟨b,ev_guard' e1 (fun _=>ev_bind _ e2 hb) (fun hn=>absurd h hn),eb.trans ⟨fun h2=>⟨h,by rw [Int.toNat_natCast,hf];exact h2⟩,fun h2=>by have:=h2.2;rwa [Int.toNat_natCast,hf] at this⟩⟩
 ·exact evB_of (fun h2=>absurd h2.1 h) (fun _=>ev_guard' e1 (fun h2=>absurd h2 h) (fun _=>Ev.now _))

theorem impl_IsPrecedence.ev (n:Int) (E:List A2) (hE:E.length≤1000000000):EvB (fun k=>impl_IsPrecedence.f k n E) (PrecOk n E):=by
 unfold impl_IsPrecedence.f
 by_cases h0:0≤n∧n≤8
 ·obtain ⟨m,rfl⟩:=Int.eq_ofNat_of_zero_le h0.1
  have w0:(fun k=>(impl_within.f (m:Int) 0 8).bind fun t197=>(if t197=true then (impl_IsPrecedence.j0 k (m:Int) E (decide ((E.length:Int)>28))) else (impl_IsPrecedence.j0 k (m:Int) E true)))=fun k=>impl_IsPrecedence.j0 k (m:Int) E (decide ((E.length:Int)>28)):=funext fun k=>by rw [impl_within.eq,Option.bind_some,if_pos (by simpa using h0)]
  rw [w0]
  by_cases h28:E.length≤28
  ·rw [decide_eq_false (by omega)]
   have key:=evB_loopC E.length (fun i k=>impl_IsPrecedence.l0 k (m:Int) E E (E.length:Int) (i:Int)) (fun i=>PairAt ((m:Int) - 1) E i) (DiagOk m (cloF m E)) ?_ ?_
   ·refine evB_iff (evB_step (fun k=>impl_IsPrecedence.l0 k (m:Int) E E (E.length:Int) 0) (fun k=>by simp only [impl_IsPrecedence.j0];rw [if_neg (by simp)]) key) ⟨fun h=>⟨⟨h0,h28,h.1⟩,by rw [Int.toNat_natCast];exact h.2⟩,fun h=>⟨h.1.2.2,by have:=h.2;rwa [Int.toNat_natCast] at this⟩⟩
   ·intro hall
    have e2:=impl_closure.ev m E (by omega) (by omega) (PairsOk.edg hall)
    generalize cloF m E=f at e2
    have key:=evB_loop m (fun i k=>impl_IsPrecedence.l1 k (tbl m f) (m:Int) (i:Int)) (fun i=>f i i=false) True ?_ ?_
    ·obtain ⟨b,hb,eb⟩:=key
     refine ⟨b,ev_go (fun k=>(impl_closure.f k (m:Int) E).bind fun t=>impl_IsPrecedence.l1 k t (t.length:Int) 0) (fun k=>?_) (ev_bind _ e2 (by simp only [tbl_length];exact hb)),eb.trans ⟨fun h=>h.1,fun h=>⟨h,trivial⟩⟩⟩
     simp only [impl_IsPrecedence.l0];rw [if_neg (by omega)]
    ·exact evB_of (fun _=>ev_stop fun k=>by simp only [impl_IsPrecedence.l1];rw [if_neg (by omega)]) (fun h=>absurd trivial h)
    ·intro i hi R hR
     refine evB_leaf _ (fun h k=>?_) (fun h k=>?_) hR
     ·simp only [impl_IsPrecedence.l1];rw [if_pos (by omega),if_pos (by omega),if_pos (by rw [tbl_length];omega),if_pos (by rw [tbl_rowlen hi];omega),tbl_at hi hi,h,if_neg (by simp),wr1 (by omega)]
     ·simp only [impl_IsPrecedence.l1];rw [if_pos (by omega),if_pos (by omega),if_pos (by rw [tbl_length];omega),if_pos (by rw [tbl_rowlen hi];omega),tbl_at hi hi,if_pos (by simpa using h)]
   ·intro i hi _ R hR
    have jt:∀ a b,Ev (fun k=>impl_IsPrecedence.j2 k (m:Int) E (i:Int) E (E.length:Int) (i:Int) true a b) false:=fun a b=>ev_stop fun k=>by simp only [impl_IsPrecedence.j2];rw [if_pos trivial]
    by_cases h1:0≤(rd_T72 E (i:Int)).f0∧(rd_T72 E (i:Int)).f0<(m:Int)
    ·by_cases h2:0≤(rd_T72 E (i:Int)).f1∧(rd_T72 E (i:Int)).f1<(m:Int)
     ·by_cases h3:(rd_T72 E (i:Int)).f0=(rd_T72 E (i:Int)).f1
      ·refine evB_of (fun h=>absurd h3 h.1.2.2.1) (fun _=>ev_go _ (fun k=>?_) (jt (rd_T72 E (i:Int)).f0 (rd_T72 E (i:Int)).f1))
       simp only [impl_IsPrecedence.l0];rw [if_pos (by omega),if_pos (by omega),if_pos (by omega),impl_isNumber.eq _ _ (by omega) (by omega),Option.bind_some,if_pos (by simpa using h1),impl_isNumber.eq _ _ (by omega) (by omega),Option.bind_some,if_pos (by simpa using h2),beq_iff_eq.2 h3]
      ·refine evB_step (fun k=>impl_IsPrecedence.j2 k (m:Int) E (i:Int) E (E.length:Int) (i:Int) false (rd_T72 E (i:Int)).f0 (rd_T72 E (i:Int)).f1) (fun k=>?_) ?_
       ·simp only [impl_IsPrecedence.l0];rw [if_pos (by omega),if_pos (by omega),if_pos (by omega),impl_isNumber.eq _ _ (by omega) (by omega),Option.bind_some,if_pos (by simpa using h1),impl_isNumber.eq _ _ (by omega) (by omega),Option.bind_some,if_pos (by simpa using h2),beq_eq_false_iff_ne.2 h3]
       ·by_cases h5:i=0
        ·have hP:PairAt ((m:Int) - 1) E i:=by
          simp only [PairAt,eAt];exact ⟨by omega,by omega,h3,.inl h5⟩
         refine evB_iff (evB_step _ (fun k=>?_) (hR hP)) ⟨fun h=>⟨hP,h⟩,fun h=>h.2⟩
         simp only [impl_IsPrecedence.j2];rw [if_neg (by simp),if_neg (by omega),wr1 (by omega)]
        ·have hw:wrap64 ((i:Int) - 1)=((i - 1:Nat):Int):=by rw [wr (by omega) (by omega)];omega
         by_cases h6:LexLt (rd_T72 E ((i - 1:Nat):Int)) (rd_T72 E (i:Int))
         ·have hP:PairAt ((m:Int) - 1) E i:=by
           simp only [PairAt,eAt];exact ⟨by omega,by omega,h3,.inr h6⟩
          refine evB_iff (evB_step _ (fun k=>?_) (hR hP)) ⟨fun h=>⟨hP,h⟩,fun h=>h.2⟩
          unfold LexLt at h6
          simp only [impl_IsPrecedence.j2]
          rw [if_neg (by simp),if_pos (by omega),hw,if_pos (by omega),if_pos (by omega),if_neg (by omega),wr1 (by omega)]
          by_cases h7:(rd_T72 E ((i - 1:Nat):Int)).f0=(rd_T72 E (i:Int)).f0
          ·rw [if_pos h7,if_neg (by omega)]
          ·rw [if_neg h7]
         ·refine evB_of (fun h=>absurd (h.1.2.2.2.resolve_left h5) h6) (fun _=>ev_stop fun k=>?_)
          unfold LexLt at h6
          simp only [impl_IsPrecedence.j2]
          rw [if_neg (by simp),if_pos (by omega),hw,if_pos (by omega),if_pos (by omega)]
          by_cases h8:(rd_T72 E ((i - 1:Nat):Int)).f0>(rd_T72 E (i:Int)).f0
          ·rw [if_pos h8]
          ·rw [if_neg h8,if_pos (by omega),if_pos (by omega)]
     ·refine evB_of (fun h=>absurd h.1.2.1 (by simp only [eAt];omega)) (fun _=>ev_go _ (fun k=>?_) (jt (rd_T72 E (i:Int)).f0 (rd_T72 E (i:Int)).f1))
      simp only [impl_IsPrecedence.l0];rw [if_pos (by omega),if_pos (by omega),if_pos (by omega),impl_isNumber.eq _ _ (by omega) (by omega),Option.bind_some,if_pos (by simpa using h1),impl_isNumber.eq _ _ (by omega) (by omega),Option.bind_some,if_neg (by simpa using h2)]
    ·refine evB_of (fun h=>absurd h.1.1 (by simp only [eAt];omega)) (fun _=>ev_go _ (fun k=>?_) (jt (rd_T72 E (i:Int)).f0 (rd_T72 E (i:Int)).f1))
     simp only [impl_IsPrecedence.l0];rw [if_pos (by omega),if_pos (by omega),if_pos (by omega),impl_isNumber.eq _ _ (by omega) (by omega),Option.bind_some,if_neg (by simpa using h1)]
  ·rw [decide_eq_true (by omega)]
   refine evB_of (fun h=>absurd h.1.2.1 h28) (fun _=>ev_stop fun k=>?_)
   simp only [impl_IsPrecedence.j0];rw [if_pos trivial]
 ·have w0:(fun k=>(impl_within.f n 0 8).bind fun t197=>(if t197=true then (impl_IsPrecedence.j0 k n E (decide ((E.length:Int)>28))) else (impl_IsPrecedence.j0 k n E true)))=fun k=>impl_IsPrecedence.j0 k n E true:=funext fun k=>by rw [impl_within.eq,Option.bind_some,if_neg (by simpa using h0)]
  rw [w0]
  refine evB_of (fun h=>absurd h.1.1 h0) (fun _=>ev_stop fun k=>?_)
  simp only [impl_IsPrecedence.j0];rw [if_pos trivial]

theorem fwJ_eq (k i:Nat):∀ (L:List Nat) (f:BF),L.Nodup→∀ a b,fwJ k i L f a b=if a=i∧b ∈ L then (f i b || (f i k && f k b)) else f a b
 | [],f,_,a,b=>by simp [fwJ]
 | j::L,f,hn,a,b=>by
  have hj:=List.nodup_cons.1 hn
  have ih:=fwJ_eq k i L (fwS k i j f) hj.2 a b
  have e:fwJ k i (j::L) f=fwJ k i L (fwS k i j f):=rfl
  rw [e,ih]
  have s:∀ c d,fwS k i j f c d=if c=i∧d=j then (f i j || (f i k && f k j)) else f c d:=fun c d=>rfl
  have sik:fwS k i j f i k=f i k:=by
   rw [s];split
   ·rename_i h;rw [←h.2];cases f i k <;> simp
   ·rfl
  by_cases ha:a=i
  ·subst ha
   by_cases hb:b=j
   ·subst hb
    rw [if_neg (by rintro ⟨_,h⟩;exact hj.1 h),if_pos ⟨rfl,List.mem_cons_self⟩,s,if_pos ⟨rfl,rfl⟩]
   ·have sb:∀ c,fwS k a j f c b=f c b:=fun c=>by rw [s,if_neg (by rintro ⟨_,h⟩;exact hb h)]
    by_cases hbl:b ∈ L
    ·rw [if_pos ⟨rfl,hbl⟩,if_pos ⟨rfl,List.mem_cons_of_mem _ hbl⟩,sb,sb,sik]
    ·rw [if_neg (by rintro ⟨_,h⟩;exact hbl h),if_neg (by rintro ⟨_,h⟩;rcases List.mem_cons.1 h with h|h;exact hb h;exact hbl h),sb]
  ·rw [if_neg (by rintro ⟨h,_⟩;exact ha h),if_neg (by rintro ⟨h,_⟩;exact ha h),s,if_neg (by rintro ⟨h,_⟩;exact ha h)]
theorem fwI_eq (n k:Nat):∀ (L:List Nat) (f:BF),L.Nodup→k<n→∀ a b,fwI n k L f a b=if a ∈ L∧b<n then (f a b || (f a k && f k b)) else f a b
 | [],f,_,_,a,b=>by simp [fwI]
 | i::L,f,hn,hk,a,b=>by
  have hj:=List.nodup_cons.1 hn
  have ih:=fwI_eq n k L (fwJ k i (List.range n) f) hj.2 hk a b
  have e:fwI n k (i::L) f=fwI n k L (fwJ k i (List.range n) f):=rfl
  rw [e,ih]
  have s:∀ c d,fwJ k i (List.range n) f c d=if c=i∧d ∈ List.range n then (f i d || (f i k && f k d)) else f c d:=fwJ_eq k i _ f List.nodup_range
  have sk:∀ d,fwJ k i (List.range n) f k d=f k d:=fun d=>by
   rw [s];split
   ·rename_i h;rw [←h.1];cases f k d <;> cases f k k <;> simp
   ·rfl
  by_cases ha:a=i
  ·subst ha
   rw [if_neg (by rintro ⟨h,_⟩;exact hj.1 h),s]
   by_cases hb:b<n
   ·rw [if_pos ⟨rfl,List.mem_range.2 hb⟩,if_pos ⟨List.mem_cons_self,hb⟩]
   ·rw [if_neg (by rintro ⟨_,h⟩;exact hb (List.mem_range.1 h)),if_neg (by rintro ⟨_,h⟩;exact hb h)]
  ·have sa:∀ d,fwJ k i (List.range n) f a d=f a d:=fun d=>by rw [s,if_neg (by rintro ⟨h,_⟩;exact ha h)]
   rw [sa,sa,sk]
   by_cases hal:a ∈ L
   ·by_cases hb:b<n
    ·rw [if_pos ⟨hal,hb⟩,if_pos ⟨List.mem_cons_of_mem _ hal,hb⟩]
    ·rw [if_neg (by rintro ⟨_,h⟩;exact hb h),if_neg (by rintro ⟨_,h⟩;exact hb h)]
   ·rw [if_neg (by rintro ⟨h,_⟩;exact hal h),if_neg (by rintro ⟨h,_⟩;rcases List.mem_cons.1 h with h|h;exact ha h;exact hal h)]
/-- Closed under the jobs below k. -/
def ClosedTo (n k:Nat) (f:BF):Prop:=∀ i m j,i<n→j<n→m<k→m<n→f i m=true→f m j=true→f i j=true
theorem closed_step (n k:Nat) (f:BF) (hk:k<n) (h:ClosedTo n k f):ClosedTo n (k + 1) (fwI n k (List.range n) f):=by
 have s:=fwI_eq n k (List.range n) f List.nodup_range hk
 have t:∀ a b,a<n→b<n→(fwI n k (List.range n) f a b=true ↔ (f a b=true∨f a k=true∧f k b=true)):=fun a b ha hb=>by
  rw [s,if_pos ⟨List.mem_range.2 ha,hb⟩,Bool.or_eq_true,Bool.and_eq_true]
 intro i m j hi hj hm hmn h1 h2
 rw [t i m hi hmn] at h1
 rw [t m j hmn hj] at h2
 rw [t i j hi hj]
 by_cases e:m=k
 ·subst e
  have a1:f i m=true:=by rcases h1 with h|h;exact h;exact h.1
  have a2:f m j=true:=by rcases h2 with h|h;exact h;exact h.2
  exact .inr ⟨a1,a2⟩
 ·have hm':m<k:=by omega
  rcases h1 with h1 | ⟨h1,h1'⟩ <;> rcases h2 with h2 | ⟨h2,h2'⟩
  ·exact .inl (h i m j hi hj hm' hmn h1 h2)
  ·exact .inr ⟨h i m k hi hk hm' hmn h1 h2,h2'⟩
  ·exact .inr ⟨h1,h k m j hk hj hm' hmn h1' h2⟩
  ·exact .inr ⟨h1,h2'⟩
theorem closed_all (n:Nat) (f:BF):ClosedTo n n (fwK n (List.range n) f):=by
 have key:∀ k,k≤n→ClosedTo n k (fwK n (List.range k) f):=by
  intro k
  induction k with
  | zero=>intro _ i m j _ _ hm;omega
  | succ k ih=>
   intro hk
   have e:fwK n (List.range (k + 1)) f=fwI n k (List.range n) (fwK n (List.range k) f):=by
    unfold fwK;rw [List.range_succ,List.foldl_append];rfl
   rw [e]
   exact closed_step n k _ (by omega) (ih (by omega))
 exact key n (Nat.le_refl _)
theorem clo_trans {n:Nat} {E:List A2} {i m j:Nat} (hi:i<n) (hm:m<n) (hj:j<n) (h1:cloF n E i m=true) (h2:cloF n E m j=true):cloF n E i j=true:=
 closed_all n (edgF E fun _ _=>false) i m j hi hj hm hm h1 h2
/-- A precedence, as a table. -/
structure PreF (n:Nat) (f:BF):Prop where
 irr:∀ i,i<n→f i i=false
 tr:∀ i m j,i<n→m<n→j<n→f i m=true→f m j=true→f i j=true
theorem preF_of {n:Nat} {E:List A2} (h:DiagOk n (cloF n E)):PreF n (cloF n E):=⟨h,fun _ _ _ hi hm hj h1 h2=>clo_trans hi hm hj h1 h2⟩
/-- How many jobs are behind a job. -/
def cntF (n:Nat) (f:BF) (i:Nat):Nat:=((List.range n).filter fun j=>f i j).length
theorem filter_sub {α:Type} (p q:α→Bool):∀ l:List α,(∀ x ∈ l,p x=true→q x=true)→(l.filter p).length≤(l.filter q).length
 | [],_=>by simp
 | x::l,h=>by
  have ih:=filter_sub p q l (fun y hy=>h y (List.mem_cons_of_mem _ hy))
  by_cases hp:p x=true
  ·rw [List.filter_cons_of_pos hp,List.filter_cons_of_pos (h x List.mem_cons_self hp)];simp;exact ih
  ·rw [List.filter_cons_of_neg hp]
   by_cases hq:q x=true
   ·rw [List.filter_cons_of_pos hq];simp;omega
   ·rw [List.filter_cons_of_neg hq];exact ih
theorem filter_lt {α:Type} (p q:α→Bool) (a:α) (ha:p a=false) (hb:q a=true):∀ l:List α,a ∈ l→(∀ x ∈ l,p x=true→q x=true)→(l.filter p).length<(l.filter q).length
 | [],h,_=>absurd h (by simp)
 | x::l,h,hs=>by
  have sub:=filter_sub p q l (fun y hy=>hs y (List.mem_cons_of_mem _ hy))
  by_cases e:x=a
  ·subst e
   rw [List.filter_cons_of_neg (by simp [ha]),List.filter_cons_of_pos hb];simp;omega
  ·have hm:a ∈ l:=by rcases List.mem_cons.1 h with h|h;exact absurd h.symm e;exact h
   have ih:=filter_lt p q a ha hb l hm (fun y hy=>hs y (List.mem_cons_of_mem _ hy))
   by_cases hp:p x=true
   ·rw [List.filter_cons_of_pos hp,List.filter_cons_of_pos (hs x List.mem_cons_self hp)];simp;exact ih
   ·rw [List.filter_cons_of_neg hp]
    by_cases hq:q x=true
    ·rw [List.filter_cons_of_pos hq];simp;omega
    ·rw [List.filter_cons_of_neg hq];exact ih
theorem cnt_lt {n:Nat} {f:BF} (h:PreF n f) {i j:Nat} (hi:i<n) (hj:j<n) (hij:f i j=true):cntF n f j<cntF n f i:=
 filter_lt _ _ j (h.irr j hj) hij _ (List.mem_range.2 hj) (fun x hx hx2=>h.tr i j x hi hj (List.mem_range.1 hx) hij hx2)
theorem cnt_le {n:Nat} {f:BF} (h:PreF n f) {i:Nat} (hi:i<n):cntF n f i<n:=by
 have h1:=filter_lt (fun j=>f i j) (fun _=>true) i (h.irr i hi) rfl (List.range n) (List.mem_range.2 hi) (fun _ _ _=>rfl)
 have h2:((List.range n).filter fun _=>true).length=n:=by rw [List.filter_eq_self.2 (fun _ _=>rfl),List.length_range]
 unfold cntF
 omega

/-- The greatest of what lies behind a job. -/
def bestB (f:BF) (t:Nat→Int) (i:Nat):List Nat→Int→Int
 | [],s=>s
 | k::L,s=>bestB f t i L (if f i k=true then mx s (t k) else s)
theorem mx_ge2 (a b:Int):a≤mx a b∧b≤mx a b∧(mx a b=a∨mx a b=b):=by unfold mx;split <;> omega
theorem bestB_ge (f:BF) (t:Nat→Int) (i:Nat):∀ (L:List Nat) (s:Int),s≤bestB f t i L s∧∀ k ∈ L,f i k=true→t k≤bestB f t i L s
 | [],s=>⟨Int.le_refl _,fun k hk=>absurd hk (by simp)⟩
 | k::L,s=>by
  rw [bestB]
  have ih:=bestB_ge f t i L (if f i k=true then mx s (t k) else s)
  by_cases c:f i k=true
  ·rw [if_pos c] at ih ⊢
   have h3:=mx_ge2 s (t k)
   refine ⟨Int.le_trans h3.1 ih.1,fun q hq hf=>?_⟩
   rcases List.mem_cons.1 hq with rfl|hq
   ·exact Int.le_trans h3.2.1 ih.1
   ·exact ih.2 q hq hf
  ·rw [if_neg c] at ih ⊢
   refine ⟨ih.1,fun q hq hf=>?_⟩
   rcases List.mem_cons.1 hq with rfl|hq
   ·exact absurd hf c
   ·exact ih.2 q hq hf
theorem bestB_at (f:BF) (t:Nat→Int) (i:Nat):∀ (L:List Nat) (s:Int),bestB f t i L s=s∨∃ k,k ∈ L∧f i k=true∧bestB f t i L s=t k
 | [],s=>.inl rfl
 | k::L,s=>by
  rw [bestB]
  by_cases c:f i k=true
  ·rw [if_pos c]
   rcases bestB_at f t i L (mx s (t k)) with h | ⟨q,hq,hf,h⟩
   ·rcases (mx_ge2 s (t k)).2.2 with e|e
    ·exact .inl (h.trans e)
    ·exact .inr ⟨k,List.mem_cons_self,c,h.trans e⟩
   ·exact .inr ⟨q,List.mem_cons_of_mem _ hq,hf,h⟩
  ·rw [if_neg c]
   rcases bestB_at f t i L s with h | ⟨q,hq,hf,h⟩
   ·exact .inl h
   ·exact .inr ⟨q,List.mem_cons_of_mem _ hq,hf,h⟩
theorem bestB_congr (f:BF) (t u:Nat→Int) (i:Nat):∀ (L:List Nat) (s:Int),(∀ k ∈ L,f i k=true→t k=u k)→bestB f t i L s=bestB f u i L s
 | [],_,_=>rfl
 | k::L,s,h=>by
  rw [bestB,bestB]
  by_cases c:f i k=true
  ·rw [if_pos c,if_pos c,h k List.mem_cons_self c];exact bestB_congr f t u i L _ (fun q hq=>h q (List.mem_cons_of_mem _ hq))
  ·rw [if_neg c,if_neg c];exact bestB_congr f t u i L _ (fun q hq=>h q (List.mem_cons_of_mem _ hq))
def tmF (jobs:List J) (i:Nat):Int:=(rd_T76 jobs (i:Int)).f0
def tailN (jobs:List J) (f:BF):Nat→Nat→Int
 | 0,_=>0
 | d + 1,i=>tmF jobs i + bestB f (tailN jobs f d) i (List.range jobs.length) 0
/-- The tail of a job. -/
def TL (jobs:List J) (f:BF) (i:Nat):Int:=tailN jobs f jobs.length i
theorem tailN_stable (jobs:List J) {f:BF} (h:PreF jobs.length f):∀ (d i:Nat),i<jobs.length→cntF jobs.length f i<d→tailN jobs f d i=tailN jobs f (d + 1) i
 | 0,_,_,h2=>absurd h2 (by omega)
 | d + 1,i,hi,h2=>by
  rw [tailN,tailN]
  congr 1
  exact bestB_congr f _ _ i _ _ fun k hk hf=>tailN_stable jobs h d k (List.mem_range.1 hk) (by have:=cnt_lt h hi (List.mem_range.1 hk) hf;omega)
theorem tailN_up (jobs:List J) {f:BF} (h:PreF jobs.length f) (i:Nat) (hi:i<jobs.length):∀ (e d:Nat),cntF jobs.length f i<d→tailN jobs f d i=tailN jobs f (d + e) i
 | 0,d,_=>rfl
 | e + 1,d,hd=>by rw [←Nat.add_assoc,←tailN_stable jobs h (d + e) i hi (by omega)];exact tailN_up jobs h i hi e d hd
theorem TL_eq (jobs:List J) {f:BF} (h:PreF jobs.length f) (i:Nat) (hi:i<jobs.length):TL jobs f i=tmF jobs i + bestB f (TL jobs f) i (List.range jobs.length) 0:=by
 have h1:TL jobs f i=tailN jobs f (jobs.length + 1) i:=tailN_stable jobs h jobs.length i hi (cnt_le h hi)
 rw [h1,tailN]
 rfl
theorem TL_in (jobs:List J) (hj:JobsOk jobs) (f:BF):∀ (d i:Nat),i<jobs.length→0≤tailN jobs f d i∧tailN jobs f d i≤50 * (d:Int)
 | 0,_,_=>⟨Int.le_refl _,by simp [tailN]⟩
 | d + 1,i,hi=>by
  have ht:1≤tmF jobs i∧tmF jobs i≤50:=by unfold tmF;rw [rdJ hi];exact (hj.2 _ (List.getElem_mem hi)).1
  rw [tailN]
  have h1:=(bestB_ge f (tailN jobs f d) i (List.range jobs.length) 0).1
  have h2:bestB f (tailN jobs f d) i (List.range jobs.length) 0≤50 * (d:Int):=by
   rcases bestB_at f (tailN jobs f d) i (List.range jobs.length) 0 with e | ⟨k,hk,_,e⟩
   ·rw [e];omega
   ·rw [e];exact (TL_in jobs hj f d k (List.mem_range.1 hk)).2
  omega
theorem TL_pos (jobs:List J) (hj:JobsOk jobs) {f:BF} (h:PreF jobs.length f) (i:Nat) (hi:i<jobs.length):(1≤tmF jobs i∧tmF jobs i≤50)∧tmF jobs i≤TL jobs f i∧TL jobs f i≤400:=by
 have ht:1≤tmF jobs i∧tmF jobs i≤50:=by unfold tmF;rw [rdJ hi];exact (hj.2 _ (List.getElem_mem hi)).1
 have h8:=hj.1
 have h2:=(TL_in jobs hj f jobs.length i hi).2
 have h3:=(bestB_ge f (TL jobs f) i (List.range jobs.length) 0).1
 rw [TL_eq jobs h i hi]
 refine ⟨ht,by omega,?_⟩
 rw [←TL_eq jobs h i hi]
 unfold TL
 omega
def tailsL (jobs:List J) (f:BF):List Int:=(List.range jobs.length).map (TL jobs f)
theorem tailsL_len (jobs:List J) (f:BF):(tailsL jobs f).length=jobs.length:=by simp [tailsL]
theorem tailsL_rd (jobs:List J) (f:BF) {i:Nat} (h:i<jobs.length):rd (tailsL jobs f) (i:Int)=TL jobs f i:=by rw [rd_nat (by rw [tailsL_len];exact h)];simp [tailsL]

theorem spec_l7Tail.ev (jobs:List J) (hj:JobsOk jobs) {f:BF} (h:PreF jobs.length f):∀ (c i:Nat),i<jobs.length→cntF jobs.length f i<c→Ev (fun k=>spec_l7Tail.f k jobs (tbl jobs.length f) (i:Int)) (TL jobs f i)
 | 0,_,_,hc=>absurd hc (by omega)
 | c + 1,i,hi,hc=>by
  have h8:=hj.1
  have row:=rev_ind (P:=fun q=>∀ s,Ev (fun k=>spec_l7Tail.l0 k jobs (tbl jobs.length f) (i:Int) s (q:Int)) (wrap64 (tmF jobs i + bestB f (TL jobs f) i ((List.range jobs.length).drop q) s))) jobs.length ?_ ?_ 0 (Nat.zero_le _) 0
  ·rw [TL_eq jobs h i hi]
   have hb:=TL_pos jobs hj h i hi
   rw [TL_eq jobs h i hi] at hb
   rw [List.drop_zero,wr (by omega) (by omega)] at row
   exact ev_go _ (fun k=>rfl) row
  ·intro s
   rw [List.drop_of_length_le (by simp),bestB]
   refine ev_stop fun k=>?_
   simp only [spec_l7Tail.l0];rw [if_neg (by omega),if_pos (by omega),if_pos (by omega)];rfl
  ·intro q hq ih s
   rw [range_drop hq,bestB]
   by_cases cc:f i q=true
   ·rw [if_pos cc]
    refine ev_go (fun k=>(spec_l7Tail.f k jobs (tbl jobs.length f) (q:Int)).bind fun t=>spec_l7Tail.l0 k jobs (tbl jobs.length f) (i:Int) (mx s t) ((q + 1:Nat):Int)) (fun k=>?_) (ev_bind _ (spec_l7Tail.ev jobs hj h c q hq (by have:=cnt_lt h hi hq cc;omega)) (ih _))
    simp only [spec_l7Tail.l0];rw [if_pos (by omega),if_pos (by omega),if_pos (by rw [tbl_length];omega),if_pos (by omega),if_pos (by rw [tbl_rowlen hi];omega),tbl_at hi hq,if_pos cc,wr1 (by omega)]
    congr 1
    funext t
    rw [spec_l1Most.eqk,Option.bind_some]
   ·rw [if_neg cc]
    refine ev_go _ (fun k=>?_) (ih _)
    simp only [spec_l7Tail.l0];rw [if_pos (by omega),if_pos (by omega),if_pos (by rw [tbl_length];omega),if_pos (by omega),if_pos (by rw [tbl_rowlen hi];omega),tbl_at hi hq,if_neg cc,wr1 (by omega)]
theorem spec_l7Tails.ev (jobs:List J) (E:List A2) (hj:JobsOk jobs) (h:PrecOk (jobs.length:Int) E):Ev (fun k=>spec_l7Tails.f k jobs E) (tailsL jobs (cloF jobs.length E)):=by
 have h8:=hj.1
 have h28:=h.1.2.1
 have hp:PreF jobs.length (cloF jobs.length E):=preF_of (by have:=h.2;rwa [Int.toNat_natCast] at this)
 unfold spec_l7Tails.f
 refine ev_bind _ (spec_l4Table.ev jobs.length E (by omega) (by omega) (PairsOk.edg h.1.2.2)) ?_
 generalize cloF jobs.length E=f at hp
 have key:=rev_ind (P:=fun i=>Ev (fun k=>spec_l7Tails.l0 k jobs ((tailsL jobs f).take i) (tbl jobs.length f) (i:Int)) (tailsL jobs f)) jobs.length ?_ ?_ 0 (Nat.zero_le _)
 ·simpa using key
 ·refine ev_stop fun k=>?_
  simp only [spec_l7Tails.l0];rw [if_neg (by omega),List.take_of_length_le (by rw [tailsL_len];omega)]
 ·intro i hi ih
  have ht:(tailsL jobs f).take i++[TL jobs f i]=(tailsL jobs f).take (i + 1):=by
   rw [List.take_succ_eq_append_getElem (by rw [tailsL_len];exact hi)]
   simp [tailsL]
  rw [←ht] at ih
  refine ev_go (fun k=>(spec_l7Tail.f k jobs (tbl jobs.length f) (i:Int)).bind fun t=>spec_l7Tails.l0 k jobs ((tailsL jobs f).take i++[t]) (tbl jobs.length f) ((i + 1:Nat):Int)) (fun k=>?_) (ev_bind _ (spec_l7Tail.ev jobs hj hp _ i hi (Nat.lt_succ_self _)) ih)
  simp only [spec_l7Tails.l0];rw [if_pos (by omega),wr1 (by omega)]
  congr 1
  funext t
  rw [if_pos (by rw [List.length_take,tailsL_len];omega)]

/-- No number is above its tail. -/
def UpTo (jobs:List J) (f:BF) (o:List Int):Prop:=o.length=jobs.length∧∀ i,i<jobs.length→0≤rd o (i:Int)∧rd o (i:Int)≤TL jobs f i
def DoneTo (jobs:List J) (f:BF) (r:Nat) (o:List Int):Prop:=∀ i,i<jobs.length→cntF jobs.length f i<r→rd o (i:Int)=TL jobs f i
theorem rd_set {l:List Int} {i j:Nat} (hi:i<l.length) (hj:j<l.length) (v:Int):rd (l.set i v) (j:Int)=if i=j then v else rd l (j:Int):=by
 rw [rd_nat (by rw [List.length_set];exact hj),List.getElem_set,rd_nat hj]
theorem impl_tailsOf.ev (jobs:List J) (E:List A2) (hj:JobsOk jobs) (h:PrecOk (jobs.length:Int) E):Ev (fun k=>impl_tailsOf.f k jobs E) (tailsL jobs (cloF jobs.length E)):=by
 have h8:=hj.1
 have h28:=h.1.2.1
 have hp:PreF jobs.length (cloF jobs.length E):=preF_of (by have:=h.2;rwa [Int.toNat_natCast] at this)
 unfold impl_tailsOf.f
 refine ev_bind _ (impl_closure.ev jobs.length E (by omega) (by omega) (PairsOk.edg h.1.2.2)) ?_
 generalize cloF jobs.length E=f at hp
 rw [show (fun k=>if 0≤(jobs.length:Int) then (if ((jobs.length:Int):Int).toNat≤35184372088832 then (impl_tailsOf.l0 k jobs (tbl jobs.length f) (List.replicate ((jobs.length:Int):Int).toNat 0) (jobs.length:Int) 0) else none) else none)=fun k=>impl_tailsOf.l0 k jobs (tbl jobs.length f) (List.replicate jobs.length 0) (jobs.length:Int) 0 from funext fun k=>by rw [if_pos (by omega),if_pos (by omega),Int.toNat_natCast]]
 have tb:=fun i hi=>TL_pos jobs hj hp i hi
  -- one job's row
 have l2:∀ (r i:Nat) (R:List Int),i<jobs.length→(∀ o,UpTo jobs f o→DoneTo jobs f r o→(∀ a,a≤i→cntF jobs.length f a<r + 1→rd o (a:Int)=TL jobs f a)→Ev (fun k=>impl_tailsOf.l1 k jobs (tbl jobs.length f) o (jobs.length:Int) (r:Int) jobs (jobs.length:Int) ((i + 1:Nat):Int)) R)→∀ q,q≤jobs.length→∀ o,UpTo jobs f o→DoneTo jobs f r o→(∀ a,a<i→cntF jobs.length f a<r + 1→rd o (a:Int)=TL jobs f a)→tmF jobs i≤rd o (i:Int)→(∀ b,b<q→f i b=true→tmF jobs i + rd o (b:Int)≤rd o (i:Int))→Ev (fun k=>impl_tailsOf.l2 k jobs (tbl jobs.length f) o (i:Int) (jobs.length:Int) (r:Int) jobs (jobs.length:Int) (i:Int) (jobs.length:Int) (q:Int) (rd_T76 jobs (i:Int)).f0 (rd_T76 jobs (i:Int)).f1 (rd_T76 jobs (i:Int)).f2 (rd_T76 jobs (i:Int)).f3) R:=by
  intro r i R hi hnext
  refine rev_ind (P:=fun q=>∀ o,UpTo jobs f o→DoneTo jobs f r o→(∀ a,a<i→cntF jobs.length f a<r + 1→rd o (a:Int)=TL jobs f a)→tmF jobs i≤rd o (i:Int)→(∀ b,b<q→f i b=true→tmF jobs i + rd o (b:Int)≤rd o (i:Int))→Ev (fun k=>impl_tailsOf.l2 k jobs (tbl jobs.length f) o (i:Int) (jobs.length:Int) (r:Int) jobs (jobs.length:Int) (i:Int) (jobs.length:Int) (q:Int) (rd_T76 jobs (i:Int)).f0 (rd_T76 jobs (i:Int)).f1 (rd_T76 jobs (i:Int)).f2 (rd_T76 jobs (i:Int)).f3) R) jobs.length ?_ ?_
  ·intro o hu hd ha ht hb
   refine ev_go _ (fun k=>?_) (hnext o hu hd (fun a hai hc=>?_))
   ·simp only [impl_tailsOf.l2];rw [if_neg (by omega),wr1 (by omega)]
   ·by_cases e:a=i
    ·subst e
     have hle:=(hu.2 a hi).2
     rw [TL_eq jobs hp a hi] at hle ⊢
     rcases bestB_at f (TL jobs f) a (List.range jobs.length) 0 with e | ⟨b,hbm,hf,e⟩
     ·rw [e] at hle ⊢;omega
     ·have hbn:=List.mem_range.1 hbm
      have:=hb b hbn hf
      rw [hd b hbn (by have:=cnt_lt hp hi hbn hf;omega)] at this
      rw [e] at hle ⊢;omega
    ·exact ha a (by omega) hc
  ·intro q hq ih o hu hd ha ht hb
   have ho:=hu.1
   by_cases cc:f i q=true
   ·have hqi:q≠i:=fun e=>by rw [e,hp.irr i hi] at cc;cases cc
    have hTq:=(tb q hq).2.2
    have hqo:=hu.2 q hq
    have hio:=hu.2 i hi
    have hTi:=(tb i hi)
    have hle:tmF jobs i + TL jobs f q≤TL jobs f i:=by
     rw [TL_eq jobs hp i hi]
     have:=(bestB_ge f (TL jobs f) i (List.range jobs.length) 0).2 q (List.mem_range.2 hq) cc
     omega
    have hw:wrap64 ((rd_T76 jobs (i:Int)).f0 + rd o (q:Int))=tmF jobs i + rd o (q:Int):=by
     change wrap64 (tmF jobs i + rd o (q:Int))=_
     exact wr (by omega) (by omega)
    have hmx:=mx_ge2 (rd o (i:Int)) (tmF jobs i + rd o (q:Int))
    have rs:∀ a,a<jobs.length→rd (o.set i (mx (rd o (i:Int)) (tmF jobs i + rd o (q:Int)))) (a:Int)=if i=a then mx (rd o (i:Int)) (tmF jobs i + rd o (q:Int)) else rd o (a:Int):=fun a ha=>rd_set (by omega) (by omega) _
    refine ev_go _ (fun k=>?_) (ih (o.set i (mx (rd o (i:Int)) (tmF jobs i + rd o (q:Int)))) ⟨by rw [List.length_set];exact ho,fun a han=>?_⟩ (fun a han hc=>?_) (fun a hai hc=>?_) ?_ (fun b hbq hf=>?_))
    ·simp only [impl_tailsOf.l2]
     rw [if_pos (by omega),if_pos (by omega),if_pos (by rw [tbl_length];omega),if_pos (by omega),if_pos (by rw [tbl_rowlen hi];omega),tbl_at hi hq,if_pos cc,if_pos (by omega),if_pos (by omega),hw,wr1 (by omega),Int.toNat_natCast]
    ·rw [rs a han]
     split
     ·rename_i e;subst e;omega
     ·exact hu.2 a han
    ·rw [rs a han]
     split
     ·rename_i e
      subst e
      have:=hd i hi hc
      omega
     ·exact hd a han hc
    ·rw [rs a (by omega),if_neg (by omega)];exact ha a hai hc
    ·rw [rs i hi,if_pos rfl];omega
    ·rw [rs i hi,if_pos rfl]
     have hbn:b<jobs.length:=by omega
     have hbi:i≠b:=fun e=>by rw [←e,hp.irr i hi] at hf;cases hf
     rw [rs b hbn,if_neg hbi]
     by_cases e:b=q
     ·rw [e];exact hmx.2.1
     ·have:=hb b (by omega) hf;omega
   ·refine ev_go _ (fun k=>?_) (ih o hu hd ha ht (fun b hbq hf=>hb b ?_ hf))
    ·simp only [impl_tailsOf.l2]
     rw [if_pos (by omega),if_pos (by omega),if_pos (by rw [tbl_length];omega),if_pos (by omega),if_pos (by rw [tbl_rowlen hi];omega),tbl_at hi hq,if_neg cc,wr1 (by omega)]
    ·by_cases e:b=q
     ·rw [e] at hf;exact absurd hf cc
     ·omega
  -- one round
 have l1:∀ (r:Nat) (R:List Int),r<100→(∀ o,UpTo jobs f o→DoneTo jobs f (r + 1) o→Ev (fun k=>impl_tailsOf.l0 k jobs (tbl jobs.length f) o (jobs.length:Int) ((r + 1:Nat):Int)) R)→∀ i,i≤jobs.length→∀ o,UpTo jobs f o→DoneTo jobs f r o→(∀ a,a<i→cntF jobs.length f a<r + 1→rd o (a:Int)=TL jobs f a)→Ev (fun k=>impl_tailsOf.l1 k jobs (tbl jobs.length f) o (jobs.length:Int) (r:Int) jobs (jobs.length:Int) (i:Int)) R:=by
  intro r R hr hnext
  refine rev_ind (P:=fun i=>∀ o,UpTo jobs f o→DoneTo jobs f r o→(∀ a,a<i→cntF jobs.length f a<r + 1→rd o (a:Int)=TL jobs f a)→Ev (fun k=>impl_tailsOf.l1 k jobs (tbl jobs.length f) o (jobs.length:Int) (r:Int) jobs (jobs.length:Int) (i:Int)) R) jobs.length ?_ ?_
  ·intro o hu hd ha
   refine ev_go _ (fun k=>?_) (hnext o hu (fun a han hc=>ha a han hc))
   simp only [impl_tailsOf.l1];rw [if_neg (by omega),wr1 (by omega)]
  ·intro i hi ih o hu hd ha
   have ho:=hu.1
   have hio:=hu.2 i hi
   have hTi:=tb i hi
   have hmx:=mx_ge2 (rd o (i:Int)) (tmF jobs i)
   have rs:∀ a,a<jobs.length→rd (o.set i (mx (rd o (i:Int)) (tmF jobs i))) (a:Int)=if i=a then mx (rd o (i:Int)) (tmF jobs i) else rd o (a:Int):=fun a ha=>rd_set (by omega) (by omega) _
   refine ev_go _ (fun k=>?_) (l2 r i R hi (fun o2 hu2 hd2 ha2=>ih o2 hu2 hd2 (fun a hai hc=>ha2 a (by omega) hc)) 0 (Nat.zero_le _) (o.set i (mx (rd o (i:Int)) (tmF jobs i))) ⟨by rw [List.length_set];exact ho,fun a han=>?_⟩ (fun a han hc=>?_) (fun a hai hc=>?_) ?_ (fun b hb=>absurd hb (by omega)))
   ·simp only [impl_tailsOf.l1]
    rw [if_pos (by omega),if_pos (by omega),if_pos (by omega),if_pos (by omega),Int.toNat_natCast]
    rfl
   ·rw [rs a han]
    split
    ·rename_i e;subst e;omega
    ·exact hu.2 a han
   ·rw [rs a han]
    split
    ·rename_i e
     subst e
     have:=hd i hi hc
     omega
    ·exact hd a han hc
   ·rw [rs a (by omega),if_neg (by omega)];exact ha a hai hc
   ·rw [rs i hi,if_pos rfl];omega
 have l0:=rev_ind (P:=fun r=>∀ o,UpTo jobs f o→DoneTo jobs f r o→Ev (fun k=>impl_tailsOf.l0 k jobs (tbl jobs.length f) o (jobs.length:Int) (r:Int)) (tailsL jobs f)) jobs.length ?_ ?_ 0 (Nat.zero_le _) (List.replicate jobs.length 0) ⟨by simp,fun i hi=>?_⟩ (fun i hi hc=>absurd hc (by omega))
 ·exact l0
 ·intro o hu hd
  have e:o=tailsL jobs f:=by
   apply List.ext_getElem
   ·rw [hu.1,tailsL_len]
   ·intro i h1 h2
    have hi:i<jobs.length:=by rw [hu.1] at h1;exact h1
    have:=hd i hi (cnt_le hp hi)
    rw [rd_nat h1] at this
    rw [this]
    simp [tailsL]
  rw [←e]
  refine ev_stop fun k=>?_
  simp only [impl_tailsOf.l0];rw [if_neg (by omega)]
 ·intro r hr ih o hu hd
  refine ev_go _ (fun k=>?_) (l1 r (tailsL jobs f) (by omega) ih 0 (Nat.zero_le _) o hu hd (fun a ha=>absurd ha (by omega)))
  simp only [impl_tailsOf.l0];rw [if_pos (by omega)];rfl
 ·have hTi:=tb i hi
  rw [rd_nat (by simpa using hi)]
  simp
  omega

def ParOk (jobs:List J) (m:Int) (E:List A2):Prop:=PlainOk jobs∧(1≤m∧m≤4)∧PrecOk (jobs.length:Int) E
theorem ParOk.pre {jobs:List J} {m:Int} {E:List A2} (h:ParOk jobs m E):PreF jobs.length (cloF jobs.length E):=preF_of (by have:=h.2.2.2;rwa [Int.toNat_natCast] at this)

theorem spec_l7Good.ev (jobs:List J) (m:Int) (E:List A2) (hj:jobs.length≤1048576) (hE:E.length≤1000000000):EvB (fun k=>spec_l7Good.f k jobs m E) (ParOk jobs m E):=by
 unfold spec_l7Good.f
 have e1:=spec_l2Good.ev jobs (by omega)
 have e2:=spec_l3Plain.ev jobs (by omega)
 have e3:=spec_l4Good.ev (jobs.length:Int) E (by simp [Lit.wf,IntKind.min,IntKind.max,IntKind.signed,IntKind.bits];omega) hE
 simp only [spec_l1In.eq,Option.bind_some]
 refine evB_of (fun h=>?_) (fun h=>?_)
 ·refine ev_guard' e1 (fun _=>ev_guard' e2 (fun _=>?_) (fun hn=>absurd h.1.2 hn)) (fun hn=>absurd h.1.1 hn)
  simp only [decide_eq_true_eq,if_pos h.2.1]
  exact ev_bind _ (evB_true e3 h.2.2) (Ev.now _)
 ·refine ev_guard' e1 (fun h1=>ev_guard' e2 (fun h2=>?_) (fun _=>Ev.now _)) (fun _=>Ev.now _)
  by_cases h3:1≤m∧m≤4
  ·simp only [decide_eq_true_eq,if_pos h3]
   exact ev_bind _ (evB_false e3 (fun h4=>h ⟨⟨h1,h2⟩,h3,h4⟩)) (Ev.now _)
  ·simp only [decide_eq_true_eq,if_neg h3]
   exact Ev.now _

theorem impl_isParallel.ev (jobs:List J) (m:Int) (E:List A2) (hj:jobs.length≤1048576) (hE:E.length≤1000000000):EvB (fun k=>impl_isParallel.f k jobs m E) (ParOk jobs m E):=by
 unfold impl_isParallel.f
 have e1:=impl_IsPlain.ev jobs (by omega)
 have e3:=impl_IsPrecedence.ev (jobs.length:Int) E hE
 simp only [impl_within.eq,Option.bind_some]
 refine evB_of (fun h=>?_) (fun h=>?_)
 ·refine ev_guard' e1 (fun _=>?_) (fun hn=>absurd h.1 hn)
  simp only [decide_eq_true_eq,if_pos h.2.1]
  exact ev_bind _ (evB_true e3 h.2.2) (Ev.now _)
 ·refine ev_guard' e1 (fun h1=>?_) (fun _=>Ev.now _)
  by_cases h3:1≤m∧m≤4
  ·simp only [decide_eq_true_eq,if_pos h3]
   exact ev_bind _ (evB_false e3 (fun h4=>h ⟨h1,h3,h4⟩)) (Ev.now _)
  ·simp only [decide_eq_true_eq,if_neg h3]
   exact Ev.now _

end Go.Proofs.Ytbcfmegepkhlpaa.Pure
-- minified
