/- Proved here: what functions that the law FnTailsFirst reaches answer (base, perm, spec_l1In, impl_within, spec_l1Has, impl_isNumber, jobT, spec_l2Good, impl_IsJobs, tyTask, marks, plainOk, spec_l3Plain, impl_isPlain, impl_IsPlain, guard, spec_l1Own, sumW, spec_l1MostK, evbLoop, evbC, sortP, impl_numbersTo, permsP, impl_nextOrder, impl_eachOrder, foldPerm, recAll, sear). Conditions: those that each theorem names. -/
import Derived.Test.YtndcbfifmafcoaaXFnTailsFirstx37
set_option linter.unusedVariables false
set_option linter.unusedSimpArgs false
namespace Go.Proofs.Ytndcbfifmafcoaa.Pure
open Go.RowKit Go.Proofs.Ytndcbfifmafcoaa.XFnTailsFirst Go.Proofs.YtndcbfifmafcoaaW.PrintWords Go.Proofs.YtndcbfifmafcoaaW.PrintLast
theorem wr {x:Int} (h0 : -9223372036854775808<=x) (h1:x<=9223372036854775807):wrap64 x=x:=by unfold wrap64;omega
theorem wr1 {i:Nat} (h:i<1000000000000000000):wrap64 ((i:Int) + 1)=((i + 1:Nat):Int):=by rw [wr (by omega) (by omega)];omega
theorem rev_ind {P:Nat->Prop} (n:Nat) (hn:P n) (hs:∀ i,i<n->P (i + 1)->P i):∀ i,i<=n->P i:=by
 intro i hi;obtain ⟨d,rfl⟩:∃ d,n=i + d:=⟨n - i,by omega⟩;clear hi
 induction d generalizing i with
 | zero=>exact hn
 | succ d ih=>
  refine hs i (by omega) (ih (i + 1) ?_ ?_)
  ·rw [show i + 1 + d=i + (d + 1) by omega];exact hn
  ·intro j hj;exact hs j (by omega)
theorem ev_stop {α:Type} {g:Nat->Option α} {r:α} (h:∀ k,g (k + 1)=some r):Ev g r:=Ev.step h (Ev.now r)
theorem ev_go {α:Type} {g:Nat->Option α} (f:Nat->Option α) {r:α} (h:∀ k,g (k + 1)=f k) (k:Ev f r):Ev g r:=Ev.step h k
theorem ev_bind {α β:Type} {g:Nat->Option α} {f:Nat->α->Option β} (a:α) {r:β} (h:Ev g a) (k:Ev (fun n=>f n a) r):Ev (fun n=>(g n).bind (f n)) r:=Ev.bind h k
/-- A bool that is told in the end, and what it says. -/
def EvB (g:Nat->Option Bool) (P:Prop):Prop:=∃ b:Bool,Ev g b/\(b=true ↔ P)
theorem evB_true {g:Nat->Option Bool} {P:Prop} (h:EvB g P) (hp:P):Ev g true:=by
 obtain ⟨b,hb,e⟩:=h;rw [e.2 hp] at hb;exact hb
theorem evB_false {g:Nat->Option Bool} {P:Prop} (h:EvB g P) (hp:¬ P):Ev g false:=by
 obtain ⟨b,hb,e⟩:=h;cases b with
 | true=>exact absurd (e.1 rfl) hp
 | false=>exact hb
theorem evB_of {g:Nat->Option Bool} {P:Prop} (h1:P->Ev g true) (h2:¬ P->Ev g false):EvB g P:=by
 by_cases h:P
 ·exact ⟨true,h1 h,by simp [h]⟩
 ·exact ⟨false,h2 h,by simp [h]⟩
theorem evB_iff {g:Nat->Option Bool} {P Q:Prop} (h:EvB g P) (e:P ↔ Q):EvB g Q:=by
 obtain ⟨b,hb,e'⟩:=h;exact ⟨b,hb,e'.trans e⟩
theorem evB_bind {g:Nat->Option Bool} {P:Prop} {α:Type} {f:Nat->Bool->Option α} {r:α} (h:EvB g P) (h1:P->Ev (fun n=>f n true) r) (h2:¬ P->Ev (fun n=>f n false) r):Ev (fun n=>(g n).bind (f n)) r:=by
 by_cases hp:P
 ·exact Ev.bind (evB_true h hp) (h1 hp)
 ·exact Ev.bind (evB_false h hp) (h2 hp)
theorem rd_nat {l:List Int} {i:Nat} (h:i<l.length):rd l (i:Int)=l[i]:=by simp [rd,h]
theorem drop_cons {α:Type} {l:List α} {i:Nat} (h:i<l.length):l.drop i=l[i]::l.drop (i + 1):=List.drop_eq_getElem_cons h
theorem set_copy {α:Type} {l z:List α} {i:Nat} (h:i<l.length) (hz:i<z.length):(l.take i++z.drop i).set i l[i]=l.take (i + 1)++z.drop (i + 1):=by
 have hl:(l.take i).length=i:=by simp;omega
 rw [List.set_append_right _ _ (by omega),hl,Nat.sub_self,drop_cons hz,List.set_cons_zero,List.take_succ_eq_append_getElem h,List.append_assoc]
 rfl
theorem nodup_sub {α:Type} [DecidableEq α]:∀ {l s:List α},l.Nodup->(∀ x ∈ l,x ∈ s)->l.length<=s.length
 | [],_,_,_=>Nat.zero_le _
 | a::l,s,hn,hs=>by
  have ha:a ∈ s:=hs a List.mem_cons_self;have hn':=List.nodup_cons.1 hn;have:=nodup_sub (l:=l) (s:=s.erase a) hn'.2 (fun x hx=>by
   have hne:x≠a:=fun e=>hn'.1 (e ▸ hx)
   exact (List.mem_erase_of_ne hne).2 (hs x (List.mem_cons_of_mem _ hx)))
  have hp:0<s.length:=List.length_pos_of_mem ha;rw [List.length_erase_of_mem ha] at this;simp only [List.length_cons];omega
/-- The numbers 0..n-1. -/
def nums_to (n:Nat):List Int:=(List.range n).map fun (i:Nat)=>(i:Int)
theorem mem_nums_to {n:Nat} {x:Int} : x ∈ nums_to n ↔ 0<=x/\x<n:=by
 unfold nums_to;simp only [List.mem_map,List.mem_range];constructor
 ·rintro ⟨i,hi,rfl⟩;omega
 ·rintro ⟨h0,h1⟩;exact ⟨x.toNat,by omega,by omega⟩
theorem nums_to_nodup (n:Nat):(nums_to n).Nodup:=by
 unfold nums_to;rw [List.nodup_iff_pairwise_ne];rw [List.pairwise_map];exact (List.nodup_iff_pairwise_ne.1 List.nodup_range).imp (fun h e=>h (by omega))
theorem nums_to_length (n:Nat):(nums_to n).length=n:=by simp [nums_to]
/-- An order of n jobs. -/
def IsPerm (n:Nat) (l:List Int):Prop:=l.length=n/\l.Nodup/\∀ x ∈ l,0<=x/\x<n
theorem IsPerm.all {n:Nat} {l:List Int} (h:IsPerm n l) (x:Int) (h0:0<=x) (h1:x<n):x ∈ l:=by
 obtain ⟨hl,hn,hr⟩:=h;by_cases hx:x ∈ l
 ·exact hx
 ·have:=nodup_sub (l:=x::l) (s:=nums_to n) (List.nodup_cons.2 ⟨hx,hn⟩) (fun y hy=>by
   rcases List.mem_cons.1 hy with rfl|hy
   ·exact mem_nums_to.2 ⟨h0,h1⟩
   ·exact mem_nums_to.2 (hr y hy))
  rw [nums_to_length] at this;simp at this;omega
theorem spec_l1In.eq (a b c:Int):spec_l1In.f a b c=some (decide (b<=a/\a<=c)):=by
 unfold spec_l1In.f;by_cases h:a>=b
 ·rw [if_pos h];congr 1;simp;omega
 ·rw [if_neg h];congr 1;simp;omega
theorem impl_within.eq (a b c:Int):impl_within.f a b c=some (decide (b<=a/\a<=c)):=by
 unfold impl_within.f;by_cases h:b<=a
 ·rw [if_pos h];congr 1;simp;omega
 ·rw [if_neg h];congr 1;simp;omega
theorem spec_l1Has.ev (l:List Int) (a:Int) (hl:l.length<=1000000000000000):EvB (fun k=>spec_l1Has.f k l a) (a ∈ l):=by
 have key:=rev_ind (P:=fun i=>EvB (fun k=>spec_l1Has.l0 k l a (i:Int)) (a ∈ l.drop i)) l.length ?_ ?_ 0 (Nat.zero_le _)
 ·simpa [spec_l1Has.f] using key
 ·refine evB_of (fun h=>absurd h (by simp)) (fun _=>ev_stop fun k=>?_);simp only [spec_l1Has.l0];rw [if_neg (by omega)]
 ·intro i hi ih;rw [drop_cons hi];by_cases e:l[i]=a
  ·refine evB_of (fun _=>ev_stop fun k=>?_) (fun h=>absurd (by simp [e]) h);simp only [spec_l1Has.l0];rw [if_pos (by omega),if_pos (by omega),rd_nat hi,if_pos e]
  ·obtain ⟨b,hb,hP⟩:=ih;refine ⟨b,ev_go _ (fun k=>?_) hb,by rw [hP,List.mem_cons];exact ⟨.inr,fun h=>h.resolve_left (fun h=>e h.symm)⟩⟩;simp only [spec_l1Has.l0];rw [if_pos (by omega),if_pos (by omega),rd_nat hi,if_neg e,wr1 (by omega)]
theorem impl_isNumber.eq (a n:Int) (h0:0<=n) (h1:n<=1000000000000000):impl_isNumber.f a n=some (decide (0<=a/\a<n)):=by
 unfold impl_isNumber.f;rw [impl_within.eq,Option.bind_some,wr (by omega) (by omega)];simp only [Option.some.injEq,decide_eq_decide];omega
abbrev J:=S44
theorem rdJ {l:List J} {i:Nat} (h:i<l.length):rd_T44 l (i:Int)=l[i]:=by simp [rd_T44,h]
/-- A valid job. -/
def JobOk (j:J):Prop:=(1<=j.f0/\j.f0<=50)/\(0<=j.f1/\j.f1<=50)/\(0<=j.f2/\j.f2<=500)/\(0<=j.f3/\j.f3<=500)
/-- A list of jobs. -/
def JobsOk (l:List J):Prop:=l.length<=8/\∀ j ∈ l,JobOk j
theorem spec_l2Job.eq (j:J):∃ c,spec_l2Job.f j.f0 j.f1 j.f2 j.f3=some c/\(c=true ↔ JobOk j):=by
 unfold spec_l2Job.f JobOk;simp only [spec_l1In.eq,Option.bind_some];by_cases h0:1<=j.f0/\j.f0<=50
 ·by_cases h1:0<=j.f1/\j.f1<=50
  ·by_cases h2:0<=j.f2/\j.f2<=500
   ·exact ⟨decide (0<=j.f3/\j.f3<=500),by simp [h0,h1,h2],by simp [h0,h1,h2]⟩
   ·exact ⟨false,by simp [h0,h1,h2],by simp [h2]⟩
  ·exact ⟨false,by simp [h0,h1],by simp [h1]⟩
 ·exact ⟨false,by simp [h0],by simp [h0]⟩
theorem spec_l2Good.ev (l:List J) (hl:l.length<=1000000000000000):EvB (fun k=>spec_l2Good.f k l) (JobsOk l):=by
 have key:=rev_ind (P:=fun i=>EvB (fun k=>spec_l2Good.l0 k l (i:Int)) (l.length<=8/\∀ j ∈ l.drop i,JobOk j)) l.length ?_ ?_ 0 (Nat.zero_le _)
 ·simpa [spec_l2Good.f,JobsOk] using key
 ·refine ⟨decide ((l.length:Int)<=8),ev_stop fun k=>?_,by simp;omega⟩;simp only [spec_l2Good.l0];rw [if_neg (by omega)]
 ·intro i hi ih;rw [drop_cons hi];obtain ⟨c,hc,hce⟩:=spec_l2Job.eq l[i];by_cases q:JobOk l[i]
  ·obtain ⟨b,hb,hP⟩:=ih;refine ⟨b,ev_go _ (fun k=>?_) hb,hP.trans ⟨fun h=>⟨h.1,fun x hx=>?_⟩,fun h=>⟨h.1,fun x hx=>h.2 x (List.mem_cons_of_mem _ hx)⟩⟩⟩
   ·simp only [spec_l2Good.l0];rw [if_pos (by omega),if_pos (by omega),rdJ hi,hc,Option.bind_some,if_pos (hce.2 q),wr1 (by omega)]
   ·rcases List.mem_cons.1 hx with rfl|hx
    ·exact q
    ·exact h.2 x hx
  ·refine evB_of (fun h=>absurd (h.2 _ List.mem_cons_self) q) (fun _=>ev_stop fun k=>?_);simp only [spec_l2Good.l0];rw [if_pos (by omega),if_pos (by omega),rdJ hi,hc,Option.bind_some,if_neg (fun h=>q (hce.1 h))]
theorem impl_IsJobs.ev (l:List J):EvB (fun k=>impl_IsJobs.f k l) (JobsOk l):=by
 unfold impl_IsJobs.f;by_cases h8:(l.length:Int)>8
 ·simp only [if_pos h8];exact evB_of (fun h=>absurd h.1 (by omega)) (fun _=>Ev.now _)
 ·simp only [if_neg h8];have key:=rev_ind (P:=fun i=>EvB (fun k=>impl_IsJobs.l0 k l (l.length:Int) (i:Int)) (∀ j ∈ l.drop i,JobOk j)) l.length ?_ ?_ 0 (Nat.zero_le _)
  ·refine evB_iff (by simpa using key) ⟨fun h=>⟨by omega,h⟩,fun h=>h.2⟩
  ·refine evB_of (fun _=>ev_stop fun k=>?_) (fun h=>absurd (by simp) h);simp only [impl_IsJobs.l0];rw [if_neg (by omega)]
  ·intro i hi ih;rw [drop_cons hi];by_cases q:JobOk l[i]
   ·obtain ⟨b,hb,hP⟩:=ih;refine ⟨b,ev_go _ (fun k=>?_) hb,hP.trans ⟨fun h x hx=>?_,fun h x hx=>h x (List.mem_cons_of_mem _ hx)⟩⟩
    ·simp only [impl_IsJobs.l0,impl_within.eq,impl_isDate.f,Option.bind_some];rw [if_pos (by omega),if_pos (by omega),if_pos (by omega),rdJ hi,if_pos (by simpa using q.1),if_pos (by simpa using q.2.1),if_pos (by simpa using q.2.2.1),if_pos (by simpa using q.2.2.2),wr1 (by omega)]
    ·rcases List.mem_cons.1 hx with rfl|hx
     ·exact q
     ·exact h x hx
   ·refine evB_of (fun h=>absurd (h _ List.mem_cons_self) q) (fun _=>ev_stop fun k=>?_);simp only [impl_IsJobs.l0,impl_within.eq,impl_isDate.f,Option.bind_some];rw [if_pos (by omega),if_pos (by omega),if_pos (by omega),rdJ hi];unfold JobOk at q;by_cases h0:1<=l[i].f0/\l[i].f0<=50
    ·rw [if_pos (by simpa using h0)];by_cases h1:0<=l[i].f1/\l[i].f1<=50
     ·rw [if_pos (by simpa using h1)];by_cases h2:0<=l[i].f2/\l[i].f2<=500
      ·rw [if_pos (by simpa using h2)];by_cases h3:0<=l[i].f3/\l[i].f3<=500
       ·exact absurd ⟨h0,h1,h2,h3⟩ q
       ·rw [if_neg (by simpa using h3)]
      ·rw [if_neg (by simpa using h2)]
     ·rw [if_neg (by simpa using h1)]
    ·rw [if_neg (by simpa using h0)]
abbrev PTask:=S73
theorem rdPTask {l:List PTask} {i:Nat} (h:i<l.length):rd_T73 l (i:Int)=l[i]:=by simp [rd_T73,h]
def NoRel (l:List J):Prop:=∀ j ∈ l,j.f2=0
def PlainOk (l:List J):Prop:=JobsOk l/\NoRel l
theorem noRel_cons {x:J} {l:List J} : NoRel (x::l) ↔ x.f2=0/\NoRel l:=by simp [NoRel]
theorem spec_l3Plain.ev (l:List J) (hl:l.length<=1000000000000):EvB (fun k=>spec_l3Plain.f k l) (NoRel l):=by
 have key:=rev_ind (P:=fun i=>EvB (fun k=>spec_l3Plain.l0 k l (i:Int)) (NoRel (l.drop i))) l.length ?_ ?_ 0 (Nat.zero_le _)
 ·simpa [spec_l3Plain.f] using key
 ·refine evB_of (fun _=>ev_stop fun k=>?_) (fun h=>absurd (by rw [List.drop_length];intro j hj;cases hj) h);simp only [spec_l3Plain.l0];rw [if_neg (by omega)]
 ·intro i hi ih;rw [drop_cons hi,noRel_cons];by_cases q:l[i].f2=0
  ·obtain ⟨c,hb,hP⟩:=ih;refine ⟨c,ev_go _ (fun k=>?_) hb,hP.trans ⟨fun h=>⟨q,h⟩,fun h=>h.2⟩⟩;simp only [spec_l3Plain.l0];rw [if_pos (by omega),if_pos (by omega),rdJ hi,if_pos q,wr1 (by omega)]
  ·refine evB_of (fun h=>absurd h.1 q) (fun _=>ev_stop fun k=>?_);simp only [spec_l3Plain.l0];rw [if_pos (by omega),if_pos (by omega),rdJ hi,if_neg q]
theorem impl_isPlain.ev (l:List J) (hl:l.length<=1000000000000):EvB (fun k=>impl_isPlain.f k l) (NoRel l):=by
 have key:=rev_ind (P:=fun i=>EvB (fun k=>impl_isPlain.l0 k l (l.length:Int) (i:Int)) (NoRel (l.drop i))) l.length ?_ ?_ 0 (Nat.zero_le _)
 ·simpa [impl_isPlain.f] using key
 ·refine evB_of (fun _=>ev_stop fun k=>?_) (fun h=>absurd (by rw [List.drop_length];intro j hj;cases hj) h);simp only [impl_isPlain.l0];rw [if_neg (by omega)]
 ·intro i hi ih;rw [drop_cons hi,noRel_cons];by_cases q:l[i].f2=0
  ·obtain ⟨c,hb,hP⟩:=ih;refine ⟨c,ev_go _ (fun k=>?_) hb,hP.trans ⟨fun h=>⟨q,h⟩,fun h=>h.2⟩⟩;simp only [impl_isPlain.l0];rw [if_pos (by omega),if_pos (by omega),if_pos (by omega),rdJ hi,if_pos q,wr1 (by omega)]
  ·refine evB_of (fun h=>absurd h.1 q) (fun _=>ev_stop fun k=>?_);simp only [impl_isPlain.l0];rw [if_pos (by omega),if_pos (by omega),if_pos (by omega),rdJ hi,if_neg q]
theorem impl_IsPlain.ev (l:List J) (hl:l.length<=1000000000000):EvB (fun k=>impl_IsPlain.f k l) (PlainOk l):=by
 unfold impl_IsPlain.f PlainOk;refine evB_of (fun h=>?_) (fun h=>?_)
 ·refine evB_bind (impl_IsJobs.ev l) (fun _=>?_) (fun h'=>absurd h.1 h');simp only [if_true];exact evB_bind (impl_isPlain.ev l hl) (fun _=>Ev.now _) (fun h'=>absurd h.2 h')
 ·refine evB_bind (impl_IsJobs.ev l) (fun h1=>?_) (fun _=>by simp only [Bool.false_eq_true,if_false];exact Ev.now _);simp only [if_true];exact evB_bind (impl_isPlain.ev l hl) (fun h2=>absurd ⟨h1,h2⟩ h) (fun _=>Ev.now _)
theorem ev_guard' {g:Nat->Option Bool} {P:Prop} {α:Type} {F G:Nat->Option α} {r:α} (h:EvB g P) (h1:P->Ev F r) (h2:¬ P->Ev G r):Ev (fun n=>(g n).bind fun t=>if t=true then F n else G n) r:=by
 refine evB_bind h (fun hp=>?_) (fun hp=>?_)
 ·simp only [if_true];exact h1 hp
 ·simp only [Bool.false_eq_true,if_false];exact h2 hp
theorem spec_l1Own.eq (l:List Int) (h:l.length<=1000000000000):spec_l1Own.f l=some l:=by
 simp only [spec_l1Own.f,Option.bind_some];rw [if_pos (by simp;omega)]
 rfl
def sumW:List Int->Int->Int
 | [],a=>a
 | x::xs,a=>sumW xs (wrap64 (a + x))
theorem spec_l1Most.eqk (a b:Int):spec_l1Most.f a b=some (mx a b):=by
 unfold spec_l1Most.f mx;split <;> split <;> first|rfl|omega|(congr 1;omega)
theorem evB_step {g:Nat->Option Bool} (g':Nat->Option Bool) {R:Prop} (h:∀ k,g (k + 1)=g' k) (hR:EvB g' R):EvB g R:=by
 obtain ⟨b,hb,e⟩:=hR;exact ⟨b,ev_go _ h hb,e⟩
theorem evB_leaf {g:Nat->Option Bool} (g':Nat->Option Bool) {P R:Prop} (h1:P->∀ k,g (k + 1)=g' k) (h2:¬ P->∀ k,g (k + 1)=some false) (hR:EvB g' R):EvB g (P/\R):=by
 by_cases p:P
 ·exact evB_iff (evB_step g' (h1 p) hR) ⟨fun r=>⟨p,r⟩,fun r=>r.2⟩
 ·exact evB_of (fun h=>absurd h.1 p) (fun _=>ev_stop (h2 p))
theorem evB_loop (n:Nat) (g:Nat->Nat->Option Bool) (P:Nat->Prop) (Q:Prop) (hstop:EvB (g n) Q) (hstep:∀ i,i<n->∀ R,EvB (g (i + 1)) R->EvB (g i) (P i/\R)):EvB (g 0) ((∀ i,i<n->P i)/\Q):=by
 have key:=rev_ind (P:=fun i=>EvB (g i) ((∀ j,i<=j->j<n->P j)/\Q)) n ?_ ?_ 0 (Nat.zero_le _)
 ·exact evB_iff key ⟨fun h=>⟨fun i hi=>h.1 i (Nat.zero_le _) hi,h.2⟩,fun h=>⟨fun i _ hi=>h.1 i hi,h.2⟩⟩
 ·exact evB_iff hstop ⟨fun h=>⟨fun j h1 h2=>absurd h1 (by omega),h⟩,fun h=>h.2⟩
 ·intro i hi ih;refine evB_iff (hstep i hi _ ih) ⟨fun h=>⟨fun j h1 h2=>?_,h.2.2⟩,fun h=>⟨h.1 i (Nat.le_refl _) hi,fun j h1 h2=>h.1 j (by omega) h2,h.2⟩⟩;by_cases e:j=i
  ·rw [e];exact h.1
  ·exact h.2.1 j (by omega) h2
theorem evB_loopC (n:Nat) (g:Nat->Nat->Option Bool) (P:Nat->Prop) (Q:Prop) (hstop:(∀ j,j<n->P j)->EvB (g n) Q) (hstep:∀ i,i<n->(∀ j,j<i->P j)->∀ R,(P i->EvB (g (i + 1)) R)->EvB (g i) (P i/\R)):EvB (g 0) ((∀ i,i<n->P i)/\Q):=by
 have key:=rev_ind (P:=fun i=>(∀ j,j<i->P j)->EvB (g i) ((∀ j,i<=j->j<n->P j)/\Q)) n ?_ ?_ 0 (Nat.zero_le _) (fun j hj=>absurd hj (by omega))
 ·exact evB_iff key ⟨fun h=>⟨fun i hi=>h.1 i (Nat.zero_le _) hi,h.2⟩,fun h=>⟨fun i _ hi=>h.1 i hi,h.2⟩⟩
 ·intro hlt;exact evB_iff (hstop hlt) ⟨fun h=>⟨fun j h1 h2=>absurd h1 (by omega),h⟩,fun h=>h.2⟩
 ·intro i hi ih hlt;refine evB_iff (hstep i hi hlt _ (fun hp=>ih (fun j hj=>?_))) ⟨fun h=>⟨fun j h1 h2=>?_,h.2.2⟩,fun h=>⟨h.1 i (Nat.le_refl _) hi,fun j h1 h2=>h.1 j (by omega) h2,h.2⟩⟩
  ·by_cases e:j=i
   ·rw [e];exact hp
   ·exact hlt j (by omega)
  ·by_cases e:j=i
   ·rw [e];exact h.1
   ·exact h.2.1 j (by omega) h2
/-- An order in which one may stand ahead of another: what 'not ahead' is handed on through, and what is ahead is not behind. -/
structure Pre (lt:Int->Int->Bool) (P:Int->Prop):Prop where
 trans:∀ a b c,P a->P b->P c->lt b a=false->lt c b=false->lt c a=false
 asym:∀ a b,P a->P b->lt a b=true->lt b a=false
def SortedLt (lt:Int->Int->Bool) (l:List Int):Prop:=l.Pairwise fun a b=>lt b a=false
theorem pre_key (f:Int->Int) (P:Int->Prop):Pre (fun a b=>decide (f a<f b)) P:=by
 refine ⟨fun a b c _ _ _ h1 h2=>?_,fun a b _ _ h=>?_⟩ <;> simp at * <;> omega
theorem insPos_at {lt:Int->Int->Bool} {P:Int->Prop} (hp:Pre lt P) {x:Int} {out:List Int} (hx:P x) (ho:∀ y ∈ out,P y) (hs:SortedLt lt out) (j:Nat) (hj:j<=out.length) (h1:∀ y ∈ out.take j,lt x y=false) (h2:∀ h:j<out.length,lt x out[j]=true):insPos lt x out out.length=j:=by
 have key:∀ d,j + d<=out.length->insPos lt x out (j + d)=j:=by
  intro d
  induction d with
  | zero=>
   intro _;cases j with
   | zero=>rfl
   | succ j=>
    rw [Nat.add_zero,insPos,if_neg];have hm:out[j] ∈ out.take (j + 1):=List.mem_take_iff_getElem.2 ⟨j,by omega,rfl⟩;have:=h1 _ hm;simp [List.getD_eq_getElem?_getD,show j<out.length by omega,this]
  | succ d ih=>
   intro hd;rw [<-Nat.add_assoc,insPos,if_pos,ih (by omega)];have hq:lt x (out[j + d]'(by omega))=true:=by
    refine Classical.byContradiction fun hc=>?_
    have hc:lt x (out[j + d]'(by omega))=false:=by simpa using hc
    have hj2:=h2 (by omega);by_cases e:d=0
    ·subst e;simp at hc;rw [hc] at hj2;cases hj2
    ·have hpw:=(List.pairwise_iff_getElem.1 hs) j (j + d) (by omega) (by omega) (by omega);have:=hp.trans _ _ _ (ho _ (List.getElem_mem (by omega:j<out.length))) (ho _ (List.getElem_mem (by omega:j + d<out.length))) hx hpw hc;rw [this] at hj2;cases hj2
   simpa [List.getD_eq_getElem?_getD,show j + d<out.length by omega] using hq
 have:=key (out.length - j) (by omega)
 rwa [show j + (out.length - j)=out.length by omega] at this
theorem insAt_at {lt:Int->Int->Bool} {P:Int->Prop} (hp:Pre lt P) {x:Int} {out:List Int} (hx:P x) (ho:∀ y ∈ out,P y) (hs:SortedLt lt out) (j:Nat) (hj:j<=out.length) (h1:∀ y ∈ out.take j,lt x y=false) (h2:∀ h:j<out.length,lt x out[j]=true):insAt lt x out=out.take j++x::out.drop j:=by
 unfold insAt;rw [insPos_at hp hx ho hs j hj h1 h2]
theorem insPos_left {lt:Int->Int->Bool} {x:Int} {out:List Int} : ∀ k,k<=out.length->(0<insPos lt x out k->lt x (out.getD (insPos lt x out k - 1) 0)=false)/\(∀ i,insPos lt x out k<=i->i<k->lt x (out.getD i 0)=true)
 | 0,_=>⟨fun h=>absurd h (by simp [insPos]),fun i _ h=>absurd h (by omega)⟩
 | k + 1,hk=>by
  have ih:=insPos_left (lt:=lt) (x:=x) (out:=out) k (by omega);rw [insPos];by_cases q:lt x (out.getD k 0)=true
  ·rw [if_pos q];refine ⟨ih.1,fun i h1 h2=>?_⟩;by_cases e:i=k
   ·subst e;exact q
   ·exact ih.2 i h1 (by omega)
  ·rw [if_neg q];exact ⟨fun _=>by simpa using q,fun i h1 h2=>absurd h1 (by omega)⟩
theorem insAt_perm (lt:Int->Int->Bool) (x:Int) (out:List Int):(insAt lt x out).Perm (x::out):=by
 unfold insAt;refine List.perm_middle.trans ?_;rw [List.take_append_drop]
theorem insAt_sorted {lt:Int->Int->Bool} {P:Int->Prop} (hp:Pre lt P) {x:Int} {out:List Int} (hx:P x) (ho:∀ y ∈ out,P y) (hs:SortedLt lt out):SortedLt lt (insAt lt x out):=by
 unfold insAt SortedLt;obtain ⟨hl,hr⟩:=insPos_left (lt:=lt) (x:=x) (out:=out) out.length (Nat.le_refl _);have hle:=insPos_le lt x out out.length;generalize hq:insPos lt x out out.length=p at hl hr hle ⊢;rw [List.pairwise_append,List.pairwise_cons];have left:∀ a ∈ out.take p,lt x a=false:=by
  intro a ha;obtain ⟨i,hi,rfl⟩:=List.mem_take_iff_getElem.1 ha;have hi':i<p:=by omega
  have h0:=hl (by omega);rw [List.getD_eq_getElem?_getD,List.getElem?_eq_getElem (by omega),Option.getD_some] at h0;by_cases e:i=p - 1
  ·subst e;exact h0
  ·exact hp.trans _ _ _ (ho _ (List.getElem_mem _)) (ho _ (List.getElem_mem (by omega:p - 1<out.length))) hx ((List.pairwise_iff_getElem.1 hs) i (p - 1) (by omega) (by omega) (by omega)) h0
 have right:∀ b ∈ out.drop p,lt b x=false:=by
  intro b hb;obtain ⟨i,hi,rfl⟩:=List.mem_drop_iff_getElem.1 hb;have h0:=hr (p + i) (by omega) (by omega);rw [List.getD_eq_getElem?_getD,List.getElem?_eq_getElem (by omega),Option.getD_some] at h0;exact hp.asym _ _ hx (ho _ (List.getElem_mem _)) h0
 have hs':=hs;unfold SortedLt at hs';rw [<-List.take_append_drop p out,List.pairwise_append] at hs';refine ⟨hs'.1,⟨right,hs'.2.1⟩,fun a ha b hb=>?_⟩;rcases List.mem_cons.1 hb with rfl|hb
 ·exact left a ha
 ·exact hs'.2.2 a ha b hb
theorem insAll_perm (lt:Int->Int->Bool):∀ (l out:List Int),(insAll lt l out).Perm (l++out)
 | [],out=>List.Perm.refl _
 | x::l,out=>by
  rw [insAll];refine (insAll_perm lt l _).trans ?_;refine ((insAt_perm lt x out).append_left l).trans ?_;exact List.perm_middle
theorem insAll_sorted {lt:Int->Int->Bool} {P:Int->Prop} (hp:Pre lt P):∀ (l out:List Int),(∀ y ∈ l,P y)->(∀ y ∈ out,P y)->SortedLt lt out->SortedLt lt (insAll lt l out)
 | [],out,_,_,h=>h
 | x::l,out,hl,ho,h=>by
  rw [insAll];have hx:=hl x List.mem_cons_self;refine insAll_sorted hp l _ (fun y hy=>hl y (List.mem_cons_of_mem _ hy)) (fun y hy=>?_) (insAt_sorted hp hx ho h);rcases List.mem_cons.1 ((insAt_perm lt x out).mem_iff.1 hy) with rfl|hy
  ·exact hx
  ·exact ho y hy
/-- All numbers below n, sorted. -/
def sortN (lt:Int->Int->Bool) (n:Nat):List Int:=insAll lt (nums_to n) []
theorem sortN_perm (lt:Int->Int->Bool) (n:Nat):(sortN lt n).Perm (nums_to n):=by
 have:=insAll_perm lt (nums_to n) []
 rwa [List.append_nil] at this
theorem sortN_isPerm (lt:Int->Int->Bool) (n:Nat):IsPerm n (sortN lt n):=by
 have h:=sortN_perm lt n;refine ⟨by rw [h.length_eq,nums_to_length],h.nodup_iff.2 (nums_to_nodup n),fun x hx=>mem_nums_to.1 (h.mem_iff.1 hx)⟩
theorem impl_numbersTo.ev (n:Nat) (hn:n<=1048576):Ev (fun k=>impl_numbersTo.f k (n:Int)) (nums_to n):=by
 have ht:∀ i,i<n->(nums_to n).take i++[(i:Int)]=(nums_to n).take (i + 1):=by
  intro i hi;rw [List.take_succ_eq_append_getElem (by rw [nums_to_length];exact hi)];simp [nums_to]
 have key:=rev_ind (P:=fun i=>Ev (fun k=>impl_numbersTo.l0 k (n:Int) ((nums_to n).take i) (i:Int)) (nums_to n)) n ?_ ?_ 0 (Nat.zero_le _)
 ·simpa [impl_numbersTo.f] using key
 ·refine ev_stop fun k=>?_
  simp only [impl_numbersTo.l0];rw [if_neg (by omega),List.take_of_length_le (by rw [nums_to_length];omega)]
 ·intro i hi ih;rw [<-ht i hi] at ih;refine ev_go _ (fun k=>?_) ih;simp only [impl_numbersTo.l0];rw [if_pos (by omega),if_pos (by simp;omega),wr1 (by omega)]
/-- All orders of the numbers of a list, in lexicographic order if the list is rising. -/
def perms:Nat->List Int->List (List Int)
 | 0,_=>[[]]
 | n + 1,L=>L.flatMap fun x=>(perms n (L.erase x)).map fun l=>x::l
theorem perms_perm:∀ (n:Nat) (L l:List Int),L.length=n->l ∈ perms n L->l.Perm L
 | 0,L,l,hL,h=>by
  rw [perms,List.mem_singleton] at h;rw [h,List.eq_nil_of_length_eq_zero hL]
 | n + 1,L,l,hL,h=>by
  rw [perms,List.mem_flatMap] at h;obtain ⟨x,hx,h⟩:=h;obtain ⟨l',hl',rfl⟩:=List.mem_map.1 h;exact ((perms_perm n (L.erase x) l' (by rw [List.length_erase_of_mem hx];omega) hl').cons x).trans (List.perm_cons_erase hx).symm
/-- One list of orders behind the other: the next one has a greater number at the last place at which that can be. -/
def Nx (l l':List Int):Prop:=∃ a x r1 y r2,l=a++x::(r1++y::r2)/\(r1++y::r2).Pairwise (fun u v=>v<u)/\x<y/\(∀ z ∈ r2,z<x)/\l'=a++y::(r1++x::r2).reverse
theorem Nx.cons {l l':List Int} (b:Int) (h:Nx l l'):Nx (b::l) (b::l'):=by
 obtain ⟨a,x,r1,y,r2,rfl,h2,h3,h4,rfl⟩:=h;exact ⟨b::a,x,r1,y,r2,rfl,h2,h3,h4,rfl⟩
/-- Each of the lists is followed by its next one; a: the first, z: the last. -/
def Run (a z:List Int):List (List Int)->Prop
 | []=>False
 | p::t=>p=a/\match t with
  | []=>p=z
  | q::_=>Nx p q/\Run q z t
theorem Run.map {x:Int} : ∀ {P:List (List Int)} {a z:List Int},Run a z P->Run (x::a) (x::z) (P.map fun l=>x::l)
 | [],_,_,h=>h.elim
 | [p],a,z,h=>by
  obtain ⟨h1,h2⟩:=h;exact ⟨by rw [h1],show x::p=x::z by rw [show p=z from h2]⟩
 | p::q::t,a,z,h=>by
  obtain ⟨h1,h2,h3⟩:=h;exact ⟨by rw [h1],h2.cons x,Run.map h3⟩
theorem Run.head {P:List (List Int)} {a z:List Int} (h:Run a z P):∃ t,P=a::t:=by
 cases P with
 | nil=>exact h.elim
 | cons p t=>exact ⟨t,by rw [h.1]⟩
theorem Run.append:∀ {P Q:List (List Int)} {a z b y:List Int},Run a z P->Nx z b->Run b y Q->Run a y (P++Q)
 | [],_,_,_,_,_,h,_,_=>h.elim
 | [p],Q,a,z,b,y,h,n,hq=>by
  obtain ⟨t,rfl⟩:=hq.head;obtain ⟨h1,h2⟩:=h;have h2:p=z:=h2;exact ⟨h1,by rw [h2];exact n,hq⟩
 | p::q::t,Q,a,z,b,y,h,n,hq=>by
  obtain ⟨h1,h2,h3⟩:=h;exact ⟨h1,h2,Run.append h3 n hq⟩
theorem perms_run:∀ (n:Nat) (L:List Int),L.length=n->L.Pairwise (fun u v=>u<v)->Run L L.reverse (perms n L)
 | 0,L,h,_=>by
  rw [List.eq_nil_of_length_eq_zero h];exact ⟨rfl,rfl⟩
 | n + 1,L,h,hs=>by
  have key:∀ (L2 L1:List Int) (x:Int),L1++x::L2=L->Run (x::(L1++L2)) L.reverse ((x::L2).flatMap fun x=>(perms n (L.erase x)).map fun l=>x::l):=by
   have er:∀ (L1 L2:List Int) (x:Int),L1++x::L2=L->L.erase x=L1++L2:=by
    rintro L1 L2 x rfl;rw [List.erase_append_right]
    ·simp
    ·intro hx;have:=(List.pairwise_append.1 hs).2.2 x hx x List.mem_cons_self;omega
   have blk:∀ (L1 L2:List Int) (x:Int),L1++x::L2=L->Run (x::(L1++L2)) (x::(L1++L2).reverse) ((perms n (L.erase x)).map fun l=>x::l):=by
    intro L1 L2 x hx;rw [er L1 L2 x hx];refine Run.map (perms_run n (L1++L2) ?_ ?_)
    ·rw [<-hx] at h;simp at h ⊢;omega
    ·rw [<-er L1 L2 x hx];exact hs.sublist List.erase_sublist
   intro L2
   induction L2 with
   | nil=>
    intro L1 x hx;have:=blk L1 [] x hx;rw [List.append_nil] at this;rw [List.flatMap_cons,List.flatMap_nil,List.append_nil,List.append_nil,<-hx,List.reverse_append];rw [<-hx] at this;exact this
   | cons y L3 ih=>
    intro L1 x hx;rw [List.flatMap_cons];refine Run.append (blk L1 (y::L3) x hx) ?_ (ih (L1++[x]) y (by rw [<-hx];simp));rw [<-hx] at hs;have p1:=List.pairwise_append.1 hs;have p2:=List.pairwise_cons.1 p1.2.1;refine ⟨[],x,L3.reverse,y,L1.reverse,by simp,?_,p2.1 y List.mem_cons_self,fun z hz=>p1.2.2 z (List.mem_reverse.1 hz) x List.mem_cons_self,by simp⟩;have:L3.reverse++y::L1.reverse=(L1++y::L3).reverse:=by simp
    rw [this,List.pairwise_reverse];refine hs.sublist ?_;exact List.Sublist.append (List.Sublist.refl _) (List.sublist_cons_self _ _)
  cases L with
  | nil=>simp at h
  | cons x L2=>
   rw [perms];exact key L2 [] x rfl
theorem nums_to_sorted (n:Nat):(nums_to n).Pairwise fun u v=>u<v:=by
 unfold nums_to;rw [List.pairwise_map];exact List.pairwise_lt_range.imp (fun h=>by omega)
theorem perms_isPerm {n:Nat} {l:List Int} (h:l ∈ perms n (nums_to n)):IsPerm n l:=by
 have p:=perms_perm n (nums_to n) l (nums_to_length n) h;exact ⟨by rw [p.length_eq,nums_to_length],p.nodup_iff.2 (nums_to_nodup n),fun x hx=>mem_nums_to.1 (p.mem_iff.1 hx)⟩
/-- A fact that arithmetic needs not look at. -/
def Hide (p:Prop):Prop:=p
theorem rdM (a b:List Int) (x:Int) (i:Nat) (h:i=a.length):rd (a++x::b) (i:Int)=x:=by subst h;rw [rd_nat (by simp),List.getElem_append_right (Nat.le_refl _)];simp
theorem setM (a b:List Int) (x y:Int) (i:Nat) (h:i=a.length):(a++x::b).set i y=a++y::b:=by subst h;rw [List.set_append_right _ _ (Nat.le_refl _)];simp
theorem impl_nextOrder.rev (q:List Int):∀ (m:Nat) (p s q:List Int),s.length<=m->p.length + s.length + q.length<=1000000->Ev (fun k=>impl_nextOrder.l2 k (p++(s++q)) (p.length:Int) ((p.length:Int) + s.length - 1)) (true,p++(s.reverse++q))
 | 0,p,s,q,h,_=>by
  obtain rfl:=List.eq_nil_of_length_eq_zero (Nat.le_zero.1 h);refine ev_stop fun k=>?_
  simp only [impl_nextOrder.l2];rw [if_neg (by simp;omega)];rfl
 | m + 1,p,[],q,_,_=>by
  refine ev_stop fun k=>?_
  simp only [impl_nextOrder.l2];rw [if_neg (by simp;omega)];rfl
 | m + 1,p,[u],q,_,_=>by
  refine ev_stop fun k=>?_
  simp only [impl_nextOrder.l2];rw [if_neg (by simp)];rfl
 | m + 1,p,u::u2::t2,q,h,hb=>by
  obtain ⟨t,v,ht⟩:∃ t v,u2::t2=t++[v]:=⟨(u2::t2).dropLast,(u2::t2).getLast (by simp),(List.dropLast_concat_getLast (by simp)).symm⟩;rw [ht] at h hb ⊢;simp only [List.length_cons,List.length_append,List.length_nil] at h hb;have ih:=impl_nextOrder.rev q m (p++[v]) t (u::q) (by omega) (by simp;omega);have e1:((p.length:Int) + ((u::(t++[v])).length:Int) - 1)=((p.length + 1 + t.length:Nat):Int):=by simp;omega
  rw [e1];have l1:p++(u::(t++[v])++q)=p++u::(t++v::q):=by simp
  have l2:p++u::(t++v::q)=(p++u::t)++v::q:=by simp
  have r1:rd (p++u::(t++v::q)) (p.length:Int)=u:=rdM p _ u _ rfl;have r2:rd (p++u::(t++v::q)) ((p.length + 1 + t.length:Nat):Int)=v:=by rw [l2];exact rdM _ q v _ (by simp;omega)
  have hlen:(p++u::(t++v::q)).length=p.length + 1 + t.length + 1 + q.length:=by simp;omega
  rw [l1];refine ev_go _ (fun k=>?_) (show Ev (fun k=>impl_nextOrder.l2 k (p++[v]++(t++u::q)) (((p++[v]).length:Nat):Int) (((p++[v]).length:Int) + t.length - 1)) _ from ?_)
  ·simp only [impl_nextOrder.l2];rw [if_pos (by omega),if_pos (by omega),if_pos (by omega),if_pos (by omega),if_pos (by omega),r1,r2,wr1 (by omega),wr (x:=((p.length + 1 + t.length:Nat):Int) - 1) (by omega) (by omega),Int.toNat_natCast,Int.toNat_natCast,setM p _ u v _ rfl,show p++v::(t++v::q)=(p++v::t)++v::q by simp,setM (p++v::t) q v u _ (by simp;omega)]
   congr 1
   ·simp
   ·simp
   ·simp only [List.length_append,List.length_cons,List.length_nil];omega
  ·have e:p++((u::(t++[v])).reverse++q)=p++[v]++(t.reverse++u::q):=by simp
   rw [e];exact ih
theorem impl_nextOrder.down (l:List Int) (i:Nat) (hl:l.length<=1000000) (hd:∀ j (h:j + 1<l.length),i<j->l[j + 1]<l[j]) {R:Bool × List Int} (h:Ev (fun k=>impl_nextOrder.l0 k l (i:Int)) R):∀ j,i<=j->j + 1<l.length->Ev (fun k=>impl_nextOrder.l0 k l (j:Int)) R
 | 0,hi,hj=>by
  obtain rfl:i=0:=by omega
  exact h
 | j + 1,hi,hj=>by
  by_cases e:i=j + 1
  ·rw [<-e];exact h
  ·have ih:=impl_nextOrder.down l i hl hd h j (by omega) (by omega);have:=hd (j + 1) hj (by omega);refine ev_go _ (fun k=>?_) ih;have w1:wrap64 (((j + 1:Nat):Int) + 1)=((j + 1 + 1:Nat):Int):=wr1 (by omega);simp only [impl_nextOrder.l0];rw [w1,if_pos (by omega),if_pos (by omega),if_pos (by omega),if_pos (by omega),if_pos (by omega),rd_nat (by omega),rd_nat hj,if_pos this,wr (x:=((j + 1:Nat):Int) - 1) (by omega) (by omega),show ((j + 1:Nat):Int) - 1=(j:Int) by omega]
theorem impl_nextOrder.none (l:List Int) (hl:l.length<=1000000) (hd:l.Pairwise (fun u v=>v<u)):Ev (fun k=>impl_nextOrder.f k l) (false,l):=by
 unfold impl_nextOrder.f;have stop:∀ m:Int,m<0->Ev (fun k=>impl_nextOrder.l0 k l m) (false,l):=fun m hm=>by
  refine ev_go (fun k=>impl_nextOrder.j1 k l m) (fun k=>?_) (ev_stop fun k=>?_)
  ·simp only [impl_nextOrder.l0];rw [if_neg (by omega)]
  ·simp only [impl_nextOrder.j1];rw [if_pos hm]
 have hd':∀ j (h:j + 1<l.length),l[j + 1]<l[j]:=fun j h=>List.pairwise_iff_getElem.1 hd j (j + 1) (by omega) h (by omega)
 rw [wr (by omega) (by omega)];by_cases h2:l.length<=1
 ·exact stop _ (by omega)
 ·rw [show (l.length:Int) - 2=((l.length - 2:Nat):Int) by omega];refine impl_nextOrder.down l 0 hl (fun j h _=>hd' j h) ?_ (l.length - 2) (by omega) (by omega);refine ev_go _ (fun k=>?_) (stop (-1) (by omega));have h01:=hd' 0 (by omega);have w1:wrap64 (((0:Nat):Int) + 1)=((0 + 1:Nat):Int):=wr1 (by omega);simp only [impl_nextOrder.l0];rw [w1,if_pos (by omega),if_pos (by omega),if_pos (by omega),if_pos (by omega),if_pos (by omega),rd_nat (by omega),rd_nat (by omega),if_pos h01,wr (by omega) (by omega)]
  rfl
theorem impl_nextOrder.main (a r1 r2:List Int) (x y:Int) (hxy:Hide (x<y)) (l:List Int) (hl0:a++x::(r1++y::r2)=l) (hl:l.length<=1000000) (hlen:l.length=a.length + 1 + r1.length + 1 + r2.length) (hdesc:∀ j (h:j + 1<l.length),a.length<j->l[j + 1]<l[j]) (rx:Hide (rd l (a.length:Int)=x)) (ry:Hide (rd l ((a.length + 1 + r1.length:Nat):Int)=y)) (rz:∀ j,a.length + 1 + r1.length<j->j<l.length->rd l (j:Int)<x) (hx1:Hide (x<rd l ((a.length + 1:Nat):Int))):Ev (fun k=>impl_nextOrder.l0 k l (wrap64 ((l.length:Int) - 2))) (true,a++y::(r1++x::r2).reverse):=by
 rw [wr (by omega) (by omega),show (l.length:Int) - 2=((l.length - 2:Nat):Int) by omega];refine impl_nextOrder.down l a.length hl hdesc ?_ (l.length - 2) (by omega) (by omega);have w1:wrap64 ((a.length:Int) + 1)=((a.length + 1:Nat):Int):=wr1 (by omega);refine ev_go (fun k=>impl_nextOrder.j1 k l (a.length:Int)) (fun k=>?_) ?_
 ·simp only [impl_nextOrder.l0];rw [w1,if_pos (by omega),if_pos (by omega),if_pos (by omega),if_pos (by omega),if_pos (by omega),show rd l (a.length:Int)=x from rx,if_neg (show ¬ (x>rd l ((a.length + 1:Nat):Int)) from Int.not_lt.2 (Int.le_of_lt hx1))]
 refine ev_go (fun k=>impl_nextOrder.l1 k l (a.length:Int) ((l.length - 1:Nat):Int)) (fun k=>?_) ?_
 ·simp only [impl_nextOrder.j1];rw [if_neg (by omega),wr (by omega) (by omega),show (l.length:Int) - 1=((l.length - 1:Nat):Int) by omega]
 have back:∀ j,a.length + 1 + r1.length<=j->j<l.length->Ev (fun k=>impl_nextOrder.l1 k l (a.length:Int) (j:Int)) (true,a++y::(r1++x::r2).reverse):=by
  intro j
  induction j with
  | zero=>intro h;omega
  | succ j ih=>
   intro hj1 hj2;by_cases e:a.length + 1 + r1.length=j + 1
   ·have rev:=impl_nextOrder.rev [] (r1++x::r2).length (a++[y]) (r1++x::r2) [] (Nat.le_refl _) (by simp;omega);refine ev_go _ (fun k=>?_) (show Ev (fun k=>impl_nextOrder.l2 k ((a++[y])++((r1++x::r2)++[])) (((a++[y]).length:Nat):Int) (((a++[y]).length:Int) + (r1++x::r2).length - 1)) _ from ?_)
    ·simp only [impl_nextOrder.l1];rw [<-e,if_pos (by omega),if_pos (by omega),if_pos (by omega),if_pos (by omega),show rd l (a.length:Int)=x from rx,show rd l ((a.length + 1 + r1.length:Nat):Int)=y from ry,if_neg (show ¬ (y<x) from Int.not_lt.2 (Int.le_of_lt hxy)),w1,Int.toNat_natCast,Int.toNat_natCast,wr (by omega) (by omega),<-hl0,setM a _ x y _ rfl,show a++y::(r1++y::r2)=(a++y::r1)++y::r2 by simp,setM (a++y::r1) r2 y x _ (by simp;omega)]
     congr 1
     ·simp
     ·simp
     ·simp only [List.length_append,List.length_cons,List.length_nil];omega
    ·have:(true,a++y::(r1++x::r2).reverse)=(true,a++[y]++((r1++x::r2).reverse++[])):=by simp
     rw [this];exact rev
   ·refine ev_go _ (fun k=>?_) (ih (by omega) (by omega));have this:Hide (rd l ((j + 1:Nat):Int)<x):=rz (j + 1) (by omega) hj2;simp only [impl_nextOrder.l1];rw [if_pos (by omega),if_pos (by omega),if_pos (by omega),if_pos (by omega),show rd l (a.length:Int)=x from rx,if_pos (show rd l ((j + 1:Nat):Int)<x from this),wr (by omega) (by omega),show ((j + 1:Nat):Int) - 1=(j:Int) by omega]
 exact back (l.length - 1) (by omega) (by omega)
theorem impl_nextOrder.some (l l':List Int) (hl:l.length<=1000000) (h:Nx l l'):Ev (fun k=>impl_nextOrder.f k l) (true,l'):=by
 obtain ⟨a,x,r1,y,r2,rfl,hd,hxy,h2,rfl⟩:=h;unfold impl_nextOrder.f;have hlen:(a++x::(r1++y::r2)).length=a.length + 1 + r1.length + 1 + r2.length:=by simp;omega
 have eA:a++x::(r1++y::r2)=(a++[x])++(r1++y::r2):=by simp
 have gi:∀ j (h:j<(a++x::(r1++y::r2)).length) (h2:a.length<j),(a++x::(r1++y::r2))[j]=(r1++y::r2)[j - (a.length + 1)]'(by simp at h ⊢;omega):=fun j h h2=>by
  simp only [eA];rw [List.getElem_append_right (by simp;omega)];simp
 have hdesc:∀ j (h:j + 1<(a++x::(r1++y::r2)).length),a.length<j->(a++x::(r1++y::r2))[j + 1]<(a++x::(r1++y::r2))[j]:=fun j h hj=>by
  rw [gi j (by omega) hj,gi (j + 1) h (by omega)];exact List.pairwise_iff_getElem.1 hd _ _ _ _ (by omega)
 have rx:rd (a++x::(r1++y::r2)) (a.length:Int)=x:=rdM a _ x _ rfl;have eB:a++x::(r1++y::r2)=(a++x::r1)++y::r2:=by simp
 have ry:rd (a++x::(r1++y::r2)) ((a.length + 1 + r1.length:Nat):Int)=y:=by rw [eB];exact rdM _ r2 y _ (by simp;omega)
 have rz:∀ j,a.length + 1 + r1.length<j->j<(a++x::(r1++y::r2)).length->rd (a++x::(r1++y::r2)) (j:Int)<x:=fun j h1 h3=>by
  rw [rd_nat h3];refine h2 _ ?_;rw [gi j h3 (by omega),List.getElem_append_right (by omega),List.getElem_cons,dif_neg (by omega)];exact List.getElem_mem _
 have hx1:x<rd (a++x::(r1++y::r2)) ((a.length + 1:Nat):Int):=by
  rw [rd_nat (by omega),gi _ (by omega) (by omega)];cases r1 with
  | nil=>simpa using hxy
  | cons u r1=>
   have:=(List.pairwise_cons.1 hd).1 y (by simp);simp;omega
 exact impl_nextOrder.main a r1 r2 x y hxy _ rfl hl hlen hdesc rx ry rz hx1
/-- A function that is told all orders: the state that it leaves. -/
theorem impl_eachOrder.loop {σ:Type} (step:Nat->List Int->σ->Option σ) (upd:List Int->σ->σ) (Q:σ->Prop):∀ (P:List (List Int)) (a z:List Int) (s:σ),Run a z P->z.Pairwise (fun u v=>v<u)->(∀ l ∈ P,l.length<=1000000)->(∀ l ∈ P,∀ s,Q s->Ev (fun k=>step k l s) (upd l s)/\Q (upd l s))->Q s->Ev (fun k=>impl_eachOrder.l0 step k a s) (P.foldl (fun s l=>upd l s) s)
 | [],_,_,_,h,_,_,_,_=>h.elim
 | [p],a,z,s,h,hz,hl,hs,hq=>by
  obtain ⟨rfl,h2⟩:=h;obtain rfl:p=z:=h2;obtain ⟨e1,_⟩:=hs p List.mem_cons_self s hq;refine ev_go (fun k=>(step k p s).bind fun s'=>(impl_nextOrder.f k p).bind fun b=>if b.1=true then impl_eachOrder.l0 step k b.2 s' else some s') (fun k=>rfl) (ev_bind _ e1 (ev_bind _ (impl_nextOrder.none p (hl p List.mem_cons_self) hz) ?_));simp only [Bool.false_eq_true,if_false];exact Ev.now _
 | p::q::t,a,z,s,h,hz,hl,hs,hq=>by
  obtain ⟨rfl,h2,h3⟩:=h;obtain ⟨e1,q1⟩:=hs p List.mem_cons_self s hq;refine ev_go (fun k=>(step k p s).bind fun s'=>(impl_nextOrder.f k p).bind fun b=>if b.1=true then impl_eachOrder.l0 step k b.2 s' else some s') (fun k=>rfl) (ev_bind _ e1 (ev_bind _ (impl_nextOrder.some p q (hl p List.mem_cons_self) h2) ?_));simp only [if_true];exact impl_eachOrder.loop step upd Q (q::t) q z (upd p s) h3 hz (fun l h=>hl l (List.mem_cons_of_mem _ h)) (fun l h=>hs l (List.mem_cons_of_mem _ h)) q1
theorem impl_eachOrder.ev {σ:Type} (step:Nat->List Int->σ->Option σ) (upd:List Int->σ->σ) (Q:σ->Prop) (n:Nat) (hn:n<=1000000) (s:σ) (hs:∀ l,IsPerm n l->∀ s,Q s->Ev (fun k=>step k l s) (upd l s)/\Q (upd l s)) (hq:Q s):Ev (fun k=>impl_eachOrder.f step k (n:Int) s) ((perms n (nums_to n)).foldl (fun s l=>upd l s) s):=by
 unfold impl_eachOrder.f;refine ev_bind _ (impl_numbersTo.ev n (by omega)) ?_;refine impl_eachOrder.loop step upd Q _ _ _ s (perms_run n _ (nums_to_length n) (nums_to_sorted n)) ?_ (fun l hl=>by have:=(perms_isPerm hl).1;omega) (fun l hl=>hs l (perms_isPerm hl)) hq;rw [List.pairwise_reverse];exact nums_to_sorted n
/-- The numbers below n that are not in a list. -/
def restOf (n:Nat) (begun:List Int):List Int:=(nums_to n).filter fun y=>decide (y ∉ begun)
theorem restOf_erase (n:Nat) (begun:List Int) (x:Int):(restOf n begun).erase x=restOf n (begun++[x]):=by
 unfold restOf;have hn:=(nums_to_nodup n).filter (fun y=>decide (y ∉ begun));rw [List.Nodup.erase_eq_filter hn,List.filter_filter];refine List.filter_congr fun y _=>?_
 simp only [List.mem_append,List.mem_singleton,not_or,bne_iff_ne,Bool.decide_and,Bool.and_comm];by_cases e:y=x <;> simp [e]
theorem restOf_nil (n:Nat):restOf n []=nums_to n:=by unfold restOf;simp
/-- What is found by all orders that begin in some way. -/
def foldP {σ:Type} (upd:List Int->σ->σ):Nat->List Int->List Int->σ->σ
 | 0,_,begun,s=>upd begun s
 | n + 1,R,begun,s=>R.foldl (fun s x=>foldP upd n (R.erase x) (begun++[x]) s) s
theorem foldP_perms {σ:Type} (upd:List Int->σ->σ):∀ (n:Nat) (R begun:List Int) (s:σ),foldP upd n R begun s=(perms n R).foldl (fun s l=>upd (begun++l) s) s
 | 0,R,begun,s=>by simp [foldP,perms]
 | n + 1,R,begun,s=>by
  rw [foldP,perms,List.foldl_flatMap]
  congr 1
  funext s x
  rw [foldP_perms upd n,List.foldl_map];simp
/-- A search through all orders, as the reference makes it: each job that is not there yet is put behind those that are. -/
theorem rec_all {σ:Type} (N:Nat) (upd:List Int->σ->σ) (Q:σ->Prop) (G:Nat->List Int->σ->Option σ) (Lp:Nat->List Int->Int->σ->Option σ)
  (hbase:∀ begun s,IsPerm N begun->Q s->Ev (fun k=>G k begun s) (upd begun s)/\Q (upd begun s))
  (hgo:∀ begun s r,begun.length<N->Ev (fun k=>Lp k begun 0 s) r->Ev (fun k=>G k begun s) r)
  (hend:∀ begun s,begun.length<N->Ev (fun k=>Lp k begun (N:Int) s) s)
  (hskip:∀ begun (i:Nat) s r,begun.length<N->i<N->(i:Int) ∈ begun->Ev (fun k=>Lp k begun ((i + 1:Nat):Int) s) r->Ev (fun k=>Lp k begun (i:Int) s) r)
  (hrec:∀ begun (i:Nat) s s' r,begun.length<N->i<N->(i:Int) ∉ begun->Ev (fun k=>G k (begun++[(i:Int)]) s) s'->Ev (fun k=>Lp k begun ((i + 1:Nat):Int) s') r->Ev (fun k=>Lp k begun (i:Int) s) r) :
  ∀ (n:Nat) (begun:List Int) (s:σ),begun.length + n=N->begun.Nodup->(∀ x ∈ begun,0<=x/\x<(N:Int))->Q s->Ev (fun k=>G k begun s) (foldP upd n (restOf N begun) begun s)/\Q (foldP upd n (restOf N begun) begun s)
 | 0,begun,s,hl,hn,hr,hq=>by
  rw [foldP];exact hbase begun s ⟨by omega,hn,hr⟩ hq
 | n + 1,begun,s,hl,hn,hr,hq=>by
  have key:=rev_ind (P:=fun i=>∀ s,Q s->Ev (fun k=>Lp k begun (i:Int) s) ((((nums_to N).drop i).filter fun y=>decide (y ∉ begun)).foldl (fun s x=>foldP upd n ((restOf N begun).erase x) (begun++[x]) s) s)/\Q ((((nums_to N).drop i).filter fun y=>decide (y ∉ begun)).foldl (fun s x=>foldP upd n ((restOf N begun).erase x) (begun++[x]) s) s)) N ?_ ?_ 0 (Nat.zero_le _) s hq
  ·rw [foldP];exact ⟨hgo begun s _ (by omega) key.1,key.2⟩
  ·intro s hq;rw [List.drop_of_length_le (by rw [nums_to_length];omega)];exact ⟨hend begun s (by omega),hq⟩
  ·intro i hi ih s hq;have hi2:(nums_to N)[i]'(by rw [nums_to_length];exact hi)=(i:Int):=by simp [nums_to]
   rw [drop_cons (by rw [nums_to_length];exact hi),hi2];by_cases hb:(i:Int) ∈ begun
   ·rw [List.filter_cons_of_neg (by simpa using hb)];exact ⟨hskip begun i s _ (by omega) hi hb (ih s hq).1,(ih s hq).2⟩
   ·rw [List.filter_cons_of_pos (by simpa using hb),List.foldl_cons];have hrec1:=rec_all N upd Q G Lp hbase hgo hend hskip hrec n (begun++[(i:Int)]) s (by simp;omega) (by
     rw [List.nodup_append];refine ⟨hn,by simp,fun a ha b hb2 e=>?_⟩;rw [List.mem_singleton] at hb2;exact hb (by rw [<-hb2,<-e];exact ha)) (fun x hx=>by
     rcases List.mem_append.1 hx with hx|hx
     ·exact hr x hx
     ·rw [List.mem_singleton] at hx;omega) hq
    rw [<-restOf_erase] at hrec1;have nxt:=ih _ hrec1.2;exact ⟨hrec begun i s _ _ (by omega) hi hb hrec1.1 nxt.1,nxt.2⟩
theorem rec_start {σ:Type} (N:Nat) (upd:List Int->σ->σ) (s:σ):foldP upd N (restOf N []) [] s=(perms N (nums_to N)).foldl (fun s l=>upd l s) s:=by
 rw [foldP_perms,restOf_nil]
 rfl
/-- Two searches side by side. -/
theorem fold_sim {σ τ:Type} (R:σ->τ->Prop) (u:List Int->σ->σ) (v:List Int->τ->τ):∀ (P:List (List Int)) (s:σ) (t:τ),R s t->(∀ l ∈ P,∀ s t,R s t->R (u l s) (v l t))->R (P.foldl (fun s l=>u l s) s) (P.foldl (fun t l=>v l t) t)
 | [],_,_,h,_=>h
 | l::P,s,t,h,hs=>by
  rw [List.foldl_cons,List.foldl_cons];exact fold_sim R u v P _ _ (hs l List.mem_cons_self s t h) (fun l h=>hs l (List.mem_cons_of_mem _ h))
theorem perms_ne:∀ (n:Nat) (L:List Int),L.length=n->perms n L≠[]
 | 0,L,h=>by rw [perms];simp
 | n + 1,L,h=>by
  cases L with
  | nil=>simp at h
  | cons x t=>
   rw [perms,List.flatMap_cons];have:=perms_ne n ((x::t).erase x) (by rw [List.length_erase_of_mem List.mem_cons_self];simp at h ⊢;omega);intro c;have c1:=(List.append_eq_nil_iff.1 c).1;rw [List.map_eq_nil_iff] at c1;exact this c1
abbrev A2:=S42
theorem rdA2 {l:List A2} {i:Nat} (h:i<l.length):rd_T42 l (i:Int)=l[i]:=by simp [rd_T42,h]
/-- A square table of bools. -/
abbrev BF:=Nat->Nat->Bool
def tbl (n:Nat) (f:BF):List (List Bool):=(List.range n).map fun i=>(List.range n).map fun j=>f i j
def upd2 (f:BF) (i j:Nat) (v:Bool):BF:=fun a b=>if a=i/\b=j then v else f a b
theorem tbl_length (n:Nat) (f:BF):(tbl n f).length=n:=by simp [tbl]
theorem tbl_row {n:Nat} {f:BF} {i:Nat} (h:i<n):rd_L5 (tbl n f) (i:Int)=(List.range n).map fun j=>f i j:=by simp [rd_L5,tbl,h]
theorem tbl_rowlen {n:Nat} {f:BF} {i:Nat} (h:i<n):(rd_L5 (tbl n f) (i:Int)).length=n:=by rw [tbl_row h];simp
theorem tbl_at {n:Nat} {f:BF} {i j:Nat} (h:i<n) (h2:j<n):rdOf false (rd_L5 (tbl n f) (i:Int)) (j:Int)=f i j:=by rw [tbl_row h];simp [rdOf,h2]
theorem tbl_set {n:Nat} {f:BF} {i j:Nat} (h:i<n) (h2:j<n) (v:Bool):(tbl n f).set i ((rd_L5 (tbl n f) (i:Int)).set j v)=tbl n (upd2 f i j v):=by
 rw [tbl_row h]
 apply List.ext_getElem
 ·simp [tbl]
 ·intro a h3 h4;simp only [tbl,List.length_map,List.length_range] at h4;rw [List.getElem_set];by_cases e:i=a
  ·subst e;rw [if_pos rfl]
   apply List.ext_getElem
   ·simp [tbl]
   ·intro b h5 h6;simp only [List.length_set,List.length_map,List.length_range] at h5;rw [List.getElem_set];simp only [tbl,List.getElem_map,List.getElem_range,upd2];by_cases e2:j=b
    ·subst e2;simp
    ·rw [if_neg e2,if_neg (by rintro ⟨_,h⟩;exact e2 h.symm)]
  ·rw [if_neg e];simp only [tbl,List.getElem_map,List.getElem_range,upd2]
   congr 1
   funext b
   rw [if_neg (by rintro ⟨h,_⟩;exact e h.symm)]
/-- The pairs, laid into a table. -/
def edgF:List A2->BF->BF
 | [],f=>f
 | e::E,f=>edgF E (upd2 f e.f0.toNat e.f1.toNat true)
/-- Warshall's rounds. -/
def fwS (k i j:Nat) (f:BF):BF:=upd2 f i j (f i j || (f i k && f k j))
def fwJ (k i:Nat):List Nat->BF->BF:=fun L f=>L.foldl (fun f j=>fwS k i j f) f
def fwI (n k:Nat):List Nat->BF->BF:=fun L f=>L.foldl (fun f i=>fwJ k i (List.range n) f) f
def fwK (n:Nat):List Nat->BF->BF:=fun L f=>L.foldl (fun f k=>fwI n k (List.range n) f) f
def cloF (n:Nat) (E:List A2):BF:=fwK n (List.range n) (edgF E fun _ _=>false)
def EdgIn (n:Nat) (E:List A2):Prop:=∀ e ∈ E,(0<=e.f0/\e.f0<(n:Int))/\(0<=e.f1/\e.f1<(n:Int))
theorem range_drop {n i:Nat} (h:i<n):(List.range n).drop i=i::(List.range n).drop (i + 1):=by rw [drop_cons (by simpa using h)];simp
theorem fwS_same (k i j:Nat) (f:BF) (h:(f i k && f k j)=false):fwS k i j f=f:=by
 funext a b
 unfold fwS upd2;by_cases e:a=i/\b=j
 ·rw [if_pos e,e.1,e.2,h,Bool.or_false]
 ·rw [if_neg e]
theorem impl_closure.ev (n:Nat) (E:List A2) (hn:n<=8) (hE:E.length<=1000000) (hin:EdgIn n E):Ev (fun k=>impl_closure.f k (n:Int) E) (tbl n (cloF n E)):=by
 unfold impl_closure.f;rw [show (fun k=>if 0<=(n:Int) then (if ((n:Int):Int).toNat<=11728124029610 then ((some (List.replicate ((n:Int):Int).toNat []:List (List Bool))).bind fun y167=>(impl_closure.l0 k (n:Int) E y167 (y167.length:Int) 0)) else none) else none)=fun k=>impl_closure.l0 k (n:Int) E (List.replicate n ([]:List Bool)) (n:Int) 0 from funext fun k=>by rw [if_pos (by omega),if_pos (by omega),Option.bind_some,Int.toNat_natCast,List.length_replicate]];have l4:∀ (a i:Nat) (R:List (List Bool)),a<n->i<n->∀ j,j<=n->∀ f:BF,Ev (fun k=>impl_closure.l3 k (n:Int) (tbl n (fwJ a i ((List.range n).drop j) f)) (a:Int) ((i + 1:Nat):Int)) R->Ev (fun k=>impl_closure.l4 k (n:Int) (tbl n f) (a:Int) (i:Int) (j:Int)) R:=by
  intro a i R ha hi;refine rev_ind (P:=fun j=>∀ f:BF,Ev (fun k=>impl_closure.l3 k (n:Int) (tbl n (fwJ a i ((List.range n).drop j) f)) (a:Int) ((i + 1:Nat):Int)) R->Ev (fun k=>impl_closure.l4 k (n:Int) (tbl n f) (a:Int) (i:Int) (j:Int)) R) n ?_ ?_
  ·intro f h;rw [List.drop_of_length_le (by simp)] at h;refine ev_go _ (fun k=>?_) h;simp only [impl_closure.l4];rw [if_neg (by omega),wr1 (by omega)];rfl
  ·intro j hj ih f h;rw [range_drop hj] at h;have hs:=ih (fwS a i j f) h;refine ev_go _ (fun k=>?_) hs;simp only [impl_closure.l4];rw [if_pos (by omega),if_pos (by omega),if_pos (by rw [tbl_length];omega),if_pos (by omega),if_pos (by rw [tbl_rowlen hi];omega),tbl_at hi hj,wr1 (by omega)];simp only [Int.toNat_natCast];by_cases c1:f i j=true
   ·rw [if_pos c1,tbl_set hi hj,fwS,c1];rfl
   ·have c1:f i j=false:=by simpa using c1
    rw [if_neg (by rw [c1];simp),if_pos (by omega),if_pos (by rw [tbl_rowlen hi];omega),tbl_at hi ha];by_cases c2:f i a=true
    ·rw [if_pos c2,if_pos (by rw [tbl_length];omega),if_pos (by rw [tbl_rowlen ha];omega),tbl_at ha hj,tbl_set hi hj,fwS,c1,c2];simp
    ·have c2:f i a=false:=by simpa using c2
     rw [if_neg (by rw [c2];simp),tbl_set hi hj,fwS,c1,c2];simp
 have l3:∀ (a:Nat) (R:List (List Bool)),a<n->∀ i,i<=n->∀ f:BF,Ev (fun k=>impl_closure.l2 k (n:Int) (tbl n (fwI n a ((List.range n).drop i) f)) ((a + 1:Nat):Int)) R->Ev (fun k=>impl_closure.l3 k (n:Int) (tbl n f) (a:Int) (i:Int)) R:=by
  intro a R ha;refine rev_ind (P:=fun i=>∀ f:BF,Ev (fun k=>impl_closure.l2 k (n:Int) (tbl n (fwI n a ((List.range n).drop i) f)) ((a + 1:Nat):Int)) R->Ev (fun k=>impl_closure.l3 k (n:Int) (tbl n f) (a:Int) (i:Int)) R) n ?_ ?_
  ·intro f h;rw [List.drop_of_length_le (by simp)] at h;refine ev_go _ (fun k=>?_) h;simp only [impl_closure.l3];rw [if_neg (by omega),wr1 (by omega)];rfl
  ·intro i hi ih f h;rw [range_drop hi] at h;refine ev_go (fun k=>impl_closure.l4 k (n:Int) (tbl n f) (a:Int) (i:Int) 0) (fun k=>?_) (l4 a i R ha hi 0 (Nat.zero_le _) f (ih _ h));simp only [impl_closure.l3];rw [if_pos (by omega)]
 have l2:∀ a,a<=n->∀ f:BF,Ev (fun k=>impl_closure.l2 k (n:Int) (tbl n f) (a:Int)) (tbl n (fwK n ((List.range n).drop a) f)):=by
  refine rev_ind (P:=fun a=>∀ f:BF,Ev (fun k=>impl_closure.l2 k (n:Int) (tbl n f) (a:Int)) (tbl n (fwK n ((List.range n).drop a) f))) n ?_ ?_
  ·intro f;rw [List.drop_of_length_le (by simp)];refine ev_stop fun k=>?_
   simp only [impl_closure.l2];rw [if_neg (by omega)];rfl
  ·intro a ha ih f;rw [range_drop ha];refine ev_go (fun k=>impl_closure.l3 k (n:Int) (tbl n f) (a:Int) 0) (fun k=>?_) (l3 a _ ha 0 (Nat.zero_le _) f (ih _));simp only [impl_closure.l2];rw [if_pos (by omega)]
 have l1:∀ i,i<=E.length->∀ f:BF,Ev (fun k=>impl_closure.l1 k (n:Int) (tbl n f) E (E.length:Int) (i:Int)) (tbl n (fwK n (List.range n) (edgF (E.drop i) f))):=by
  refine rev_ind (P:=fun i=>∀ f:BF,Ev (fun k=>impl_closure.l1 k (n:Int) (tbl n f) E (E.length:Int) (i:Int)) (tbl n (fwK n (List.range n) (edgF (E.drop i) f)))) E.length ?_ ?_
  ·intro f;rw [List.drop_length];refine ev_go _ (fun k=>?_) (l2 0 (Nat.zero_le _) f);simp only [impl_closure.l1];rw [if_neg (by omega)];rfl
  ·intro i hi ih f;obtain ⟨⟨h1,h2⟩,h3,h4⟩:=hin _ (List.getElem_mem hi);rw [drop_cons hi,edgF];refine ev_go _ (fun k=>?_) (ih _);obtain ⟨x,hx⟩:=Int.eq_ofNat_of_zero_le h1;obtain ⟨y,hy⟩:=Int.eq_ofNat_of_zero_le h3;simp only [impl_closure.l1];rw [if_pos (by omega),if_pos (by omega),if_pos (by omega),rdA2 hi,hx,hy,if_pos (by omega),if_pos (by rw [tbl_length];omega),if_pos (by omega),if_pos (by rw [tbl_rowlen (by omega)];omega),wr1 (by omega)];simp only [Int.toNat_natCast];rw [tbl_set (by omega) (by omega)]
 have l0:=rev_ind (P:=fun i=>Ev (fun k=>impl_closure.l0 k (n:Int) E ((tbl n fun _ _=>false).take i++(List.replicate n ([]:List Bool)).drop i) (n:Int) (i:Int)) (tbl n (cloF n E))) n ?_ ?_ 0 (Nat.zero_le _)
 ·simpa using l0
 ·refine ev_go _ (fun k=>?_) (l1 0 (Nat.zero_le _) fun _ _=>false);simp only [impl_closure.l0];rw [if_neg (by omega),List.take_of_length_le (by rw [tbl_length];omega),List.drop_of_length_le (by simp),List.append_nil];rfl
 ·intro i hi ih;have hlen:((tbl n fun _ _=>false).take i++(List.replicate n ([]:List Bool)).drop i).length=n:=by simp [tbl];omega
  refine ev_go _ (fun k=>?_) ih;simp only [impl_closure.l0];rw [if_pos (by omega),if_pos (by omega),if_pos (by omega),if_pos (by omega),if_pos (by rw [hlen];omega),wr1 (by omega)];have:=set_copy (l:=tbl n fun _ _=>false) (z:=List.replicate n ([]:List Bool)) (i:=i) (by rw [tbl_length];exact hi) (by simpa using hi);rw [<-this];simp [tbl,List.map_const']
theorem spec_l4Table.ev (n:Nat) (E:List A2) (hn:n<=8) (hE:E.length<=1000000) (hin:EdgIn n E):Ev (fun k=>spec_l4Table.f k (n:Int) E) (tbl n (cloF n E)):=by
 unfold spec_l4Table.f;have l4:∀ (a i:Nat) (R:List (List Bool)),a<n->i<n->∀ j,j<=n->∀ f:BF,Ev (fun k=>spec_l4Table.l3 k (n:Int) (tbl n (fwJ a i ((List.range n).drop j) f)) (a:Int) ((i + 1:Nat):Int)) R->Ev (fun k=>spec_l4Table.l4 k (n:Int) (tbl n f) (a:Int) (i:Int) (j:Int)) R:=by
  intro a i R ha hi;refine rev_ind (P:=fun j=>∀ f:BF,Ev (fun k=>spec_l4Table.l3 k (n:Int) (tbl n (fwJ a i ((List.range n).drop j) f)) (a:Int) ((i + 1:Nat):Int)) R->Ev (fun k=>spec_l4Table.l4 k (n:Int) (tbl n f) (a:Int) (i:Int) (j:Int)) R) n ?_ ?_
  ·intro f h;rw [List.drop_of_length_le (by simp)] at h;refine ev_go _ (fun k=>?_) h;simp only [spec_l4Table.l4];rw [if_neg (by omega),wr1 (by omega)];rfl
  ·intro j hj ih f h;rw [range_drop hj] at h;have hs:=ih (fwS a i j f) h;refine ev_go _ (fun k=>?_) hs;simp only [spec_l4Table.l4];rw [if_pos (by omega),if_pos (by omega),if_pos (by rw [tbl_length];omega),if_pos (by omega),if_pos (by rw [tbl_rowlen hi];omega),tbl_at hi ha,wr1 (by omega)];simp only [Int.toNat_natCast];by_cases c2:f i a=true
   ·rw [if_pos c2,if_pos (by rw [tbl_length];omega),if_pos (by omega),if_pos (by rw [tbl_rowlen ha];omega),tbl_at ha hj];by_cases c1:f a j=true
    ·rw [if_pos c1,if_pos (by rw [tbl_rowlen hi];omega),tbl_set hi hj,fwS,c1,c2];simp
    ·have c1:f a j=false:=by simpa using c1
     rw [if_neg (by rw [c1];simp),fwS_same a i j f (by rw [c1,Bool.and_false])]
   ·have c2:f i a=false:=by simpa using c2
    rw [if_neg (by rw [c2];simp),fwS_same a i j f (by rw [c2,Bool.false_and])]
 have l3:∀ (a:Nat) (R:List (List Bool)),a<n->∀ i,i<=n->∀ f:BF,Ev (fun k=>spec_l4Table.l2 k (n:Int) (tbl n (fwI n a ((List.range n).drop i) f)) ((a + 1:Nat):Int)) R->Ev (fun k=>spec_l4Table.l3 k (n:Int) (tbl n f) (a:Int) (i:Int)) R:=by
  intro a R ha;refine rev_ind (P:=fun i=>∀ f:BF,Ev (fun k=>spec_l4Table.l2 k (n:Int) (tbl n (fwI n a ((List.range n).drop i) f)) ((a + 1:Nat):Int)) R->Ev (fun k=>spec_l4Table.l3 k (n:Int) (tbl n f) (a:Int) (i:Int)) R) n ?_ ?_
  ·intro f h;rw [List.drop_of_length_le (by simp)] at h;refine ev_go _ (fun k=>?_) h;simp only [spec_l4Table.l3];rw [if_neg (by omega),wr1 (by omega)];rfl
  ·intro i hi ih f h;rw [range_drop hi] at h;refine ev_go (fun k=>spec_l4Table.l4 k (n:Int) (tbl n f) (a:Int) (i:Int) 0) (fun k=>?_) (l4 a i R ha hi 0 (Nat.zero_le _) f (ih _ h));simp only [spec_l4Table.l3];rw [if_pos (by omega)]
 have l2:∀ a,a<=n->∀ f:BF,Ev (fun k=>spec_l4Table.l2 k (n:Int) (tbl n f) (a:Int)) (tbl n (fwK n ((List.range n).drop a) f)):=by
  refine rev_ind (P:=fun a=>∀ f:BF,Ev (fun k=>spec_l4Table.l2 k (n:Int) (tbl n f) (a:Int)) (tbl n (fwK n ((List.range n).drop a) f))) n ?_ ?_
  ·intro f;rw [List.drop_of_length_le (by simp)];refine ev_stop fun k=>?_
   simp only [spec_l4Table.l2];rw [if_neg (by omega)];rfl
  ·intro a ha ih f;rw [range_drop ha];refine ev_go (fun k=>spec_l4Table.l3 k (n:Int) (tbl n f) (a:Int) 0) (fun k=>?_) (l3 a _ ha 0 (Nat.zero_le _) f (ih _));simp only [spec_l4Table.l2];rw [if_pos (by omega)]
 have l1:∀ i,i<=E.length->∀ f:BF,Ev (fun k=>spec_l4Table.l1 k (n:Int) E (tbl n f) (i:Int)) (tbl n (fwK n (List.range n) (edgF (E.drop i) f))):=by
  refine rev_ind (P:=fun i=>∀ f:BF,Ev (fun k=>spec_l4Table.l1 k (n:Int) E (tbl n f) (i:Int)) (tbl n (fwK n (List.range n) (edgF (E.drop i) f)))) E.length ?_ ?_
  ·intro f;rw [List.drop_length];refine ev_go _ (fun k=>?_) (l2 0 (Nat.zero_le _) f);simp only [spec_l4Table.l1];rw [if_neg (by omega)];rfl
  ·intro i hi ih f;obtain ⟨⟨h1,h2⟩,h3,h4⟩:=hin _ (List.getElem_mem hi);rw [drop_cons hi,edgF];refine ev_go _ (fun k=>?_) (ih _);obtain ⟨x,hx⟩:=Int.eq_ofNat_of_zero_le h1;obtain ⟨y,hy⟩:=Int.eq_ofNat_of_zero_le h3;simp only [spec_l4Table.l1];rw [if_pos (by omega),if_pos (by omega),rdA2 hi,hx,hy,if_pos (by omega),if_pos (by rw [tbl_length];omega),if_pos (by omega),if_pos (by rw [tbl_rowlen (by omega)];omega),wr1 (by omega)];simp only [Int.toNat_natCast];rw [tbl_set (by omega) (by omega)]
 have l0:=rev_ind (P:=fun i=>Ev (fun k=>spec_l4Table.l0 k (n:Int) E ((tbl n fun _ _=>false).take i) (i:Int)) (tbl n (cloF n E))) n ?_ ?_ 0 (Nat.zero_le _)
 ·simpa using l0
 ·refine ev_go _ (fun k=>?_) (l1 0 (Nat.zero_le _) fun _ _=>false);simp only [spec_l4Table.l0];rw [if_neg (by omega),List.take_of_length_le (by rw [tbl_length];omega)];rfl
 ·intro i hi ih;have ht:(tbl n fun _ _=>false).take i++[List.replicate n false]=(tbl n fun _ _=>false).take (i + 1):=by
   rw [List.take_succ_eq_append_getElem (by rw [tbl_length];exact hi)];simp [tbl,List.map_const']
  rw [<-ht] at ih;refine ev_go _ (fun k=>?_) ih;simp only [spec_l4Table.l0];rw [if_pos (by omega),if_pos (by omega),if_pos (by omega),if_pos (by rw [List.length_take,tbl_length];omega),wr1 (by omega)]
  rfl
def LexLt (a b:A2):Prop:=a.f0<b.f0\/a.f0=b.f0/\a.f1<b.f1
instance (a b:A2):Decidable (LexLt a b):=inferInstanceAs (Decidable (_\/_))
def eAt (E:List A2) (i:Nat):A2:=rd_T42 E (i:Int)
theorem eAt_eq {E:List A2} {i:Nat} (h:i<E.length):eAt E i=E[i]:=rdA2 h
/-- What is asked of a pair (m: the greatest number). -/
def PairAt (m:Int) (E:List A2) (i:Nat):Prop:=(0<=(eAt E i).f0/\(eAt E i).f0<=m)/\(0<=(eAt E i).f1/\(eAt E i).f1<=m)/\(eAt E i).f0≠(eAt E i).f1/\(i=0\/LexLt (eAt E (i - 1)) (eAt E i))
instance (m:Int) (E:List A2) (i:Nat):Decidable (PairAt m E i):=inferInstanceAs (Decidable (_/\_))
def PairsOk (n:Int) (E:List A2):Prop:=(0<=n/\n<=8)/\E.length<=28/\∀ i,i<E.length->PairAt (n - 1) E i
def DiagOk (n:Nat) (f:BF):Prop:=∀ i,i<n->f i i=false
def PrecOk (n:Int) (E:List A2):Prop:=PairsOk n E/\DiagOk n.toNat (cloF n.toNat E)
theorem PairsOk.edg {n:Nat} {E:List A2} (h:∀ i,i<E.length->PairAt ((n:Int) - 1) E i):EdgIn n E:=by
 intro e he;obtain ⟨i,hi,rfl⟩:=List.getElem_of_mem he;have:=h i hi;unfold PairAt at this;rw [eAt_eq hi] at this;omega
theorem wf_lim {n:Int} (h:(Lit.int .i64 n).wf=true) : -9223372036854775808<=n/\n<=9223372036854775807:=by
 simp [Lit.wf,IntKind.min,IntKind.max,IntKind.signed,IntKind.bits] at h;omega
theorem spec_l4Before.eq (a b:A2):spec_l4Before.f a.f0 a.f1 b.f0 b.f1=some (decide (LexLt a b)):=by
 unfold spec_l4Before.f;by_cases h:a.f0<b.f0
 ·rw [if_pos h,decide_eq_true (show LexLt a b from .inl h)]
 ·rw [if_neg h];by_cases h2:a.f0=b.f0
  ·rw [if_pos h2];by_cases h3:a.f1<b.f1
   ·rw [decide_eq_true h3,decide_eq_true (show LexLt a b from .inr ⟨h2,h3⟩)]
   ·rw [decide_eq_false h3,decide_eq_false (show ¬ LexLt a b from by rintro (h4|h4);exact h h4;exact h3 h4.2)]
  ·rw [if_neg h2,decide_eq_false (show ¬ LexLt a b from by rintro (h4|h4);exact h h4;exact h2 h4.1)]
theorem spec_l4Pairs.ev (n:Int) (E:List A2) (hn:(Lit.int .i64 n).wf=true) (hE:E.length<=1000000000):EvB (fun k=>spec_l4Pairs.f k n E) (PairsOk n E):=by
 have hn2 : -9223372036854775808<=n/\n<=9223372036854775807:=wf_lim hn;unfold spec_l4Pairs.f;have key:=evB_loop E.length (fun i k=>spec_l4Pairs.l0 k n E (i:Int)) (fun i=>PairAt (wrap64 (n - 1)) E i) ((0<=n/\n<=8)/\E.length<=28) ?_ ?_
 ·refine evB_iff key ⟨fun h=>?_,fun h=>?_⟩
  ·have hw:wrap64 (n - 1)=n - 1:=wr (by omega) (by omega);rw [hw] at h;exact ⟨h.2.1,h.2.2,h.1⟩
  ·have hw:wrap64 (n - 1)=n - 1:=wr (by have:=h.1;omega) (by have:=h.1;omega);rw [hw];exact ⟨h.2.2,h.1,h.2.1⟩
 ·refine evB_of (fun h=>ev_stop fun k=>?_) (fun h=>ev_stop fun k=>?_)
  ·simp only [spec_l4Pairs.l0];rw [if_neg (by omega),spec_l1In.eq,Option.bind_some,if_pos (by simpa using h.1),decide_eq_true (by omega)]
  ·simp only [spec_l4Pairs.l0];rw [if_neg (by omega),spec_l1In.eq,Option.bind_some];by_cases h1:0<=n/\n<=8
   ·rw [if_pos (by simpa using h1),decide_eq_false (by omega)]
   ·rw [if_neg (by simpa using h1)]
 ·intro i hi R hR;refine evB_leaf _ (fun h k=>?_) (fun h k=>?_) hR
  ·obtain ⟨h1,h2,h3,h4⟩:=h;simp only [eAt] at h1 h2 h3 h4;simp only [spec_l4Pairs.l0];rw [if_pos (by omega),if_pos (by omega),spec_l1In.eq,Option.bind_some,if_pos (by simpa using h1),spec_l1In.eq,Option.bind_some,if_pos (by simpa using h2),if_neg h3,wr1 (by omega)];by_cases h5:i=0
   ·rw [if_neg (by omega)]
   ·have hw:wrap64 ((i:Int) - 1)=((i - 1:Nat):Int):=by rw [wr (by omega) (by omega)];omega
    rw [if_pos (by omega),hw,if_pos (by omega),if_pos (by omega),spec_l4Before.eq,Option.bind_some,if_pos (by simpa using h4.resolve_left h5)]
  ·simp only [spec_l4Pairs.l0];rw [if_pos (by omega),if_pos (by omega),spec_l1In.eq,Option.bind_some];by_cases h1:0<=(rd_T42 E (i:Int)).f0/\(rd_T42 E (i:Int)).f0<=wrap64 (n - 1)
   ·rw [if_pos (by simpa using h1),spec_l1In.eq,Option.bind_some];by_cases h2:0<=(rd_T42 E (i:Int)).f1/\(rd_T42 E (i:Int)).f1<=wrap64 (n - 1)
    ·rw [if_pos (by simpa using h2)];by_cases h3:(rd_T42 E (i:Int)).f0=(rd_T42 E (i:Int)).f1
     ·rw [if_pos h3]
     ·rw [if_neg h3];have h5:¬ (i=0):=fun h5=>h ⟨h1,h2,h3,.inl h5⟩
      have hw:wrap64 ((i:Int) - 1)=((i - 1:Nat):Int):=by rw [wr (by omega) (by omega)];omega
      rw [if_pos (by omega),hw,if_pos (by omega),if_pos (by omega),spec_l4Before.eq,Option.bind_some,if_neg (by intro h6;exact h ⟨h1,h2,h3,.inr (by simpa [eAt] using h6)⟩)]
    ·rw [if_neg (by simpa using h2)]
   ·rw [if_neg (by simpa using h1)]
theorem spec_l4Good.ev (n:Int) (E:List A2) (hn:(Lit.int .i64 n).wf=true) (hE:E.length<=1000000000):EvB (fun k=>spec_l4Good.f k n E) (PrecOk n E):=by
 unfold spec_l4Good.f;have e1:=spec_l4Pairs.ev n E hn hE;by_cases h:PairsOk n E
 ·obtain ⟨m,rfl⟩:=Int.eq_ofNat_of_zero_le h.1.1;have h8:=h.1;have h28:=h.2.1;have e2:=spec_l4Table.ev m E (by omega) (by omega) (PairsOk.edg h.2.2);generalize hf:cloF m E=f at e2;have e3:EvB (fun k=>spec_l4Good.l0 k (m:Int) (tbl m f) 0) (DiagOk m f):=by
   have key:=evB_loop m (fun i k=>spec_l4Good.l0 k (m:Int) (tbl m f) (i:Int)) (fun i=>f i i=false) True ?_ ?_
   ·exact evB_iff key ⟨fun h=>h.1,fun h=>⟨h,trivial⟩⟩
   ·exact evB_of (fun _=>ev_stop fun k=>by simp only [spec_l4Good.l0];rw [if_neg (by omega)]) (fun h=>absurd trivial h)
   ·intro i hi R hR;refine evB_leaf _ (fun h k=>?_) (fun h k=>?_) hR
    ·simp only [spec_l4Good.l0];rw [if_pos (by omega),if_pos (by omega),if_pos (by rw [tbl_length];omega),if_pos (by rw [tbl_rowlen hi];omega),tbl_at hi hi,h,if_neg (by simp),wr1 (by omega)]
    ·simp only [spec_l4Good.l0];rw [if_pos (by omega),if_pos (by omega),if_pos (by rw [tbl_length];omega),if_pos (by rw [tbl_rowlen hi];omega),tbl_at hi hi,if_pos (by simpa using h)]
  obtain ⟨b,hb,eb⟩:=e3;refine ⟨b,ev_guard' e1 (fun _=>ev_bind _ e2 hb) (fun hn=>absurd h hn),eb.trans ⟨fun h2=>⟨h,by rw [Int.toNat_natCast,hf];exact h2⟩,fun h2=>by have:=h2.2;rwa [Int.toNat_natCast,hf] at this⟩⟩
 ·exact evB_of (fun h2=>absurd h2.1 h) (fun _=>ev_guard' e1 (fun h2=>absurd h2 h) (fun _=>Ev.now _))
theorem impl_IsPrecedence.ev (n:Int) (E:List A2) (hE:E.length<=1000000000):EvB (fun k=>impl_IsPrecedence.f k n E) (PrecOk n E):=by
 unfold impl_IsPrecedence.f;by_cases h0:0<=n/\n<=8
 ·obtain ⟨m,rfl⟩:=Int.eq_ofNat_of_zero_le h0.1;have w0:(fun k=>(impl_within.f (m:Int) 0 8).bind fun t197=>(if t197=true then (impl_IsPrecedence.j0 k (m:Int) E (decide ((E.length:Int)>28))) else (impl_IsPrecedence.j0 k (m:Int) E true)))=fun k=>impl_IsPrecedence.j0 k (m:Int) E (decide ((E.length:Int)>28)):=funext fun k=>by rw [impl_within.eq,Option.bind_some,if_pos (by simpa using h0)]
  rw [w0];by_cases h28:E.length<=28
  ·rw [decide_eq_false (by omega)];have key:=evB_loopC E.length (fun i k=>impl_IsPrecedence.l0 k (m:Int) E E (E.length:Int) (i:Int)) (fun i=>PairAt ((m:Int) - 1) E i) (DiagOk m (cloF m E)) ?_ ?_
   ·refine evB_iff (evB_step (fun k=>impl_IsPrecedence.l0 k (m:Int) E E (E.length:Int) 0) (fun k=>by simp only [impl_IsPrecedence.j0];rw [if_neg (by simp)]) key) ⟨fun h=>⟨⟨h0,h28,h.1⟩,by rw [Int.toNat_natCast];exact h.2⟩,fun h=>⟨h.1.2.2,by have:=h.2;rwa [Int.toNat_natCast] at this⟩⟩
   ·intro hall;have e2:=impl_closure.ev m E (by omega) (by omega) (PairsOk.edg hall);generalize cloF m E=f at e2;have key:=evB_loop m (fun i k=>impl_IsPrecedence.l1 k (tbl m f) (m:Int) (i:Int)) (fun i=>f i i=false) True ?_ ?_
    ·obtain ⟨b,hb,eb⟩:=key;refine ⟨b,ev_go (fun k=>(impl_closure.f k (m:Int) E).bind fun t=>impl_IsPrecedence.l1 k t (t.length:Int) 0) (fun k=>?_) (ev_bind _ e2 (by simp only [tbl_length];exact hb)),eb.trans ⟨fun h=>h.1,fun h=>⟨h,trivial⟩⟩⟩;simp only [impl_IsPrecedence.l0];rw [if_neg (by omega)]
    ·exact evB_of (fun _=>ev_stop fun k=>by simp only [impl_IsPrecedence.l1];rw [if_neg (by omega)]) (fun h=>absurd trivial h)
    ·intro i hi R hR;refine evB_leaf _ (fun h k=>?_) (fun h k=>?_) hR
     ·simp only [impl_IsPrecedence.l1];rw [if_pos (by omega),if_pos (by omega),if_pos (by rw [tbl_length];omega),if_pos (by rw [tbl_rowlen hi];omega),tbl_at hi hi,h,if_neg (by simp),wr1 (by omega)]
     ·simp only [impl_IsPrecedence.l1];rw [if_pos (by omega),if_pos (by omega),if_pos (by rw [tbl_length];omega),if_pos (by rw [tbl_rowlen hi];omega),tbl_at hi hi,if_pos (by simpa using h)]
   ·intro i hi _ R hR;have jt:∀ a b,Ev (fun k=>impl_IsPrecedence.j2 k (m:Int) E (i:Int) E (E.length:Int) (i:Int) true a b) false:=fun a b=>ev_stop fun k=>by simp only [impl_IsPrecedence.j2];rw [if_pos trivial]
    by_cases h1:0<=(rd_T42 E (i:Int)).f0/\(rd_T42 E (i:Int)).f0<(m:Int)
    ·by_cases h2:0<=(rd_T42 E (i:Int)).f1/\(rd_T42 E (i:Int)).f1<(m:Int)
     ·by_cases h3:(rd_T42 E (i:Int)).f0=(rd_T42 E (i:Int)).f1
      ·refine evB_of (fun h=>absurd h3 h.1.2.2.1) (fun _=>ev_go _ (fun k=>?_) (jt (rd_T42 E (i:Int)).f0 (rd_T42 E (i:Int)).f1));simp only [impl_IsPrecedence.l0];rw [if_pos (by omega),if_pos (by omega),if_pos (by omega),impl_isNumber.eq _ _ (by omega) (by omega),Option.bind_some,if_pos (by simpa using h1),impl_isNumber.eq _ _ (by omega) (by omega),Option.bind_some,if_pos (by simpa using h2),beq_iff_eq.2 h3]
      ·refine evB_step (fun k=>impl_IsPrecedence.j2 k (m:Int) E (i:Int) E (E.length:Int) (i:Int) false (rd_T42 E (i:Int)).f0 (rd_T42 E (i:Int)).f1) (fun k=>?_) ?_
       ·simp only [impl_IsPrecedence.l0];rw [if_pos (by omega),if_pos (by omega),if_pos (by omega),impl_isNumber.eq _ _ (by omega) (by omega),Option.bind_some,if_pos (by simpa using h1),impl_isNumber.eq _ _ (by omega) (by omega),Option.bind_some,if_pos (by simpa using h2),beq_eq_false_iff_ne.2 h3]
       ·by_cases h5:i=0
        ·have hP:PairAt ((m:Int) - 1) E i:=by
          simp only [PairAt,eAt];exact ⟨by omega,by omega,h3,.inl h5⟩
         refine evB_iff (evB_step _ (fun k=>?_) (hR hP)) ⟨fun h=>⟨hP,h⟩,fun h=>h.2⟩;simp only [impl_IsPrecedence.j2];rw [if_neg (by simp),if_neg (by omega),wr1 (by omega)]
        ·have hw:wrap64 ((i:Int) - 1)=((i - 1:Nat):Int):=by rw [wr (by omega) (by omega)];omega
         by_cases h6:LexLt (rd_T42 E ((i - 1:Nat):Int)) (rd_T42 E (i:Int))
         ·have hP:PairAt ((m:Int) - 1) E i:=by
           simp only [PairAt,eAt];exact ⟨by omega,by omega,h3,.inr h6⟩
          refine evB_iff (evB_step _ (fun k=>?_) (hR hP)) ⟨fun h=>⟨hP,h⟩,fun h=>h.2⟩;unfold LexLt at h6;simp only [impl_IsPrecedence.j2];rw [if_neg (by simp),if_pos (by omega),hw,if_pos (by omega),if_pos (by omega),if_neg (by omega),wr1 (by omega)];by_cases h7:(rd_T42 E ((i - 1:Nat):Int)).f0=(rd_T42 E (i:Int)).f0
          ·rw [if_pos h7,if_neg (by omega)]
          ·rw [if_neg h7]
         ·refine evB_of (fun h=>absurd (h.1.2.2.2.resolve_left h5) h6) (fun _=>ev_stop fun k=>?_);unfold LexLt at h6;simp only [impl_IsPrecedence.j2];rw [if_neg (by simp),if_pos (by omega),hw,if_pos (by omega),if_pos (by omega)];by_cases h8:(rd_T42 E ((i - 1:Nat):Int)).f0>(rd_T42 E (i:Int)).f0
          ·rw [if_pos h8]
          ·rw [if_neg h8,if_pos (by omega),if_pos (by omega)]
     ·refine evB_of (fun h=>absurd h.1.2.1 (by simp only [eAt];omega)) (fun _=>ev_go _ (fun k=>?_) (jt (rd_T42 E (i:Int)).f0 (rd_T42 E (i:Int)).f1));simp only [impl_IsPrecedence.l0];rw [if_pos (by omega),if_pos (by omega),if_pos (by omega),impl_isNumber.eq _ _ (by omega) (by omega),Option.bind_some,if_pos (by simpa using h1),impl_isNumber.eq _ _ (by omega) (by omega),Option.bind_some,if_neg (by simpa using h2)]
    ·refine evB_of (fun h=>absurd h.1.1 (by simp only [eAt];omega)) (fun _=>ev_go _ (fun k=>?_) (jt (rd_T42 E (i:Int)).f0 (rd_T42 E (i:Int)).f1));simp only [impl_IsPrecedence.l0];rw [if_pos (by omega),if_pos (by omega),if_pos (by omega),impl_isNumber.eq _ _ (by omega) (by omega),Option.bind_some,if_neg (by simpa using h1)]
  ·rw [decide_eq_true (by omega)];refine evB_of (fun h=>absurd h.1.2.1 h28) (fun _=>ev_stop fun k=>?_);simp only [impl_IsPrecedence.j0];rw [if_pos trivial]
 ·have w0:(fun k=>(impl_within.f n 0 8).bind fun t197=>(if t197=true then (impl_IsPrecedence.j0 k n E (decide ((E.length:Int)>28))) else (impl_IsPrecedence.j0 k n E true)))=fun k=>impl_IsPrecedence.j0 k n E true:=funext fun k=>by rw [impl_within.eq,Option.bind_some,if_neg (by simpa using h0)]
  rw [w0];refine evB_of (fun h=>absurd h.1.1 h0) (fun _=>ev_stop fun k=>?_);simp only [impl_IsPrecedence.j0];rw [if_pos trivial]
theorem fwJ_eq (k i:Nat):∀ (L:List Nat) (f:BF),L.Nodup->∀ a b,fwJ k i L f a b=if a=i/\b ∈ L then (f i b || (f i k && f k b)) else f a b
 | [],f,_,a,b=>by simp [fwJ]
 | j::L,f,hn,a,b=>by
  have hj:=List.nodup_cons.1 hn;have ih:=fwJ_eq k i L (fwS k i j f) hj.2 a b;have e:fwJ k i (j::L) f=fwJ k i L (fwS k i j f):=rfl;rw [e,ih];have s:∀ c d,fwS k i j f c d=if c=i/\d=j then (f i j || (f i k && f k j)) else f c d:=fun c d=>rfl
  have sik:fwS k i j f i k=f i k:=by
   rw [s];split
   ·rename_i h;rw [<-h.2];cases f i k <;> simp
   ·rfl
  by_cases ha:a=i
  ·subst ha;by_cases hb:b=j
   ·subst hb;rw [if_neg (by rintro ⟨_,h⟩;exact hj.1 h),if_pos ⟨rfl,List.mem_cons_self⟩,s,if_pos ⟨rfl,rfl⟩]
   ·have sb:∀ c,fwS k a j f c b=f c b:=fun c=>by rw [s,if_neg (by rintro ⟨_,h⟩;exact hb h)]
    by_cases hbl:b ∈ L
    ·rw [if_pos ⟨rfl,hbl⟩,if_pos ⟨rfl,List.mem_cons_of_mem _ hbl⟩,sb,sb,sik]
    ·rw [if_neg (by rintro ⟨_,h⟩;exact hbl h),if_neg (by rintro ⟨_,h⟩;rcases List.mem_cons.1 h with h|h;exact hb h;exact hbl h),sb]
  ·rw [if_neg (by rintro ⟨h,_⟩;exact ha h),if_neg (by rintro ⟨h,_⟩;exact ha h),s,if_neg (by rintro ⟨h,_⟩;exact ha h)]
theorem fwI_eq (n k:Nat):∀ (L:List Nat) (f:BF),L.Nodup->k<n->∀ a b,fwI n k L f a b=if a ∈ L/\b<n then (f a b || (f a k && f k b)) else f a b
 | [],f,_,_,a,b=>by simp [fwI]
 | i::L,f,hn,hk,a,b=>by
  have hj:=List.nodup_cons.1 hn;have ih:=fwI_eq n k L (fwJ k i (List.range n) f) hj.2 hk a b;have e:fwI n k (i::L) f=fwI n k L (fwJ k i (List.range n) f):=rfl;rw [e,ih];have s:∀ c d,fwJ k i (List.range n) f c d=if c=i/\d ∈ List.range n then (f i d || (f i k && f k d)) else f c d:=fwJ_eq k i _ f List.nodup_range
  have sk:∀ d,fwJ k i (List.range n) f k d=f k d:=fun d=>by
   rw [s];split
   ·rename_i h;rw [<-h.1];cases f k d <;> cases f k k <;> simp
   ·rfl
  by_cases ha:a=i
  ·subst ha;rw [if_neg (by rintro ⟨h,_⟩;exact hj.1 h),s];by_cases hb:b<n
   ·rw [if_pos ⟨rfl,List.mem_range.2 hb⟩,if_pos ⟨List.mem_cons_self,hb⟩]
   ·rw [if_neg (by rintro ⟨_,h⟩;exact hb (List.mem_range.1 h)),if_neg (by rintro ⟨_,h⟩;exact hb h)]
  ·have sa:∀ d,fwJ k i (List.range n) f a d=f a d:=fun d=>by rw [s,if_neg (by rintro ⟨h,_⟩;exact ha h)]
   rw [sa,sa,sk];by_cases hal:a ∈ L
   ·by_cases hb:b<n
    ·rw [if_pos ⟨hal,hb⟩,if_pos ⟨List.mem_cons_of_mem _ hal,hb⟩]
    ·rw [if_neg (by rintro ⟨_,h⟩;exact hb h),if_neg (by rintro ⟨_,h⟩;exact hb h)]
   ·rw [if_neg (by rintro ⟨h,_⟩;exact hal h),if_neg (by rintro ⟨h,_⟩;rcases List.mem_cons.1 h with h|h;exact ha h;exact hal h)]
/-- Closed under the jobs below k. -/
def ClosedTo (n k:Nat) (f:BF):Prop:=∀ i m j,i<n->j<n->m<k->m<n->f i m=true->f m j=true->f i j=true
theorem closed_step (n k:Nat) (f:BF) (hk:k<n) (h:ClosedTo n k f):ClosedTo n (k + 1) (fwI n k (List.range n) f):=by
 have s:=fwI_eq n k (List.range n) f List.nodup_range hk;have t:∀ a b,a<n->b<n->(fwI n k (List.range n) f a b=true ↔ (f a b=true\/f a k=true/\f k b=true)):=fun a b ha hb=>by
  rw [s,if_pos ⟨List.mem_range.2 ha,hb⟩,Bool.or_eq_true,Bool.and_eq_true]
 intro i m j hi hj hm hmn h1 h2;rw [t i m hi hmn] at h1;rw [t m j hmn hj] at h2;rw [t i j hi hj];by_cases e:m=k
 ·subst e;have a1:f i m=true:=by rcases h1 with h|h;exact h;exact h.1
  have a2:f m j=true:=by rcases h2 with h|h;exact h;exact h.2
  exact .inr ⟨a1,a2⟩
 ·have hm':m<k:=by omega
  rcases h1 with h1 | ⟨h1,h1'⟩ <;> rcases h2 with h2 | ⟨h2,h2'⟩
  ·exact .inl (h i m j hi hj hm' hmn h1 h2)
  ·exact .inr ⟨h i m k hi hk hm' hmn h1 h2,h2'⟩
  ·exact .inr ⟨h1,h k m j hk hj hm' hmn h1' h2⟩
  ·exact .inr ⟨h1,h2'⟩
theorem closed_all (n:Nat) (f:BF):ClosedTo n n (fwK n (List.range n) f):=by
 have key:∀ k,k<=n->ClosedTo n k (fwK n (List.range k) f):=by
  intro k
  induction k with
  | zero=>intro _ i m j _ _ hm;omega
  | succ k ih=>
   intro hk;have e:fwK n (List.range (k + 1)) f=fwI n k (List.range n) (fwK n (List.range k) f):=by
    unfold fwK;rw [List.range_succ,List.foldl_append];rfl
   rw [e];exact closed_step n k _ (by omega) (ih (by omega))
 exact key n (Nat.le_refl _)
theorem clo_trans {n:Nat} {E:List A2} {i m j:Nat} (hi:i<n) (hm:m<n) (hj:j<n) (h1:cloF n E i m=true) (h2:cloF n E m j=true):cloF n E i j=true:=
 closed_all n (edgF E fun _ _=>false) i m j hi hj hm hm h1 h2
/-- A precedence, as a table. -/
structure PreF (n:Nat) (f:BF):Prop where
 irr:∀ i,i<n->f i i=false
 tr:∀ i m j,i<n->m<n->j<n->f i m=true->f m j=true->f i j=true
theorem preF_of {n:Nat} {E:List A2} (h:DiagOk n (cloF n E)):PreF n (cloF n E):=⟨h,fun _ _ _ hi hm hj h1 h2=>clo_trans hi hm hj h1 h2⟩
/-- How many jobs are behind a job. -/
def cntF (n:Nat) (f:BF) (i:Nat):Nat:=((List.range n).filter fun j=>f i j).length
theorem filter_sub {α:Type} (p q:α->Bool):∀ l:List α,(∀ x ∈ l,p x=true->q x=true)->(l.filter p).length<=(l.filter q).length
 | [],_=>by simp
 | x::l,h=>by
  have ih:=filter_sub p q l (fun y hy=>h y (List.mem_cons_of_mem _ hy));by_cases hp:p x=true
  ·rw [List.filter_cons_of_pos hp,List.filter_cons_of_pos (h x List.mem_cons_self hp)];simp;exact ih
  ·rw [List.filter_cons_of_neg hp];by_cases hq:q x=true
   ·rw [List.filter_cons_of_pos hq];simp;omega
   ·rw [List.filter_cons_of_neg hq];exact ih
theorem filter_lt {α:Type} (p q:α->Bool) (a:α) (ha:p a=false) (hb:q a=true):∀ l:List α,a ∈ l->(∀ x ∈ l,p x=true->q x=true)->(l.filter p).length<(l.filter q).length
 | [],h,_=>absurd h (by simp)
 | x::l,h,hs=>by
  have sub:=filter_sub p q l (fun y hy=>hs y (List.mem_cons_of_mem _ hy));by_cases e:x=a
  ·subst e;rw [List.filter_cons_of_neg (by simp [ha]),List.filter_cons_of_pos hb];simp;omega
  ·have hm:a ∈ l:=by rcases List.mem_cons.1 h with h|h;exact absurd h.symm e;exact h
   have ih:=filter_lt p q a ha hb l hm (fun y hy=>hs y (List.mem_cons_of_mem _ hy));by_cases hp:p x=true
   ·rw [List.filter_cons_of_pos hp,List.filter_cons_of_pos (hs x List.mem_cons_self hp)];simp;exact ih
   ·rw [List.filter_cons_of_neg hp];by_cases hq:q x=true
    ·rw [List.filter_cons_of_pos hq];simp;omega
    ·rw [List.filter_cons_of_neg hq];exact ih
theorem cnt_lt {n:Nat} {f:BF} (h:PreF n f) {i j:Nat} (hi:i<n) (hj:j<n) (hij:f i j=true):cntF n f j<cntF n f i:=
 filter_lt _ _ j (h.irr j hj) hij _ (List.mem_range.2 hj) (fun x hx hx2=>h.tr i j x hi hj (List.mem_range.1 hx) hij hx2)
theorem cnt_le {n:Nat} {f:BF} (h:PreF n f) {i:Nat} (hi:i<n):cntF n f i<n:=by
 have h1:=filter_lt (fun j=>f i j) (fun _=>true) i (h.irr i hi) rfl (List.range n) (List.mem_range.2 hi) (fun _ _ _=>rfl);have h2:((List.range n).filter fun _=>true).length=n:=by rw [List.filter_eq_self.2 (fun _ _=>rfl),List.length_range]
 unfold cntF;omega
/-- The greatest of what lies behind a job. -/
def bestB (f:BF) (t:Nat->Int) (i:Nat):List Nat->Int->Int
 | [],s=>s
 | k::L,s=>bestB f t i L (if f i k=true then mx s (t k) else s)
theorem mx_ge2 (a b:Int):a<=mx a b/\b<=mx a b/\(mx a b=a\/mx a b=b):=by unfold mx;split <;> omega
theorem bestB_ge (f:BF) (t:Nat->Int) (i:Nat):∀ (L:List Nat) (s:Int),s<=bestB f t i L s/\∀ k ∈ L,f i k=true->t k<=bestB f t i L s
 | [],s=>⟨Int.le_refl _,fun k hk=>absurd hk (by simp)⟩
 | k::L,s=>by
  rw [bestB];have ih:=bestB_ge f t i L (if f i k=true then mx s (t k) else s);by_cases c:f i k=true
  ·rw [if_pos c] at ih ⊢;have h3:=mx_ge2 s (t k);refine ⟨Int.le_trans h3.1 ih.1,fun q hq hf=>?_⟩;rcases List.mem_cons.1 hq with rfl|hq
   ·exact Int.le_trans h3.2.1 ih.1
   ·exact ih.2 q hq hf
  ·rw [if_neg c] at ih ⊢;refine ⟨ih.1,fun q hq hf=>?_⟩;rcases List.mem_cons.1 hq with rfl|hq
   ·exact absurd hf c
   ·exact ih.2 q hq hf
theorem bestB_at (f:BF) (t:Nat->Int) (i:Nat):∀ (L:List Nat) (s:Int),bestB f t i L s=s\/∃ k,k ∈ L/\f i k=true/\bestB f t i L s=t k
 | [],s=>.inl rfl
 | k::L,s=>by
  rw [bestB];by_cases c:f i k=true
  ·rw [if_pos c];rcases bestB_at f t i L (mx s (t k)) with h | ⟨q,hq,hf,h⟩
   ·rcases (mx_ge2 s (t k)).2.2 with e|e
    ·exact .inl (h.trans e)
    ·exact .inr ⟨k,List.mem_cons_self,c,h.trans e⟩
   ·exact .inr ⟨q,List.mem_cons_of_mem _ hq,hf,h⟩
  ·rw [if_neg c];rcases bestB_at f t i L s with h | ⟨q,hq,hf,h⟩
   ·exact .inl h
   ·exact .inr ⟨q,List.mem_cons_of_mem _ hq,hf,h⟩
theorem bestB_congr (f:BF) (t u:Nat->Int) (i:Nat):∀ (L:List Nat) (s:Int),(∀ k ∈ L,f i k=true->t k=u k)->bestB f t i L s=bestB f u i L s
 | [],_,_=>rfl
 | k::L,s,h=>by
  rw [bestB,bestB];by_cases c:f i k=true
  ·rw [if_pos c,if_pos c,h k List.mem_cons_self c];exact bestB_congr f t u i L _ (fun q hq=>h q (List.mem_cons_of_mem _ hq))
  ·rw [if_neg c,if_neg c];exact bestB_congr f t u i L _ (fun q hq=>h q (List.mem_cons_of_mem _ hq))
def tmF (jobs:List J) (i:Nat):Int:=(rd_T44 jobs (i:Int)).f0
def tailN (jobs:List J) (f:BF):Nat->Nat->Int
 | 0,_=>0
 | d + 1,i=>tmF jobs i + bestB f (tailN jobs f d) i (List.range jobs.length) 0
/-- The tail of a job. -/
def TL (jobs:List J) (f:BF) (i:Nat):Int:=tailN jobs f jobs.length i
theorem tailN_stable (jobs:List J) {f:BF} (h:PreF jobs.length f):∀ (d i:Nat),i<jobs.length->cntF jobs.length f i<d->tailN jobs f d i=tailN jobs f (d + 1) i
 | 0,_,_,h2=>absurd h2 (by omega)
 | d + 1,i,hi,h2=>by
  rw [tailN,tailN]
  congr 1
  exact bestB_congr f _ _ i _ _ fun k hk hf=>tailN_stable jobs h d k (List.mem_range.1 hk) (by have:=cnt_lt h hi (List.mem_range.1 hk) hf;omega)
theorem TL_eq (jobs:List J) {f:BF} (h:PreF jobs.length f) (i:Nat) (hi:i<jobs.length):TL jobs f i=tmF jobs i + bestB f (TL jobs f) i (List.range jobs.length) 0:=by
 have h1:TL jobs f i=tailN jobs f (jobs.length + 1) i:=tailN_stable jobs h jobs.length i hi (cnt_le h hi);rw [h1,tailN]
 rfl
theorem TL_in (jobs:List J) (hj:JobsOk jobs) (f:BF):∀ (d i:Nat),i<jobs.length->0<=tailN jobs f d i/\tailN jobs f d i<=50 * (d:Int)
 | 0,_,_=>⟨Int.le_refl _,by simp [tailN]⟩
 | d + 1,i,hi=>by
  have ht:1<=tmF jobs i/\tmF jobs i<=50:=by unfold tmF;rw [rdJ hi];exact (hj.2 _ (List.getElem_mem hi)).1
  rw [tailN];have h1:=(bestB_ge f (tailN jobs f d) i (List.range jobs.length) 0).1;have h2:bestB f (tailN jobs f d) i (List.range jobs.length) 0<=50 * (d:Int):=by
   rcases bestB_at f (tailN jobs f d) i (List.range jobs.length) 0 with e | ⟨k,hk,_,e⟩
   ·rw [e];omega
   ·rw [e];exact (TL_in jobs hj f d k (List.mem_range.1 hk)).2
  omega
theorem TL_pos (jobs:List J) (hj:JobsOk jobs) {f:BF} (h:PreF jobs.length f) (i:Nat) (hi:i<jobs.length):(1<=tmF jobs i/\tmF jobs i<=50)/\tmF jobs i<=TL jobs f i/\TL jobs f i<=400:=by
 have ht:1<=tmF jobs i/\tmF jobs i<=50:=by unfold tmF;rw [rdJ hi];exact (hj.2 _ (List.getElem_mem hi)).1
 have h8:=hj.1;have h2:=(TL_in jobs hj f jobs.length i hi).2;have h3:=(bestB_ge f (TL jobs f) i (List.range jobs.length) 0).1;rw [TL_eq jobs h i hi];refine ⟨ht,by omega,?_⟩;rw [<-TL_eq jobs h i hi];unfold TL;omega
def tailsL (jobs:List J) (f:BF):List Int:=(List.range jobs.length).map (TL jobs f)
theorem tailsL_len (jobs:List J) (f:BF):(tailsL jobs f).length=jobs.length:=by simp [tailsL]
theorem tailsL_rd (jobs:List J) (f:BF) {i:Nat} (h:i<jobs.length):rd (tailsL jobs f) (i:Int)=TL jobs f i:=by rw [rd_nat (by rw [tailsL_len];exact h)];simp [tailsL]
theorem spec_l7Tail.ev (jobs:List J) (hj:JobsOk jobs) {f:BF} (h:PreF jobs.length f):∀ (c i:Nat),i<jobs.length->cntF jobs.length f i<c->Ev (fun k=>spec_l7Tail.f k jobs (tbl jobs.length f) (i:Int)) (TL jobs f i)
 | 0,_,_,hc=>absurd hc (by omega)
 | c + 1,i,hi,hc=>by
  have h8:=hj.1;have row:=rev_ind (P:=fun q=>∀ s,Ev (fun k=>spec_l7Tail.l0 k jobs (tbl jobs.length f) (i:Int) s (q:Int)) (wrap64 (tmF jobs i + bestB f (TL jobs f) i ((List.range jobs.length).drop q) s))) jobs.length ?_ ?_ 0 (Nat.zero_le _) 0
  ·rw [TL_eq jobs h i hi];have hb:=TL_pos jobs hj h i hi;rw [TL_eq jobs h i hi] at hb;rw [List.drop_zero,wr (by omega) (by omega)] at row;exact ev_go _ (fun k=>rfl) row
  ·intro s;rw [List.drop_of_length_le (by simp),bestB];refine ev_stop fun k=>?_
   simp only [spec_l7Tail.l0];rw [if_neg (by omega),if_pos (by omega),if_pos (by omega)];rfl
  ·intro q hq ih s;rw [range_drop hq,bestB];by_cases cc:f i q=true
   ·rw [if_pos cc];refine ev_go (fun k=>(spec_l7Tail.f k jobs (tbl jobs.length f) (q:Int)).bind fun t=>spec_l7Tail.l0 k jobs (tbl jobs.length f) (i:Int) (mx s t) ((q + 1:Nat):Int)) (fun k=>?_) (ev_bind _ (spec_l7Tail.ev jobs hj h c q hq (by have:=cnt_lt h hi hq cc;omega)) (ih _));simp only [spec_l7Tail.l0];rw [if_pos (by omega),if_pos (by omega),if_pos (by rw [tbl_length];omega),if_pos (by omega),if_pos (by rw [tbl_rowlen hi];omega),tbl_at hi hq,if_pos cc,wr1 (by omega)]
    congr 1
    funext t
    rw [spec_l1Most.eqk,Option.bind_some]
   ·rw [if_neg cc];refine ev_go _ (fun k=>?_) (ih _);simp only [spec_l7Tail.l0];rw [if_pos (by omega),if_pos (by omega),if_pos (by rw [tbl_length];omega),if_pos (by omega),if_pos (by rw [tbl_rowlen hi];omega),tbl_at hi hq,if_neg cc,wr1 (by omega)]
theorem spec_l7Tails.ev (jobs:List J) (E:List A2) (hj:JobsOk jobs) (h:PrecOk (jobs.length:Int) E):Ev (fun k=>spec_l7Tails.f k jobs E) (tailsL jobs (cloF jobs.length E)):=by
 have h8:=hj.1;have h28:=h.1.2.1;have hp:PreF jobs.length (cloF jobs.length E):=preF_of (by have:=h.2;rwa [Int.toNat_natCast] at this);unfold spec_l7Tails.f;refine ev_bind _ (spec_l4Table.ev jobs.length E (by omega) (by omega) (PairsOk.edg h.1.2.2)) ?_;generalize cloF jobs.length E=f at hp;have key:=rev_ind (P:=fun i=>Ev (fun k=>spec_l7Tails.l0 k jobs ((tailsL jobs f).take i) (tbl jobs.length f) (i:Int)) (tailsL jobs f)) jobs.length ?_ ?_ 0 (Nat.zero_le _)
 ·simpa using key
 ·refine ev_stop fun k=>?_
  simp only [spec_l7Tails.l0];rw [if_neg (by omega),List.take_of_length_le (by rw [tailsL_len];omega)]
 ·intro i hi ih;have ht:(tailsL jobs f).take i++[TL jobs f i]=(tailsL jobs f).take (i + 1):=by
   rw [List.take_succ_eq_append_getElem (by rw [tailsL_len];exact hi)];simp [tailsL]
  rw [<-ht] at ih;refine ev_go (fun k=>(spec_l7Tail.f k jobs (tbl jobs.length f) (i:Int)).bind fun t=>spec_l7Tails.l0 k jobs ((tailsL jobs f).take i++[t]) (tbl jobs.length f) ((i + 1:Nat):Int)) (fun k=>?_) (ev_bind _ (spec_l7Tail.ev jobs hj hp _ i hi (Nat.lt_succ_self _)) ih);simp only [spec_l7Tails.l0];rw [if_pos (by omega),wr1 (by omega)]
  congr 1
  funext t
  rw [if_pos (by rw [List.length_take,tailsL_len];omega)]
/-- No number is above its tail. -/
def UpTo (jobs:List J) (f:BF) (o:List Int):Prop:=o.length=jobs.length/\∀ i,i<jobs.length->0<=rd o (i:Int)/\rd o (i:Int)<=TL jobs f i
def DoneTo (jobs:List J) (f:BF) (r:Nat) (o:List Int):Prop:=∀ i,i<jobs.length->cntF jobs.length f i<r->rd o (i:Int)=TL jobs f i
theorem rd_set {l:List Int} {i j:Nat} (hi:i<l.length) (hj:j<l.length) (v:Int):rd (l.set i v) (j:Int)=if i=j then v else rd l (j:Int):=by
 rw [rd_nat (by rw [List.length_set];exact hj),List.getElem_set,rd_nat hj]
theorem impl_tailsOf.ev (jobs:List J) (E:List A2) (hj:JobsOk jobs) (h:PrecOk (jobs.length:Int) E):Ev (fun k=>impl_tailsOf.f k jobs E) (tailsL jobs (cloF jobs.length E)):=by
 have h8:=hj.1;have h28:=h.1.2.1;have hp:PreF jobs.length (cloF jobs.length E):=preF_of (by have:=h.2;rwa [Int.toNat_natCast] at this);unfold impl_tailsOf.f;refine ev_bind _ (impl_closure.ev jobs.length E (by omega) (by omega) (PairsOk.edg h.1.2.2)) ?_;generalize cloF jobs.length E=f at hp;rw [show (fun k=>if 0<=(jobs.length:Int) then (if ((jobs.length:Int):Int).toNat<=35184372088832 then (impl_tailsOf.l0 k jobs (tbl jobs.length f) (List.replicate ((jobs.length:Int):Int).toNat 0) (jobs.length:Int) 0) else none) else none)=fun k=>impl_tailsOf.l0 k jobs (tbl jobs.length f) (List.replicate jobs.length 0) (jobs.length:Int) 0 from funext fun k=>by rw [if_pos (by omega),if_pos (by omega),Int.toNat_natCast]];have tb:=fun i hi=>TL_pos jobs hj hp i hi
  -- one job's row
 have l2:∀ (r i:Nat) (R:List Int),i<jobs.length->(∀ o,UpTo jobs f o->DoneTo jobs f r o->(∀ a,a<=i->cntF jobs.length f a<r + 1->rd o (a:Int)=TL jobs f a)->Ev (fun k=>impl_tailsOf.l1 k jobs (tbl jobs.length f) o (jobs.length:Int) (r:Int) jobs (jobs.length:Int) ((i + 1:Nat):Int)) R)->∀ q,q<=jobs.length->∀ o,UpTo jobs f o->DoneTo jobs f r o->(∀ a,a<i->cntF jobs.length f a<r + 1->rd o (a:Int)=TL jobs f a)->tmF jobs i<=rd o (i:Int)->(∀ b,b<q->f i b=true->tmF jobs i + rd o (b:Int)<=rd o (i:Int))->Ev (fun k=>impl_tailsOf.l2 k jobs (tbl jobs.length f) o (i:Int) (jobs.length:Int) (r:Int) jobs (jobs.length:Int) (i:Int) (jobs.length:Int) (q:Int) (rd_T44 jobs (i:Int)).f0 (rd_T44 jobs (i:Int)).f1 (rd_T44 jobs (i:Int)).f2 (rd_T44 jobs (i:Int)).f3) R:=by
  intro r i R hi hnext;refine rev_ind (P:=fun q=>∀ o,UpTo jobs f o->DoneTo jobs f r o->(∀ a,a<i->cntF jobs.length f a<r + 1->rd o (a:Int)=TL jobs f a)->tmF jobs i<=rd o (i:Int)->(∀ b,b<q->f i b=true->tmF jobs i + rd o (b:Int)<=rd o (i:Int))->Ev (fun k=>impl_tailsOf.l2 k jobs (tbl jobs.length f) o (i:Int) (jobs.length:Int) (r:Int) jobs (jobs.length:Int) (i:Int) (jobs.length:Int) (q:Int) (rd_T44 jobs (i:Int)).f0 (rd_T44 jobs (i:Int)).f1 (rd_T44 jobs (i:Int)).f2 (rd_T44 jobs (i:Int)).f3) R) jobs.length ?_ ?_
  ·intro o hu hd ha ht hb;refine ev_go _ (fun k=>?_) (hnext o hu hd (fun a hai hc=>?_))
   ·simp only [impl_tailsOf.l2];rw [if_neg (by omega),wr1 (by omega)]
   ·by_cases e:a=i
    ·subst e;have hle:=(hu.2 a hi).2;rw [TL_eq jobs hp a hi] at hle ⊢;rcases bestB_at f (TL jobs f) a (List.range jobs.length) 0 with e | ⟨b,hbm,hf,e⟩
     ·rw [e] at hle ⊢;omega
     ·have hbn:=List.mem_range.1 hbm;have:=hb b hbn hf;rw [hd b hbn (by have:=cnt_lt hp hi hbn hf;omega)] at this;rw [e] at hle ⊢;omega
    ·exact ha a (by omega) hc
  ·intro q hq ih o hu hd ha ht hb;have ho:=hu.1;by_cases cc:f i q=true
   ·have hqi:q≠i:=fun e=>by rw [e,hp.irr i hi] at cc;cases cc
    have hTq:=(tb q hq).2.2;have hqo:=hu.2 q hq;have hio:=hu.2 i hi;have hTi:=(tb i hi);have hle:tmF jobs i + TL jobs f q<=TL jobs f i:=by
     rw [TL_eq jobs hp i hi];have:=(bestB_ge f (TL jobs f) i (List.range jobs.length) 0).2 q (List.mem_range.2 hq) cc;omega
    have hw:wrap64 ((rd_T44 jobs (i:Int)).f0 + rd o (q:Int))=tmF jobs i + rd o (q:Int):=by
     change wrap64 (tmF jobs i + rd o (q:Int))=_
     exact wr (by omega) (by omega)
    have hmx:=mx_ge2 (rd o (i:Int)) (tmF jobs i + rd o (q:Int));have rs:∀ a,a<jobs.length->rd (o.set i (mx (rd o (i:Int)) (tmF jobs i + rd o (q:Int)))) (a:Int)=if i=a then mx (rd o (i:Int)) (tmF jobs i + rd o (q:Int)) else rd o (a:Int):=fun a ha=>rd_set (by omega) (by omega) _
    refine ev_go _ (fun k=>?_) (ih (o.set i (mx (rd o (i:Int)) (tmF jobs i + rd o (q:Int)))) ⟨by rw [List.length_set];exact ho,fun a han=>?_⟩ (fun a han hc=>?_) (fun a hai hc=>?_) ?_ (fun b hbq hf=>?_))
    ·simp only [impl_tailsOf.l2];rw [if_pos (by omega),if_pos (by omega),if_pos (by rw [tbl_length];omega),if_pos (by omega),if_pos (by rw [tbl_rowlen hi];omega),tbl_at hi hq,if_pos cc,if_pos (by omega),if_pos (by omega),hw,wr1 (by omega),Int.toNat_natCast]
    ·rw [rs a han]
     split
     ·rename_i e;subst e;omega
     ·exact hu.2 a han
    ·rw [rs a han]
     split
     ·rename_i e
      subst e;have:=hd i hi hc;omega
     ·exact hd a han hc
    ·rw [rs a (by omega),if_neg (by omega)];exact ha a hai hc
    ·rw [rs i hi,if_pos rfl];omega
    ·rw [rs i hi,if_pos rfl];have hbn:b<jobs.length:=by omega
     have hbi:i≠b:=fun e=>by rw [<-e,hp.irr i hi] at hf;cases hf
     rw [rs b hbn,if_neg hbi];by_cases e:b=q
     ·rw [e];exact hmx.2.1
     ·have:=hb b (by omega) hf;omega
   ·refine ev_go _ (fun k=>?_) (ih o hu hd ha ht (fun b hbq hf=>hb b ?_ hf))
    ·simp only [impl_tailsOf.l2];rw [if_pos (by omega),if_pos (by omega),if_pos (by rw [tbl_length];omega),if_pos (by omega),if_pos (by rw [tbl_rowlen hi];omega),tbl_at hi hq,if_neg cc,wr1 (by omega)]
    ·by_cases e:b=q
     ·rw [e] at hf;exact absurd hf cc
     ·omega
  -- one round
 have l1:∀ (r:Nat) (R:List Int),r<100->(∀ o,UpTo jobs f o->DoneTo jobs f (r + 1) o->Ev (fun k=>impl_tailsOf.l0 k jobs (tbl jobs.length f) o (jobs.length:Int) ((r + 1:Nat):Int)) R)->∀ i,i<=jobs.length->∀ o,UpTo jobs f o->DoneTo jobs f r o->(∀ a,a<i->cntF jobs.length f a<r + 1->rd o (a:Int)=TL jobs f a)->Ev (fun k=>impl_tailsOf.l1 k jobs (tbl jobs.length f) o (jobs.length:Int) (r:Int) jobs (jobs.length:Int) (i:Int)) R:=by
  intro r R hr hnext;refine rev_ind (P:=fun i=>∀ o,UpTo jobs f o->DoneTo jobs f r o->(∀ a,a<i->cntF jobs.length f a<r + 1->rd o (a:Int)=TL jobs f a)->Ev (fun k=>impl_tailsOf.l1 k jobs (tbl jobs.length f) o (jobs.length:Int) (r:Int) jobs (jobs.length:Int) (i:Int)) R) jobs.length ?_ ?_
  ·intro o hu hd ha;refine ev_go _ (fun k=>?_) (hnext o hu (fun a han hc=>ha a han hc));simp only [impl_tailsOf.l1];rw [if_neg (by omega),wr1 (by omega)]
  ·intro i hi ih o hu hd ha;have ho:=hu.1;have hio:=hu.2 i hi;have hTi:=tb i hi;have hmx:=mx_ge2 (rd o (i:Int)) (tmF jobs i);have rs:∀ a,a<jobs.length->rd (o.set i (mx (rd o (i:Int)) (tmF jobs i))) (a:Int)=if i=a then mx (rd o (i:Int)) (tmF jobs i) else rd o (a:Int):=fun a ha=>rd_set (by omega) (by omega) _
   refine ev_go _ (fun k=>?_) (l2 r i R hi (fun o2 hu2 hd2 ha2=>ih o2 hu2 hd2 (fun a hai hc=>ha2 a (by omega) hc)) 0 (Nat.zero_le _) (o.set i (mx (rd o (i:Int)) (tmF jobs i))) ⟨by rw [List.length_set];exact ho,fun a han=>?_⟩ (fun a han hc=>?_) (fun a hai hc=>?_) ?_ (fun b hb=>absurd hb (by omega)))
   ·simp only [impl_tailsOf.l1];rw [if_pos (by omega),if_pos (by omega),if_pos (by omega),if_pos (by omega),Int.toNat_natCast]
    rfl
   ·rw [rs a han]
    split
    ·rename_i e;subst e;omega
    ·exact hu.2 a han
   ·rw [rs a han]
    split
    ·rename_i e
     subst e;have:=hd i hi hc;omega
    ·exact hd a han hc
   ·rw [rs a (by omega),if_neg (by omega)];exact ha a hai hc
   ·rw [rs i hi,if_pos rfl];omega
 have l0:=rev_ind (P:=fun r=>∀ o,UpTo jobs f o->DoneTo jobs f r o->Ev (fun k=>impl_tailsOf.l0 k jobs (tbl jobs.length f) o (jobs.length:Int) (r:Int)) (tailsL jobs f)) jobs.length ?_ ?_ 0 (Nat.zero_le _) (List.replicate jobs.length 0) ⟨by simp,fun i hi=>?_⟩ (fun i hi hc=>absurd hc (by omega))
 ·exact l0
 ·intro o hu hd;have e:o=tailsL jobs f:=by
   apply List.ext_getElem
   ·rw [hu.1,tailsL_len]
   ·intro i h1 h2;have hi:i<jobs.length:=by rw [hu.1] at h1;exact h1
    have:=hd i hi (cnt_le hp hi);rw [rd_nat h1] at this;rw [this];simp [tailsL]
  rw [<-e];refine ev_stop fun k=>?_
  simp only [impl_tailsOf.l0];rw [if_neg (by omega)]
 ·intro r hr ih o hu hd;refine ev_go _ (fun k=>?_) (l1 r (tailsL jobs f) (by omega) ih 0 (Nat.zero_le _) o hu hd (fun a ha=>absurd ha (by omega)));simp only [impl_tailsOf.l0];rw [if_pos (by omega)];rfl
 ·have hTi:=tb i hi;rw [rd_nat (by simpa using hi)];simp;omega
def ParOk (jobs:List J) (m:Int) (E:List A2):Prop:=PlainOk jobs/\(1<=m/\m<=4)/\PrecOk (jobs.length:Int) E
theorem spec_l7Good.ev (jobs:List J) (m:Int) (E:List A2) (hj:jobs.length<=1048576) (hE:E.length<=1000000000):EvB (fun k=>spec_l7Good.f k jobs m E) (ParOk jobs m E):=by
 unfold spec_l7Good.f;have e1:=spec_l2Good.ev jobs (by omega);have e2:=spec_l3Plain.ev jobs (by omega);have e3:=spec_l4Good.ev (jobs.length:Int) E (by simp [Lit.wf,IntKind.min,IntKind.max,IntKind.signed,IntKind.bits];omega) hE;simp only [spec_l1In.eq,Option.bind_some];refine evB_of (fun h=>?_) (fun h=>?_)
 ·refine ev_guard' e1 (fun _=>ev_guard' e2 (fun _=>?_) (fun hn=>absurd h.1.2 hn)) (fun hn=>absurd h.1.1 hn);simp only [decide_eq_true_eq,if_pos h.2.1];exact ev_bind _ (evB_true e3 h.2.2) (Ev.now _)
 ·refine ev_guard' e1 (fun h1=>ev_guard' e2 (fun h2=>?_) (fun _=>Ev.now _)) (fun _=>Ev.now _);by_cases h3:1<=m/\m<=4
  ·simp only [decide_eq_true_eq,if_pos h3];exact ev_bind _ (evB_false e3 (fun h4=>h ⟨⟨h1,h2⟩,h3,h4⟩)) (Ev.now _)
  ·simp only [decide_eq_true_eq,if_neg h3];exact Ev.now _
theorem impl_isParallel.ev (jobs:List J) (m:Int) (E:List A2) (hj:jobs.length<=1048576) (hE:E.length<=1000000000):EvB (fun k=>impl_isParallel.f k jobs m E) (ParOk jobs m E):=by
 unfold impl_isParallel.f;have e1:=impl_IsPlain.ev jobs (by omega);have e3:=impl_IsPrecedence.ev (jobs.length:Int) E hE;simp only [impl_within.eq,Option.bind_some];refine evB_of (fun h=>?_) (fun h=>?_)
 ·refine ev_guard' e1 (fun _=>?_) (fun hn=>absurd h.1 hn);simp only [decide_eq_true_eq,if_pos h.2.1];exact ev_bind _ (evB_true e3 h.2.2) (Ev.now _)
 ·refine ev_guard' e1 (fun h1=>?_) (fun _=>Ev.now _);by_cases h3:1<=m/\m<=4
  ·simp only [decide_eq_true_eq,if_pos h3];exact ev_bind _ (evB_false e3 (fun h4=>h ⟨h1,h3,h4⟩)) (Ev.now _)
  ·simp only [decide_eq_true_eq,if_neg h3];exact Ev.now _
/-- The bytes of a draw. -/
def ByteL (s:List Int):Prop:=∀ x ∈ s,(Lit.int .u8 x).wf=true
theorem byte_in {x:Int} (h:(Lit.int .u8 x).wf=true):0<=x/\x<=255:=by
 simp [Lit.wf,IntKind.min,IntKind.max,IntKind.signed,IntKind.bits] at h;omega
theorem u64_range (n:Int):0<=IntKind.u64.wrap n/\IntKind.u64.wrap n<18446744073709551616:=by
 have:IntKind.u64.wrap n=n % 18446744073709551616:=by simp [IntKind.wrap,IntKind.bits,IntKind.signed]
 rw [this];omega
theorem u64_small (n:Int) (h0:0<=n) (h1:n<2 ^ 24):IntKind.u64.wrap n=n:=by
 have:IntKind.u64.wrap n=n % 18446744073709551616:=by simp [IntKind.wrap,IntKind.bits,IntKind.signed]
 rw [this];omega
theorem u64_byte (n:Int):0<=wrap64 (Go.bits .and .u64 (IntKind.u64.wrap n / 1099511627776) 255)/\wrap64 (Go.bits .and .u64 (IntKind.u64.wrap n / 1099511627776) 255)<=255:=by
 have hr:=u64_range n;have h:=bits_mask .u64 24 (by decide) u64_small 8 (by decide) (IntKind.u64.wrap n / 1099511627776) (by omega) (by omega);have h2:Go.bits .and .u64 (IntKind.u64.wrap n / 1099511627776) 255=IntKind.u64.wrap n / 1099511627776 % 256:=by simpa using h
 rw [h2,wr (by omega) (by omega)];omega
theorem nx {s:List Int} (hs:ByteL s) (p q:Int) (hp:0<=p) (hb:p<=1000000000000000):∃ v q',spec_l1Cur_next.f s p q=some (v,p + 1,q')/\0<=v/\v<=255:=by
 unfold spec_l1Cur_next.f;have w:wrap64 (p + 1)=p + 1:=wr (by omega) (by omega);rw [w];by_cases c1:p<(s.length:Int)
 ·rw [if_pos c1,if_pos hp,if_pos (by omega)];have hm:rd s p ∈ s:=by
   rw [rd,List.getD_eq_getElem?_getD,List.getElem?_eq_getElem (by omega)];exact List.getElem_mem _
  have hx:=byte_in (hs _ hm);exact ⟨_,_,rfl,by rw [wr (by omega) (by omega)];omega,by rw [wr (by omega) (by omega)];omega⟩
 ·rw [if_neg c1,if_neg (by omega)];exact ⟨_,_,rfl,(u64_byte _).1,(u64_byte _).2⟩
theorem pk {s:List Int} (hs:ByteL s) (p q a:Int) (hp:0<=p) (hb:p<=900000000000000):∃ v p' q',spec_l1Cur_pick.f s p q a=some (v,p',q')/\0<=v/\(1<=a->v<a)/\p<=p'/\p'<=p + 2:=by
 unfold spec_l1Cur_pick.f;by_cases h1:a<=1
 ·rw [if_pos h1];exact ⟨0,p,q,rfl,by omega,by omega,by omega,by omega⟩
 ·rw [if_neg h1];obtain ⟨v,q1,e1,hv0,hv1⟩:=nx hs p q hp (by omega);rw [e1,Option.bind_some];by_cases h2:a>200
  ·rw [if_pos h2];obtain ⟨u,q2,e2,hu0,hu1⟩:=nx hs (p + 1) q1 (by omega) (by omega);rw [e2,Option.bind_some,if_neg (by omega)];have hw:wrap64 (wrap64 (v * 256) + u)=v * 256 + u:=by rw [wr (x:=v * 256) (by omega) (by omega),wr (by omega) (by omega)]
   refine ⟨_,_,_,rfl,?_,fun _=>?_,by show p<=p + 1 + 1;omega,by show p + 1 + 1<=p + 2;omega⟩
   ·rw [hw];exact Int.tmod_nonneg _ (by omega)
   ·rw [hw];exact Int.tmod_lt_of_pos _ (by omega)
  ·rw [if_neg h2,if_neg (by omega)];exact ⟨_,_,_,rfl,Int.tmod_nonneg _ hv0,fun _=>Int.tmod_lt_of_pos _ (by omega),by show p<=p + 1;omega,by show p + 1<=p + 2;omega⟩
theorem on {s:List Int} (hs:ByteL s) (p q a:Int) (hp:0<=p) (hb:p<=900000000000000):∃ b p' q',spec_l1Cur_one.f s p q a=some (b,p',q')/\p<=p'/\p'<=p + 2:=by
 unfold spec_l1Cur_one.f;obtain ⟨v,p1,q1,e,_,_,h1,h2⟩:=pk hs p q a hp hb;rw [e,Option.bind_some];exact ⟨_,_,_,rfl,h1,h2⟩
theorem am {s:List Int} (hs:ByteL s) (p q:Int) (l:List Int) (hl:0<l.length) (hp:0<=p) (hb:p<=900000000000000):∃ v p' q',spec_l1Cur_among.f s p q l=some (v,p',q')/\v ∈ l/\p<=p'/\p'<=p + 2:=by
 unfold spec_l1Cur_among.f;obtain ⟨v,p1,q1,e,h0,h3,h1,h2⟩:=pk hs p q (l.length:Int) hp hb;have h4:=h3 (by omega);rw [e,Option.bind_some,if_pos h0,if_pos h4];refine ⟨_,_,_,rfl,?_,h1,h2⟩
 show rd l v ∈ l
 rw [rd,List.getD_eq_getElem?_getD,List.getElem?_eq_getElem (by omega)];exact List.getElem_mem _
theorem jb {s:List Int} (hs:ByteL s) (p q:Int) (a:Bool) (hp:0<=p) (hb:p<=800000000000000):∃ x0 x1 x2 x3 p' q',spec_l1Cur_job.f s p q a=some (x0,x1,x2,x3,p',q')/\p<=p'/\p'<=p + 8:=by
 unfold spec_l1Cur_job.f;obtain ⟨v1,p1,q1,e1,_,h1,h2⟩:=am hs p q [1,2,3,4,5,7,9] (by simp) hp (by omega);rw [e1,Option.bind_some];obtain ⟨v2,p2,q2,e2,_,h3,h4⟩:=am hs p1 q1 [0,1,1,2,3,5,8] (by simp) (by omega) (by omega);simp only [e2,Option.bind_some];obtain ⟨v3,p3,q3,e3,_,_,h5,h6⟩:=pk hs p2 q2 24 (by omega) (by omega);simp only [e3,Option.bind_some];by_cases c:a=true
 ·rw [if_pos c];obtain ⟨v4,p4,q4,e4,_,_,h7,h8⟩:=pk hs p3 q3 12 (by omega) (by omega);simp only [e4,Option.bind_some];exact ⟨_,_,_,_,_,_,rfl,by omega,by omega⟩
 ·rw [if_neg c];exact ⟨_,_,_,_,_,_,rfl,by omega,by omega⟩
theorem sj {s:List Int} (hs:ByteL s) (p q a0 a1 a2 a3:Int) (hp:0<=p) (hb:p<=800000000000000):∃ x0 x1 x2 x3 p' q',spec_l1Cur_spoiltJob.f s p q a0 a1 a2 a3=some (x0,x1,x2,x3,p',q')/\p<=p'/\p'<=p + 8:=by
 unfold spec_l1Cur_spoiltJob.f;obtain ⟨v,p1,q1,e1,_,_,h1,h2⟩:=pk hs p q 4 hp (by omega);rw [e1,Option.bind_some];have g:=fun (l:List Int) (hl:0<l.length)=>am hs p1 q1 l hl (by omega) (by omega)
 dsimp only
 split
 ·obtain ⟨u,p2,q2,e2,_,h3,h4⟩:=g [0,50,51,(-1),4611686018427387904] (by simp);rw [e2,Option.bind_some];exact ⟨_,_,_,_,_,_,rfl,by show p<=p2;omega,by show p2<=p + 8;omega⟩
 ·split
  ·obtain ⟨u,p2,q2,e2,_,h3,h4⟩:=g [(-1),50,51] (by simp);rw [e2,Option.bind_some];exact ⟨_,_,_,_,_,_,rfl,by show p<=p2;omega,by show p2<=p + 8;omega⟩
  ·split
   ·obtain ⟨u,p2,q2,e2,_,h3,h4⟩:=g [(-1),500,501] (by simp);rw [e2,Option.bind_some];exact ⟨_,_,_,_,_,_,rfl,by show p<=p2;omega,by show p2<=p + 8;omega⟩
   ·obtain ⟨u,p2,q2,e2,_,h3,h4⟩:=g [(-1),500,501,(-9223372036854775808)] (by simp);rw [e2,Option.bind_some];exact ⟨_,_,_,_,_,_,rfl,by show p<=p2;omega,by show p2<=p + 8;omega⟩
theorem someJobs_l1 {s:List Int} (hs:ByteL s) (a:Bool):∀ (c:Nat) (jobs:List J) (p q:Int),jobs.length<=100->9<=jobs.length + c->c<=1000->0<=p->p + 8 * c<=700000000000000->∃ r p' q',Ev (fun k=>spec_l1Cur_someJobs.l1 k a jobs s p q) (r,p',q')/\r.length<=100/\p<=p'/\p'<=p + 8 * c:=by
 intro c
 induction c with
 | zero=>
  intro jobs p q h1 h2 _ hp hb;refine ⟨jobs,p,q,ev_stop fun k=>?_,h1,by omega,by omega⟩;simp only [spec_l1Cur_someJobs.l1];rw [if_neg (by omega)]
 | succ c ih=>
  intro jobs p q h1 h2 h3 hp hb;by_cases hl:(jobs.length:Int)<9
  ·obtain ⟨x0,x1,x2,x3,p1,q1,e,h4,h5⟩:=jb hs p q a hp (by omega);obtain ⟨r,p2,q2,hr,h6,h7,h8⟩:=ih (jobs++[⟨x0,x1,x2,x3⟩]) p1 q1 (by simp;omega) (by simp;omega) (by omega) (by omega) (by omega);refine ⟨r,p2,q2,ev_go _ (fun k=>?_) hr,h6,by omega,by omega⟩;simp only [spec_l1Cur_someJobs.l1];rw [if_pos hl,e,Option.bind_some,if_pos (by omega)]
  ·refine ⟨jobs,p,q,ev_stop fun k=>?_,h1,by omega,by omega⟩;simp only [spec_l1Cur_someJobs.l1];rw [if_neg hl]
theorem someJobs_j5 {s:List Int} (hs:ByteL s) (a:Bool) (jobs:List J) (p q:Int) (h1:jobs.length<=100) (hp:0<=p) (hb:p<=600000000000000):∃ r p' q',Ev (fun k=>spec_l1Cur_someJobs.j5 k a jobs s p q) (r,p',q')/\r.length<=100/\p<=p'/\p'<=p + 100:=by
 obtain ⟨b,p1,q1,e,h2,h3⟩:=on hs p q 60 hp (by omega);by_cases c:b=true
 ·obtain ⟨r,p2,q2,hr,h4,h5,h6⟩:=someJobs_l1 hs a 9 jobs p1 q1 h1 (by omega) (by omega) (by omega) (by omega);refine ⟨r,p2,q2,ev_go _ (fun k=>?_) hr,h4,by omega,by omega⟩;simp only [spec_l1Cur_someJobs.j5];rw [e,Option.bind_some,if_pos c]
 ·refine ⟨jobs,p1,q1,ev_stop fun k=>?_,h1,by omega,by omega⟩;simp only [spec_l1Cur_someJobs.j5];rw [e,Option.bind_some,if_neg c]
theorem someJobs_j4 {s:List Int} (hs:ByteL s) (a b:Bool) (jobs:List J) (p q:Int) (hne:b=true->0<jobs.length) (h1:jobs.length<=100) (hp:0<=p) (hb:p<=500000000000000):∃ r p' q',Ev (fun k=>spec_l1Cur_someJobs.j4 k a jobs b s p q) (r,p',q')/\r.length<=100/\p<=p'/\p'<=p + 120:=by
 by_cases c:b=true
 ·obtain ⟨v,p1,q1,e,h2,h3,h4,h5⟩:=pk hs p q (jobs.length:Int) hp (by omega);have h6:=h3 (by have:=hne c;omega);obtain ⟨x0,x1,x2,x3,p2,q2,e2,h7,h8⟩:=sj hs p1 q1 (rd_T44 jobs v).f0 (rd_T44 jobs v).f1 (rd_T44 jobs v).f2 (rd_T44 jobs v).f3 (by omega) (by omega);obtain ⟨r,p3,q3,hr,h9,h10,h11⟩:=someJobs_j5 hs a (jobs.set v.toNat ⟨x0,x1,x2,x3⟩) p2 q2 (by simpa using h1) (by omega) (by omega);refine ⟨r,p3,q3,ev_go _ (fun k=>?_) hr,h9,by omega,by omega⟩;simp only [spec_l1Cur_someJobs.j4];rw [if_pos c,e,Option.bind_some,if_pos h2,if_pos h6,e2,Option.bind_some]
 ·obtain ⟨r,p3,q3,hr,h9,h10,h11⟩:=someJobs_j5 hs a jobs p q h1 (by omega) (by omega);refine ⟨r,p3,q3,ev_go _ (fun k=>?_) hr,h9,by omega,by omega⟩;simp only [spec_l1Cur_someJobs.j4];rw [if_neg c]
theorem someJobs_j3 {s:List Int} (hs:ByteL s) (a:Bool) (jobs:List J) (p q:Int) (h1:jobs.length<=100) (hp:0<=p) (hb:p<=400000000000000):∃ r p' q',Ev (fun k=>spec_l1Cur_someJobs.j3 k a jobs s p q) (r,p',q')/\r.length<=100/\p<=p'/\p'<=p + 150:=by
 by_cases c:(jobs.length:Int)>0
 ·obtain ⟨b,p1,q1,e,h2,h3⟩:=on hs p q 20 hp (by omega);obtain ⟨r,p2,q2,hr,h4,h5,h6⟩:=someJobs_j4 hs a b jobs p1 q1 (fun _=>by omega) h1 (by omega) (by omega);refine ⟨r,p2,q2,ev_go _ (fun k=>?_) hr,h4,by omega,by omega⟩;simp only [spec_l1Cur_someJobs.j3];rw [if_pos c,e,Option.bind_some]
 ·obtain ⟨r,p2,q2,hr,h4,h5,h6⟩:=someJobs_j4 hs a false jobs p q (by simp) h1 (by omega) (by omega);refine ⟨r,p2,q2,ev_go _ (fun k=>?_) hr,h4,by omega,by omega⟩;simp only [spec_l1Cur_someJobs.j3];rw [if_neg c]
theorem someJobs_l0 {s:List Int} (hs:ByteL s) (a:Bool) (m:Int) (hm:m<=100):∀ (c:Nat) (n:Int) (jobs:List J) (p q:Int),n<=c->c<=1000->jobs.length<=100->0<=p->p + 8 * c<=300000000000000->∃ r p' q',Ev (fun k=>spec_l1Cur_someJobs.l0 k a m jobs n s p q) (r,p',q')/\r.length<=100/\p<=p'/\p'<=p + 8 * c + 150:=by
 intro c
 induction c with
 | zero=>
  intro n jobs p q h1 _ h2 hp hb;obtain ⟨r,p2,q2,hr,h4,h5,h6⟩:=someJobs_j3 hs a jobs p q h2 hp (by omega);refine ⟨r,p2,q2,ev_go _ (fun k=>?_) hr,h4,by omega,by omega⟩;simp only [spec_l1Cur_someJobs.l0];rw [if_neg (by omega)]
 | succ c ih=>
  intro n jobs p q h1 h3 h2 hp hb;by_cases cn:n>0/\(jobs.length:Int)<m
  ·obtain ⟨x0,x1,x2,x3,p1,q1,e,h4,h5⟩:=jb hs p q a hp (by omega);obtain ⟨r,p2,q2,hr,h6,h7,h8⟩:=ih (n - 1) (jobs++[⟨x0,x1,x2,x3⟩]) p1 q1 (by omega) (by omega) (by simp;omega) (by omega) (by omega);refine ⟨r,p2,q2,ev_go _ (fun k=>?_) hr,h6,by omega,by omega⟩;simp only [spec_l1Cur_someJobs.l0];rw [if_pos cn.1,if_pos cn.2,e,Option.bind_some,if_pos (by omega),wr (x:=n - 1) (by omega) (by omega)]
  ·obtain ⟨r,p2,q2,hr,h4,h5,h6⟩:=someJobs_j3 hs a jobs p q h2 hp (by omega);refine ⟨r,p2,q2,ev_go _ (fun k=>?_) hr,h4,by omega,by omega⟩;simp only [spec_l1Cur_someJobs.l0];by_cases c1:n>0
   ·rw [if_pos c1,if_neg (fun c2=>cn ⟨c1,c2⟩)]
   ·rw [if_neg c1]
theorem spec_l1Cur_someJobs.tot {s:List Int} (hs:ByteL s) (a:Bool) (m p q:Int) (hm:m<=100) (hp:0<=p) (hb:p<=200000000000000):∃ r p' q',Ev (fun k=>spec_l1Cur_someJobs.f k s p q a m) (r,p',q')/\r.length<=100/\p<=p'/\p'<=p + 300:=by
 unfold spec_l1Cur_someJobs.f;simp only [Option.bind_some];obtain ⟨v,p1,q1,e1,hv,h1,h2⟩:=am hs p q [3,4,5,2,6,1,0] (by simp) hp (by omega);simp only [e1,Option.bind_some];have hv6:v<=6:=by simp at hv;omega
 have J1:=fun (n p q:Int) (hn:n<=8) (hp:0<=p) (hb:p<=250000000000000)=>someJobs_l0 hs a m hm 8 n [] p q hn (by omega) (by simp) hp (by omega)
 by_cases c:m>6
 ·simp only [if_pos c];obtain ⟨b,p2,q2,e2,h3,h4⟩:=on hs p1 q1 6 (by omega) (by omega);simp only [e2,Option.bind_some];by_cases cb:b=true
  ·obtain ⟨u,p3,q3,e3,h5,h6,h7,h8⟩:=pk hs p2 q2 2 (by omega) (by omega);have h9:=h6 (by omega);obtain ⟨r,p4,q4,hr,h10,h11,h12⟩:=J1 (7 + u) p3 q3 (by omega) (by omega) (by omega);refine ⟨r,p4,q4,ev_go (fun k=>spec_l1Cur_someJobs.j1 k a m [] (7 + u) s p3 q3) (fun k=>?_) (ev_go _ (fun k=>by simp only [spec_l1Cur_someJobs.j1]) hr),h10,by omega,by omega⟩;simp only [spec_l1Cur_someJobs.j0];rw [if_pos cb,e3,Option.bind_some,wr (x:=7 + u) (by omega) (by omega)]
  ·obtain ⟨r,p4,q4,hr,h10,h11,h12⟩:=J1 v p2 q2 (by omega) (by omega) (by omega);refine ⟨r,p4,q4,ev_go (fun k=>spec_l1Cur_someJobs.j1 k a m [] v s p2 q2) (fun k=>?_) (ev_go _ (fun k=>by simp only [spec_l1Cur_someJobs.j1]) hr),h10,by omega,by omega⟩;simp only [spec_l1Cur_someJobs.j0];rw [if_neg cb]
 ·simp only [if_neg c];obtain ⟨r,p4,q4,hr,h10,h11,h12⟩:=J1 v p1 q1 (by omega) (by omega) (by omega);refine ⟨r,p4,q4,ev_go (fun k=>spec_l1Cur_someJobs.j1 k a m [] v s p1 q1) (fun k=>?_) (ev_go _ (fun k=>by simp only [spec_l1Cur_someJobs.j1]) hr),h10,by omega,by omega⟩;simp only [spec_l1Cur_someJobs.j0];rw [if_neg (by simp)]
theorem spec_l1Cur_jobs.tot {s:List Int} (hs:ByteL s) (p q:Int) (hp:0<=p) (hb:p<=100000000000000):∃ r p' q',Ev (fun k=>spec_l1Cur_jobs.f k s p q) (r,p',q')/\r.length<=100/\p<=p'/\p'<=p + 400:=by
 unfold spec_l1Cur_jobs.f;obtain ⟨b,p1,q1,e,h1,h2⟩:=on hs p q 2 hp (by omega);simp only [e,Option.bind_some];obtain ⟨r,p2,q2,hr,h3,h4,h5⟩:=spec_l1Cur_someJobs.tot hs b 6 p1 q1 (by omega) (by omega) (by omega);exact ⟨r,p2,q2,ev_bind _ hr (Ev.now _),h3,by omega,by omega⟩
def pl1 (x:List J) (i:Int):List J:=x.set i.toNat ⟨(rd_T44 x i).f0,(rd_T44 x i).f1,0,(rd_T44 x i).f3⟩
def pl2 (x:List J) (i:Int):List J:=x.set i.toNat ⟨(rd_T44 x (wrap64 (i - 1))).f0,(rd_T44 x i).f1,(rd_T44 x i).f2,(rd_T44 x i).f3⟩
def pl3 (x:List J) (i:Int):List J:=x.set i.toNat ⟨(rd_T44 x i).f0,(rd_T44 x (wrap64 (i - 1))).f1,(rd_T44 x i).f2,(rd_T44 x i).f3⟩
theorem plain3_l0 {s:List Int} (hs:ByteL s):∀ (c i:Nat) (jobs:List J) (p q:Int),jobs.length=i + c->jobs.length<=100->0<=p->p + 2 * c<=90000000000000->∃ r p' q',Ev (fun k=>spec_l1Cur_plain3.l0 k jobs (i:Int) s p q) (r,p',q')/\r.length<=100/\p<=p'/\p'<=p + 2 * c:=by
 intro c
 induction c with
 | zero=>
  intro i jobs p q h1 h2 hp hb;refine ⟨jobs,p,q,ev_stop fun k=>?_,h2,by omega,by omega⟩;simp only [spec_l1Cur_plain3.l0];rw [if_neg (by omega)]
 | succ c ih=>
  intro i jobs p q h1 h2 hp hb;by_cases c0:(i:Int)>0
  ·obtain ⟨b,p1,q1,e,h3,h4⟩:=on hs p q 3 hp (by omega);have w1:wrap64 ((i:Int) - 1)=(i:Int) - 1:=wr (by omega) (by omega);by_cases cb:b=true
   ·obtain ⟨r,p2,q2,hr,h5,h6,h7⟩:=ih (i + 1) (pl3 (pl2 (pl1 jobs i) i) i) p1 q1 (by simp [pl1,pl2,pl3];omega) (by simp [pl1,pl2,pl3];omega) (by omega) (by omega);refine ⟨r,p2,q2,ev_go _ (fun k=>?_) hr,h5,by omega,by omega⟩;simp only [spec_l1Cur_plain3.l0];rw [if_pos (by omega),if_pos (by omega),Option.bind_some,if_pos c0,e,Option.bind_some,if_pos cb,if_pos (by omega),if_pos (by omega),Option.bind_some,wr1 (by omega)]
    rfl
   ·obtain ⟨r,p2,q2,hr,h5,h6,h7⟩:=ih (i + 1) (pl1 jobs i) p1 q1 (by simp [pl1];omega) (by simp [pl1];omega) (by omega) (by omega);refine ⟨r,p2,q2,ev_go _ (fun k=>?_) hr,h5,by omega,by omega⟩;simp only [spec_l1Cur_plain3.l0];rw [if_pos (by omega),if_pos (by omega),Option.bind_some,if_pos c0,e,Option.bind_some,if_neg cb,wr1 (by omega)]
    rfl
  ·obtain ⟨r,p2,q2,hr,h5,h6,h7⟩:=ih (i + 1) (pl1 jobs i) p q (by simp [pl1];omega) (by simp [pl1];omega) (by omega) (by omega);refine ⟨r,p2,q2,ev_go _ (fun k=>?_) hr,h5,by omega,by omega⟩;simp only [spec_l1Cur_plain3.l0];rw [if_pos (by omega),if_pos (by omega),Option.bind_some,if_neg c0,wr1 (by omega)]
   rfl
theorem spec_l1Cur_plain3.tot {s:List Int} (hs:ByteL s) (p q:Int) (hp:0<=p) (hb:p<=10000000000000):∃ r p' q',Ev (fun k=>spec_l1Cur_plain3.f k s p q) (r,p',q')/\r.length<=100/\p<=p'/\p'<=p + 1000:=by
 unfold spec_l1Cur_plain3.f;obtain ⟨r,p1,q1,hr,h1,h2,h3⟩:=spec_l1Cur_jobs.tot hs p q hp (by omega);obtain ⟨b,p2,q2,e,h4,h5⟩:=on hs p1 q1 24 (by omega) (by omega);by_cases cb:b=true
 ·exact ⟨r,p2,q2,ev_bind _ hr (by simp only [e,Option.bind_some,if_pos cb];exact Ev.now _),h1,by omega,by omega⟩
 ·obtain ⟨r2,p3,q3,hr2,h6,h7,h8⟩:=plain3_l0 hs r.length 0 r p2 q2 (by omega) h1 (by omega) (by omega);exact ⟨r2,p3,q3,ev_bind _ hr (by simp only [e,Option.bind_some,if_neg cb];exact hr2),h6,by omega,by omega⟩
theorem work7_l0 {s:List Int} (hs:ByteL s):∀ (c i:Nat) (jobs:List J) (p q:Int),jobs.length=i + c->jobs.length<=100->0<=p->p + 4 * c<=90000000000000->∃ r p' q',Ev (fun k=>spec_l1Cur_work7.l0 k jobs (i:Int) s p q) (r,p',q')/\r.length<=100/\p<=p'/\p'<=p + 4 * c:=by
 intro c
 induction c with
 | zero=>
  intro i jobs p q h1 h2 hp hb;refine ⟨jobs,p,q,ev_stop fun k=>?_,h2,by omega,by omega⟩;simp only [spec_l1Cur_work7.l0];rw [if_neg (by omega)]
 | succ c ih=>
  intro i jobs p q h1 h2 hp hb;obtain ⟨b,p1,q1,e,h3,h4⟩:=on hs p q 4 hp (by omega);by_cases cb:b=true
  ·refine ⟨jobs,p1,q1,ev_stop fun k=>?_,h2,by omega,by omega⟩;simp only [spec_l1Cur_work7.l0];rw [if_pos (by omega),e,Option.bind_some,if_pos cb]
  ·obtain ⟨v,p2,q2,e2,_,h5,h6⟩:=am hs p1 q1 [1,1,2,3,4,7] (by simp) (by omega) (by omega);obtain ⟨r,p3,q3,hr,h7,h8,h9⟩:=ih (i + 1) (jobs.set (i:Int).toNat ⟨v,(rd_T44 jobs i).f1,(rd_T44 jobs i).f2,(rd_T44 jobs i).f3⟩) p2 q2 (by simp;omega) (by simp;omega) (by omega) (by omega);refine ⟨r,p3,q3,ev_go _ (fun k=>?_) hr,h7,by omega,by omega⟩;simp only [spec_l1Cur_work7.l0];rw [if_pos (by omega),e,Option.bind_some,if_neg cb,e2,Option.bind_some,if_pos (by omega),wr1 (by omega)]
theorem spec_l1Cur_work7.tot {s:List Int} (hs:ByteL s) (p q:Int) (hp:0<=p) (hb:p<=1000000000000):∃ r p' q',Ev (fun k=>spec_l1Cur_work7.f k s p q) (r,p',q')/\r.length<=100/\p<=p'/\p'<=p + 2000:=by
 unfold spec_l1Cur_work7.f;obtain ⟨r,p1,q1,hr,h1,h2,h3⟩:=spec_l1Cur_plain3.tot hs p q hp (by omega);obtain ⟨r2,p3,q3,hr2,h6,h7,h8⟩:=work7_l0 hs r.length 0 r p1 q1 (by omega) h1 (by omega) (by omega);exact ⟨r2,p3,q3,ev_bind _ hr hr2,h6,by omega,by omega⟩
theorem edges_step {s:List Int} (hs:ByteL s) (n i j v:Int) (E:List A2) (b:Bool) (p q:Int) (hj:j<n) (hE:E.length<=28) (hj2 : -1000<=j/\j<=1000) (hp:0<=p) (hb:p<=90000000000000):∃ E' p' q',(∀ k,spec_l1Cur_edges.l1 (k + 1) n E b v i j s p q=spec_l1Cur_edges.l1 k n E' b v i (j + 1) s p' q')/\E'.length<=28/\p<=p'/\p'<=p + 2:=by
 obtain ⟨t,p1,q1,e,h1,h2⟩:=on hs p q v hp (by omega);have w:wrap64 (j + 1)=j + 1:=wr (by omega) (by omega);have two:∃ E':List A2,E'.length<=28/\∀ k,(if t=true then (if (E.length:Int)<28 then (if E.length<8796093022208 then spec_l1Cur_edges.l1 k n (E++[⟨i,j⟩]) b v i (j + 1) s p1 q1 else none) else spec_l1Cur_edges.l1 k n E b v i (j + 1) s p1 q1) else spec_l1Cur_edges.l1 k n E b v i (j + 1) s p1 q1)=spec_l1Cur_edges.l1 k n E' b v i (j + 1) s p1 q1:=by
  by_cases c:t=true/\(E.length:Int)<28
  ·exact ⟨E++[⟨i,j⟩],by simp;omega,fun k=>by rw [if_pos c.1,if_pos c.2,if_pos (by omega)]⟩
  ·refine ⟨E,hE,fun k=>?_⟩;by_cases c1:t=true
   ·rw [if_pos c1,if_neg (fun c2=>c ⟨c1,c2⟩)]
   ·rw [if_neg c1]
 obtain ⟨E',hE',two⟩:=two;by_cases c1:i<j
 ·by_cases c2:b=true
  ·refine ⟨E,p,q,fun k=>?_,hE,by omega,by omega⟩;simp only [spec_l1Cur_edges.l1];rw [if_pos hj,if_pos c1,if_pos c2,if_neg (by omega),w]
  ·refine ⟨E',p1,q1,fun k=>?_,hE',h1,h2⟩;rw [<-two k];simp only [spec_l1Cur_edges.l1];rw [if_pos hj,if_pos c1,if_neg c2,e,Option.bind_some,w]
 ·by_cases c3:i>j
  ·by_cases c2:b=true
   ·refine ⟨E',p1,q1,fun k=>?_,hE',h1,h2⟩;rw [<-two k];simp only [spec_l1Cur_edges.l1];rw [if_pos hj,if_neg c1,if_pos c3,if_pos c2,e,Option.bind_some,w]
   ·refine ⟨E,p,q,fun k=>?_,hE,by omega,by omega⟩;simp only [spec_l1Cur_edges.l1];rw [if_pos hj,if_neg c1,if_pos c3,if_neg c2,w]
  ·refine ⟨E,p,q,fun k=>?_,hE,by omega,by omega⟩;simp only [spec_l1Cur_edges.l1];rw [if_pos hj,if_neg c1,if_neg c3,w]
theorem edges_l1 {s:List Int} (hs:ByteL s) (n i v:Int) (b:Bool) (hn:0<=n/\n<=100) (hi:0<=i/\i<=100) (B:Int) (rest:∀ (E:List A2) (p q:Int),E.length<=28->0<=p->p<=B->∃ r p' q',Ev (fun k=>spec_l1Cur_edges.l0 k n E b v (i + 1) s p q) (r,p',q')/\r.length<=100/\0<=p'/\p'<=90000000000000):∀ (c:Nat) (j:Int) (E:List A2) (p q:Int),n=j + c->0<=j->E.length<=28->0<=p->p + 2 * c<=80000000000000->p + 2 * c<=B->∃ r p' q',Ev (fun k=>spec_l1Cur_edges.l1 k n E b v i j s p q) (r,p',q')/\r.length<=100/\0<=p'/\p'<=90000000000000:=by
 intro c
 induction c with
 | zero=>
  intro j E p q h1 h2 h3 hp hb hB;obtain ⟨r,p',q',hr,h4⟩:=rest E p q h3 hp (by omega);refine ⟨r,p',q',ev_go _ (fun k=>?_) hr,h4⟩;simp only [spec_l1Cur_edges.l1];rw [if_neg (by omega),wr (x:=i + 1) (by omega) (by omega)]
 | succ c ih=>
  intro j E p q h1 h2 h3 hp hb hB;obtain ⟨E',p1,q1,he,h4,h5,h6⟩:=edges_step hs n i j v E b p q (by omega) h3 (by omega) hp (by omega);obtain ⟨r,p',q',hr,h7⟩:=ih (j + 1) E' p1 q1 (by omega) (by omega) h4 (by omega) (by omega) (by omega);exact ⟨r,p',q',ev_go _ he hr,h7⟩
theorem edges_end {s:List Int} (hs:ByteL s) (n i v:Int) (b:Bool) (hn:0<=n/\n<=100) (hi:¬ i<n) (E:List A2) (p q:Int) (hE:E.length<=28) (hp:0<=p) (hb:p<=80000000000000):∃ r p' q',Ev (fun k=>spec_l1Cur_edges.l0 k n E b v i s p q) (r,p',q')/\r.length<=100/\0<=p'/\p'<=90000000000000:=by
 obtain ⟨t,p1,q1,e,h0,h1,h2,h3⟩:=pk hs p q 40 hp (by omega);have wn:wrap64 (n + 1)=n + 1:=wr (by omega) (by omega);by_cases c0:t=0
 ·obtain ⟨u,p2,q2,e2,_,_,h4,h5⟩:=pk hs p1 q1 (n + 1) (by omega) (by omega);obtain ⟨w,p3,q3,e3,_,_,h6,h7⟩:=pk hs p2 q2 (n + 1) (by omega) (by omega);refine ⟨E++[⟨wrap64 (u - 1),w⟩],p3,q3,ev_stop fun k=>?_,by simp;omega,by omega,by omega⟩;simp only [spec_l1Cur_edges.l0];rw [if_neg hi,e,Option.bind_some,if_pos c0,wn,e2,Option.bind_some,e3,Option.bind_some,if_pos (by omega)]
 ·by_cases c1:t=1
  ·by_cases c2:(E.length:Int)>0
   ·have wl:wrap64 ((E.length:Int) - 1)=(E.length:Int) - 1:=wr (by omega) (by omega);refine ⟨E++[⟨(rd_T42 E ((E.length:Int) - 1)).f0,(rd_T42 E ((E.length:Int) - 1)).f1⟩],p1,q1,ev_stop fun k=>?_,by simp;omega,by omega,by omega⟩;simp only [spec_l1Cur_edges.l0];rw [if_neg hi,e,Option.bind_some,if_neg c0,if_pos c1,if_pos c2,wl,if_pos (by omega),if_pos (by omega),if_pos (by omega)]
   ·refine ⟨E,p1,q1,ev_stop fun k=>?_,by omega,by omega,by omega⟩;simp only [spec_l1Cur_edges.l0];rw [if_neg hi,e,Option.bind_some,if_neg c0,if_pos c1,if_neg c2]
  ·by_cases c3:t=2
   ·by_cases c4:n>2
    ·refine ⟨[⟨0,1⟩,⟨1,2⟩,⟨2,0⟩],p1,q1,ev_stop fun k=>?_,by simp,by omega,by omega⟩;simp only [spec_l1Cur_edges.l0];rw [if_neg hi,e,Option.bind_some,if_neg c0,if_neg c1,if_pos c3,if_pos c4]
    ·refine ⟨E,p1,q1,ev_stop fun k=>?_,by omega,by omega,by omega⟩;simp only [spec_l1Cur_edges.l0];rw [if_neg hi,e,Option.bind_some,if_neg c0,if_neg c1,if_pos c3,if_neg c4]
   ·refine ⟨E,p1,q1,ev_stop fun k=>?_,by omega,by omega,by omega⟩;simp only [spec_l1Cur_edges.l0];rw [if_neg hi,e,Option.bind_some,if_neg c0,if_neg c1,if_neg c3]
theorem edges_l0 {s:List Int} (hs:ByteL s) (n v:Int) (b:Bool) (hn:0<=n/\n<=100):∀ (c:Nat) (i:Int) (E:List A2) (p q:Int),n=i + c->0<=i->E.length<=28->0<=p->p + 200 * c<=70000000000000->∃ r p' q',Ev (fun k=>spec_l1Cur_edges.l0 k n E b v i s p q) (r,p',q')/\r.length<=100/\0<=p'/\p'<=90000000000000:=by
 intro c
 induction c with
 | zero=>
  intro i E p q h1 h2 h3 hp hb;exact edges_end hs n i v b hn (by omega) E p q h3 hp (by omega)
 | succ c ih=>
  intro i E p q h1 h2 h3 hp hb;obtain ⟨r,p',q',hr,h4⟩:=edges_l1 hs n i v b hn (by omega) (p + 200) (fun E p' q' h5 h6 h7=>ih (i + 1) E p' q' (by omega) (by omega) h5 h6 (by omega)) n.toNat 0 E p q (by omega) (by omega) h3 hp (by omega) (by omega);refine ⟨r,p',q',ev_go _ (fun k=>?_) hr,h4⟩;simp only [spec_l1Cur_edges.l0];rw [if_pos (by omega)]
theorem spec_l1Cur_edges.tot {s:List Int} (hs:ByteL s) (n p q:Int) (hn:0<=n/\n<=100) (hp:0<=p) (hb:p<=1000000000000):∃ r p' q',Ev (fun k=>spec_l1Cur_edges.f k s p q n) (r,p',q')/\r.length<=100/\0<=p'/\p'<=90000000000000:=by
 unfold spec_l1Cur_edges.f;obtain ⟨b,p1,q1,e,h1,h2⟩:=on hs p q 3 hp (by omega);obtain ⟨v,p2,q2,e2,_,h3,h4⟩:=am hs p1 q1 [2,3,5] (by simp) (by omega) (by omega);obtain ⟨r,p',q',hr,h5⟩:=edges_l0 hs n v b hn n.toNat 0 [] p2 q2 (by omega) (by omega) (by simp) (by omega) (by omega);refine ⟨r,p',q',?_,h5⟩;simp only [e,Option.bind_some,e2];exact hr
theorem spec_l1Cur_machines.tot {s:List Int} (hs:ByteL s) (p q:Int) (hp:0<=p) (hb:p<=1000000000000):∃ v p' q',spec_l1Cur_machines.f s p q=some (v,p',q')/\(-1<=v/\v<=5)/\p<=p'/\p'<=p + 10:=by
 obtain ⟨b,p1,q1,e1,h1,h2⟩:=on hs p q 24 hp (by omega);unfold spec_l1Cur_machines.f;rw [e1,Option.bind_some];by_cases hb2:b=true
 ·obtain ⟨v,p2,q2,e2,hv,h3,h4⟩:=am hs p1 q1 [0,5, -1] (by simp) (by omega) (by omega);refine ⟨v,p2,q2,?_,?_,by omega,by omega⟩
  ·rw [if_pos hb2,e2,Option.bind_some]
  ·simp only [List.mem_cons,List.not_mem_nil,or_false] at hv;rcases hv with rfl|rfl|rfl <;> omega
 ·obtain ⟨v,p2,q2,e2,hv,h3,h4⟩:=am hs p1 q1 [2,2,3,1,4] (by simp) (by omega) (by omega);refine ⟨v,p2,q2,?_,?_,by omega,by omega⟩
  ·rw [if_neg hb2,e2,Option.bind_some]
  ·simp only [List.mem_cons,List.not_mem_nil,or_false] at hv;rcases hv with rfl|rfl|rfl|rfl|rfl <;> omega
def pjs (f:BF) (i:Nat):Nat->Nat->List A2
 | 0,_=>[]
 | c + 1,j=>(if f i j=true then [⟨(i:Int),(j:Int)⟩] else [])++pjs f i c (j + 1)
def pis (f:BF) (n:Nat):Nat->Nat->List A2
 | 0,_=>[]
 | c + 1,i=>pjs f i n 0++pis f n c (i + 1)
theorem pjs_mem (f:BF) (i:Nat) (p:A2):∀ (c j:Nat),p ∈ pjs f i c j ↔ ∃ m,j<=m/\m<j + c/\f i m=true/\p=⟨(i:Int),(m:Int)⟩
 | 0,j=>by simp [pjs];omega
 | c + 1,j=>by
  rw [pjs,List.mem_append,pjs_mem f i p c (j + 1)];constructor
  ·rintro (h | ⟨m,h1,h2,h3,h4⟩)
   ·split at h
    ·rename_i hf
     exact ⟨j,by omega,by omega,hf,by simpa using h⟩
    ·simp at h
   ·exact ⟨m,by omega,by omega,h3,h4⟩
  ·rintro ⟨m,h1,h2,h3,h4⟩;by_cases e:m=j
   ·subst e;exact .inl (by rw [if_pos h3,h4];simp)
   ·exact .inr ⟨m,by omega,by omega,h3,h4⟩
theorem pis_mem (f:BF) (n:Nat) (p:A2):∀ (c i:Nat),p ∈ pis f n c i ↔ ∃ a b,i<=a/\a<i + c/\b<n/\f a b=true/\p=⟨(a:Int),(b:Int)⟩
 | 0,i=>by simp [pis];omega
 | c + 1,i=>by
  rw [pis,List.mem_append,pis_mem f n p c (i + 1),pjs_mem];constructor
  ·rintro (⟨m,h1,h2,h3,h4⟩ | ⟨a,b,h1,h2,h3,h4,h5⟩)
   ·exact ⟨i,m,by omega,by omega,by omega,h3,h4⟩
   ·exact ⟨a,b,by omega,by omega,h3,h4,h5⟩
  ·rintro ⟨a,b,h1,h2,h3,h4,h5⟩;by_cases e:a=i
   ·subst e;exact .inl ⟨b,by omega,by omega,h4,h5⟩
   ·exact .inr ⟨a,b,by omega,by omega,h3,h4,h5⟩
theorem pjs_len (f:BF) (i:Nat):∀ (c j:Nat),(pjs f i c j).length<=c
 | 0,_=>by simp [pjs]
 | c + 1,j=>by
  have:=pjs_len f i c (j + 1);rw [pjs,List.length_append]
  split <;> simp <;> omega
theorem pis_len (f:BF) (n:Nat):∀ (c i:Nat),(pis f n c i).length<=c * n
 | 0,_=>by simp [pis]
 | c + 1,i=>by
  have h1:=pis_len f n c (i + 1);have h2:=pjs_len f i n 0;rw [pis,List.length_append,Nat.succ_mul];omega
theorem pairsOf_l1 {n:Nat} {f:BF} (hn:n<=1000) (i:Nat) (hi:i<n) (R:List A2):∀ (c j:Nat) (acc:List A2),j + c=n->acc.length + c<=100000000->Ev (fun k=>impl_pairsOf.l0 k (acc++pjs f i c j) (tbl n f) (n:Int) ((i + 1:Nat):Int)) R->Ev (fun k=>impl_pairsOf.l1 k acc (i:Int) (tbl n f) (n:Int) (i:Int) (rd_L5 (tbl n f) (i:Int)) (n:Int) (j:Int)) R:=by
 intro c
 induction c with
 | zero=>
  intro j acc h1 _ h;rw [pjs,List.append_nil] at h;refine ev_go _ (fun k=>?_) h;simp only [impl_pairsOf.l1];rw [if_neg (by omega),wr1 (by omega)]
 | succ c ih=>
  intro j acc h1 h2 h;have hl:=tbl_rowlen (f:=f) hi;have ha:=tbl_at (f:=f) hi (show j<n by omega);rw [pjs] at h;by_cases cf:f i j=true
  ·rw [if_pos cf,<-List.append_assoc] at h;refine ev_go _ (fun k=>?_) (ih (j + 1) (acc++[⟨(i:Int),(j:Int)⟩]) (by omega) (by simp;omega) h);simp only [impl_pairsOf.l1];rw [if_pos (by omega),if_pos (by omega),if_pos (by rw [hl];omega),ha,if_pos cf,if_pos (by omega),wr1 (by omega)]
  ·rw [if_neg cf,List.nil_append] at h;refine ev_go _ (fun k=>?_) (ih (j + 1) acc (by omega) (by omega) h);simp only [impl_pairsOf.l1];rw [if_pos (by omega),if_pos (by omega),if_pos (by rw [hl];omega),ha,if_neg cf,wr1 (by omega)]
theorem pairsOf_l0 {n:Nat} {f:BF} (hn:n<=1000):∀ (c i:Nat) (acc:List A2),i + c=n->acc.length + c * n<=10000000->Ev (fun k=>impl_pairsOf.l0 k acc (tbl n f) (n:Int) (i:Int)) (acc++pis f n c i):=by
 intro c
 induction c with
 | zero=>
  intro i acc h1 _;rw [pis,List.append_nil];refine ev_stop fun k=>?_
  simp only [impl_pairsOf.l0];rw [if_neg (by omega)]
 | succ c ih=>
  intro i acc h1 h2;have hl:=tbl_rowlen (f:=f) (show i<n by omega);have hp:=pjs_len f i n 0;rw [Nat.succ_mul] at h2;have h3:=ih (i + 1) (acc++pjs f i n 0) (by omega) (by simp;omega);rw [List.append_assoc] at h3;refine ev_go _ (fun k=>?_) (pairsOf_l1 hn i (by omega) _ n 0 acc (by omega) (by omega) h3);simp only [impl_pairsOf.l0];rw [if_pos (by omega),if_pos (by omega),if_pos (by rw [tbl_length];omega),hl]
  rfl
theorem impl_pairsOf.ev {n:Nat} {f:BF} (hn:n<=1000):Ev (fun k=>impl_pairsOf.f k (tbl n f)) (pis f n n 0):=by
 have hq:n * n<=1000 * 1000:=Nat.mul_le_mul hn hn;have h:=pairsOf_l0 (f:=f) hn n 0 [] (by omega) (by simp;omega);unfold impl_pairsOf.f;rw [tbl_length];exact h
def dirR (f:BF) (a b:Nat):Nat->Nat->Bool->Bool
 | 0,_,s=>s
 | c + 1,m,s=>dirR f a b c (m + 1) (if s=true then !(f a m && f m b) else false)
theorem dirR_true (f:BF) (a b:Nat):∀ (c m:Nat) (s:Bool),dirR f a b c m s=true ↔ s=true/\∀ x,m<=x->x<m + c->¬ (f a x=true/\f x b=true)
 | 0,m,s=>by rw [dirR];exact ⟨fun h=>⟨h,fun x _ _=>by omega⟩,fun h=>h.1⟩
 | c + 1,m,s=>by
  rw [dirR,dirR_true f a b c (m + 1)];constructor
  ·rintro ⟨h1,h2⟩
   split at h1
   ·rename_i hs
    refine ⟨hs,fun x hx hx2 h=>?_⟩;by_cases e:x=m
    ·subst e;rw [h.1,h.2] at h1;simp at h1
    ·exact h2 x (by omega) (by omega) h
   ·simp at h1
  ·rintro ⟨h1,h2⟩;refine ⟨?_,fun x hx hx2=>h2 x (by omega) (by omega)⟩;rw [if_pos h1];have:=h2 m (by omega) (by omega);cases e:f a m
   ·rfl
   ·cases e2:f m b
    ·rfl
    ·exact absurd ⟨e,e2⟩ this
def redL (f:BF) (n:Nat) (L:List A2):List A2:=L.filter fun p=>dirR f p.f0.toNat p.f1.toNat n 0 true
theorem reduction_l1 {n:Nat} {f:BF} (hn:n<=1000) (a b:Nat) (ha:a<n) (hb:b<n) (L:List A2) (i:Nat) (hi:i + 1<=10000000) (R:List A2):∀ (c m:Nat) (s:Bool) (acc:List A2),m + c=n->acc.length<=10000000->Ev (fun k=>impl_reduction.l0 k (tbl n f) (if dirR f a b c m s=true then acc++[⟨(a:Int),(b:Int)⟩] else acc) L (L.length:Int) ((i + 1:Nat):Int)) R->Ev (fun k=>impl_reduction.l1 k (tbl n f) acc s L (L.length:Int) (i:Int) (n:Int) (m:Int) (a:Int) (b:Int)) R:=by
 intro c
 induction c with
 | zero=>
  intro m s acc h1 h2 h;rw [dirR] at h;refine ev_go _ (fun k=>?_) h;simp only [impl_reduction.l1];rw [if_neg (by omega),wr1 (by omega)];by_cases cs:s=true
  ·rw [if_pos cs,if_pos cs,if_pos (by omega)]
  ·rw [if_neg cs,if_neg cs]
 | succ c ih=>
  intro m s acc h1 h2 h;rw [dirR] at h;have hm:m<n:=by omega
  have la:=tbl_rowlen (f:=f) ha;have lm:=tbl_rowlen (f:=f) hm;have ea:=tbl_at (f:=f) ha hm;have em:=tbl_at (f:=f) hm hb;by_cases cs:s=true
  ·rw [if_pos cs] at h;have h3:=ih (m + 1) _ acc (by omega) h2 h;by_cases c1:f a m=true
   ·rw [c1,Bool.true_and] at h3;refine ev_go _ (fun k=>?_) h3;simp only [impl_reduction.l1];rw [if_pos (by omega),if_pos cs,if_pos (by omega),if_pos (by rw [tbl_length];omega),if_pos (by omega),if_pos (by rw [la];omega),ea,if_pos c1,if_pos (by rw [tbl_length];omega),if_pos (by omega),if_pos (by rw [lm];omega),em,wr1 (by omega)]
   ·rw [Bool.eq_false_iff.2 c1,Bool.false_and] at h3;refine ev_go _ (fun k=>?_) h3;simp only [impl_reduction.l1];rw [if_pos (by omega),if_pos cs,if_pos (by omega),if_pos (by rw [tbl_length];omega),if_pos (by omega),if_pos (by rw [la];omega),ea,if_neg c1,wr1 (by omega)]
  ·rw [if_neg cs] at h;refine ev_go _ (fun k=>?_) (ih (m + 1) _ acc (by omega) h2 h);simp only [impl_reduction.l1];rw [if_pos (by omega),if_neg cs,wr1 (by omega)]
theorem impl_reduction.ev {n:Nat} {f:BF} (hn:n<=1000):Ev (fun k=>impl_reduction.f k (tbl n f)) (redL f n (pis f n n 0)):=by
 have hq:n * n<=1000 * 1000:=Nat.mul_le_mul hn hn;have hL:=pis_len f n n 0;have hmem:=fun p=>pis_mem f n p n 0
 unfold impl_reduction.f;refine ev_bind _ (impl_pairsOf.ev hn) ?_;generalize pis f n n 0=L at hL hmem;have key:=rev_ind (P:=fun i=>Ev (fun k=>impl_reduction.l0 k (tbl n f) (redL f n (L.take i)) L (L.length:Int) (i:Int)) (redL f n L)) L.length ?_ ?_ 0 (Nat.zero_le _)
 ·simpa [redL] using key
 ·refine ev_stop fun k=>?_
  simp only [impl_reduction.l0];rw [if_neg (by omega),List.take_of_length_le (Nat.le_refl _)]
 ·intro i hi ih;obtain ⟨a,b,_,ha,hb,_,e⟩:=(hmem L[i]).1 (List.getElem_mem hi);have hr:rd_T42 L (i:Int)=⟨(a:Int),(b:Int)⟩:=by rw [rdA2 hi,e]
  have e2:redL f n (L.take (i + 1))=if dirR f a b n 0 true=true then redL f n (L.take i)++[⟨(a:Int),(b:Int)⟩] else redL f n (L.take i):=by
   rw [List.take_add_one,List.getElem?_eq_getElem hi,e];unfold redL;rw [List.filter_append];by_cases c:dirR f a b n 0 true=true
   ·rw [if_pos c];simp [c]
   ·rw [if_neg c];simp [c]
  rw [e2] at ih;have hlen:(redL f n (L.take i)).length<=10000000:=by
   have h1:(redL f n (L.take i)).length<=(L.take i).length:=List.length_filter_le _ _;simp at h1;omega
  refine ev_go _ (fun k=>?_) (reduction_l1 hn a b (by omega) hb L i (by omega) _ n 0 true _ (by omega) hlen ih);simp only [impl_reduction.l0];rw [if_pos (by omega),if_pos (by omega),if_pos (by omega),hr,tbl_length]
  rfl
theorem redL_mem {n:Nat} {f:BF} {p:A2} : p ∈ redL f n (pis f n n 0) ↔ ∃ a b,a<n/\b<n/\f a b=true/\(∀ x,x<n->¬ (f a x=true/\f x b=true))/\p=⟨(a:Int),(b:Int)⟩:=by
 unfold redL;rw [List.mem_filter,pis_mem,dirR_true];constructor
 ·rintro ⟨⟨a,b,_,h1,h2,h3,e⟩,_,h4⟩;subst e;exact ⟨a,b,by omega,h2,h3,fun x hx=>by have:=h4 x (by omega) (by omega);simpa using this,rfl⟩
 ·rintro ⟨a,b,h1,h2,h3,h4,e⟩;subst e;exact ⟨⟨a,b,by omega,by omega,h2,h3,rfl⟩,rfl,fun x _ hx=>by have:=h4 x (by omega);simpa using this⟩
structure SpS where
 plan:List PTask
 ends:List Int
 free:List Int
 left:Int
def tmI (jobs:List J) (i:Int):Int:=(rd_T44 jobs i).f0
def spRdy (n:Nat) (f:BF) (ends:List Int) (now:Int) (i:Int):Bool:=decide (rd ends i<0) && (List.range n).all fun k=> !(f k i.toNat) || (decide (0<=rd ends (k:Int)) && decide (rd ends (k:Int)<=now))
def spNx (n:Nat) (f:BF) (order ends:List Int) (now:Int):Int:=(order.find? (spRdy n f ends now)).getD (-1)
def spStep (jobs:List J) (f:BF) (order:List Int) (now:Int) (s:SpS) (mm:Nat):SpS:=
 if rd s.free (mm:Int)<=now then (match order.find? (spRdy jobs.length f s.ends now) with
  | none=>s
  | some i=>⟨s.plan.set i.toNat ⟨i,(mm:Int),now⟩,s.ends.set i.toNat (now + tmI jobs i),s.free.set mm (now + tmI jobs i),s.left - 1⟩) else s
def spRun (jobs:List J) (f:BF) (order:List Int) (now:Int):Nat->Nat->SpS->SpS
 | 0,_,s=>s
 | c + 1,mm,s=>spRun jobs f order now c (mm + 1) (spStep jobs f order now s mm)
def cntU (ends:List Int):Nat:=(ends.filter fun e=>decide (e<0)).length
theorem cntU_set:∀ (l:List Int) (i:Nat) (h:i<l.length) (v:Int),l[i]<0->0<=v->cntU (l.set i v) + 1=cntU l
 | [],_,h,_,_,_=>absurd h (by simp)
 | a::l,0,_,v,h0,hv=>by
  have h0':a<0:=h0;simp [cntU,List.filter_cons,h0',show ¬ v<0 by omega]
 | a::l,i + 1,h,v,h0,hv=>by
  have ih:=cntU_set l i (by simpa using h) v (by simpa using h0) hv;unfold cntU at ih ⊢;simp only [List.set_cons_succ,List.filter_cons]
  split <;> (try simp only [List.length_cons]) <;> omega
theorem cntU_pos:∀ {l:List Int},0<cntU l->∃ i,i<l.length/\rd l (i:Int)<0
 | [],h=>absurd h (by simp [cntU])
 | a::l,h=>by
  by_cases ha:a<0
  ·exact ⟨0,by simp,by rw [rd_nat (by simp)];exact ha⟩
  ·have h2:0<cntU l:=by unfold cntU at h ⊢;simpa [List.filter_cons,ha] using h
   obtain ⟨i,hi,h3⟩:=cntU_pos h2;refine ⟨i + 1,by simpa using hi,?_⟩;rw [rd_nat (show i + 1<(a::l).length by simp;omega)];rw [rd_nat hi] at h3;exact h3
theorem rd_setI {l:List Int} {i j:Nat} (hi:i<l.length) (hj:j<l.length) (v:Int):rd (l.set i v) (j:Int)=if i=j then v else rd l (j:Int):=by
 rw [rd_nat (by simpa using hj),rd_nat hj,List.getElem_set]
theorem rdT_set {l:List PTask} {i j:Nat} (hi:i<l.length) (hj:j<l.length) (v:PTask):rd_T73 (l.set i v) (j:Int)=if i=j then v else rd_T73 l (j:Int):=by
 rw [rdPTask (by simpa using hj),rdPTask hj,List.getElem_set]
theorem tmI_in {jobs:List J} (hj:JobsOk jobs) {i:Int} (h0:0<=i) (h1:i<(jobs.length:Int)):1<=tmI jobs i/\tmI jobs i<=50:=by
 obtain ⟨k,rfl⟩:=Int.eq_ofNat_of_zero_le h0;have hk:k<jobs.length:=by omega
 unfold tmI;rw [rdJ hk];exact (hj.2 _ (List.getElem_mem hk)).1
structure SpInv (jobs:List J) (m:Nat) (now:Int) (s:SpS):Prop where
 lens:s.plan.length=jobs.length/\s.ends.length=jobs.length/\s.free.length=m
 left:s.left=(cntU s.ends:Int)
 ends:∀ j:Nat,j<jobs.length-> -1<=rd s.ends (j:Int)/\rd s.ends (j:Int)<=50 * ((jobs.length:Int) - s.left)/\(0<=rd s.ends (j:Int)->rd s.ends (j:Int)=(rd_T73 s.plan (j:Int)).f2 + tmI jobs (j:Int)/\(rd_T73 s.plan (j:Int)).f0=(j:Int)/\0<=(rd_T73 s.plan (j:Int)).f2)
 free:∀ k:Nat,k<m->rd s.free (k:Int)=0\/∃ j:Nat,j<jobs.length/\0<=rd s.ends (j:Int)/\rd s.free (k:Int)=rd s.ends (j:Int)
 now0:0<=now
 now1:now<=50 * ((jobs.length:Int) - s.left)
theorem SpInv.step {jobs:List J} (hj:JobsOk jobs) {f:BF} {order:List Int} (ho:∀ x ∈ order,0<=x/\x<(jobs.length:Int)) {m:Nat} {now:Int} {s:SpS} (h:SpInv jobs m now s) {mm:Nat} (hm:mm<m):SpInv jobs m now (spStep jobs f order now s mm):=by
 unfold spStep
 split
 ·cases hf:order.find? (spRdy jobs.length f s.ends now) with
  | none=>exact h
  | some i=>
   have hi:=ho i (List.mem_of_find?_eq_some hf);have hr:=List.find?_some hf;simp only [spRdy,Bool.and_eq_true,decide_eq_true_eq] at hr;obtain ⟨i,rfl⟩:=Int.eq_ofNat_of_zero_le hi.1;have hin:i<jobs.length:=by omega
   have htm:=tmI_in hj hi.1 hi.2;have h0:=h.now0;have h1:=h.now1;have hE:i<s.ends.length:=by rw [h.lens.2.1];exact hin
   have hcu:=cntU_set s.ends i hE (now + tmI jobs (i:Int)) (by rw [<-rd_nat hE];exact hr.1) (by omega);have hleft:=h.left;simp only [Int.toNat_natCast];refine ⟨⟨by simp [h.lens.1],by simp [h.lens.2.1],by simp [h.lens.2.2]⟩,by show s.left - 1=(cntU (s.ends.set i (now + tmI jobs (i:Int))):Int);omega,?_,?_,h0,by show now<=50 * ((jobs.length:Int) - (s.left - 1));omega⟩
   ·intro j hjn
    show -1<=rd (s.ends.set i _) (j:Int)/\rd (s.ends.set i _) (j:Int)<=50 * ((jobs.length:Int) - (s.left - 1))/\(0<=rd (s.ends.set i _) (j:Int)->rd (s.ends.set i _) (j:Int)=(rd_T73 (s.plan.set i _) (j:Int)).f2 + tmI jobs (j:Int)/\(rd_T73 (s.plan.set i _) (j:Int)).f0=(j:Int)/\0<=(rd_T73 (s.plan.set i _) (j:Int)).f2)
    rw [rd_setI hE (by rw [h.lens.2.1];exact hjn),rdT_set (by rw [h.lens.1];exact hin) (by rw [h.lens.1];exact hjn)];by_cases e:i=j
    ·subst e;simp only [if_true];exact ⟨by omega,by omega,fun _=>by first|exact ⟨rfl,rfl,h0⟩|exact ⟨trivial,trivial,h0⟩|simpa using h0⟩
    ·simp only [if_neg e];have:=h.ends j hjn;exact ⟨by omega,by omega,this.2.2⟩
   ·intro k hk
    show rd (s.free.set mm _) (k:Int)=0\/∃ j:Nat,j<jobs.length/\0<=rd (s.ends.set i _) (j:Int)/\rd (s.free.set mm _) (k:Int)=rd (s.ends.set i _) (j:Int)
    rw [rd_setI (by rw [h.lens.2.2];exact hm) (by rw [h.lens.2.2];exact hk)];by_cases e:mm=k
    ·rw [if_pos e];exact .inr ⟨i,hin,by rw [rd_setI hE hE,if_pos rfl];omega,by rw [rd_setI hE hE,if_pos rfl]⟩
    ·rw [if_neg e];rcases h.free k hk with h2 | ⟨j,hjn,h2,h3⟩
     ·exact .inl h2
     ·have hne:i≠j:=fun e2=>by subst e2;omega
      exact .inr ⟨j,hjn,by rw [rd_setI hE (by rw [h.lens.2.1];exact hjn),if_neg hne];exact h2,by rw [rd_setI hE (by rw [h.lens.2.1];exact hjn),if_neg hne];exact h3⟩
 ·exact h
def StuckTo (n:Nat) (f:BF) (order:List Int) (now:Int) (c:Nat) (s:SpS):Prop:=∀ k:Nat,k<c->now<rd s.free (k:Int)\/order.find? (spRdy n f s.ends now)=none
theorem stuck_step {jobs:List J} (hj:JobsOk jobs) {f:BF} {order:List Int} (ho:∀ x ∈ order,0<=x/\x<(jobs.length:Int)) {m:Nat} {now:Int} {s:SpS} (h:s.free.length=m) {mm:Nat} (hm:mm<m) (hs:StuckTo jobs.length f order now mm s):StuckTo jobs.length f order now (mm + 1) (spStep jobs f order now s mm):=by
 unfold spStep
 split
 ·rename_i hle
  cases hf:order.find? (spRdy jobs.length f s.ends now) with
  | none=>exact fun k _=>.inr hf
  | some i=>
   have hi:=ho i (List.mem_of_find?_eq_some hf);have htm:=tmI_in hj hi.1 hi.2;intro k hk
   left
   show now<rd (s.free.set mm _) (k:Int)
   rw [rd_setI (by omega) (by omega)];by_cases e:mm=k
   ·rw [if_pos e];omega
   ·rw [if_neg e];rcases hs k (by omega) with h2|h2
    ·exact h2
    ·rw [hf] at h2;cases h2
 ·rename_i hle
  intro k hk;by_cases e:k=mm
  ·subst e;left;omega
  ·exact hs k (by omega)
theorem spRun_all {jobs:List J} (hj:JobsOk jobs) {f:BF} {order:List Int} (ho:∀ x ∈ order,0<=x/\x<(jobs.length:Int)) {m:Nat} {now:Int} : ∀ (c mm:Nat) (s:SpS),mm + c=m->SpInv jobs m now s->StuckTo jobs.length f order now mm s->SpInv jobs m now (spRun jobs f order now c mm s)/\StuckTo jobs.length f order now m (spRun jobs f order now c mm s)
 | 0,mm,s,hc,h,hs=>by obtain rfl:mm=m:=(by omega);exact ⟨h,hs⟩
 | c + 1,mm,s,hc,h,hs=>spRun_all hj ho c (mm + 1) _ (by omega) (h.step hj ho (by omega)) (stuck_step hj ho h.lens.2.2 (by omega) hs)
theorem spRun_noop {jobs:List J} {f:BF} {order:List Int} {m:Nat} {now:Int} {s:SpS} (hs:StuckTo jobs.length f order now m s):∀ (c mm:Nat),mm + c<=m->spRun jobs f order now c mm s=s
 | 0,_,_=>rfl
 | c + 1,mm,hc=>by
  have e:spStep jobs f order now s mm=s:=by
   unfold spStep;rcases hs mm (by omega) with h|h
   ·rw [if_neg (by omega)]
   ·rw [h];split <;> rfl
  rw [spRun,e];exact spRun_noop hs c (mm + 1) (by omega)
/-- The least of the ends behind a time. -/
def soonL (now:Int):List Int->Int->Int
 | [],o=>o
 | e::l,o=>soonL now l (if e>now then (if o<0 then e else if e<o then e else o) else o)
theorem soonL_spec (now:Int) (h0:0<=now):∀ (l:List Int) (o:Int),(o<0\/now<o)->(soonL now l o=o\/soonL now l o ∈ l)/\(soonL now l o<0\/now<soonL now l o)/\(∀ e ∈ l,now<e->0<=soonL now l o/\soonL now l o<=e)/\(0<=o->0<=soonL now l o/\soonL now l o<=o)
 | [],o,h=>⟨.inl rfl,h,fun e he=>(by cases he),fun h=>⟨h,Int.le_refl _⟩⟩
 | e::l,o,h=>by
  unfold soonL;obtain ⟨o2,ho2⟩:∃ o2,o2=(if e>now then (if o<0 then e else if e<o then e else o) else o):=⟨_,rfl⟩;rw [<-ho2];have hc:(o2=o\/o2=e)/\(o2<0\/now<o2)/\(now<e->0<=o2/\o2<=e)/\(0<=o->0<=o2/\o2<=o):=by
   rw [ho2];split
   ·split
    ·omega
    ·split <;> omega
   ·omega
  obtain ⟨a1,a2,a3,a4⟩:=soonL_spec now h0 l o2 hc.2.1;refine ⟨?_,a2,?_,?_⟩
  ·rcases a1 with a1|a1
   ·rcases hc.1 with h1|h1
    ·exact .inl (a1.trans h1)
    ·exact .inr (by rw [a1,h1];exact List.mem_cons_self)
   ·exact .inr (List.mem_cons_of_mem _ a1)
  ·intro x hx hlt;rcases List.mem_cons.1 hx with rfl|hx
   ·have h1:=hc.2.2.1 hlt;have h2:=a4 h1.1;omega
   ·exact a3 x hx hlt
  ·intro ho;have h1:=hc.2.2.2 ho;have h2:=a4 h1.1;omega
theorem min_un {n:Nat} {f:BF} (hp:PreF n f) (ends:List Int):∀ (d i:Nat),i<n->rd ends (i:Int)<0->n - cntF n f i<=d->∃ i':Nat,i'<n/\rd ends (i':Int)<0/\∀ k:Nat,k<n->f k i'=true->0<=rd ends (k:Int)
 | 0,i,hi,_,hd=>by have:=cnt_le hp hi;omega
 | d + 1,i,hi,hu,hd=>by
  by_cases h:∃ k:Nat,k<n/\f k i=true/\rd ends (k:Int)<0
  ·obtain ⟨k,hk,hf,hu2⟩:=h;have:=cnt_lt hp hk hi hf;have:=cnt_le hp hk;exact min_un hp ends d k hk hu2 (by omega)
  ·exact ⟨i,hi,hu,fun k hk hf=>by
    by_cases h2:rd ends (k:Int)<0
    ·exact absurd ⟨k,hk,hf,h2⟩ h
    ·omega⟩
/-- Behind a pass, while jobs are left, some job runs. -/
theorem soon_there {jobs:List J} {f:BF} (hp:PreF jobs.length f) {order:List Int} (ho:IsPerm jobs.length order) {m:Nat} (hm:0<m) {now:Int} {s:SpS} (h:SpInv jobs m now s) (hs:StuckTo jobs.length f order now m s) (hl:0<s.left):∃ e ∈ s.ends,now<e:=by
 apply Classical.byContradiction
 intro hno;have hall:∀ j:Nat,j<jobs.length->rd s.ends (j:Int)<=now:=fun j hj=>by
  have hjl:j<s.ends.length:=by rw [h.lens.2.1];exact hj
  rw [rd_nat hjl];have:=List.getElem_mem hjl
  apply Classical.byContradiction
  intro h2;exact hno ⟨_,this,by omega⟩
 obtain ⟨i,hi,hu⟩:=cntU_pos (l:=s.ends) (by have:=h.left;omega);rw [h.lens.2.1] at hi;obtain ⟨i',hi',hu',hpre⟩:=min_un hp s.ends _ i hi hu (Nat.le_refl _);have hr:spRdy jobs.length f s.ends now (i':Int)=true:=by
  simp only [spRdy,Bool.and_eq_true,decide_eq_true_eq,List.all_eq_true,Int.toNat_natCast];refine ⟨hu',fun k hk=>?_⟩;have hk':k<jobs.length:=by simpa using hk
  by_cases hf:f k i'=true
  ·have h1:=hpre k hk' hf;have h2:=hall k hk';simp [h1,h2]
  ·simp [hf]
 have hmem:=ho.all (i':Int) (by omega) (by omega);rcases hs 0 hm with h1|h1
 ·rcases h.free 0 hm with h2 | ⟨j,hj,h2,h3⟩
  ·have:=h.now0;omega
  ·have:=hall j hj;omega
 ·exact absurd hr (by have:=List.find?_eq_none.1 h1 _ hmem;simpa using this)
theorem find_none_mono {n:Nat} {f:BF} {order ends:List Int} {now t:Int} (hle:∀ k:Nat,k<n->rd ends (k:Int)<=t->rd ends (k:Int)<=now) (h:order.find? (spRdy n f ends now)=none):order.find? (spRdy n f ends t)=none:=by
 rw [List.find?_eq_none] at h ⊢;intro x hx;have h2:=h x hx;intro h3
 apply h2
 simp only [spRdy,Bool.and_eq_true,decide_eq_true_eq,List.all_eq_true] at h3 ⊢;refine ⟨h3.1,fun k hk=>?_⟩;have h4:=h3.2 k hk;have hk':k<n:=by simpa using hk
 simp only [Bool.or_eq_true,Bool.not_eq_true',Bool.and_eq_true,decide_eq_true_eq] at h4 ⊢;rcases h4 with h4|h4
 ·exact .inl h4
 ·exact .inr ⟨h4.1,hle k hk' h4.2⟩
/-- Between two ends nothing begins. -/
theorem stuck_between {jobs:List J} {f:BF} {order:List Int} {m:Nat} {now t:Int} {s:SpS} (h:SpInv jobs m now s) (hs:StuckTo jobs.length f order now m s) (ht:now<=t) (hb:∀ e ∈ s.ends,now<e->t<e):StuckTo jobs.length f order t m s:=by
 have hb2:∀ k:Nat,k<jobs.length->now<rd s.ends (k:Int)->t<rd s.ends (k:Int):=fun k hk h1=>by
  have hjl:k<s.ends.length:=by rw [h.lens.2.1];exact hk
  rw [rd_nat hjl] at h1 ⊢;exact hb _ (List.getElem_mem hjl) h1
 intro k hk;rcases hs k hk with h1|h1
 ·rcases h.free k hk with h2 | ⟨j,hj,h2,h3⟩
  ·have:=h.now0;omega
  ·left;rw [h3] at h1 ⊢;exact hb2 j hj h1
 ·right
  refine find_none_mono (fun k hk h2=>?_) h1;by_cases h3:now<rd s.ends (k:Int)
  ·have:=hb2 k hk h3;omega
  ·omega
theorem ev_go_bind {α β:Type} {g:Nat->Option α} {h:Nat->Option β} {F:Nat->β->Option α} {a:β} {r:α} (e:∀ k,g (k + 1)=(h k).bind (F k)) (ha:Ev h a) (hr:Ev (fun k=>F k a) r):Ev g r:=ev_go _ e (ev_bind a ha hr)
theorem spec_l7Next.ev (n:Nat) (f:BF) (order ends:List Int) (now:Int) (hn:n<=8) (hl:ends.length=n) (hq:order.length<=1000000) (ho:∀ x ∈ order,0<=x/\x<(n:Int)):Ev (fun k=>spec_l7Next.f k (tbl n f) order ends now) (spNx n f order ends now):=by
 unfold spec_l7Next.f;have key:=rev_ind (P:=fun i=>Ev (fun k=>spec_l7Next.l0 k (tbl n f) order ends now (i:Int)) (((order.drop i).find? (spRdy n f ends now)).getD (-1))) order.length ?_ ?_ 0 (Nat.zero_le _)
 ·simpa [spNx] using key
 ·refine ev_stop fun k=>?_
  simp only [spec_l7Next.l0];rw [if_neg (by omega),List.drop_of_length_le (Nat.le_refl _)];rfl
 ·intro i hi ih;have hx:=ho _ (List.getElem_mem hi);have hrd:rd order (i:Int)=order[i]:=rd_nat hi;obtain ⟨x,hxe⟩:=Int.eq_ofNat_of_zero_le hx.1;have hxn:x<n:=by omega
  rw [drop_cons hi];by_cases hs:rd ends (x:Int)>=0
  ·have hr:spRdy n f ends now order[i]=false:=by simp only [spRdy,hxe];rw [show decide (rd ends (x:Int)<0)=false from decide_eq_false (by omega)];rfl
   rw [List.find?_cons_of_neg (by rw [hr];simp)];refine ev_go _ (fun k=>?_) ih;simp only [spec_l7Next.l0];rw [if_pos (by omega),if_pos (by omega),hrd,if_pos (by omega),if_pos (by omega),hxe,if_pos hs,wr1 (by omega)]
  ·obtain ⟨R,hR⟩:∃ R,R=(((order.drop (i + 1)).find? (spRdy n f ends now)).getD (-1)):=⟨_,rfl⟩;rw [<-hR] at ih;have inner:=rev_ind (P:=fun j=>∀ b:Bool,Ev (fun k=>spec_l7Next.l1 k (tbl n f) order ends now (i:Int) b (j:Int)) (if (b && ((List.range n).drop j).all fun k=> !(f k x) || (decide (0<=rd ends (k:Int)) && decide (rd ends (k:Int)<=now)))=true then (x:Int) else R)) n ?_ ?_ 0 (Nat.zero_le _) true
   ·rw [Bool.true_and,List.drop_zero] at inner;have e:(if ((List.range n).all fun k=> !(f k x) || (decide (0<=rd ends (k:Int)) && decide (rd ends (k:Int)<=now)))=true then (x:Int) else R)=((order[i]::order.drop (i + 1)).find? (spRdy n f ends now)).getD (-1):=by
     by_cases hr:spRdy n f ends now order[i]=true
     ·rw [List.find?_cons_of_pos hr];simp only [spRdy,hxe,Bool.and_eq_true,Int.toNat_natCast] at hr;rw [if_pos hr.2,hxe];rfl
     ·rw [List.find?_cons_of_neg hr,<-hR];simp only [spRdy,hxe,Bool.and_eq_true,Int.toNat_natCast,decide_eq_true_eq] at hr;rw [if_neg (fun h=>hr ⟨by omega,h⟩)]
    rw [e] at inner;refine ev_go _ (fun k=>?_) inner;simp only [spec_l7Next.l0];rw [if_pos (by omega),if_pos (by omega),hrd,if_pos (by omega),if_pos (by omega),hxe,if_neg hs];rfl
   ·intro b;cases b with
    | true=>
     rw [List.drop_of_length_le (by simp)];refine ev_stop fun k=>?_
     simp only [spec_l7Next.l1];rw [if_neg (by omega)];simp only [if_true];rw [if_pos (by omega),if_pos (by omega),hrd,hxe];rfl
    | false=>
     refine ev_go _ (fun k=>?_) ih;simp only [spec_l7Next.l1];rw [if_neg (by omega),if_neg (by simp),wr1 (by omega)]
   ·intro j hj ihj b;rw [range_drop hj,List.all_cons];have base:∀ (b2:Bool),(∀ k,spec_l7Next.l1 (k + 1) (tbl n f) order ends now (i:Int) b (j:Int)=spec_l7Next.l1 k (tbl n f) order ends now (i:Int) b2 ((j + 1:Nat):Int))->(b2=(b && (!(f j x) || (decide (0<=rd ends (j:Int)) && decide (rd ends (j:Int)<=now)))))->Ev (fun k=>spec_l7Next.l1 k (tbl n f) order ends now (i:Int) b (j:Int)) (if (b && ((!(f j x) || (decide (0<=rd ends (j:Int)) && decide (rd ends (j:Int)<=now))) && ((List.range n).drop (j + 1)).all fun k=> !(f k x) || (decide (0<=rd ends (k:Int)) && decide (rd ends (k:Int)<=now))))=true then (x:Int) else R):=by
     intro b2 h1 h2;rw [<-Bool.and_assoc,<-h2];exact ev_go _ h1 (ihj b2)
    by_cases hf:f j x=true
    ·by_cases h1:rd ends (j:Int)<0
     ·refine base false (fun k=>?_) (by rw [hf,show decide (0<=rd ends (j:Int))=false from decide_eq_false (by omega)];simp);simp only [spec_l7Next.l1];rw [if_pos (by omega),if_pos (by omega),if_pos (by rw [tbl_length];omega),if_pos (by omega),if_pos (by omega),hrd,if_pos (by omega),if_pos (by rw [tbl_rowlen hj];omega),hxe,tbl_at hj hxn,if_pos hf,if_pos h1,wr1 (by omega)]
     ·by_cases h2:rd ends (j:Int)>now
      ·refine base false (fun k=>?_) (by rw [hf,show decide (rd ends (j:Int)<=now)=false from decide_eq_false (by omega)];simp);simp only [spec_l7Next.l1];rw [if_pos (by omega),if_pos (by omega),if_pos (by rw [tbl_length];omega),if_pos (by omega),if_pos (by omega),hrd,if_pos (by omega),if_pos (by rw [tbl_rowlen hj];omega),hxe,tbl_at hj hxn,if_pos hf,if_neg h1,if_pos h2,wr1 (by omega)]
      ·refine base b (fun k=>?_) (by rw [hf,show decide (rd ends (j:Int)<=now)=true from decide_eq_true (by omega),show decide (0<=rd ends (j:Int))=true from decide_eq_true (by omega)];simp);simp only [spec_l7Next.l1];rw [if_pos (by omega),if_pos (by omega),if_pos (by rw [tbl_length];omega),if_pos (by omega),if_pos (by omega),hrd,if_pos (by omega),if_pos (by rw [tbl_rowlen hj];omega),hxe,tbl_at hj hxn,if_pos hf,if_neg h1,if_neg h2,wr1 (by omega)]
    ·refine base b (fun k=>?_) (by rw [show f j x=false by simpa using hf];simp);simp only [spec_l7Next.l1];rw [if_pos (by omega),if_pos (by omega),if_pos (by rw [tbl_length];omega),if_pos (by omega),if_pos (by omega),hrd,if_pos (by omega),if_pos (by rw [tbl_rowlen hj];omega),hxe,tbl_at hj hxn,if_neg hf,wr1 (by omega)]
theorem spec_l7Soon.ev (ends:List Int) (now:Int) (hl:ends.length<=1000000):Ev (fun k=>spec_l7Soon.f k ends now) (soonL now ends (-1)):=by
 unfold spec_l7Soon.f;have key:=rev_ind (P:=fun i=>∀ o,Ev (fun k=>spec_l7Soon.l0 k ends now o (i:Int)) (soonL now (ends.drop i) o)) ends.length ?_ ?_ 0 (Nat.zero_le _) (-1)
 ·simpa using key
 ·intro o;refine ev_stop fun k=>?_
  simp only [spec_l7Soon.l0];rw [if_neg (by omega),List.drop_of_length_le (Nat.le_refl _)];rfl
 ·intro i hi ih o;rw [drop_cons hi,soonL];refine ev_go _ (fun k=>?_) (ih _);simp only [spec_l7Soon.l0];rw [if_pos (by omega),if_pos (by omega),rd_nat hi,wr1 (by omega)]
  split
  ·split
   ·rfl
   ·split <;> rfl
  ·rfl
theorem spec_l7List.pass {jobs:List J} (hj:JobsOk jobs) {f:BF} {order:List Int} (hq:order.length<=1000000) (ho:∀ x ∈ order,0<=x/\x<(jobs.length:Int)) {m:Nat} (hm:m<=1000) {now:Int} {r:List PTask} : ∀ (c mm:Nat) (s:SpS),mm + c=m->SpInv jobs m now s->(Ev (fun k=>spec_l7List.l1 k jobs (m:Int) order (tbl jobs.length f) (spRun jobs f order now c mm s).plan (spRun jobs f order now c mm s).ends (spRun jobs f order now c mm s).free (soonL now (spRun jobs f order now c mm s).ends (-1)) (spRun jobs f order now c mm s).left) r)->Ev (fun k=>spec_l7List.l2 k jobs (m:Int) order (tbl jobs.length f) s.plan s.ends s.free now s.left (mm:Int)) r
 | 0,mm,s,hc,h,hr=>by
  have h8:=hj.1;refine ev_go (fun k=>(spec_l7Soon.f k s.ends now).bind fun t=>spec_l7List.l1 k jobs (m:Int) order (tbl jobs.length f) s.plan s.ends s.free t s.left) (fun k=>?_) (ev_bind _ (spec_l7Soon.ev s.ends now (by rw [h.lens.2.1];omega)) hr);simp only [spec_l7List.l2];rw [if_neg (by omega)]
 | c + 1,mm,s,hc,h,hr=>by
  have h8:=hj.1;have hmm:mm<m:=by omega
  rw [spRun] at hr;have ih:=spec_l7List.pass hj hq ho hm c (mm + 1) _ (by omega) (h.step hj ho hmm) hr;have hfl:=h.lens.2.2;by_cases hle:rd s.free (mm:Int)<=now
  ·cases hf:order.find? (spRdy jobs.length f s.ends now) with
   | none=>
    have e:spStep jobs f order now s mm=s:=by unfold spStep;rw [if_pos hle,hf]
    rw [e] at ih;refine ev_go_bind (F:=?F) (fun k=>?h1) (spec_l7Next.ev jobs.length f order s.ends now h8 h.lens.2.1 hq ho) ?h2
    case h1=>
     simp only [spec_l7List.l2];rw [if_pos (by omega),if_pos (by omega),if_pos (by omega),if_pos hle,wr1 (by omega)]
    case h2=>
     have e1:spNx jobs.length f order s.ends now= -1:=by simp [spNx,hf]
     have e2:((-1:Int)>=0)=False:=eq_false (by omega);simp only [e1,e2,if_false];exact ih
   | some i=>
    have hi:=ho i (List.mem_of_find?_eq_some hf);have e:spStep jobs f order now s mm=⟨s.plan.set i.toNat ⟨i,(mm:Int),now⟩,s.ends.set i.toNat (now + tmI jobs i),s.free.set mm (now + tmI jobs i),s.left - 1⟩:=by unfold spStep;rw [if_pos hle,hf]
    rw [e] at ih;have htm:=tmI_in hj hi.1 hi.2;have hn0:=h.now0;have hn1:=h.now1;have hl:=h.left;have hl1:=h.lens.1;have hl2:=h.lens.2.1;have w1:wrap64 (now + (rd_T44 jobs i).f0)=now + tmI jobs i:=by unfold tmI at htm ⊢;exact wr (by omega) (by omega)
    have w2:wrap64 (s.left - 1)=s.left - 1:=wr (by omega) (by omega);have w3:rd (s.ends.set i.toNat (now + tmI jobs i)) i=now + tmI jobs i:=by
     obtain ⟨x,rfl⟩:=Int.eq_ofNat_of_zero_le hi.1;rw [Int.toNat_natCast,rd_setI (by omega) (by omega),if_pos rfl]
    refine ev_go_bind (F:=?F) (fun k=>?h1) (spec_l7Next.ev jobs.length f order s.ends now h8 h.lens.2.1 hq ho) ?h2
    case h1=>
     simp only [spec_l7List.l2];rw [if_pos (by omega),if_pos (by omega),if_pos (by omega),if_pos hle,wr1 (by omega)]
    case h2=>
     have e1:spNx jobs.length f order s.ends now=i:=by simp [spNx,hf]
     have e2:(i>=0)=True:=eq_true hi.1;have e3:(0<=i)=True:=eq_true hi.1;have e4:(i<(s.plan.length:Int))=True:=eq_true (by omega);have e5:(i<(jobs.length:Int))=True:=eq_true hi.2;have e6:(i<(s.ends.length:Int))=True:=eq_true (by omega);simp only [e1,e2,e3,e4,e5,e6,if_true,Option.bind_some,w1,w2,w3,Int.toNat_natCast];exact ih
  ·have e:spStep jobs f order now s mm=s:=by unfold spStep;rw [if_neg hle]
   rw [e] at ih;refine ev_go _ (fun k=>?_) ih;simp only [spec_l7List.l2];rw [if_pos (by omega),if_pos (by omega),if_pos (by omega),if_neg hle,if_neg (by omega),wr1 (by omega)]
def imgS (s:SpS):LpS:=⟨s.plan,s.ends.map fun e=>decide (0<=e),s.free,s.left⟩
theorem rdOf_map (l:List Int) (i:Nat) (h:i<l.length):rdOf false (l.map fun e=>decide (0<=e)) (i:Int)=decide (0<=rd l (i:Int)):=by
 rw [rd_nat h];simp [rdOf,h]
theorem all_range {n:Nat} {p q:Nat->Bool} (h:∀ j,j<n->p j=q j):(List.range n).all p=(List.range n).all q:=by
 rw [Bool.eq_iff_iff,List.all_eq_true,List.all_eq_true];constructor
 ·intro H x hx;rw [<-h x (List.mem_range.1 hx)];exact H x hx
 ·intro H x hx;rw [h x (List.mem_range.1 hx)];exact H x hx
theorem find_congr {p q:Int->Bool} : ∀ (l:List Int),(∀ x ∈ l,p x=q x)->l.find? p=l.find? q
 | [],_=>rfl
 | a::l,h=>by
  rw [List.find?_cons,List.find?_cons,h a List.mem_cons_self,find_congr l fun x hx=>h x (List.mem_cons_of_mem _ hx)]
theorem lpReady_img {jobs:List J} (hj:JobsOk jobs) {f:BF} {m:Nat} {now:Int} {s:SpS} (h:SpInv jobs m now s) {i:Int} (h0:0<=i) (h1:i<(jobs.length:Int)):lpReady jobs (tbl jobs.length f) s.plan (s.ends.map fun e=>decide (0<=e)) i now=spRdy jobs.length f s.ends now i:=by
 obtain ⟨x,rfl⟩:=Int.eq_ofNat_of_zero_le h0;have hx:x<jobs.length:=by omega
 have hl2:=h.lens.2.1;have h8:=hj.1;unfold lpReady spRdy;rw [rdOf_map _ _ (by omega)]
 congr 1
 ·by_cases c:0<=rd s.ends (x:Int)
  ·rw [decide_eq_true c,decide_eq_false (by omega)];rfl
  ·rw [decide_eq_false c,decide_eq_true (by omega)];rfl
 ·refine all_range fun j hj2=>?_
  have he:=h.ends j hj2;have hn1:=h.left;have e:rdOf false (lpRow (tbl jobs.length f) (j:Int)) (x:Int)=f j x:=tbl_at hj2 hx;unfold lpBusy;rw [e,rdOf_map _ _ (by omega),Int.toNat_natCast];by_cases hf:f j x=true
  ·by_cases c:0<=rd s.ends (j:Int)
   ·have w:wrap64 ((rd_T73 s.plan (j:Int)).f2 + (rd_T44 jobs (j:Int)).f0)=rd s.ends (j:Int):=by
     have:=(he.2.2 c).1;unfold tmI at this;rw [wr (by omega) (by omega)];omega
    rw [w,hf,decide_eq_true c];by_cases c2:now<rd s.ends (j:Int)
    ·rw [decide_eq_true c2,decide_eq_false (by omega)];rfl
    ·rw [decide_eq_false c2,decide_eq_true (by omega)];rfl
   ·rw [hf,decide_eq_false c];rfl
  ·rw [show f j x=false by simpa using hf];rfl
theorem lpStep_img {jobs:List J} (hj:JobsOk jobs) {f:BF} {order:List Int} (ho:∀ x ∈ order,0<=x/\x<(jobs.length:Int)) {m:Nat} {now:Int} {s:SpS} (h:SpInv jobs m now s) (mm:Nat):lpStep jobs (tbl jobs.length f) order now (imgS s) mm=imgS (spStep jobs f order now s mm):=by
 have e:order.find? (fun i=>lpReady jobs (tbl jobs.length f) (imgS s).out (imgS s).st i now)=order.find? (spRdy jobs.length f s.ends now):=find_congr order fun x hx=>lpReady_img hj h (ho x hx).1 (ho x hx).2
 unfold lpStep spStep;rw [e];by_cases c:rd s.free (mm:Int)<=now
 ·rw [if_neg (show ¬ rd (imgS s).free (mm:Int)>now from fun h2=>by have h3:rd s.free (mm:Int)>now:=h2;omega),if_pos c];cases hf:order.find? (spRdy jobs.length f s.ends now) with
  | none=>rfl
  | some i=>
   have hi:=ho i (List.mem_of_find?_eq_some hf);have htm:=tmI_in hj hi.1 hi.2;have hn0:=h.now0;have hn1:=h.now1;have hl:=h.left;have h8:=hj.1;have w1:wrap64 (now + (rd_T44 jobs i).f0)=now + tmI jobs i:=by unfold tmI at htm ⊢;exact wr (by omega) (by omega)
   have w2:wrap64 ((imgS s).left - 1)=s.left - 1:=wr (by show -9223372036854775808<=s.left - 1;omega) (by show s.left - 1<=9223372036854775807;omega);simp only [w1,w2];simp only [imgS,List.map_set,show decide (0<=now + tmI jobs i)=true from decide_eq_true (by omega)]
 ·rw [if_pos (show rd (imgS s).free (mm:Int)>now by show rd s.free (mm:Int)>now;omega),if_neg c]
theorem lpRun_img {jobs:List J} (hj:JobsOk jobs) {f:BF} {order:List Int} (ho:∀ x ∈ order,0<=x/\x<(jobs.length:Int)) {m:Nat} {now:Int} : ∀ (c mm:Nat) (s:SpS),mm + c=m->SpInv jobs m now s->lpRun jobs (tbl jobs.length f) order now c mm (imgS s)=imgS (spRun jobs f order now c mm s)
 | 0,_,_,_,_=>rfl
 | c + 1,mm,s,hc,h=>by
  rw [lpRun,lpStep_img hj ho h,spRun];exact lpRun_img hj ho c (mm + 1) _ (by omega) (h.step hj ho (by omega))
theorem SpInv.at {jobs:List J} {m:Nat} {now t:Int} {s:SpS} (h:SpInv jobs m now s) (h0:0<=t) (h1:t<=50 * ((jobs.length:Int) - s.left)):SpInv jobs m t s:=⟨h.lens,h.left,h.ends,h.free,h0,h1⟩
/-- Rounds in which nothing begins. -/
theorem impl_listPlan.skip {jobs:List J} (hj:JobsOk jobs) {f:BF} {order:List Int} (ho:∀ x ∈ order,0<=x/\x<(jobs.length:Int)) {m:Nat} {r:List PTask} {s:SpS} (hl:0<s.left):∀ (c:Nat) (t:Int),(∀ u:Int,t<=u->u<t + c->SpInv jobs m u s/\StuckTo jobs.length f order u m s)->Ev (fun k=>impl_listPlan.l0 jobs (tbl jobs.length f) order m k (imgS s) (t + c)) r->Ev (fun k=>impl_listPlan.l0 jobs (tbl jobs.length f) order m k (imgS s) t) r
 | 0,t,_,h=>by simpa using h
 | c + 1,t,hs,h=>by
  have h1:=hs t (by omega) (by omega);have ih:=impl_listPlan.skip hj ho hl c (t + 1) (fun u h2 h3=>hs u (by omega) (by omega)) (by rw [show t + 1 + (c:Int)=t + ((c + 1:Nat):Int) by omega];exact h);refine ev_go _ (fun k=>?_) ih;have hn0:=h1.1.now0;have hn1:=h1.1.now1;have hlf:=h1.1.left;have h8:=hj.1;rw [impl_listPlan.l0,if_pos (show 0<(imgS s).left from hl),lpRun_img hj ho m 0 s (by omega) h1.1,spRun_noop h1.2 m 0 (by omega),wr (by omega) (by omega)]
def PlanIn (jobs:List J) (r:List PTask):Prop:=r.length=jobs.length/\∀ j:Nat,j<jobs.length->(rd_T73 r (j:Int)).f0=(j:Int)/\0<=(rd_T73 r (j:Int)).f2/\(rd_T73 r (j:Int)).f2 + tmI jobs (j:Int)<=50 * (jobs.length:Int)
theorem cntU_zero:∀ {l:List Int},cntU l=0->∀ j:Nat,j<l.length->0<=rd l (j:Int):=by
 intro l h j hj
 apply Classical.byContradiction
 intro h2;rw [rd_nat hj] at h2;have:l[j] ∈ l.filter fun e=>decide (e<0):=List.mem_filter.2 ⟨List.getElem_mem hj,by simp;omega⟩
 have h3:=List.length_pos_of_mem this;unfold cntU at h;omega
theorem SpInv.plan {jobs:List J} {m:Nat} {now:Int} {s:SpS} (h:SpInv jobs m now s) (hz:s.left=0):PlanIn jobs s.plan:=by
 refine ⟨h.lens.1,fun j hj=>?_⟩;have h1:=h.ends j hj;have h2:=cntU_zero (l:=s.ends) (by have:=h.left;omega) j (by rw [h.lens.2.1];exact hj);have h3:=h1.2.2 h2;exact ⟨h3.2.1,h3.2.2,by rw [<-h3.1];have:=h1.2.1;omega⟩
theorem list_both {jobs:List J} (hj:JobsOk jobs) {f:BF} (hp:PreF jobs.length f) {order:List Int} (ho:IsPerm jobs.length order) {m:Nat} (hm:1<=m/\m<=4):∀ (d:Nat) (now:Int) (s:SpS),SpInv jobs m now s->(50 * (jobs.length:Int) - now).toNat<=d->∃ r:List PTask,PlanIn jobs r/\Ev (fun k=>impl_listPlan.l0 jobs (tbl jobs.length f) order m k (imgS s) now) r/\Ev (fun k=>spec_l7List.l1 k jobs (m:Int) order (tbl jobs.length f) s.plan s.ends s.free now s.left) r:=by
 intro d
 induction d with
 | zero=>
  intro now s h hd;have h1:=h.now1;have h2:=h.left;have hz:s.left=0:=by omega
  refine ⟨s.plan,h.plan hz,ev_stop fun k=>?_,ev_stop fun k=>?_⟩
  ·rw [impl_listPlan.l0,if_neg (show ¬ 0<(imgS s).left by show ¬ 0<s.left;omega)];rfl
  ·simp only [spec_l7List.l1];rw [if_neg (by omega)]
 | succ d ih=>
  intro now s h hd;have h8:=hj.1;have hor:=ho.2.2;have hol:=ho.1;have h0:=h.now0;have h1:=h.now1;have h2:=h.left;by_cases hl:0<s.left
  ·obtain ⟨hI,hS⟩:=spRun_all hj hor (f:=f) m 0 s (by omega) h (fun k hk=>absurd hk (by omega));have hpass:=fun r hr=>spec_l7List.pass (r:=r) hj (f:=f) (order:=order) (by omega) hor (by omega) m 0 s (by omega) h hr
   have himp:∀ r,Ev (fun k=>impl_listPlan.l0 jobs (tbl jobs.length f) order m k (imgS (spRun jobs f order now m 0 s)) (now + 1)) r->Ev (fun k=>impl_listPlan.l0 jobs (tbl jobs.length f) order m k (imgS s) now) r:=fun r hr=>by
    refine ev_go _ (fun k=>?_) hr;rw [impl_listPlan.l0,if_pos (show 0<(imgS s).left from hl),lpRun_img hj hor m 0 s (by omega) h,wr (by omega) (by omega)]
   have hspc:∀ r,Ev (fun k=>spec_l7List.l2 k jobs (m:Int) order (tbl jobs.length f) s.plan s.ends s.free now s.left ((0:Nat):Int)) r->Ev (fun k=>spec_l7List.l1 k jobs (m:Int) order (tbl jobs.length f) s.plan s.ends s.free now s.left) r:=fun r hr=>by
    refine ev_go _ (fun k=>?_) hr;simp only [spec_l7List.l1];rw [if_pos hl];rfl
   generalize spRun jobs f order now m 0 s=s1 at hI hS hpass himp;by_cases hl1:0<s1.left
   ·obtain ⟨e,he,hlt⟩:=soon_there hp ho (by omega) hI hS hl1;obtain ⟨a1,a2,a3,a4⟩:=soonL_spec now h0 s1.ends (-1) (by omega);have a5:=a3 e he hlt;obtain ⟨S,hSe⟩:∃ S,S=soonL now s1.ends (-1):=⟨_,rfl⟩;rw [<-hSe] at a1 a2 a3 a4 a5 hpass;have hmem:S ∈ s1.ends:=by
     rcases a1 with a1|a1
     ·omega
     ·exact a1
    obtain ⟨j,hjl,hje⟩:=List.getElem_of_mem hmem;have hb:=hI.ends j (by rw [<-hI.lens.2.1];exact hjl);rw [rd_nat hjl,hje] at hb;obtain ⟨r,r1,r2,r3⟩:=ih S s1 (hI.at (by omega) hb.2.1) (by omega);refine ⟨r,r1,himp r ?_,hspc r (hpass r r3)⟩;refine impl_listPlan.skip hj hor (f:=f) (m:=m) hl1 (S - (now + 1)).toNat (now + 1) (fun u hu1 hu2=>?_) ?_
    ·exact ⟨hI.at (by omega) (by omega),stuck_between hI hS (by omega) (fun x hx hx2=>by have:=a3 x hx hx2;omega)⟩
    ·rw [show now + 1 + ((S - (now + 1)).toNat:Int)=S by omega];exact r2
   ·refine ⟨s1.plan,hI.plan (by have:=hI.left;omega),himp _ (ev_stop fun k=>?_),hspc _ (hpass _ (ev_stop fun k=>?_))⟩
    ·rw [impl_listPlan.l0,if_neg (show ¬ 0<(imgS s1).left from hl1)];rfl
    ·simp only [spec_l7List.l1];rw [if_neg (by omega)]
  ·refine ⟨s.plan,h.plan (by omega),ev_stop fun k=>?_,ev_stop fun k=>?_⟩
   ·rw [impl_listPlan.l0,if_neg (show ¬ 0<(imgS s).left from hl)];rfl
   ·simp only [spec_l7List.l1];rw [if_neg (by omega)]
theorem rd_rep (n:Nat) (v:Int) (j:Nat) (h:j<n):rd (List.replicate n v) (j:Int)=v:=by rw [rd_nat (by simpa using h)];simp
theorem cntU_rep (n:Nat):cntU (List.replicate n (-1))=n:=by
 unfold cntU;rw [List.filter_eq_self.2 (fun a ha=>by rw [List.eq_of_mem_replicate ha];rfl),List.length_replicate]
/-- The list plan of an order. -/
theorem listBoth {jobs:List J} (hj:JobsOk jobs) {E:List A2} (hE:PrecOk (jobs.length:Int) E) {order:List Int} (ho:IsPerm jobs.length order) {m:Int} (hm:1<=m/\m<=4):∃ r:List PTask,PlanIn jobs r/\Ev (fun k=>impl_listPlan.f k jobs m E order) r/\Ev (fun k=>spec_l7List.f k jobs m E order) r:=by
 obtain ⟨m,rfl⟩:=Int.eq_ofNat_of_zero_le (show 0<=m by omega);have h8:=hj.1;have h28:=hE.1.2.1;have hp:PreF jobs.length (cloF jobs.length E):=preF_of (by have:=hE.2;rwa [Int.toNat_natCast] at this);have hs:SpInv jobs m 0 ⟨List.replicate jobs.length z73,List.replicate jobs.length (-1),List.replicate m 0,(jobs.length:Int)⟩:=by
  refine ⟨by simp,?_,fun j hj2=>?_,fun k hk=>.inl (rd_rep m 0 k hk),by omega,?_⟩
  ·show (jobs.length:Int)=(cntU (List.replicate jobs.length (-1)):Int);rw [cntU_rep]
  ·show -1<=rd (List.replicate jobs.length (-1)) (j:Int)/\rd (List.replicate jobs.length (-1)) (j:Int)<=50 * ((jobs.length:Int) - (jobs.length:Int))/\(0<=rd (List.replicate jobs.length (-1)) (j:Int)->_)
   rw [rd_rep _ _ _ hj2];exact ⟨by omega,by omega,fun h=>absurd h (by omega)⟩
  ·show (0:Int)<=50 * ((jobs.length:Int) - (jobs.length:Int));omega
 obtain ⟨r,r1,r2,r3⟩:=list_both hj hp ho (by omega) _ 0 _ hs (Nat.le_refl _);refine ⟨r,r1,?_,?_⟩
 ·unfold impl_listPlan.f;refine ev_bind _ (impl_closure.ev jobs.length E (by omega) (by omega) (PairsOk.edg hE.1.2.2)) ?_;have hg:lpGood jobs (m:Int) (tbl jobs.length (cloF jobs.length E)) order:=by
   refine ⟨by omega,by omega,⟨tbl_length _ _,fun r hr=>?_⟩,by have:=ho.1;omega,ho.2.2⟩;obtain ⟨i,hi,rfl⟩:=List.mem_map.1 hr;simp
  simp only [if_pos hg];have e:lpStart jobs (m:Int)=imgS ⟨List.replicate jobs.length z73,List.replicate jobs.length (-1),List.replicate m 0,(jobs.length:Int)⟩:=by
   simp [lpStart,imgS]
  rw [e];exact r2
 ·unfold spec_l7List.f;refine ev_bind _ (spec_l4Table.ev jobs.length E (by omega) (by omega) (PairsOk.edg hE.1.2.2)) ?_;rw [show (fun k=>if 0<=(jobs.length:Int) then (if ((jobs.length:Int):Int).toNat<=11728124029610 then (if ((jobs.length:Int):Int).toNat<=35184372088832 then (spec_l7List.l0 k jobs (m:Int) order (jobs.length:Int) (tbl jobs.length (cloF jobs.length E)) (List.replicate ((jobs.length:Int):Int).toNat z73) (List.replicate ((jobs.length:Int):Int).toNat 0) 0) else (none)) else (none)) else (none))=fun k=>spec_l7List.l0 k jobs (m:Int) order (jobs.length:Int) (tbl jobs.length (cloF jobs.length E)) (List.replicate jobs.length z73) (List.replicate jobs.length 0) ((0:Nat):Int) from funext fun k=>by rw [if_pos (by omega),if_pos (by omega),if_pos (by omega)];rfl];have key:=rev_ind (P:=fun i=>Ev (fun k=>spec_l7List.l0 k jobs (m:Int) order (jobs.length:Int) (tbl jobs.length (cloF jobs.length E)) (List.replicate jobs.length z73) ((List.replicate jobs.length (-1)).take i++(List.replicate jobs.length (0:Int)).drop i) (i:Int)) r) jobs.length ?_ ?_ 0 (Nat.zero_le _)
  ·simpa using key
  ·refine ev_go _ (fun k=>?_) r3;simp only [spec_l7List.l0];rw [if_neg (by omega),if_pos (by omega),if_pos (by omega),List.take_of_length_le (by simp),List.drop_of_length_le (by simp)];simp
  ·intro i hi ih;refine ev_go _ (fun k=>?_) ih;simp only [spec_l7List.l0];rw [if_pos (by omega),if_pos (by omega),if_pos (by simp;omega),wr1 (by omega)];have:=set_copy (l:=List.replicate jobs.length (-1:Int)) (z:=List.replicate jobs.length (0:Int)) (i:=i) (by simpa using hi) (by simpa using hi);rw [show ((i:Int)).toNat=i by omega,<-this];simp
def fallLt (nums:List Int):Int->Int->Bool:=fun a b=>decide (rd nums b<rd nums a)
theorem fallLt_pre (nums:List Int) (P:Int->Prop):Pre (fallLt nums) P:=by
 rw [show fallLt nums=fun a b=>decide (-(rd nums a) < -(rd nums b)) from funext fun a=>funext fun b=>by unfold fallLt;exact decide_eq_decide.2 (by omega)];exact pre_key (fun a=> -(rd nums a)) P
theorem spec_l7Falling.ev (nums:List Int) (h:nums.length<=1048576):Ev (fun k=>spec_l7Falling.f k nums) (sortN (fallLt nums) nums.length):=by
 have key:=rev_ind (P:=fun i=>∀ out:List Int,out.length=i->(∀ y ∈ out,0<=y/\y<nums.length)->SortedLt (fallLt nums) out->Ev (fun k=>spec_l7Falling.l0 k nums out (i:Int)) (insAll (fallLt nums) ((nums_to nums.length).drop i) out)) nums.length ?_ ?_ 0 (Nat.zero_le _) [] rfl (by simp) List.Pairwise.nil
 ·simpa [spec_l7Falling.f,sortN] using key
 ·intro out ho _ _;refine ev_stop fun k=>?_
  simp only [spec_l7Falling.l0];rw [if_neg (by omega),List.drop_of_length_le (by rw [nums_to_length];omega),insAll]
 ·intro i hi ih out ho hm hs;refine ev_go (fun k=>spec_l7Falling.l1 k nums out (i:Int) 0) (fun k=>?h) ?e
  case e=>
   have hi2:(nums_to nums.length)[i]'(by rw [nums_to_length];exact hi)=(i:Int):=by simp [nums_to]
   rw [drop_cons (by rw [nums_to_length];exact hi),hi2,insAll];have hP:Pre (fallLt nums) (fun y=>0<=y/\y<(nums.length:Int)):=fallLt_pre _ _;have hxi:0<=(i:Int)/\(i:Int)<(nums.length:Int):=by omega
   have inner:=rev_ind (P:=fun j=>(∀ y ∈ out.take j,fallLt nums (i:Int) y=false)->Ev (fun k=>spec_l7Falling.l1 k nums out (i:Int) (j:Int)) (insAll (fallLt nums) ((nums_to nums.length).drop (i + 1)) (insAt (fallLt nums) (i:Int) out))) out.length ?_ ?_ 0 (Nat.zero_le _) (by simp)
   ·exact inner
   ·intro ht;have ha:=insAt_at hP hxi hm hs out.length (Nat.le_refl _) ht (fun h=>absurd h (by omega));have hn:=ih (insAt (fallLt nums) (i:Int) out) (by rw [insAt_len];omega) (insAt_mem hxi hm) (insAt_sorted hP hxi hm hs);rw [ha] at hn ⊢;refine ev_go _ (fun k=>?_) hn;simp only [spec_l7Falling.l1];rw [if_neg (by omega),if_pos (by omega),if_pos (by omega),spec_l1Own.eq _ (by simp;omega)];simp only [Option.bind_some];rw [if_pos (by simp;omega),if_pos (by simp;omega),wr1 (by omega)];simp
   ·intro j hj ihj ht;have hy:=hm _ (List.getElem_mem hj);by_cases q:rd nums out[j]>=rd nums (i:Int)
    ·refine ev_go _ (fun k=>?_) (ihj ?_)
     ·simp only [spec_l7Falling.l1];rw [rd_nat hj,if_pos (by omega),if_pos (by omega),if_pos (by omega),if_pos (by omega),if_pos (by omega),if_pos (by omega),if_pos q,wr1 (by omega)]
     ·intro y hy;rw [List.take_succ_eq_append_getElem hj] at hy;rcases List.mem_append.1 hy with hy|hy
      ·exact ht y hy
      ·rw [List.mem_singleton] at hy;subst hy;unfold fallLt;simp;omega
    ·have ha:=insAt_at hP hxi hm hs j (by omega) ht (fun _=>by unfold fallLt;simp;omega);have hn:=ih (insAt (fallLt nums) (i:Int) out) (by rw [insAt_len];omega) (insAt_mem hxi hm) (insAt_sorted hP hxi hm hs);rw [ha] at hn ⊢;refine ev_go _ (fun k=>?_) hn;simp only [spec_l7Falling.l1];rw [rd_nat hj,if_pos (by omega),if_pos (by omega),if_pos (by omega),if_pos (by omega),if_pos (by omega),if_pos (by omega),if_neg q,if_pos (by omega),spec_l1Own.eq _ (by simp;omega)];simp only [Option.bind_some];rw [if_pos (by simp;omega),if_pos (by simp;omega),wr1 (by omega)];simp
  case h=>simp only [spec_l7Falling.l0];rw [if_pos (by omega)]
theorem TF_ok {jobs:List J} {m:Int} {E:List A2} (h:ParOk jobs m E) {r:List PTask} (r2:Ev (fun k=>impl_listPlan.f k jobs m E (sortN (fallLt (tailsL jobs (cloF jobs.length E))) jobs.length)) r) (r3:Ev (fun k=>spec_l7List.f k jobs m E (sortN (fallLt (tailsL jobs (cloF jobs.length E))) jobs.length)) r):Ev (fun k=>spec_TailsFirst.f k jobs m E) (r,true)/\Ev (fun k=>impl_TailsFirst.f k jobs m E) (r,true):=by
 unfold spec_TailsFirst.f impl_TailsFirst.f;have h8:=h.1.1.1;have h28:=h.2.2.1.2.1;have hsr:=tailsL_len jobs (cloF jobs.length E);refine ⟨ev_guard' (spec_l7Good.ev jobs m E (by omega) (by omega)) (fun _=>ev_bind _ (spec_l7Tails.ev jobs E h.1.1 h.2.2) (ev_bind _ (spec_l7Falling.ev _ (by omega)) ?_)) (fun hn=>absurd h hn),ev_guard' (impl_isParallel.ev jobs m E (by omega) (by omega)) (fun _=>ev_bind _ (impl_tailsOf.ev jobs E h.1.1 h.2.2) (ev_bind _ (impl_numbersTo.ev jobs.length (by omega)) ?_)) (fun hn=>absurd h hn)⟩
 ·rw [hsr];exact ev_bind _ r3 (Ev.now _)
 ·have hg:(nums_to jobs.length).length<=1048576/\∀ x ∈ nums_to jobs.length,0<=x/\x<((tailsL jobs (cloF jobs.length E)).length:Int):=⟨by rw [nums_to_length];omega,fun x hx=>by rw [hsr];exact mem_nums_to.1 hx⟩;simp only [if_pos hg];exact ev_bind _ r2 (Ev.now _)
theorem TF_no {jobs:List J} {m:Int} {E:List A2} (hj:jobs.length<=1048576) (hE:E.length<=1048576) (h:¬ ParOk jobs m E):Ev (fun k=>spec_TailsFirst.f k jobs m E) ([],false)/\Ev (fun k=>impl_TailsFirst.f k jobs m E) ([],false):=by
 unfold spec_TailsFirst.f impl_TailsFirst.f;exact ⟨ev_guard' (spec_l7Good.ev jobs m E hj (by omega)) (fun h1=>absurd h1 h) (fun _=>Ev.now _),ev_guard' (impl_isParallel.ev jobs m E hj (by omega)) (fun h1=>absurd h1 h) (fun _=>Ev.now _)⟩
def lenQ (jobs:List J):List PTask->Nat->Int->Int
 | [],_,o=>o
 | t::l,i,o=>lenQ jobs l (i + 1) (mx o (t.f2 + tmI jobs (i:Int)))
theorem lenQ_ge (jobs:List J):∀ (l:List PTask) (i:Nat) (o:Int),o<=lenQ jobs l i o
 | [],_,_=>Int.le_refl _
 | t::l,i,o=>by
  have h1:=lenQ_ge jobs l (i + 1) (mx o (t.f2 + tmI jobs (i:Int)));have h2:=mx_ge2 o (t.f2 + tmI jobs (i:Int));rw [lenQ];omega
theorem spec_l7Length.ev (jobs:List J) (r:List PTask) (hj:JobsOk jobs) (hr:PlanIn jobs r):Ev (fun k=>spec_l7Length.f k jobs r) (lenQ jobs r 0 0):=by
 have h8:=hj.1;have hl:=hr.1;have key:=rev_ind (P:=fun i=>∀ o,Ev (fun k=>spec_l7Length.l0 k jobs r o (i:Int)) (lenQ jobs (r.drop i) i o)) r.length ?_ ?_ 0 (Nat.zero_le _) 0
 ·simpa [spec_l7Length.f] using key
 ·intro o;refine ev_stop fun k=>?_
  simp only [spec_l7Length.l0];rw [if_neg (by omega),List.drop_of_length_le (Nat.le_refl _)];rfl
 ·intro i hi ih o;have h1:=hr.2 i (by omega);have htm:=tmI_in hj (i:=(i:Int)) (by omega) (by omega);rw [rdPTask hi] at h1;rw [drop_cons hi,lenQ];refine ev_go _ (fun k=>?_) (ih _);have w:wrap64 ((r[i]).f2 + (rd_T44 jobs (i:Int)).f0)=(r[i]).f2 + tmI jobs (i:Int):=by unfold tmI at h1 htm ⊢;exact wr (by omega) (by omega)
  simp only [spec_l7Length.l0];rw [if_pos (by omega),if_pos (by omega),if_pos (by omega),rdPTask hi,w,wr1 (by omega),spec_l1Most.eqk,Option.bind_some]
theorem impl_planLength.ev (jobs:List J) (r:List PTask) (hj:JobsOk jobs) (hr:PlanIn jobs r):Ev (fun k=>impl_planLength.f k jobs r) (lenQ jobs r 0 0):=by
 have h8:=hj.1;have hl:=hr.1;have key:=rev_ind (P:=fun i=>∀ o,Ev (fun k=>impl_planLength.l0 k jobs o r (r.length:Int) (i:Int)) (lenQ jobs (r.drop i) i o)) r.length ?_ ?_ 0 (Nat.zero_le _) 0
 ·simpa [impl_planLength.f] using key
 ·intro o;refine ev_stop fun k=>?_
  simp only [impl_planLength.l0];rw [if_neg (by omega),List.drop_of_length_le (Nat.le_refl _)];rfl
 ·intro i hi ih o;have h1:=hr.2 i (by omega);have htm:=tmI_in hj (i:=(i:Int)) (by omega) (by omega);rw [rdPTask hi] at h1;rw [drop_cons hi,lenQ];refine ev_go _ (fun k=>?_) (ih _);have w:wrap64 ((r[i]).f2 + (rd_T44 jobs (i:Int)).f0)=(r[i]).f2 + tmI jobs (i:Int):=by unfold tmI at h1 htm ⊢;exact wr (by omega) (by omega)
  simp only [impl_planLength.l0];rw [if_pos (by omega),if_pos (by omega),if_pos (by omega),rdPTask hi,h1.1,if_pos (by omega),if_pos (by omega),w,wr1 (by omega)]
noncomputable def planC (jobs:List J) (m:Int) (E:List A2) (l:List Int):List PTask:=Classical.epsilon fun r=>PlanIn jobs r/\Ev (fun k=>impl_listPlan.f k jobs m E l) r/\Ev (fun k=>spec_l7List.f k jobs m E l) r
theorem planC_spec {jobs:List J} {m:Int} {E:List A2} (h:ParOk jobs m E) {l:List Int} (hl:IsPerm jobs.length l):PlanIn jobs (planC jobs m E l)/\Ev (fun k=>impl_listPlan.f k jobs m E l) (planC jobs m E l)/\Ev (fun k=>spec_l7List.f k jobs m E l) (planC jobs m E l):=
 Classical.epsilon_spec (p:=fun r=>PlanIn jobs r/\Ev (fun k=>impl_listPlan.f k jobs m E l) r/\Ev (fun k=>spec_l7List.f k jobs m E l) r) (listBoth h.1.1 h.2.2 hl h.2.1)
noncomputable def lenC (jobs:List J) (m:Int) (E:List A2) (l:List Int):Int:=lenQ jobs (planC jobs m E l) 0 0
open Classical in
noncomputable def bpS (jobs:List J) (m:Int) (E:List A2) (l:List Int) (b:List Int):List Int:=if b.length=0 then l else if lenC jobs m E l<lenC jobs m E b then l else b
open Classical in
noncomputable def bpI (jobs:List J) (m:Int) (E:List A2) (l:List Int) (s:List PTask × Int):List PTask × Int:=if s.2<0\/lenC jobs m E l<s.2 then (planC jobs m E l,lenC jobs m E l) else s
theorem spec_l7Best.ev {jobs:List J} {m:Int} {E:List A2} (h:ParOk jobs m E):Ev (fun k=>spec_l7Best.f k jobs m E [] []) ((perms jobs.length (nums_to jobs.length)).foldl (fun s l=>bpS jobs m E l s) []):=by
 have hj:=h.1.1;have h8:=hj.1;have key:=rec_all jobs.length (bpS jobs m E) (fun b=>b=[]\/IsPerm jobs.length b) (fun k b s=>spec_l7Best.f k jobs m E b s) (fun k b i s=>spec_l7Best.l0 k jobs m E b s i) ?_ ?_ ?_ ?_ ?_ jobs.length [] [] (by simp) (by simp) (by simp) (.inl rfl)
 ·rw [<-rec_start];exact key.1
 ·intro b s hb hs;have hbl:=hb.1;obtain ⟨p1,p2,p3⟩:=planC_spec h hb;have hlb:=spec_l7Length.ev jobs _ hj p1;refine ⟨?_,?_⟩
  ·by_cases hz:s.length=0
   ·refine ev_stop fun k=>?_
    simp only [spec_l7Best.f];rw [if_pos (by omega),if_pos (by omega)];unfold bpS;rw [if_pos hz]
   ·have hsp:IsPerm jobs.length s:=by
     rcases hs with rfl|hs
     ·exact absurd rfl hz
     ·exact hs
    obtain ⟨q1,q2,q3⟩:=planC_spec h hsp;have hls:=spec_l7Length.ev jobs _ hj q1;refine ev_go (fun k=>(spec_l7List.f k jobs m E b).bind fun t1=>(spec_l7Length.f k jobs t1).bind fun n1=>(spec_l7List.f k jobs m E s).bind fun t2=>(spec_l7Length.f k jobs t2).bind fun n2=>if n1<n2 then some b else some s) (fun k=>?_) (ev_bind _ p3 (ev_bind _ hlb (ev_bind _ q3 (ev_bind _ hls ?_))))
    ·simp only [spec_l7Best.f];rw [if_pos (by omega),if_neg (by omega)]
    ·unfold bpS;rw [if_neg hz];by_cases c:lenC jobs m E b<lenC jobs m E s
     ·have c':lenQ jobs (planC jobs m E b) 0 0<lenQ jobs (planC jobs m E s) 0 0:=c;rw [if_pos c];simp only [if_pos c'];exact Ev.now _
     ·have c':¬ lenQ jobs (planC jobs m E b) 0 0<lenQ jobs (planC jobs m E s) 0 0:=c;rw [if_neg c];simp only [if_neg c'];exact Ev.now _
  ·unfold bpS
   split
   ·exact .inr hb
   ·split
    ·exact .inr hb
    ·exact hs
 ·intro b s r hb hr;refine ev_go _ (fun k=>?_) hr;simp only [spec_l7Best.f];rw [if_neg (by omega)]
 ·intro b s _;refine ev_stop fun k=>?_
  simp only [spec_l7Best.l0];rw [if_neg (by omega)]
 ·intro b i s r hb hi hm hr;refine ev_go (fun k=>(spec_l1Has.f k b (i:Int)).bind fun t=>if t=true then spec_l7Best.l0 k jobs m E b s ((i + 1:Nat):Int) else ((spec_l7Best.f k jobs m E (b++[(i:Int)]) s).bind fun q=>(spec_l7Best.l0 k jobs m E b q ((i + 1:Nat):Int)))) (fun k=>?_) (evB_bind (spec_l1Has.ev b (i:Int) (by omega)) (fun _=>by simp only [if_true];exact hr) (fun hn=>absurd hm hn));simp only [spec_l7Best.l0];rw [if_pos (by omega),wr1 (by omega),spec_l1Own.eq b (by omega)];simp only [Option.bind_some];rw [if_pos (by omega)]
 ·intro b i s s' r hb hi hm h1 h2;refine ev_go (fun k=>(spec_l1Has.f k b (i:Int)).bind fun t=>if t=true then spec_l7Best.l0 k jobs m E b s ((i + 1:Nat):Int) else ((spec_l7Best.f k jobs m E (b++[(i:Int)]) s).bind fun q=>(spec_l7Best.l0 k jobs m E b q ((i + 1:Nat):Int)))) (fun k=>?_) (evB_bind (spec_l1Has.ev b (i:Int) (by omega)) (fun hn=>absurd hn hm) (fun _=>by simp only [Bool.false_eq_true,if_false];exact ev_bind _ h1 h2));simp only [spec_l7Best.l0];rw [if_pos (by omega),wr1 (by omega),spec_l1Own.eq b (by omega)];simp only [Option.bind_some];rw [if_pos (by omega)]
theorem bp_end {jobs:List J} {m:Int} {E:List A2} (h:ParOk jobs m E):∃ b,IsPerm jobs.length b/\(perms jobs.length (nums_to jobs.length)).foldl (fun s l=>bpS jobs m E l s) []=b/\(perms jobs.length (nums_to jobs.length)).foldl (fun s l=>bpI jobs m E l s) ([], -1)=(planC jobs m E b,lenC jobs m E b):=by
 have hall:∀ l ∈ perms jobs.length (nums_to jobs.length),IsPerm jobs.length l:=fun l hl=>perms_isPerm hl
 have hne:=perms_ne jobs.length (nums_to jobs.length) (nums_to_length _);cases hP:perms jobs.length (nums_to jobs.length) with
 | nil=>exact absurd hP hne
 | cons a t=>
  rw [hP] at hall;rw [List.foldl_cons,List.foldl_cons];have e1:bpS jobs m E a []=a:=by unfold bpS;exact if_pos (by simp)
  have e2:bpI jobs m E a ([], -1)=(planC jobs m E a,lenC jobs m E a):=by unfold bpI;rw [if_pos (.inl (by decide))]
  rw [e1,e2];have key:=fold_sim (fun (b:List Int) (s:List PTask × Int)=>IsPerm jobs.length b/\s=(planC jobs m E b,lenC jobs m E b)) (bpS jobs m E) (bpI jobs m E) t a (planC jobs m E a,lenC jobs m E a) ⟨hall a List.mem_cons_self,rfl⟩ (fun l hl b s hR=>by
   obtain ⟨hb,rfl⟩:=hR;have hlp:=hall l (List.mem_cons_of_mem _ hl);have hge:0<=lenC jobs m E b:=lenQ_ge jobs _ 0 0;unfold bpS bpI;by_cases hz:b.length=0
   ·have e:l=b:=by
     have h1:=hlp.1;have h2:=hb.1;rw [List.length_eq_zero_iff.1 hz,List.length_eq_zero_iff.1 (show l.length=0 by omega)]
    subst e;rw [if_pos hz,if_neg (by intro hq;rcases hq with hq|hq <;> simp only at hq <;> omega)]
    exact ⟨hb,rfl⟩
   ·rw [if_neg hz];by_cases c:lenC jobs m E l<lenC jobs m E b
    ·rw [if_pos c,if_pos (.inr c)];exact ⟨hlp,rfl⟩
    ·rw [if_neg c,if_neg (by intro hq;rcases hq with hq|hq <;> simp only at hq <;> omega)];exact ⟨hb,rfl⟩)
  exact ⟨_,key.1,rfl,key.2⟩
theorem core_BestListPlan (jobs:List J) (m:Int) (E:List A2) (hj:jobs.length<=1048576) (hw:(Lit.int .i64 m).wf=true) (hE:E.length<=1048576):∃ r b,Ev (fun k=>spec_BestListPlan.f k jobs m E) (r,b)/\Ev (fun k=>impl_BestListPlan.f k jobs m E) (r,b)/\r.length<=1048576:=by
 unfold spec_BestListPlan.f impl_BestListPlan.f;have es:=spec_l7Good.ev jobs m E hj (by omega);have ei:=impl_isParallel.ev jobs m E hj (by omega);by_cases h:ParOk jobs m E
 ·have hJ:=h.1.1;have h8:=hJ.1;by_cases h6:(jobs.length:Int)>6
  ·refine ⟨[],false,ev_guard' es (fun _=>ev_stop fun k=>?_) (fun hn=>absurd h hn),ev_guard' ei (fun _=>?_) (fun hn=>absurd h hn),by simp⟩
   ·simp only [spec_BestListPlan.j0];rw [if_pos (decide_eq_true h6)]
   ·simp only [if_pos h6];exact Ev.now _
  ·obtain ⟨b,hb,hS,hI⟩:=bp_end h;obtain ⟨p1,p2,p3⟩:=planC_spec h hb;have eS:=spec_l7Best.ev h;rw [hS] at eS;have eI:=impl_eachOrder.ev (impl_BestListPlan.step jobs m E) (bpI jobs m E) (fun _=>True) jobs.length (by omega) ([], -1) (fun l hl s _=>⟨by
    obtain ⟨q1,q2,q3⟩:=planC_spec h hl;unfold impl_BestListPlan.step;refine ev_bind _ q2 (ev_bind _ (impl_planLength.ev jobs _ hJ q1) ?_);unfold bpI;exact Ev.now _,trivial⟩) trivial
   rw [hI] at eI;refine ⟨planC jobs m E b,true,ev_guard' es (fun _=>?_) (fun hn=>absurd h hn),ev_guard' ei (fun _=>?_) (fun hn=>absurd h hn),by have:=p1.1;omega⟩
   ·refine ev_go (fun k=>(spec_l7Best.f k jobs m E [] []).bind fun t=>(spec_l7List.f k jobs m E t).bind fun r=>some (r,true)) (fun k=>?_) (ev_bind _ eS (ev_bind _ p3 (Ev.now _)));simp only [spec_BestListPlan.j0];rw [if_neg (by rw [decide_eq_false h6];simp)]
   ·simp only [if_neg h6];exact ev_bind _ eI (Ev.now _)
 ·refine ⟨[],false,ev_guard' es (fun h1=>absurd h1 h) (fun _=>ev_stop fun k=>?_),ev_guard' ei (fun h1=>absurd h1 h) (fun _=>Ev.now _),by simp⟩;simp only [spec_BestListPlan.j0];exact if_pos trivial
theorem ev_uniq {α:Type} {g:Nat->Option α} {r r':α} (h:Ev g r) (h':Ev g r'):r=r':=by
 obtain ⟨a,ha⟩:=h;obtain ⟨b,hb⟩:=h';have h1:=ha (a + b) (by omega);have h2:=hb (a + b) (by omega);rw [h1] at h2;exact Option.some.inj h2
/-- the place of a number in a list -/
def posN:List Int->Int->Nat
 | [],_=>0
 | a::l,x=>if a=x then 0 else posN l x + 1
theorem posN_find {p:Int->Bool} : ∀ (l:List Int) (i j:Int),l.find? p=some i->p j=true->j ∈ l->posN l i<=posN l j
 | [],_,_,h,_,_=>by cases h
 | a::l,i,j,h,hj,hm=>by
  rw [List.find?_cons] at h;by_cases c:p a=true
  ·rw [c] at h;injection h with h
   subst h;rw [posN,if_pos rfl];omega
  ·have c':p a=false:=by simpa using c
   rw [c'] at h;have hi:=List.find?_some h;have ne1:a≠i:=fun e=>by rw [e] at c;exact c hi
   have ne2:a≠j:=fun e=>by rw [e] at c;exact c hj
   have hm2:j ∈ l:=(List.mem_cons.1 hm).resolve_left (fun e=>ne2 e.symm);have:=posN_find l i j h hj hm2;rw [posN,posN,if_neg ne1,if_neg ne2];omega
theorem posN_inj:∀ (l:List Int) (i j:Int),i ∈ l->j ∈ l->posN l i=posN l j->i=j
 | [],_,_,h,_,_=>by cases h
 | a::l,i,j,hi,hj,h=>by
  rw [posN,posN] at h;by_cases e1:a=i
  ·by_cases e2:a=j
   ·rw [<-e1,e2]
   ·rw [if_pos e1,if_neg e2] at h;omega
  ·by_cases e2:a=j
   ·rw [if_neg e1,if_pos e2] at h;omega
   ·rw [if_neg e1,if_neg e2] at h;exact posN_inj l i j ((List.mem_cons.1 hi).resolve_left (fun e=>e1 e.symm)) ((List.mem_cons.1 hj).resolve_left (fun e=>e2 e.symm)) (by omega)
def tS (r:List PTask) (j:Nat):Int:=(rd_T73 r (j:Int)).f2
def tM (r:List PTask) (j:Nat):Int:=(rd_T73 r (j:Int)).f1
/-- What a list plan is. -/
structure LSd (jobs:List J) (f:BF) (order:List Int) (m:Nat) (r:List PTask):Prop where
 mach:∀ j,j<jobs.length->0<=tM r j/\tM r j<(m:Int)
 prec:∀ k j,k<jobs.length->j<jobs.length->f k j=true->tS r k + tmI jobs (k:Int)<=tS r j
 apart:∀ i k,i<jobs.length->k<jobs.length->i≠k->tM r i=tM r k->tS r i + tmI jobs (i:Int)<=tS r k\/tS r k + tmI jobs (k:Int)<=tS r i
 prio:∀ i j,i<jobs.length->j<jobs.length->i≠j->(tS r i<tS r j\/(tS r i=tS r j/\tM r i<tM r j))->(∀ k,k<jobs.length->f k j=true->tS r k + tmI jobs (k:Int)<=tS r i)->posN order (i:Int)<posN order (j:Int)
 busy:∀ j,j<jobs.length->∀ t:Int,0<=t->t<tS r j->(∀ k,k<jobs.length->f k j=true->tS r k + tmI jobs (k:Int)<=t)->∀ q:Nat,q<m->∃ i,i<jobs.length/\tM r i=(q:Int)/\tS r i<=t/\t<tS r i + tmI jobs (i:Int)
def Std (s:SpS) (j:Nat):Prop:=0<=rd s.ends (j:Int)
def RdyAt (n:Nat) (f:BF) (s:SpS) (j:Nat) (t:Int):Prop:=∀ k,k<n->f k j=true->Std s k/\rd s.ends (k:Int)<=t
structure LI (jobs:List J) (f:BF) (order:List Int) (m:Nat) (now:Int) (mm:Nat) (s:SpS):Prop where
 a:∀ j,j<jobs.length->Std s j->tS s.plan j<=now/\(0<=tM s.plan j/\tM s.plan j<(m:Int))/\(tS s.plan j=now->tM s.plan j<(mm:Int))
 b:∀ k j,k<jobs.length->j<jobs.length->Std s j->f k j=true->Std s k/\rd s.ends (k:Int)<=tS s.plan j
 c:∀ i k,i<jobs.length->k<jobs.length->i≠k->Std s i->Std s k->tM s.plan i=tM s.plan k->rd s.ends (i:Int)<=tS s.plan k\/rd s.ends (k:Int)<=tS s.plan i
 d:∀ q:Nat,q<m->(∀ j,j<jobs.length->Std s j->tM s.plan j=(q:Int)->rd s.ends (j:Int)<=rd s.free (q:Int))/\(rd s.free (q:Int)=0\/∃ j,j<jobs.length/\Std s j/\tM s.plan j=(q:Int)/\rd s.free (q:Int)=rd s.ends (j:Int))
 e:∀ i j,i<jobs.length->j<jobs.length->i≠j->Std s i->(¬ Std s j\/tS s.plan i<tS s.plan j\/(tS s.plan i=tS s.plan j/\tM s.plan i<tM s.plan j))->RdyAt jobs.length f s j (tS s.plan i)->posN order (i:Int)<posN order (j:Int)
 g:∀ j,j<jobs.length->∀ t:Int,0<=t->t<now->(¬ Std s j\/t<tS s.plan j)->RdyAt jobs.length f s j t->∀ q:Nat,q<m->∃ i,i<jobs.length/\Std s i/\tM s.plan i=(q:Int)/\tS s.plan i<=t/\t<rd s.ends (i:Int)
theorem spRdy_iff {n:Nat} {f:BF} {s:SpS} {now:Int} {j:Nat} : spRdy n f s.ends now (j:Int)=true ↔ ¬ Std s j/\RdyAt n f s j now:=by
 unfold spRdy Std RdyAt Std;rw [Bool.and_eq_true,decide_eq_true_eq,List.all_eq_true];simp only [List.mem_range,Bool.or_eq_true,Bool.not_eq_true',Bool.and_eq_true,decide_eq_true_eq,Int.toNat_natCast];constructor
 ·rintro ⟨h1,h2⟩;refine ⟨by omega,fun k hk hf=>?_⟩;rcases h2 k hk with h|h
  ·rw [hf] at h;cases h
  ·exact h
 ·rintro ⟨h1,h2⟩;refine ⟨by omega,fun k hk=>?_⟩;cases hf:f k j with
  | false=>exact .inl rfl
  | true=>exact .inr (h2 k hk hf)
theorem LI.step {jobs:List J} (hj:JobsOk jobs) {f:BF} {order:List Int} (ho:IsPerm jobs.length order) {m:Nat} {now:Int} {s:SpS} (hI:SpInv jobs m now s) {mm:Nat} (hm:mm<m) (h:LI jobs f order m now mm s):LI jobs f order m now (mm + 1) (spStep jobs f order now s mm):=by
 have same:LI jobs f order m now (mm + 1) s:=⟨fun j hj hs=>by have:=h.a j hj hs;exact ⟨this.1,this.2.1,fun e=>by have:=this.2.2 e;omega⟩,h.b,h.c,h.d,h.e,h.g⟩;unfold spStep
 split
 ·rename_i hle
  cases hf:order.find? (spRdy jobs.length f s.ends now) with
  | none=>exact same
  | some x=>
   have hxm:=List.mem_of_find?_eq_some hf;have hxi:=ho.2.2 x hxm;obtain ⟨i,rfl⟩:=Int.eq_ofNat_of_zero_le hxi.1;have hi:i<jobs.length:=by omega
   have htm:=tmI_in hj hxi.1 hxi.2;have hrdy:=List.find?_some hf;obtain ⟨hns,hrd⟩:=spRdy_iff.1 hrdy;have l1:=hI.lens.1;have l2:=hI.lens.2.1;have l3:=hI.lens.2.2;have h0:=hI.now0;have eE:∀ j,j<jobs.length->rd (s.ends.set i (now + tmI jobs (i:Int))) (j:Int)=if i=j then now + tmI jobs (i:Int) else rd s.ends (j:Int):=fun j hj=>rd_setI (by omega) (by omega) _
   have eP:∀ j,j<jobs.length->rd_T73 (s.plan.set i ⟨(i:Int),(mm:Int),now⟩) (j:Int)=if i=j then ⟨(i:Int),(mm:Int),now⟩ else rd_T73 s.plan (j:Int):=fun j hj=>rdT_set (by omega) (by omega) _
   have eF:∀ q,q<m->rd (s.free.set mm (now + tmI jobs (i:Int))) (q:Int)=if mm=q then now + tmI jobs (i:Int) else rd s.free (q:Int):=fun q hq=>rd_setI (by omega) (by omega) _
   simp only [Int.toNat_natCast];generalize hs':(⟨s.plan.set i ⟨(i:Int),(mm:Int),now⟩,s.ends.set i (now + tmI jobs (i:Int)),s.free.set mm (now + tmI jobs (i:Int)),s.left - 1⟩:SpS)=s';have q1:∀ j,j<jobs.length->rd s'.ends (j:Int)=if i=j then now + tmI jobs (i:Int) else rd s.ends (j:Int):=fun j hj=>by rw [<-hs'];exact eE j hj
   have q2:∀ j,j<jobs.length->tS s'.plan j=if i=j then now else tS s.plan j:=fun j hj=>by
    rw [<-hs'];unfold tS;rw [eP j hj];split <;> rfl
   have q3:∀ j,j<jobs.length->tM s'.plan j=if i=j then (mm:Int) else tM s.plan j:=fun j hj=>by
    rw [<-hs'];unfold tM;rw [eP j hj];split <;> rfl
   have q4:∀ q,q<m->rd s'.free (q:Int)=if mm=q then now + tmI jobs (i:Int) else rd s.free (q:Int):=fun q hq=>by rw [<-hs'];exact eF q hq
   have hfind:=hf;clear hs' eE eP eF hf hrdy;have sNew:Std s' i:=by unfold Std;rw [q1 i hi,if_pos rfl];omega
   have sOld:∀ j,j<jobs.length->i≠j->(Std s' j ↔ Std s j):=fun j hj hne=>by unfold Std;rw [q1 j hj,if_neg hne]
   have rOld:∀ j t,j<jobs.length->t<=now->RdyAt jobs.length f s' j t->RdyAt jobs.length f s j t/\f i j=false:=fun j t hj ht hr=>by
    have hfi:f i j=false:=by
     refine Bool.eq_false_iff.2 fun hf=>?_
     have:=(hr i hi hf).2;rw [q1 i hi,if_pos rfl] at this;omega
    refine ⟨fun k hk hf=>?_,hfi⟩;have hne:i≠k:=fun e=>by subst e;rw [hf] at hfi;cases hfi
    have:=hr k hk hf;rw [sOld k hk hne,q1 k hk,if_neg hne] at this;exact this
   refine ⟨fun j hj hs=>?_,fun k j hk hj hs hf=>?_,fun x y hx hy hne hsx hsy hM=>?_,fun q hq=>?_,fun x y hx hy hne hsx hc hr=>?_,fun j hj t ht0 ht hc hr q hq=>?_⟩
   ·by_cases e:i=j
    ·rw [q2 j hj,q3 j hj,if_pos e,if_pos e];exact ⟨Int.le_refl _,by omega,fun _=>by omega⟩
    ·have:=h.a j hj ((sOld j hj e).1 hs);rw [q2 j hj,q3 j hj,if_neg e,if_neg e];exact ⟨this.1,this.2.1,fun e2=>by have:=this.2.2 e2;omega⟩
   ·by_cases e:i=j
    ·subst e;have hr:=hrd k hk hf;have hne:i≠k:=fun e=>by subst e;exact hns hr.1
     rw [sOld k hk hne,q1 k hk,if_neg hne,q2 i hi,if_pos rfl];exact hr
    ·have hr:=h.b k j hk hj ((sOld j hj e).1 hs) hf;have hne:i≠k:=fun e=>by subst e;exact hns hr.1
     rw [sOld k hk hne,q1 k hk,if_neg hne,q2 j hj,if_neg e];exact hr
   ·by_cases e1:i=x
    ·have e2:i≠y:=fun e=>hne (e1.symm.trans e)
     right
     rw [q3 x hx,q3 y hy,if_pos e1,if_neg e2] at hM;rw [q1 y hy,if_neg e2,q2 x hx,if_pos e1];have:=(h.d mm hm).1 y hy ((sOld y hy e2).1 hsy) hM.symm;omega
    ·by_cases e2:i=y
     ·left
      rw [q3 x hx,q3 y hy,if_neg e1,if_pos e2] at hM;rw [q1 x hx,if_neg e1,q2 y hy,if_pos e2];have:=(h.d mm hm).1 x hx ((sOld x hx e1).1 hsx) hM;omega
     ·rw [q3 x hx,q3 y hy,if_neg e1,if_neg e2] at hM;rw [q1 x hx,q1 y hy,q2 x hx,q2 y hy,if_neg e1,if_neg e2,if_neg e1,if_neg e2];exact h.c x y hx hy hne ((sOld x hx e1).1 hsx) ((sOld y hy e2).1 hsy) hM
   ·obtain ⟨d1,d2⟩:=h.d q hq;rw [q4 q hq];by_cases e:mm=q
    ·subst e;rw [if_pos rfl];refine ⟨fun j hj hs hM=>?_,.inr ⟨i,hi,sNew,by rw [q3 i hi,if_pos rfl],by rw [q1 i hi,if_pos rfl]⟩⟩;rw [q1 j hj];by_cases e2:i=j
     ·rw [if_pos e2];exact Int.le_refl _
     ·rw [if_neg e2];rw [q3 j hj,if_neg e2] at hM;have:=d1 j hj ((sOld j hj e2).1 hs) hM;omega
    ·rw [if_neg e];refine ⟨fun j hj hs hM=>?_,?_⟩
     ·by_cases e2:i=j
      ·rw [q3 j hj,if_pos e2] at hM;omega
      ·rw [q3 j hj,if_neg e2] at hM;rw [q1 j hj,if_neg e2];exact d1 j hj ((sOld j hj e2).1 hs) hM
     ·rcases d2 with d2 | ⟨j,hj,hs,hM,he⟩
      ·exact .inl d2
      ·have e2:i≠j:=fun e=>by subst e;exact hns hs
       exact .inr ⟨j,hj,(sOld j hj e2).2 hs,by rw [q3 j hj,if_neg e2];exact hM,by rw [q1 j hj,if_neg e2];exact he⟩
   ·by_cases e1:i=x
    ·have e2:i≠y:=fun e=>hne (e1.symm.trans e)
     rw [q2 x hx,if_pos e1] at hr hc;rw [q2 y hy,q3 x hx,q3 y hy,if_neg e2,if_pos e1,if_neg e2,sOld y hy e2] at hc;have hns2:¬ Std s y:=fun hs=>by
      have:=h.a y hy hs;rcases hc with hc|hc|hc
      ·exact hc hs
      ·omega
      ·have:=this.2.2 hc.1.symm;omega
     have hr2:=(rOld y now hy (Int.le_refl _) hr).1;have hin:(y:Int) ∈ order:=ho.all (y:Int) (by omega) (by omega);rw [<-e1];have h1:=posN_find order (i:Int) (y:Int) hfind (spRdy_iff.2 ⟨hns2,hr2⟩) hin;have h2:posN order (i:Int)≠posN order (y:Int):=fun e=>e2 (by have:=posN_inj order _ _ hxm hin e;omega)
     omega
    ·have hsx2:=(sOld x hx e1).1 hsx;have hax:=h.a x hx hsx2;rw [q2 x hx,if_neg e1] at hr hc;have hr2:=(rOld y _ hy hax.1 hr).1;refine h.e x y hx hy hne hsx2 ?_ hr2;by_cases e2:i=y
     ·subst e2;exact .inl hns
     ·rw [q2 y hy,q3 x hx,q3 y hy,if_neg e1,if_neg e2,if_neg e2,sOld y hy e2] at hc;exact hc
   ·have hr2:=(rOld j t hj (by omega) hr).1;have hc2:¬ Std s j\/t<tS s.plan j:=by
     by_cases e2:i=j
     ·subst e2;exact .inl hns
     ·rw [q2 j hj,if_neg e2,sOld j hj e2] at hc;exact hc
    obtain ⟨x,hx,hsx,hMx,h1,h2⟩:=h.g j hj t ht0 ht hc2 hr2 q hq;have e1:i≠x:=fun e=>by subst e;exact hns hsx
    exact ⟨x,hx,(sOld x hx e1).2 hsx,by rw [q3 x hx,if_neg e1];exact hMx,by rw [q2 x hx,if_neg e1];exact h1,by rw [q1 x hx,if_neg e1];exact h2⟩
 ·exact same
theorem LI.run {jobs:List J} (hj:JobsOk jobs) {f:BF} {order:List Int} (ho:IsPerm jobs.length order) {m:Nat} {now:Int} : ∀ (c mm:Nat) (s:SpS),mm + c=m->SpInv jobs m now s->LI jobs f order m now mm s->LI jobs f order m now m (spRun jobs f order now c mm s)
 | 0,mm,s,hc,_,h=>by obtain rfl:mm=m:=(by omega);exact h
 | c + 1,mm,s,hc,hI,h=>LI.run hj ho c (mm + 1) _ (by omega) (hI.step hj ho.2.2 (by omega)) (LI.step hj ho hI (by omega) h)
theorem LI.next {jobs:List J} {f:BF} {order:List Int} (ho:IsPerm jobs.length order) {m:Nat} {now:Int} {s:SpS} (h0:0<=now) (h:LI jobs f order m now m s) (hs:StuckTo jobs.length f order now m s):LI jobs f order m (now + 1) 0 s:=by
 refine ⟨fun j hj hst=>?_,h.b,h.c,h.d,h.e,fun j hj t ht0 ht hc hr q hq=>?_⟩
 ·have:=h.a j hj hst;exact ⟨by omega,this.2.1,fun e=>by omega⟩
 ·by_cases e:t<now
  ·exact h.g j hj t ht0 e hc hr q hq
  ·have e2:t=now:=by omega
   subst e2;have hns:¬ Std s j:=fun hst=>by
    have:=h.a j hj hst;rcases hc with hc|hc
    ·exact hc hst
    ·omega
   rcases hs q hq with h1|h1
   ·rcases (h.d q hq).2 with h2 | ⟨i,hi,hsi,hMi,he⟩
    ·omega
    ·exact ⟨i,hi,hsi,hMi,(h.a i hi hsi).1,by omega⟩
   ·have:=List.find?_eq_none.1 h1 (j:Int) (ho.all (j:Int) (by omega) (by omega));exact absurd (spRdy_iff.2 ⟨hns,hr⟩) this
theorem LI.done {jobs:List J} {f:BF} {order:List Int} {m mm:Nat} {now:Int} {s:SpS} (hI:SpInv jobs m now s) (h:LI jobs f order m now mm s) (hz:s.left=0):LSd jobs f order m s.plan:=by
 have all:∀ j,j<jobs.length->Std s j:=fun j hj=>cntU_zero (l:=s.ends) (by have:=hI.left;omega) j (by rw [hI.lens.2.1];exact hj)
 have ee:∀ j,j<jobs.length->rd s.ends (j:Int)=tS s.plan j + tmI jobs (j:Int):=fun j hj=>((hI.ends j hj).2.2 (all j hj)).1
 refine ⟨fun j hj=>(h.a j hj (all j hj)).2.1,fun k j hk hj hf=>?_,fun i k hi hk hne hM=>?_,fun i j hi hj hne hc hr=>?_,fun j hj t ht0 ht hr q hq=>?_⟩
 ·rw [<-ee k hk];exact (h.b k j hk hj (all j hj) hf).2
 ·rw [<-ee i hi,<-ee k hk];exact h.c i k hi hk hne (all i hi) (all k hk) hM
 ·exact h.e i j hi hj hne (all i hi) (.inr hc) (fun k hk hf=>⟨all k hk,by rw [ee k hk];exact hr k hk hf⟩)
 ·obtain ⟨i,hi,hsi,hMi,h1,h2⟩:=h.g j hj t ht0 (by have:=(h.a j hj (all j hj)).1;omega) (.inr ht) (fun k hk hf=>⟨all k hk,by rw [ee k hk];exact hr k hk hf⟩) q hq;exact ⟨i,hi,hMi,h1,by rw [<-ee i hi];exact h2⟩
theorem list_ls {jobs:List J} (hj:JobsOk jobs) {f:BF} (hp:PreF jobs.length f) {order:List Int} (ho:IsPerm jobs.length order) {m:Nat} (hm:1<=m/\m<=4):∀ (d:Nat) (now:Int) (s:SpS),SpInv jobs m now s->LI jobs f order m now 0 s->(50 * (jobs.length:Int) - now).toNat<=d->∃ r:List PTask,LSd jobs f order m r/\Ev (fun k=>impl_listPlan.l0 jobs (tbl jobs.length f) order m k (imgS s) now) r:=by
 intro d
 induction d with
 | zero=>
  intro now s h hL hd;have h1:=h.now1;have h2:=h.left;refine ⟨s.plan,hL.done h (by omega),ev_stop fun k=>?_⟩;rw [impl_listPlan.l0,if_neg (show ¬ 0<(imgS s).left by show ¬ 0<s.left;omega)];rfl
 | succ d ih=>
  intro now s h hL hd;have h8:=hj.1;have hor:=ho.2.2;have h0:=h.now0;have h1:=h.now1;have h2:=h.left;by_cases hl:0<s.left
  ·obtain ⟨hI,hS⟩:=spRun_all hj hor (f:=f) m 0 s (by omega) h (fun k hk=>absurd hk (by omega));have hL1:=LI.run hj ho (f:=f) m 0 s (by omega) h hL;have himp:∀ r,Ev (fun k=>impl_listPlan.l0 jobs (tbl jobs.length f) order m k (imgS (spRun jobs f order now m 0 s)) (now + 1)) r->Ev (fun k=>impl_listPlan.l0 jobs (tbl jobs.length f) order m k (imgS s) now) r:=fun r hr=>by
    refine ev_go _ (fun k=>?_) hr;rw [impl_listPlan.l0,if_pos (show 0<(imgS s).left from hl),lpRun_img hj hor m 0 s (by omega) h,wr (by omega) (by omega)]
   generalize spRun jobs f order now m 0 s=s1 at hI hS himp hL1;by_cases hl1:0<s1.left
   ·obtain ⟨e,he,hlt⟩:=soon_there hp ho (by omega) hI hS hl1;obtain ⟨j,hjl,hje⟩:=List.getElem_of_mem he;have hb:=hI.ends j (by rw [<-hI.lens.2.1];exact hjl);rw [rd_nat hjl,hje] at hb;obtain ⟨r,r1,r2⟩:=ih (now + 1) s1 (hI.at (by omega) (by omega)) (hL1.next ho h0 hS) (by omega);exact ⟨r,r1,himp r r2⟩
   ·refine ⟨s1.plan,hL1.done hI (by have:=hI.left;omega),himp _ (ev_stop fun k=>?_)⟩;rw [impl_listPlan.l0,if_neg (show ¬ 0<(imgS s1).left from hl1)];rfl
  ·refine ⟨s.plan,hL.done h (by omega),ev_stop fun k=>?_⟩;rw [impl_listPlan.l0,if_neg (show ¬ 0<(imgS s).left from hl)];rfl
/-- What the program's list plan is. -/
theorem planLS {jobs:List J} (hj:JobsOk jobs) {E:List A2} (hE:PrecOk (jobs.length:Int) E) {order:List Int} (ho:IsPerm jobs.length order) {m:Nat} (hm:1<=m/\m<=4) {r:List PTask} (hr:Ev (fun k=>impl_listPlan.f k jobs (m:Int) E order) r):LSd jobs (cloF jobs.length E) order m r:=by
 have h8:=hj.1;have h28:=hE.1.2.1;have hp:PreF jobs.length (cloF jobs.length E):=preF_of (by have:=hE.2;rwa [Int.toNat_natCast] at this);have hs:SpInv jobs m 0 ⟨List.replicate jobs.length z73,List.replicate jobs.length (-1),List.replicate m 0,(jobs.length:Int)⟩:=by
  refine ⟨by simp,?_,fun j hj2=>?_,fun k hk=>.inl (rd_rep m 0 k hk),by omega,?_⟩
  ·show (jobs.length:Int)=(cntU (List.replicate jobs.length (-1)):Int);rw [cntU_rep]
  ·show -1<=rd (List.replicate jobs.length (-1)) (j:Int)/\rd (List.replicate jobs.length (-1)) (j:Int)<=50 * ((jobs.length:Int) - (jobs.length:Int))/\(0<=rd (List.replicate jobs.length (-1)) (j:Int)->_)
   rw [rd_rep _ _ _ hj2];exact ⟨by omega,by omega,fun h=>absurd h (by omega)⟩
  ·show (0:Int)<=50 * ((jobs.length:Int) - (jobs.length:Int));omega
 have ns:∀ j,j<jobs.length->¬ Std ⟨List.replicate jobs.length z73,List.replicate jobs.length (-1),List.replicate m 0,(jobs.length:Int)⟩ j:=fun j hj2 h=>by
  unfold Std at h;rw [rd_rep _ _ _ hj2] at h;omega
 have hL:LI jobs (cloF jobs.length E) order m 0 0 ⟨List.replicate jobs.length z73,List.replicate jobs.length (-1),List.replicate m 0,(jobs.length:Int)⟩:=
  ⟨fun j hj2 h=>absurd h (ns j hj2),fun k j hk hj2 h=>absurd h (ns j hj2),fun i k hi hk _ h=>absurd h (ns i hi),fun q hq=>⟨fun j hj2 h=>absurd h (ns j hj2),.inl (rd_rep m 0 q hq)⟩,fun i j hi hj2 _ h=>absurd h (ns i hi),fun j hj2 t h1 h2=>by omega⟩
 obtain ⟨r2,r3,r4⟩:=list_ls hj hp ho (by omega) _ 0 _ hs hL (Nat.le_refl _);have e:Ev (fun k=>impl_listPlan.f k jobs (m:Int) E order) r2:=by
  unfold impl_listPlan.f;refine ev_bind _ (impl_closure.ev jobs.length E (by omega) (by omega) (PairsOk.edg hE.1.2.2)) ?_;have hg:lpGood jobs (m:Int) (tbl jobs.length (cloF jobs.length E)) order:=by
   refine ⟨by omega,by omega,⟨tbl_length _ _,fun r hr=>?_⟩,by have:=ho.1;omega,ho.2.2⟩;obtain ⟨i,hi,rfl⟩:=List.mem_map.1 hr;simp
  simp only [if_pos hg];have e:lpStart jobs (m:Int)=imgS ⟨List.replicate jobs.length z73,List.replicate jobs.length (-1),List.replicate m 0,(jobs.length:Int)⟩:=by
   simp [lpStart,imgS]
  rw [e];exact r4
 rw [ev_uniq hr e];exact r3
theorem perms_all:∀ (n:Nat) (L l:List Int),L.length=n->L.Nodup->l.Perm L->l ∈ perms n L
 | 0,L,l,hL,_,hp=>by
  obtain rfl:=List.eq_nil_of_length_eq_zero hL;have:=hp.eq_nil;subst this;simp [perms]
 | n + 1,L,l,hL,hn,hp=>by
  have hlen:=hp.length_eq;cases l with
  | nil=>simp at hlen;omega
  | cons x t=>
   have hx:x ∈ L:=hp.subset List.mem_cons_self;have ht:t.Perm (L.erase x):=by
    have h2:=hp.erase x
    rwa [List.erase_cons_head] at h2
   have:=perms_all n (L.erase x) t (by rw [List.length_erase_of_mem hx];omega) (hn.erase x) ht
   show x::t ∈ L.flatMap fun x=>(perms n (L.erase x)).map fun l=>x::l
   exact List.mem_flatMap.2 ⟨x,hx,List.mem_map.2 ⟨t,this,rfl⟩⟩
theorem count_nodup:∀ {l:List Int},l.Nodup->∀ a,l.count a=if a ∈ l then 1 else 0
 | [],_,a=>by simp
 | b::l,h,a=>by
  have h':=List.nodup_cons.1 h;rw [List.count_cons,count_nodup h'.2];by_cases e:b=a
  ·subst e;simp [h'.1]
  ·have e':¬ a=b:=fun h2=>e h2.symm
   simp [e,e']
theorem isPerm_perms {n:Nat} {l:List Int} (h:IsPerm n l):l ∈ perms n (nums_to n):=by
 refine perms_all n _ l (nums_to_length n) (nums_to_nodup n) ?_;have h1:l.Perm (nums_to n):=by
  rw [List.perm_iff_count];intro a;have c1:=count_nodup h.2.1 a;have c2:=count_nodup (nums_to_nodup n) a;rw [c1,c2];have:a ∈ l ↔ a ∈ nums_to n:=⟨fun h2=>mem_nums_to.2 (h.2.2 a h2),fun h2=>h.all a (mem_nums_to.1 h2).1 (mem_nums_to.1 h2).2⟩;simp [this]
 exact h1
