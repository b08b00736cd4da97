/- Proved here: what functions that the law FnExactLongestFirst reaches answer (cloT, tailF, parOk, spec_l7Good, impl_isParallel). Conditions: those that each theorem names. -/
import Derived.Test.YtplbabjigikgjaaQFnExactLongestFirstxb
set_option linter.unusedVariables false
set_option linter.unusedSimpArgs false
namespace Go.Proofs.Ytplbabjigikgjaa.Pure
open Go.RowKit Go.Proofs.Ytplbabjigikgjaa.XFnExactLongestFirst Go.Proofs.YtplbabjigikgjaaW.PrintWords Go.Proofs.YtplbabjigikgjaaW.PrintLast

theorem fwJ_eq (k i:Nat):∀ (L:List Nat) (f:BF),L.Nodup→∀ a b,fwJ k i L f a b=if a=i∧b ∈ L then (f i b || (f i k && f k b)) else f a b
 | [],f,_,a,b=>by simp [fwJ]
 | j::L,f,hn,a,b=>by
  have hj:=List.nodup_cons.1 hn
  have ih:=fwJ_eq k i L (fwS k i j f) hj.2 a b
  have e:fwJ k i (j::L) f=fwJ k i L (fwS k i j f):=rfl
  rw [e,ih]
  have s:∀ c d,fwS k i j f c d=if c=i∧d=j then (f i j || (f i k && f k j)) else f c d:=fun c d=>rfl
  have sik:fwS k i j f i k=f i k:=by
   rw [s];split
   ·rename_i h;rw [←h.2];cases f i k <;> simp
   ·rfl
  by_cases ha:a=i
  ·subst ha
   by_cases hb:b=j
   ·subst hb
    rw [if_neg (by rintro ⟨_,h⟩;exact hj.1 h),if_pos ⟨rfl,List.mem_cons_self⟩,s,if_pos ⟨rfl,rfl⟩]
   ·have sb:∀ c,fwS k a j f c b=f c b:=fun c=>by rw [s,if_neg (by rintro ⟨_,h⟩;exact hb h)]
    by_cases hbl:b ∈ L
    ·rw [if_pos ⟨rfl,hbl⟩,if_pos ⟨rfl,List.mem_cons_of_mem _ hbl⟩,sb,sb,sik]
    ·rw [if_neg (by rintro ⟨_,h⟩;exact hbl h),if_neg (by rintro ⟨_,h⟩;rcases List.mem_cons.1 h with h|h;exact hb h;exact hbl h),sb]
  ·rw [if_neg (by rintro ⟨h,_⟩;exact ha h),if_neg (by rintro ⟨h,_⟩;exact ha h),s,if_neg (by rintro ⟨h,_⟩;exact ha h)]
theorem fwI_eq (n k:Nat):∀ (L:List Nat) (f:BF),L.Nodup→k<n→∀ a b,fwI n k L f a b=if a ∈ L∧b<n then (f a b || (f a k && f k b)) else f a b
 | [],f,_,_,a,b=>by simp [fwI]
 | i::L,f,hn,hk,a,b=>by
  have hj:=List.nodup_cons.1 hn
  have ih:=fwI_eq n k L (fwJ k i (List.range n) f) hj.2 hk a b
  have e:fwI n k (i::L) f=fwI n k L (fwJ k i (List.range n) f):=rfl
  rw [e,ih]
  have s:∀ c d,fwJ k i (List.range n) f c d=if c=i∧d ∈ List.range n then (f i d || (f i k && f k d)) else f c d:=fwJ_eq k i _ f List.nodup_range
  have sk:∀ d,fwJ k i (List.range n) f k d=f k d:=fun d=>by
   rw [s];split
   ·rename_i h;rw [←h.1];cases f k d <;> cases f k k <;> simp
   ·rfl
  by_cases ha:a=i
  ·subst ha
   rw [if_neg (by rintro ⟨h,_⟩;exact hj.1 h),s]
   by_cases hb:b<n
   ·rw [if_pos ⟨rfl,List.mem_range.2 hb⟩,if_pos ⟨List.mem_cons_self,hb⟩]
   ·rw [if_neg (by rintro ⟨_,h⟩;exact hb (List.mem_range.1 h)),if_neg (by rintro ⟨_,h⟩;exact hb h)]
  ·have sa:∀ d,fwJ k i (List.range n) f a d=f a d:=fun d=>by rw [s,if_neg (by rintro ⟨h,_⟩;exact ha h)]
   rw [sa,sa,sk]
   by_cases hal:a ∈ L
   ·by_cases hb:b<n
    ·rw [if_pos ⟨hal,hb⟩,if_pos ⟨List.mem_cons_of_mem _ hal,hb⟩]
    ·rw [if_neg (by rintro ⟨_,h⟩;exact hb h),if_neg (by rintro ⟨_,h⟩;exact hb h)]
   ·rw [if_neg (by rintro ⟨h,_⟩;exact hal h),if_neg (by rintro ⟨h,_⟩;rcases List.mem_cons.1 h with h|h;exact ha h;exact hal h)]
/-- Closed under the jobs below k. -/
def ClosedTo (n k:Nat) (f:BF):Prop:=∀ i m j,i<n→j<n→m<k→m<n→f i m=true→f m j=true→f i j=true
theorem closed_step (n k:Nat) (f:BF) (hk:k<n) (h:ClosedTo n k f):ClosedTo n (k + 1) (fwI n k (List.range n) f):=by
 have s:=fwI_eq n k (List.range n) f List.nodup_range hk
 have t:∀ a b,a<n→b<n→(fwI n k (List.range n) f a b=true ↔ (f a b=true∨f a k=true∧f k b=true)):=fun a b ha hb=>by
  rw [s,if_pos ⟨List.mem_range.2 ha,hb⟩,Bool.or_eq_true,Bool.and_eq_true]
 intro i m j hi hj hm hmn h1 h2
 rw [t i m hi hmn] at h1
 rw [t m j hmn hj] at h2
 rw [t i j hi hj]
 by_cases e:m=k
 ·subst e
  have a1:f i m=true:=by rcases h1 with h|h;exact h;exact h.1
  have a2:f m j=true:=by rcases h2 with h|h;exact h;exact h.2
  exact .inr ⟨a1,a2⟩
 ·have hm':m<k:=by omega
  rcases h1 with h1 | ⟨h1,h1'⟩ <;> rcases h2 with h2 | ⟨h2,h2'⟩
  ·exact .inl (h i m j hi hj hm' hmn h1 h2)
  ·exact .inr ⟨h i m k hi hk hm' hmn h1 h2,h2'⟩
  ·exact .inr ⟨h1,h k m j hk hj hm' hmn h1' h2⟩
  ·exact .inr ⟨h1,h2'⟩
theorem closed_all (n:Nat) (f:BF):ClosedTo n n (fwK n (List.range n) f):=by
 have key:∀ k,k≤n→ClosedTo n k (fwK n (List.range k) f):=by
  intro k
  induction k with
  | zero=>intro _ i m j _ _ hm;omega
  | succ k ih=>
   intro hk
   have e:fwK n (List.range (k + 1)) f=fwI n k (List.range n) (fwK n (List.range k) f):=by
    unfold fwK;rw [List.range_succ,List.foldl_append];rfl
   rw [e]
   exact closed_step n k _ (by omega) (ih (by omega))
 exact key n (Nat.le_refl _)
theorem clo_trans {n:Nat} {E:List A2} {i m j:Nat} (hi:i<n) (hm:m<n) (hj:j<n) (h1:cloF n E i m=true) (h2:cloF n E m j=true):cloF n E i j=true:=
 closed_all n (edgF E fun _ _=>false) i m j hi hj hm hm h1 h2
/-- A precedence, as a table. -/
structure PreF (n:Nat) (f:BF):Prop where
 irr:∀ i,i<n→f i i=false
 tr:∀ i m j,i<n→m<n→j<n→f i m=true→f m j=true→f i j=true
theorem preF_of {n:Nat} {E:List A2} (h:DiagOk n (cloF n E)):PreF n (cloF n E):=⟨h,fun _ _ _ hi hm hj h1 h2=>clo_trans hi hm hj h1 h2⟩
/-- How many jobs are behind a job. -/
def cntF (n:Nat) (f:BF) (i:Nat):Nat:=((List.range n).filter fun j=>f i j).length
theorem filter_sub {α:Type} (p q:α→Bool):∀ l:List α,(∀ x ∈ l,p x=true→q x=true)→(l.filter p).length≤(l.filter q).length
 | [],_=>by simp
 | x::l,h=>by
  have ih:=filter_sub p q l (fun y hy=>h y (List.mem_cons_of_mem _ hy))
  by_cases hp:p x=true
  ·rw [List.filter_cons_of_pos hp,List.filter_cons_of_pos (h x List.mem_cons_self hp)];simp;exact ih
  ·rw [List.filter_cons_of_neg hp]
   by_cases hq:q x=true
   ·rw [List.filter_cons_of_pos hq];simp;omega
   ·rw [List.filter_cons_of_neg hq];exact ih
theorem filter_lt {α:Type} (p q:α→Bool) (a:α) (ha:p a=false) (hb:q a=true):∀ l:List α,a ∈ l→(∀ x ∈ l,p x=true→q x=true)→(l.filter p).length<(l.filter q).length
 | [],h,_=>absurd h (by simp)
 | x::l,h,hs=>by
  have sub:=filter_sub p q l (fun y hy=>hs y (List.mem_cons_of_mem _ hy))
  by_cases e:x=a
  ·subst e
   rw [List.filter_cons_of_neg (by simp [ha]),List.filter_cons_of_pos hb];simp;omega
  ·have hm:a ∈ l:=by rcases List.mem_cons.1 h with h|h;exact absurd h.symm e;exact h
   have ih:=filter_lt p q a ha hb l hm (fun y hy=>hs y (List.mem_cons_of_mem _ hy))
   by_cases hp:p x=true
   ·rw [List.filter_cons_of_pos hp,List.filter_cons_of_pos (hs x List.mem_cons_self hp)];simp;exact ih
   ·rw [List.filter_cons_of_neg hp]
    by_cases hq:q x=true
    ·rw [List.filter_cons_of_pos hq];simp;omega
    ·rw [List.filter_cons_of_neg hq];exact ih
theorem cnt_lt {n:Nat} {f:BF} (h:PreF n f) {i j:Nat} (hi:i<n) (hj:j<n) (hij:f i j=true):cntF n f j<cntF n f i:=
 filter_lt _ _ j (h.irr j hj) hij _ (List.mem_range.2 hj) (fun x hx hx2=>h.tr i j x hi hj (List.mem_range.1 hx) hij hx2)
theorem cnt_le {n:Nat} {f:BF} (h:PreF n f) {i:Nat} (hi:i<n):cntF n f i<n:=by
 have h1:=filter_lt (fun j=>f i j) (fun _=>true) i (h.irr i hi) rfl (List.range n) (List.mem_range.2 hi) (fun _ _ _=>rfl)
 have h2:((List.range n).filter fun _=>true).length=n:=by rw [List.filter_eq_self.2 (fun _ _=>rfl),List.length_range]
 unfold cntF
 omega

/-- The greatest of what lies behind a job. -/
def bestB (f:BF) (t:Nat→Int) (i:Nat):List Nat→Int→Int
 | [],s=>s
 | k::L,s=>bestB f t i L (if f i k=true then mx s (t k) else s)
theorem mx_ge2 (a b:Int):a≤mx a b∧b≤mx a b∧(mx a b=a∨mx a b=b):=by unfold mx;split <;> omega
theorem bestB_ge (f:BF) (t:Nat→Int) (i:Nat):∀ (L:List Nat) (s:Int),s≤bestB f t i L s∧∀ k ∈ L,f i k=true→t k≤bestB f t i L s
 | [],s=>⟨Int.le_refl _,fun k hk=>absurd hk (by simp)⟩
 | k::L,s=>by
  rw [bestB]
  have ih:=bestB_ge f t i L (if f i k=true then mx s (t k) else s)
  by_cases c:f i k=true
  ·rw [if_pos c] at ih ⊢
   have h3:=mx_ge2 s (t k)
   refine ⟨Int.le_trans h3.1 ih.1,fun q hq hf=>?_⟩
   rcases List.mem_cons.1 hq with rfl|hq
   ·exact Int.le_trans h3.2.1 ih.1
   ·exact ih.2 q hq hf
  ·rw [if_neg c] at ih ⊢
   refine ⟨ih.1,fun q hq hf=>?_⟩
   rcases List.mem_cons.1 hq with rfl|hq
   ·exact absurd hf c
   ·exact ih.2 q hq hf
theorem bestB_at (f:BF) (t:Nat→Int) (i:Nat):∀ (L:List Nat) (s:Int),bestB f t i L s=s∨∃ k,k ∈ L∧f i k=true∧bestB f t i L s=t k
 | [],s=>.inl rfl
 | k::L,s=>by
  rw [bestB]
  by_cases c:f i k=true
  ·rw [if_pos c]
   rcases bestB_at f t i L (mx s (t k)) with h | ⟨q,hq,hf,h⟩
   ·rcases (mx_ge2 s (t k)).2.2 with e|e
    ·exact .inl (h.trans e)
    ·exact .inr ⟨k,List.mem_cons_self,c,h.trans e⟩
   ·exact .inr ⟨q,List.mem_cons_of_mem _ hq,hf,h⟩
  ·rw [if_neg c]
   rcases bestB_at f t i L s with h | ⟨q,hq,hf,h⟩
   ·exact .inl h
   ·exact .inr ⟨q,List.mem_cons_of_mem _ hq,hf,h⟩
theorem bestB_congr (f:BF) (t u:Nat→Int) (i:Nat):∀ (L:List Nat) (s:Int),(∀ k ∈ L,f i k=true→t k=u k)→bestB f t i L s=bestB f u i L s
 | [],_,_=>rfl
 | k::L,s,h=>by
  rw [bestB,bestB]
  by_cases c:f i k=true
  ·rw [if_pos c,if_pos c,h k List.mem_cons_self c];exact bestB_congr f t u i L _ (fun q hq=>h q (List.mem_cons_of_mem _ hq))
  ·rw [if_neg c,if_neg c];exact bestB_congr f t u i L _ (fun q hq=>h q (List.mem_cons_of_mem _ hq))
def tmF (jobs:List J) (i:Nat):Int:=(rd_T47 jobs (i:Int)).f0
def tailN (jobs:List J) (f:BF):Nat→Nat→Int
 | 0,_=>0
 | d + 1,i=>tmF jobs i + bestB f (tailN jobs f d) i (List.range jobs.length) 0
/-- The tail of a job. -/
def TL (jobs:List J) (f:BF) (i:Nat):Int:=tailN jobs f jobs.length i
theorem tailN_stable (jobs:List J) {f:BF} (h:PreF jobs.length f):∀ (d i:Nat),i<jobs.length→cntF jobs.length f i<d→tailN jobs f d i=tailN jobs f (d + 1) i
 | 0,_,_,h2=>absurd h2 (by omega)
 | d + 1,i,hi,h2=>by
  rw [tailN,tailN]
  congr 1
  exact bestB_congr f _ _ i _ _ fun k hk hf=>tailN_stable jobs h d k (List.mem_range.1 hk) (by have:=cnt_lt h hi (List.mem_range.1 hk) hf;omega)
theorem tailN_up (jobs:List J) {f:BF} (h:PreF jobs.length f) (i:Nat) (hi:i<jobs.length):∀ (e d:Nat),cntF jobs.length f i<d→tailN jobs f d i=tailN jobs f (d + e) i
 | 0,d,_=>rfl
 | e + 1,d,hd=>by rw [←Nat.add_assoc,←tailN_stable jobs h (d + e) i hi (by omega)];exact tailN_up jobs h i hi e d hd
theorem TL_eq (jobs:List J) {f:BF} (h:PreF jobs.length f) (i:Nat) (hi:i<jobs.length):TL jobs f i=tmF jobs i + bestB f (TL jobs f) i (List.range jobs.length) 0:=by
 have h1:TL jobs f i=tailN jobs f (jobs.length + 1) i:=tailN_stable jobs h jobs.length i hi (cnt_le h hi)
 rw [h1,tailN]
 rfl
theorem TL_in (jobs:List J) (hj:JobsOk jobs) (f:BF):∀ (d i:Nat),i<jobs.length→0≤tailN jobs f d i∧tailN jobs f d i≤50 * (d:Int)
 | 0,_,_=>⟨Int.le_refl _,by simp [tailN]⟩
 | d + 1,i,hi=>by
  have ht:1≤tmF jobs i∧tmF jobs i≤50:=by unfold tmF;rw [rdJ hi];exact (hj.2 _ (List.getElem_mem hi)).1
  rw [tailN]
  have h1:=(bestB_ge f (tailN jobs f d) i (List.range jobs.length) 0).1
  have h2:bestB f (tailN jobs f d) i (List.range jobs.length) 0≤50 * (d:Int):=by
   rcases bestB_at f (tailN jobs f d) i (List.range jobs.length) 0 with e | ⟨k,hk,_,e⟩
   ·rw [e];omega
   ·rw [e];exact (TL_in jobs hj f d k (List.mem_range.1 hk)).2
  omega
theorem TL_pos (jobs:List J) (hj:JobsOk jobs) {f:BF} (h:PreF jobs.length f) (i:Nat) (hi:i<jobs.length):(1≤tmF jobs i∧tmF jobs i≤50)∧tmF jobs i≤TL jobs f i∧TL jobs f i≤400:=by
 have ht:1≤tmF jobs i∧tmF jobs i≤50:=by unfold tmF;rw [rdJ hi];exact (hj.2 _ (List.getElem_mem hi)).1
 have h8:=hj.1
 have h2:=(TL_in jobs hj f jobs.length i hi).2
 have h3:=(bestB_ge f (TL jobs f) i (List.range jobs.length) 0).1
 rw [TL_eq jobs h i hi]
 refine ⟨ht,by omega,?_⟩
 rw [←TL_eq jobs h i hi]
 unfold TL
 omega
def tailsL (jobs:List J) (f:BF):List Int:=(List.range jobs.length).map (TL jobs f)
theorem tailsL_len (jobs:List J) (f:BF):(tailsL jobs f).length=jobs.length:=by simp [tailsL]
theorem tailsL_rd (jobs:List J) (f:BF) {i:Nat} (h:i<jobs.length):rd (tailsL jobs f) (i:Int)=TL jobs f i:=by rw [rd_nat (by rw [tailsL_len];exact h)];simp [tailsL]

def ParOk (jobs:List J) (m:Int) (E:List A2):Prop:=PlainOk jobs∧(1≤m∧m≤4)∧PrecOk (jobs.length:Int) E
theorem ParOk.pre {jobs:List J} {m:Int} {E:List A2} (h:ParOk jobs m E):PreF jobs.length (cloF jobs.length E):=preF_of (by have:=h.2.2.2;rwa [Int.toNat_natCast] at this)

theorem spec_l7Good.ev (jobs:List J) (m:Int) (E:List A2) (hj:jobs.length≤1048576) (hE:E.length≤1000000000):EvB (fun k=>spec_l7Good.f k jobs m E) (ParOk jobs m E):=by
 unfold spec_l7Good.f
 have e1:=spec_l2Good.ev jobs (by omega)
 have e2:=spec_l3Plain.ev jobs (by omega)
 have e3:=spec_l4Good.ev (jobs.length:Int) E (by simp [Lit.wf,IntKind.min,IntKind.max,IntKind.signed,IntKind.bits];omega) hE
 simp only [spec_l1In.eq,Option.bind_some]
 refine evB_of (fun h=>?_) (fun h=>?_)
 ·refine ev_guard' e1 (fun _=>ev_guard' e2 (fun _=>?_) (fun hn=>absurd h.1.2 hn)) (fun hn=>absurd h.1.1 hn)
  simp only [decide_eq_true_eq,if_pos h.2.1]
  exact ev_bind _ (evB_true e3 h.2.2) (Ev.now _)
 ·refine ev_guard' e1 (fun h1=>ev_guard' e2 (fun h2=>?_) (fun _=>Ev.now _)) (fun _=>Ev.now _)
  by_cases h3:1≤m∧m≤4
  ·simp only [decide_eq_true_eq,if_pos h3]
   exact ev_bind _ (evB_false e3 (fun h4=>h ⟨⟨h1,h2⟩,h3,h4⟩)) (Ev.now _)
  ·simp only [decide_eq_true_eq,if_neg h3]
   exact Ev.now _

theorem impl_isParallel.ev (jobs:List J) (m:Int) (E:List A2) (hj:jobs.length≤1048576) (hE:E.length≤1000000000):EvB (fun k=>impl_isParallel.f k jobs m E) (ParOk jobs m E):=by
 unfold impl_isParallel.f
 have e1:=impl_IsPlain.ev jobs (by omega)
 have e3:=impl_IsPrecedence.ev (jobs.length:Int) E hE
 simp only [impl_within.eq,Option.bind_some]
 refine evB_of (fun h=>?_) (fun h=>?_)
 ·refine ev_guard' e1 (fun _=>?_) (fun hn=>absurd h.1 hn)
  simp only [decide_eq_true_eq,if_pos h.2.1]
  exact ev_bind _ (evB_true e3 h.2.2) (Ev.now _)
 ·refine ev_guard' e1 (fun h1=>?_) (fun _=>Ev.now _)
  by_cases h3:1≤m∧m≤4
  ·simp only [decide_eq_true_eq,if_pos h3]
   exact ev_bind _ (evB_false e3 (fun h4=>h ⟨h1,h3,h4⟩)) (Ev.now _)
  ·simp only [decide_eq_true_eq,if_neg h3]
   exact Ev.now _

end Go.Proofs.Ytplbabjigikgjaa.Pure
-- minified
