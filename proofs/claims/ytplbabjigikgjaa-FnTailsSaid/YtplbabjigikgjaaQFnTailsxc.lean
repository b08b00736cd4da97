/- Proved here: what functions that the law FnTails reaches answer (cloT, tailF, spec_l7Tails, impl_tailsOf, parOk, spec_l7Good, impl_isParallel, core_LongestChain, drawT, spec_l1Cur_next, spec_l1Cur_pick, spec_l1Cur_one, spec_l1Cur_among, spec_l1Cur_job, spec_l1Cur_spoiltJob, spec_l1Cur_someJobs, spec_l1Cur_jobs, spec_l1Cur_plain3, spec_l1Cur_work7, spec_l1Cur_edge). Conditions: those that each theorem names. -/
import Derived.Test.YtplbabjigikgjaaQFnTailsa
set_option linter.unusedVariables false
set_option linter.unusedSimpArgs false
namespace Go.Proofs.Ytplbabjigikgjaa.Pure
open Go.RowKit Go.Proofs.Ytplbabjigikgjaa.XFnTails Go.Proofs.YtplbabjigikgjaaW.PrintWords Go.Proofs.YtplbabjigikgjaaW.PrintLast

theorem fwJ_eq (k i:Nat):∀ (L:List Nat) (f:BF),L.Nodup→∀ a b,fwJ k i L f a b=if a=i∧b ∈ L then (f i b || (f i k && f k b)) else f a b
 | [],f,_,a,b=>by simp [fwJ]
 | j::L,f,hn,a,b=>by
  have hj:=List.nodup_cons.1 hn
  have ih:=fwJ_eq k i L (fwS k i j f) hj.2 a b
  have e:fwJ k i (j::L) f=fwJ k i L (fwS k i j f):=rfl
  rw [e,ih]
  have s:∀ c d,fwS k i j f c d=if c=i∧d=j then (f i j || (f i k && f k j)) else f c d:=fun c d=>rfl
  have sik:fwS k i j f i k=f i k:=by
   rw [s];split
   ·rename_i h;rw [←h.2];cases f i k <;> simp
   ·rfl
  by_cases ha:a=i
  ·subst ha
   by_cases hb:b=j
   ·subst hb
    rw [if_neg (by rintro ⟨_,h⟩;exact hj.1 h),if_pos ⟨rfl,List.mem_cons_self⟩,s,if_pos ⟨rfl,rfl⟩]
   ·have sb:∀ c,fwS k a j f c b=f c b:=fun c=>by rw [s,if_neg (by rintro ⟨_,h⟩;exact hb h)]
    by_cases hbl:b ∈ L
    ·rw [if_pos ⟨rfl,hbl⟩,if_pos ⟨rfl,List.mem_cons_of_mem _ hbl⟩,sb,sb,sik]
    ·rw [if_neg (by rintro ⟨_,h⟩;exact hbl h),if_neg (by rintro ⟨_,h⟩;rcases List.mem_cons.1 h with h|h;exact hb h;exact hbl h),sb]
  ·rw [if_neg (by rintro ⟨h,_⟩;exact ha h),if_neg (by rintro ⟨h,_⟩;exact ha h),s,if_neg (by rintro ⟨h,_⟩;exact ha h)]
theorem fwI_eq (n k:Nat):∀ (L:List Nat) (f:BF),L.Nodup→k<n→∀ a b,fwI n k L f a b=if a ∈ L∧b<n then (f a b || (f a k && f k b)) else f a b
 | [],f,_,_,a,b=>by simp [fwI]
 | i::L,f,hn,hk,a,b=>by
  have hj:=List.nodup_cons.1 hn
  have ih:=fwI_eq n k L (fwJ k i (List.range n) f) hj.2 hk a b
  have e:fwI n k (i::L) f=fwI n k L (fwJ k i (List.range n) f):=rfl
  rw [e,ih]
  have s:∀ c d,fwJ k i (List.range n) f c d=if c=i∧d ∈ List.range n then (f i d || (f i k && f k d)) else f c d:=fwJ_eq k i _ f List.nodup_range
  have sk:∀ d,fwJ k i (List.range n) f k d=f k d:=fun d=>by
   rw [s];split
   ·rename_i h;rw [←h.1];cases f k d <;> cases f k k <;> simp
   ·rfl
  by_cases ha:a=i
  ·subst ha
   rw [if_neg (by rintro ⟨h,_⟩;exact hj.1 h),s]
   by_cases hb:b<n
   ·rw [if_pos ⟨rfl,List.mem_range.2 hb⟩,if_pos ⟨List.mem_cons_self,hb⟩]
   ·rw [if_neg (by rintro ⟨_,h⟩;exact hb (List.mem_range.1 h)),if_neg (by rintro ⟨_,h⟩;exact hb h)]
  ·have sa:∀ d,fwJ k i (List.range n) f a d=f a d:=fun d=>by rw [s,if_neg (by rintro ⟨h,_⟩;exact ha h)]
   rw [sa,sa,sk]
   by_cases hal:a ∈ L
   ·by_cases hb:b<n
    ·rw [if_pos ⟨hal,hb⟩,if_pos ⟨List.mem_cons_of_mem _ hal,hb⟩]
    ·rw [if_neg (by rintro ⟨_,h⟩;exact hb h),if_neg (by rintro ⟨_,h⟩;exact hb h)]
   ·rw [if_neg (by rintro ⟨h,_⟩;exact hal h),if_neg (by rintro ⟨h,_⟩;rcases List.mem_cons.1 h with h|h;exact ha h;exact hal h)]
/-- Closed under the jobs below k. -/
def ClosedTo (n k:Nat) (f:BF):Prop:=∀ i m j,i<n→j<n→m<k→m<n→f i m=true→f m j=true→f i j=true
theorem closed_step (n k:Nat) (f:BF) (hk:k<n) (h:ClosedTo n k f):ClosedTo n (k + 1) (fwI n k (List.range n) f):=by
 have s:=fwI_eq n k (List.range n) f List.nodup_range hk
 have t:∀ a b,a<n→b<n→(fwI n k (List.range n) f a b=true ↔ (f a b=true∨f a k=true∧f k b=true)):=fun a b ha hb=>by
  rw [s,if_pos ⟨List.mem_range.2 ha,hb⟩,Bool.or_eq_true,Bool.and_eq_true]
 intro i m j hi hj hm hmn h1 h2
 rw [t i m hi hmn] at h1
 rw [t m j hmn hj] at h2
 rw [t i j hi hj]
 by_cases e:m=k
 ·subst e
  have a1:f i m=true:=by rcases h1 with h|h;exact h;exact h.1
  have a2:f m j=true:=by rcases h2 with h|h;exact h;exact h.2
  exact .inr ⟨a1,a2⟩
 ·have hm':m<k:=by omega
  rcases h1 with h1 | ⟨h1,h1'⟩ <;> rcases h2 with h2 | ⟨h2,h2'⟩
  ·exact .inl (h i m j hi hj hm' hmn h1 h2)
  ·exact .inr ⟨h i m k hi hk hm' hmn h1 h2,h2'⟩
  ·exact .inr ⟨h1,h k m j hk hj hm' hmn h1' h2⟩
  ·exact .inr ⟨h1,h2'⟩
theorem closed_all (n:Nat) (f:BF):ClosedTo n n (fwK n (List.range n) f):=by
 have key:∀ k,k≤n→ClosedTo n k (fwK n (List.range k) f):=by
  intro k
  induction k with
  | zero=>intro _ i m j _ _ hm;omega
  | succ k ih=>
   intro hk
   have e:fwK n (List.range (k + 1)) f=fwI n k (List.range n) (fwK n (List.range k) f):=by
    unfold fwK;rw [List.range_succ,List.foldl_append];rfl
   rw [e]
   exact closed_step n k _ (by omega) (ih (by omega))
 exact key n (Nat.le_refl _)
theorem clo_trans {n:Nat} {E:List A2} {i m j:Nat} (hi:i<n) (hm:m<n) (hj:j<n) (h1:cloF n E i m=true) (h2:cloF n E m j=true):cloF n E i j=true:=
 closed_all n (edgF E fun _ _=>false) i m j hi hj hm hm h1 h2
/-- A precedence, as a table. -/
structure PreF (n:Nat) (f:BF):Prop where
 irr:∀ i,i<n→f i i=false
 tr:∀ i m j,i<n→m<n→j<n→f i m=true→f m j=true→f i j=true
theorem preF_of {n:Nat} {E:List A2} (h:DiagOk n (cloF n E)):PreF n (cloF n E):=⟨h,fun _ _ _ hi hm hj h1 h2=>clo_trans hi hm hj h1 h2⟩
/-- How many jobs are behind a job. -/
def cntF (n:Nat) (f:BF) (i:Nat):Nat:=((List.range n).filter fun j=>f i j).length
theorem filter_sub {α:Type} (p q:α→Bool):∀ l:List α,(∀ x ∈ l,p x=true→q x=true)→(l.filter p).length≤(l.filter q).length
 | [],_=>by simp
 | x::l,h=>by
  have ih:=filter_sub p q l (fun y hy=>h y (List.mem_cons_of_mem _ hy))
  by_cases hp:p x=true
  ·rw [List.filter_cons_of_pos hp,List.filter_cons_of_pos (h x List.mem_cons_self hp)];simp;exact ih
  ·rw [List.filter_cons_of_neg hp]
   by_cases hq:q x=true
   ·rw [List.filter_cons_of_pos hq];simp;omega
   ·rw [List.filter_cons_of_neg hq];exact ih
theorem filter_lt {α:Type} (p q:α→Bool) (a:α) (ha:p a=false) (hb:q a=true):∀ l:List α,a ∈ l→(∀ x ∈ l,p x=true→q x=true)→(l.filter p).length<(l.filter q).length
 | [],h,_=>absurd h (by simp)
 | x::l,h,hs=>by
  have sub:=filter_sub p q l (fun y hy=>hs y (List.mem_cons_of_mem _ hy))
  by_cases e:x=a
  ·subst e
   rw [List.filter_cons_of_neg (by simp [ha]),List.filter_cons_of_pos hb];simp;omega
  ·have hm:a ∈ l:=by rcases List.mem_cons.1 h with h|h;exact absurd h.symm e;exact h
   have ih:=filter_lt p q a ha hb l hm (fun y hy=>hs y (List.mem_cons_of_mem _ hy))
   by_cases hp:p x=true
   ·rw [List.filter_cons_of_pos hp,List.filter_cons_of_pos (hs x List.mem_cons_self hp)];simp;exact ih
   ·rw [List.filter_cons_of_neg hp]
    by_cases hq:q x=true
    ·rw [List.filter_cons_of_pos hq];simp;omega
    ·rw [List.filter_cons_of_neg hq];exact ih
theorem cnt_lt {n:Nat} {f:BF} (h:PreF n f) {i j:Nat} (hi:i<n) (hj:j<n) (hij:f i j=true):cntF n f j<cntF n f i:=
 filter_lt _ _ j (h.irr j hj) hij _ (List.mem_range.2 hj) (fun x hx hx2=>h.tr i j x hi hj (List.mem_range.1 hx) hij hx2)
theorem cnt_le {n:Nat} {f:BF} (h:PreF n f) {i:Nat} (hi:i<n):cntF n f i<n:=by
 have h1:=filter_lt (fun j=>f i j) (fun _=>true) i (h.irr i hi) rfl (List.range n) (List.mem_range.2 hi) (fun _ _ _=>rfl)
 have h2:((List.range n).filter fun _=>true).length=n:=by rw [List.filter_eq_self.2 (fun _ _=>rfl),List.length_range]
 unfold cntF
 omega

/-- The greatest of what lies behind a job. -/
def bestB (f:BF) (t:Nat→Int) (i:Nat):List Nat→Int→Int
 | [],s=>s
 | k::L,s=>bestB f t i L (if f i k=true then mx s (t k) else s)
theorem mx_ge2 (a b:Int):a≤mx a b∧b≤mx a b∧(mx a b=a∨mx a b=b):=by unfold mx;split <;> omega
theorem bestB_ge (f:BF) (t:Nat→Int) (i:Nat):∀ (L:List Nat) (s:Int),s≤bestB f t i L s∧∀ k ∈ L,f i k=true→t k≤bestB f t i L s
 | [],s=>⟨Int.le_refl _,fun k hk=>absurd hk (by simp)⟩
 | k::L,s=>by
  rw [bestB]
  have ih:=bestB_ge f t i L (if f i k=true then mx s (t k) else s)
  by_cases c:f i k=true
  ·rw [if_pos c] at ih ⊢
   have h3:=mx_ge2 s (t k)
   refine ⟨Int.le_trans h3.1 ih.1,fun q hq hf=>?_⟩
   rcases List.mem_cons.1 hq with rfl|hq
   ·exact Int.le_trans h3.2.1 ih.1
   ·exact ih.2 q hq hf
  ·rw [if_neg c] at ih ⊢
   refine ⟨ih.1,fun q hq hf=>?_⟩
   rcases List.mem_cons.1 hq with rfl|hq
   ·exact absurd hf c
   ·exact ih.2 q hq hf
theorem bestB_at (f:BF) (t:Nat→Int) (i:Nat):∀ (L:List Nat) (s:Int),bestB f t i L s=s∨∃ k,k ∈ L∧f i k=true∧bestB f t i L s=t k
 | [],s=>.inl rfl
 | k::L,s=>by
  rw [bestB]
  by_cases c:f i k=true
  ·rw [if_pos c]
   rcases bestB_at f t i L (mx s (t k)) with h | ⟨q,hq,hf,h⟩
   ·rcases (mx_ge2 s (t k)).2.2 with e|e
    ·exact .inl (h.trans e)
    ·exact .inr ⟨k,List.mem_cons_self,c,h.trans e⟩
   ·exact .inr ⟨q,List.mem_cons_of_mem _ hq,hf,h⟩
  ·rw [if_neg c]
   rcases bestB_at f t i L s with h | ⟨q,hq,hf,h⟩
   ·exact .inl h
   ·exact .inr ⟨q,List.mem_cons_of_mem _ hq,hf,h⟩
theorem bestB_congr (f:BF) (t u:Nat→Int) (i:Nat):∀ (L:List Nat) (s:Int),(∀ k ∈ L,f i k=true→t k=u k)→bestB f t i L s=bestB f u i L s
 | [],_,_=>rfl
 | k::L,s,h=>by
  rw [bestB,bestB]
  by_cases c:f i k=true
  ·rw [if_pos c,if_pos c,h k List.mem_cons_self c];exact bestB_congr f t u i L _ (fun q hq=>h q (List.mem_cons_of_mem _ hq))
  ·rw [if_neg c,if_neg c];exact bestB_congr f t u i L _ (fun q hq=>h q (List.mem_cons_of_mem _ hq))
def tmF (jobs:List J) (i:Nat):Int:=(rd_T47 jobs (i:Int)).f0
def tailN (jobs:List J) (f:BF):Nat→Nat→Int
 | 0,_=>0
 | d + 1,i=>tmF jobs i + bestB f (tailN jobs f d) i (List.range jobs.length) 0
/-- The tail of a job. -/
def TL (jobs:List J) (f:BF) (i:Nat):Int:=tailN jobs f jobs.length i
theorem tailN_stable (jobs:List J) {f:BF} (h:PreF jobs.length f):∀ (d i:Nat),i<jobs.length→cntF jobs.length f i<d→tailN jobs f d i=tailN jobs f (d + 1) i
 | 0,_,_,h2=>absurd h2 (by omega)
 | d + 1,i,hi,h2=>by
  rw [tailN,tailN]
  congr 1
  exact bestB_congr f _ _ i _ _ fun k hk hf=>tailN_stable jobs h d k (List.mem_range.1 hk) (by have:=cnt_lt h hi (List.mem_range.1 hk) hf;omega)
theorem tailN_up (jobs:List J) {f:BF} (h:PreF jobs.length f) (i:Nat) (hi:i<jobs.length):∀ (e d:Nat),cntF jobs.length f i<d→tailN jobs f d i=tailN jobs f (d + e) i
 | 0,d,_=>rfl
 | e + 1,d,hd=>by rw [←Nat.add_assoc,←tailN_stable jobs h (d + e) i hi (by omega)];exact tailN_up jobs h i hi e d hd
theorem TL_eq (jobs:List J) {f:BF} (h:PreF jobs.length f) (i:Nat) (hi:i<jobs.length):TL jobs f i=tmF jobs i + bestB f (TL jobs f) i (List.range jobs.length) 0:=by
 have h1:TL jobs f i=tailN jobs f (jobs.length + 1) i:=tailN_stable jobs h jobs.length i hi (cnt_le h hi)
 rw [h1,tailN]
 rfl
theorem TL_in (jobs:List J) (hj:JobsOk jobs) (f:BF):∀ (d i:Nat),i<jobs.length→0≤tailN jobs f d i∧tailN jobs f d i≤50 * (d:Int)
 | 0,_,_=>⟨Int.le_refl _,by simp [tailN]⟩
 | d + 1,i,hi=>by
  have ht:1≤tmF jobs i∧tmF jobs i≤50:=by unfold tmF;rw [rdJ hi];exact (hj.2 _ (List.getElem_mem hi)).1
  rw [tailN]
  have h1:=(bestB_ge f (tailN jobs f d) i (List.range jobs.length) 0).1
  have h2:bestB f (tailN jobs f d) i (List.range jobs.length) 0≤50 * (d:Int):=by
   rcases bestB_at f (tailN jobs f d) i (List.range jobs.length) 0 with e | ⟨k,hk,_,e⟩
   ·rw [e];omega
   ·rw [e];exact (TL_in jobs hj f d k (List.mem_range.1 hk)).2
  omega
theorem TL_pos (jobs:List J) (hj:JobsOk jobs) {f:BF} (h:PreF jobs.length f) (i:Nat) (hi:i<jobs.length):(1≤tmF jobs i∧tmF jobs i≤50)∧tmF jobs i≤TL jobs f i∧TL jobs f i≤400:=by
 have ht:1≤tmF jobs i∧tmF jobs i≤50:=by unfold tmF;rw [rdJ hi];exact (hj.2 _ (List.getElem_mem hi)).1
 have h8:=hj.1
 have h2:=(TL_in jobs hj f jobs.length i hi).2
 have h3:=(bestB_ge f (TL jobs f) i (List.range jobs.length) 0).1
 rw [TL_eq jobs h i hi]
 refine ⟨ht,by omega,?_⟩
 rw [←TL_eq jobs h i hi]
 unfold TL
 omega
def tailsL (jobs:List J) (f:BF):List Int:=(List.range jobs.length).map (TL jobs f)
theorem tailsL_len (jobs:List J) (f:BF):(tailsL jobs f).length=jobs.length:=by simp [tailsL]
theorem tailsL_rd (jobs:List J) (f:BF) {i:Nat} (h:i<jobs.length):rd (tailsL jobs f) (i:Int)=TL jobs f i:=by rw [rd_nat (by rw [tailsL_len];exact h)];simp [tailsL]

theorem spec_l7Tail.ev (jobs:List J) (hj:JobsOk jobs) {f:BF} (h:PreF jobs.length f):∀ (c i:Nat),i<jobs.length→cntF jobs.length f i<c→Ev (fun k=>spec_l7Tail.f k jobs (tbl jobs.length f) (i:Int)) (TL jobs f i)
 | 0,_,_,hc=>absurd hc (by omega)
 | c + 1,i,hi,hc=>by
  have h8:=hj.1
  have row:=rev_ind (P:=fun q=>∀ s,Ev (fun k=>spec_l7Tail.l0 k jobs (tbl jobs.length f) (i:Int) s (q:Int)) (wrap64 (tmF jobs i + bestB f (TL jobs f) i ((List.range jobs.length).drop q) s))) jobs.length ?_ ?_ 0 (Nat.zero_le _) 0
  ·rw [TL_eq jobs h i hi]
   have hb:=TL_pos jobs hj h i hi
   rw [TL_eq jobs h i hi] at hb
   rw [List.drop_zero,wr (by omega) (by omega)] at row
   exact ev_go _ (fun k=>rfl) row
  ·intro s
   rw [List.drop_of_length_le (by simp),bestB]
   refine ev_stop fun k=>?_
   simp only [spec_l7Tail.l0];rw [if_neg (by omega),if_pos (by omega),if_pos (by omega)];rfl
  ·intro q hq ih s
   rw [range_drop hq,bestB]
   by_cases cc:f i q=true
   ·rw [if_pos cc]
    refine ev_go (fun k=>(spec_l7Tail.f k jobs (tbl jobs.length f) (q:Int)).bind fun t=>spec_l7Tail.l0 k jobs (tbl jobs.length f) (i:Int) (mx s t) ((q + 1:Nat):Int)) (fun k=>?_) (ev_bind _ (spec_l7Tail.ev jobs hj h c q hq (by have:=cnt_lt h hi hq cc;omega)) (ih _))
    simp only [spec_l7Tail.l0];rw [if_pos (by omega),if_pos (by omega),if_pos (by rw [tbl_length];omega),if_pos (by omega),if_pos (by rw [tbl_rowlen hi];omega),tbl_at hi hq,if_pos cc,wr1 (by omega)]
    congr 1
    funext t
    rw [spec_l1Most.eqk,Option.bind_some]
   ·rw [if_neg cc]
    refine ev_go _ (fun k=>?_) (ih _)
    simp only [spec_l7Tail.l0];rw [if_pos (by omega),if_pos (by omega),if_pos (by rw [tbl_length];omega),if_pos (by omega),if_pos (by rw [tbl_rowlen hi];omega),tbl_at hi hq,if_neg cc,wr1 (by omega)]
theorem spec_l7Tails.ev (jobs:List J) (E:List A2) (hj:JobsOk jobs) (h:PrecOk (jobs.length:Int) E):Ev (fun k=>spec_l7Tails.f k jobs E) (tailsL jobs (cloF jobs.length E)):=by
 have h8:=hj.1
 have h28:=h.1.2.1
 have hp:PreF jobs.length (cloF jobs.length E):=preF_of (by have:=h.2;rwa [Int.toNat_natCast] at this)
 unfold spec_l7Tails.f
 refine ev_bind _ (spec_l4Table.ev jobs.length E (by omega) (by omega) (PairsOk.edg h.1.2.2)) ?_
 generalize cloF jobs.length E=f at hp
 have key:=rev_ind (P:=fun i=>Ev (fun k=>spec_l7Tails.l0 k jobs ((tailsL jobs f).take i) (tbl jobs.length f) (i:Int)) (tailsL jobs f)) jobs.length ?_ ?_ 0 (Nat.zero_le _)
 ·simpa using key
 ·refine ev_stop fun k=>?_
  simp only [spec_l7Tails.l0];rw [if_neg (by omega),List.take_of_length_le (by rw [tailsL_len];omega)]
 ·intro i hi ih
  have ht:(tailsL jobs f).take i++[TL jobs f i]=(tailsL jobs f).take (i + 1):=by
   rw [List.take_succ_eq_append_getElem (by rw [tailsL_len];exact hi)]
   simp [tailsL]
  rw [←ht] at ih
  refine ev_go (fun k=>(spec_l7Tail.f k jobs (tbl jobs.length f) (i:Int)).bind fun t=>spec_l7Tails.l0 k jobs ((tailsL jobs f).take i++[t]) (tbl jobs.length f) ((i + 1:Nat):Int)) (fun k=>?_) (ev_bind _ (spec_l7Tail.ev jobs hj hp _ i hi (Nat.lt_succ_self _)) ih)
  simp only [spec_l7Tails.l0];rw [if_pos (by omega),wr1 (by omega)]
  congr 1
  funext t
  rw [if_pos (by rw [List.length_take,tailsL_len];omega)]

/-- No number is above its tail. -/
def UpTo (jobs:List J) (f:BF) (o:List Int):Prop:=o.length=jobs.length∧∀ i,i<jobs.length→0≤rd o (i:Int)∧rd o (i:Int)≤TL jobs f i
def DoneTo (jobs:List J) (f:BF) (r:Nat) (o:List Int):Prop:=∀ i,i<jobs.length→cntF jobs.length f i<r→rd o (i:Int)=TL jobs f i
theorem rd_set {l:List Int} {i j:Nat} (hi:i<l.length) (hj:j<l.length) (v:Int):rd (l.set i v) (j:Int)=if i=j then v else rd l (j:Int):=by
 rw [rd_nat (by rw [List.length_set];exact hj),List.getElem_set,rd_nat hj]
theorem impl_tailsOf.ev (jobs:List J) (E:List A2) (hj:JobsOk jobs) (h:PrecOk (jobs.length:Int) E):Ev (fun k=>impl_tailsOf.f k jobs E) (tailsL jobs (cloF jobs.length E)):=by
 have h8:=hj.1
 have h28:=h.1.2.1
 have hp:PreF jobs.length (cloF jobs.length E):=preF_of (by have:=h.2;rwa [Int.toNat_natCast] at this)
 unfold impl_tailsOf.f
 refine ev_bind _ (impl_closure.ev jobs.length E (by omega) (by omega) (PairsOk.edg h.1.2.2)) ?_
 generalize cloF jobs.length E=f at hp
 rw [show (fun k=>if 0≤(jobs.length:Int) then (if ((jobs.length:Int):Int).toNat≤35184372088832 then (impl_tailsOf.l0 k jobs (tbl jobs.length f) (List.replicate ((jobs.length:Int):Int).toNat 0) (jobs.length:Int) 0) else none) else none)=fun k=>impl_tailsOf.l0 k jobs (tbl jobs.length f) (List.replicate jobs.length 0) (jobs.length:Int) 0 from funext fun k=>by rw [if_pos (by omega),if_pos (by omega),Int.toNat_natCast]]
 have tb:=fun i hi=>TL_pos jobs hj hp i hi
  -- one job's row
 have l2:∀ (r i:Nat) (R:List Int),i<jobs.length→(∀ o,UpTo jobs f o→DoneTo jobs f r o→(∀ a,a≤i→cntF jobs.length f a<r + 1→rd o (a:Int)=TL jobs f a)→Ev (fun k=>impl_tailsOf.l1 k jobs (tbl jobs.length f) o (jobs.length:Int) (r:Int) jobs (jobs.length:Int) ((i + 1:Nat):Int)) R)→∀ q,q≤jobs.length→∀ o,UpTo jobs f o→DoneTo jobs f r o→(∀ a,a<i→cntF jobs.length f a<r + 1→rd o (a:Int)=TL jobs f a)→tmF jobs i≤rd o (i:Int)→(∀ b,b<q→f i b=true→tmF jobs i + rd o (b:Int)≤rd o (i:Int))→Ev (fun k=>impl_tailsOf.l2 k jobs (tbl jobs.length f) o (i:Int) (jobs.length:Int) (r:Int) jobs (jobs.length:Int) (i:Int) (jobs.length:Int) (q:Int) (rd_T47 jobs (i:Int)).f0 (rd_T47 jobs (i:Int)).f1 (rd_T47 jobs (i:Int)).f2 (rd_T47 jobs (i:Int)).f3) R:=by
  intro r i R hi hnext
  refine rev_ind (P:=fun q=>∀ o,UpTo jobs f o→DoneTo jobs f r o→(∀ a,a<i→cntF jobs.length f a<r + 1→rd o (a:Int)=TL jobs f a)→tmF jobs i≤rd o (i:Int)→(∀ b,b<q→f i b=true→tmF jobs i + rd o (b:Int)≤rd o (i:Int))→Ev (fun k=>impl_tailsOf.l2 k jobs (tbl jobs.length f) o (i:Int) (jobs.length:Int) (r:Int) jobs (jobs.length:Int) (i:Int) (jobs.length:Int) (q:Int) (rd_T47 jobs (i:Int)).f0 (rd_T47 jobs (i:Int)).f1 (rd_T47 jobs (i:Int)).f2 (rd_T47 jobs (i:Int)).f3) R) jobs.length ?_ ?_
  ·intro o hu hd ha ht hb
   refine ev_go _ (fun k=>?_) (hnext o hu hd (fun a hai hc=>?_))
   ·simp only [impl_tailsOf.l2];rw [if_neg (by omega),wr1 (by omega)]
   ·by_cases e:a=i
    ·subst e
     have hle:=(hu.2 a hi).2
     rw [TL_eq jobs hp a hi] at hle ⊢
     rcases bestB_at f (TL jobs f) a (List.range jobs.length) 0 with e | ⟨b,hbm,hf,e⟩
     ·rw [e] at hle ⊢;omega
     ·have hbn:=List.mem_range.1 hbm
      have:=hb b hbn hf
      rw [hd b hbn (by have:=cnt_lt hp hi hbn hf;omega)] at this
      rw [e] at hle ⊢;omega
    ·exact ha a (by omega) hc
  ·intro q hq ih o hu hd ha ht hb
   have ho:=hu.1
   by_cases cc:f i q=true
   ·have hqi:q≠i:=fun e=>by rw [e,hp.irr i hi] at cc;cases cc
    have hTq:=(tb q hq).2.2
    have hqo:=hu.2 q hq
    have hio:=hu.2 i hi
    have hTi:=(tb i hi)
    have hle:tmF jobs i + TL jobs f q≤TL jobs f i:=by
     rw [TL_eq jobs hp i hi]
     have:=(bestB_ge f (TL jobs f) i (List.range jobs.length) 0).2 q (List.mem_range.2 hq) cc
     omega
    have hw:wrap64 ((rd_T47 jobs (i:Int)).f0 + rd o (q:Int))=tmF jobs i + rd o (q:Int):=by
     change wrap64 (tmF jobs i + rd o (q:Int))=_
     exact wr (by omega) (by omega)
    have hmx:=mx_ge2 (rd o (i:Int)) (tmF jobs i + rd o (q:Int))
    have rs:∀ a,a<jobs.length→rd (o.set i (mx (rd o (i:Int)) (tmF jobs i + rd o (q:Int)))) (a:Int)=if i=a then mx (rd o (i:Int)) (tmF jobs i + rd o (q:Int)) else rd o (a:Int):=fun a ha=>rd_set (by omega) (by omega) _
    refine ev_go _ (fun k=>?_) (ih (o.set i (mx (rd o (i:Int)) (tmF jobs i + rd o (q:Int)))) ⟨by rw [List.length_set];exact ho,fun a han=>?_⟩ (fun a han hc=>?_) (fun a hai hc=>?_) ?_ (fun b hbq hf=>?_))
    ·simp only [impl_tailsOf.l2]
     rw [if_pos (by omega),if_pos (by omega),if_pos (by rw [tbl_length];omega),if_pos (by omega),if_pos (by rw [tbl_rowlen hi];omega),tbl_at hi hq,if_pos cc,if_pos (by omega),if_pos (by omega),hw,wr1 (by omega),Int.toNat_natCast]
    ·rw [rs a han]
     split
     ·rename_i e;subst e;omega
     ·exact hu.2 a han
    ·rw [rs a han]
     split
     ·rename_i e
      subst e
      have:=hd i hi hc
      omega
     ·exact hd a han hc
    ·rw [rs a (by omega),if_neg (by omega)];exact ha a hai hc
    ·rw [rs i hi,if_pos rfl];omega
    ·rw [rs i hi,if_pos rfl]
     have hbn:b<jobs.length:=by omega
     have hbi:i≠b:=fun e=>by rw [←e,hp.irr i hi] at hf;cases hf
     rw [rs b hbn,if_neg hbi]
     by_cases e:b=q
     ·rw [e];exact hmx.2.1
     ·have:=hb b (by omega) hf;omega
   ·refine ev_go _ (fun k=>?_) (ih o hu hd ha ht (fun b hbq hf=>hb b ?_ hf))
    ·simp only [impl_tailsOf.l2]
     rw [if_pos (by omega),if_pos (by omega),if_pos (by rw [tbl_length];omega),if_pos (by omega),if_pos (by rw [tbl_rowlen hi];omega),tbl_at hi hq,if_neg cc,wr1 (by omega)]
    ·by_cases e:b=q
     ·rw [e] at hf;exact absurd hf cc
     ·omega
  -- one round
 have l1:∀ (r:Nat) (R:List Int),r<100→(∀ o,UpTo jobs f o→DoneTo jobs f (r + 1) o→Ev (fun k=>impl_tailsOf.l0 k jobs (tbl jobs.length f) o (jobs.length:Int) ((r + 1:Nat):Int)) R)→∀ i,i≤jobs.length→∀ o,UpTo jobs f o→DoneTo jobs f r o→(∀ a,a<i→cntF jobs.length f a<r + 1→rd o (a:Int)=TL jobs f a)→Ev (fun k=>impl_tailsOf.l1 k jobs (tbl jobs.length f) o (jobs.length:Int) (r:Int) jobs (jobs.length:Int) (i:Int)) R:=by
  intro r R hr hnext
  refine rev_ind (P:=fun i=>∀ o,UpTo jobs f o→DoneTo jobs f r o→(∀ a,a<i→cntF jobs.length f a<r + 1→rd o (a:Int)=TL jobs f a)→Ev (fun k=>impl_tailsOf.l1 k jobs (tbl jobs.length f) o (jobs.length:Int) (r:Int) jobs (jobs.length:Int) (i:Int)) R) jobs.length ?_ ?_
  ·intro o hu hd ha
   refine ev_go _ (fun k=>?_) (hnext o hu (fun a han hc=>ha a han hc))
   simp only [impl_tailsOf.l1];rw [if_neg (by omega),wr1 (by omega)]
  ·intro i hi ih o hu hd ha
   have ho:=hu.1
   have hio:=hu.2 i hi
   have hTi:=tb i hi
   have hmx:=mx_ge2 (rd o (i:Int)) (tmF jobs i)
   have rs:∀ a,a<jobs.length→rd (o.set i (mx (rd o (i:Int)) (tmF jobs i))) (a:Int)=if i=a then mx (rd o (i:Int)) (tmF jobs i) else rd o (a:Int):=fun a ha=>rd_set (by omega) (by omega) _
   refine ev_go _ (fun k=>?_) (l2 r i R hi (fun o2 hu2 hd2 ha2=>ih o2 hu2 hd2 (fun a hai hc=>ha2 a (by omega) hc)) 0 (Nat.zero_le _) (o.set i (mx (rd o (i:Int)) (tmF jobs i))) ⟨by rw [List.length_set];exact ho,fun a han=>?_⟩ (fun a han hc=>?_) (fun a hai hc=>?_) ?_ (fun b hb=>absurd hb (by omega)))
   ·simp only [impl_tailsOf.l1]
    rw [if_pos (by omega),if_pos (by omega),if_pos (by omega),if_pos (by omega),Int.toNat_natCast]
    rfl
   ·rw [rs a han]
    split
    ·rename_i e;subst e;omega
    ·exact hu.2 a han
   ·rw [rs a han]
    split
    ·rename_i e
     subst e
     have:=hd i hi hc
     omega
    ·exact hd a han hc
   ·rw [rs a (by omega),if_neg (by omega)];exact ha a hai hc
   ·rw [rs i hi,if_pos rfl];omega
 have l0:=rev_ind (P:=fun r=>∀ o,UpTo jobs f o→DoneTo jobs f r o→Ev (fun k=>impl_tailsOf.l0 k jobs (tbl jobs.length f) o (jobs.length:Int) (r:Int)) (tailsL jobs f)) jobs.length ?_ ?_ 0 (Nat.zero_le _) (List.replicate jobs.length 0) ⟨by simp,fun i hi=>?_⟩ (fun i hi hc=>absurd hc (by omega))
 ·exact l0
 ·intro o hu hd
  have e:o=tailsL jobs f:=by
   apply List.ext_getElem
   ·rw [hu.1,tailsL_len]
   ·intro i h1 h2
    have hi:i<jobs.length:=by rw [hu.1] at h1;exact h1
    have:=hd i hi (cnt_le hp hi)
    rw [rd_nat h1] at this
    rw [this]
    simp [tailsL]
  rw [←e]
  refine ev_stop fun k=>?_
  simp only [impl_tailsOf.l0];rw [if_neg (by omega)]
 ·intro r hr ih o hu hd
  refine ev_go _ (fun k=>?_) (l1 r (tailsL jobs f) (by omega) ih 0 (Nat.zero_le _) o hu hd (fun a ha=>absurd ha (by omega)))
  simp only [impl_tailsOf.l0];rw [if_pos (by omega)];rfl
 ·have hTi:=tb i hi
  rw [rd_nat (by simpa using hi)]
  simp
  omega

def ParOk (jobs:List J) (m:Int) (E:List A2):Prop:=PlainOk jobs∧(1≤m∧m≤4)∧PrecOk (jobs.length:Int) E
theorem ParOk.pre {jobs:List J} {m:Int} {E:List A2} (h:ParOk jobs m E):PreF jobs.length (cloF jobs.length E):=preF_of (by have:=h.2.2.2;rwa [Int.toNat_natCast] at this)

theorem spec_l7Good.ev (jobs:List J) (m:Int) (E:List A2) (hj:jobs.length≤1048576) (hE:E.length≤1000000000):EvB (fun k=>spec_l7Good.f k jobs m E) (ParOk jobs m E):=by
 unfold spec_l7Good.f
 have e1:=spec_l2Good.ev jobs (by omega)
 have e2:=spec_l3Plain.ev jobs (by omega)
 have e3:=spec_l4Good.ev (jobs.length:Int) E (by simp [Lit.wf,IntKind.min,IntKind.max,IntKind.signed,IntKind.bits];omega) hE
 simp only [spec_l1In.eq,Option.bind_some]
 refine evB_of (fun h=>?_) (fun h=>?_)
 ·refine ev_guard' e1 (fun _=>ev_guard' e2 (fun _=>?_) (fun hn=>absurd h.1.2 hn)) (fun hn=>absurd h.1.1 hn)
  simp only [decide_eq_true_eq,if_pos h.2.1]
  exact ev_bind _ (evB_true e3 h.2.2) (Ev.now _)
 ·refine ev_guard' e1 (fun h1=>ev_guard' e2 (fun h2=>?_) (fun _=>Ev.now _)) (fun _=>Ev.now _)
  by_cases h3:1≤m∧m≤4
  ·simp only [decide_eq_true_eq,if_pos h3]
   exact ev_bind _ (evB_false e3 (fun h4=>h ⟨⟨h1,h2⟩,h3,h4⟩)) (Ev.now _)
  ·simp only [decide_eq_true_eq,if_neg h3]
   exact Ev.now _

theorem impl_isParallel.ev (jobs:List J) (m:Int) (E:List A2) (hj:jobs.length≤1048576) (hE:E.length≤1000000000):EvB (fun k=>impl_isParallel.f k jobs m E) (ParOk jobs m E):=by
 unfold impl_isParallel.f
 have e1:=impl_IsPlain.ev jobs (by omega)
 have e3:=impl_IsPrecedence.ev (jobs.length:Int) E hE
 simp only [impl_within.eq,Option.bind_some]
 refine evB_of (fun h=>?_) (fun h=>?_)
 ·refine ev_guard' e1 (fun _=>?_) (fun hn=>absurd h.1 hn)
  simp only [decide_eq_true_eq,if_pos h.2.1]
  exact ev_bind _ (evB_true e3 h.2.2) (Ev.now _)
 ·refine ev_guard' e1 (fun h1=>?_) (fun _=>Ev.now _)
  by_cases h3:1≤m∧m≤4
  ·simp only [decide_eq_true_eq,if_pos h3]
   exact ev_bind _ (evB_false e3 (fun h4=>h ⟨h1,h3,h4⟩)) (Ev.now _)
  ·simp only [decide_eq_true_eq,if_neg h3]
   exact Ev.now _

theorem mxW_at:∀ (l:List Int) (s:Int),mxW l s=s∨mxW l s ∈ l
 | [],_=>.inl rfl
 | x::l,s=>by
  rw [mxW]
  rcases mxW_at l (mx s x) with h|h
  ·rcases (mx_ge2 s x).2.2 with e|e
   ·exact .inl (h.trans e)
   ·exact .inr (by rw [h,e];exact List.mem_cons_self)
  ·exact .inr (List.mem_cons_of_mem _ h)
/-- A job that may come next in a chain. -/
def NextOk (jobs:List J) (f:BF) (out:List Int) (want:Int) (i:Nat):Prop:=TL jobs f i=want∧(out=[]∨f (rd out ((out.length - 1:Nat):Int)).toNat i=true)
/-- The first that may: both walks find it. -/
theorem chain_find (jobs:List J) (hj:JobsOk jobs) {f:BF} (hp:PreF jobs.length f) (out:List Int) (want:Int) (hout:out.length≤1000) (hin:∀ x ∈ out,0≤x∧x<(jobs.length:Int)) (i0:Nat) (hi0:i0<jobs.length) (hok:NextOk jobs f out want i0):∃ i,i<jobs.length∧NextOk jobs f out want i∧∀ R,(Ev (fun k=>spec_LongestChain.l0 k jobs (out++[(i:Int)]) (tailsL jobs f) (tbl jobs.length f) (want - tmF jobs i)) R→Ev (fun k=>spec_LongestChain.l1 k jobs out (tailsL jobs f) (tbl jobs.length f) want 0) R)∧(Ev (fun k=>impl_LongestChain.l0 k jobs (tbl jobs.length f) (tailsL jobs f) (out++[(i:Int)]) (want - tmF jobs i)) R→Ev (fun k=>impl_LongestChain.l1 k jobs (tbl jobs.length f) (tailsL jobs f) out want (jobs.length:Int) 0) R):=by
 have h8:=hj.1
 have hlast:out≠[]→∃ p:Nat,p<jobs.length∧rd out ((out.length - 1:Nat):Int)=(p:Int)∧wrap64 ((out.length:Int) - 1)=((out.length - 1:Nat):Int):=fun hne=>by
  have hl:=List.length_pos_iff.2 hne
  have hx:=hin _ (List.getElem_mem (show out.length - 1<out.length by omega))
  rw [←rd_nat (by omega:out.length - 1<out.length)] at hx
  exact ⟨(rd out ((out.length - 1:Nat):Int)).toNat,by omega,by omega,by rw [wr (by omega) (by omega)];omega⟩
 have key:=rev_ind (P:=fun q=>q≤i0→(∃ i,i<jobs.length∧NextOk jobs f out want i∧∀ R,(Ev (fun k=>spec_LongestChain.l0 k jobs (out++[(i:Int)]) (tailsL jobs f) (tbl jobs.length f) (want - tmF jobs i)) R→Ev (fun k=>spec_LongestChain.l1 k jobs out (tailsL jobs f) (tbl jobs.length f) want (q:Int)) R)∧(Ev (fun k=>impl_LongestChain.l0 k jobs (tbl jobs.length f) (tailsL jobs f) (out++[(i:Int)]) (want - tmF jobs i)) R→Ev (fun k=>impl_LongestChain.l1 k jobs (tbl jobs.length f) (tailsL jobs f) out want (jobs.length:Int) (q:Int)) R))) jobs.length ?_ ?_ 0 (Nat.zero_le _) (Nat.zero_le _)
 ·exact key
 ·intro h;omega
 ·intro q hq ih hqi
  have ht:=TL_pos jobs hj hp q hq
  by_cases hn:NextOk jobs f out want q
  ·refine ⟨q,hq,hn,fun R=>?_⟩
   have hw:wrap64 (want - (rd_T47 jobs (q:Int)).f0)=want - tmF jobs q:=by
    change wrap64 (want - tmF jobs q)=_
    exact wr (by rw [←hn.1];omega) (by rw [←hn.1];omega)
   rcases hn.2 with he|hf
   ·subst he
    refine ⟨fun h=>ev_go _ (fun k=>?_) h,fun h=>ev_go _ (fun k=>?_) h⟩
    ·simp only [spec_LongestChain.l1]
     rw [if_pos (by omega),if_pos (by rw [tailsL_len];omega),tailsL_rd _ _ hq,if_pos hn.1,if_neg (by simp),if_pos (by simp),if_pos (by omega),hw]
    ·simp only [impl_LongestChain.l1]
     rw [if_pos (by omega),if_pos (by omega),if_pos (by rw [tailsL_len];omega),tailsL_rd _ _ hq,if_pos hn.1,if_pos (by simp),if_pos (by simp),if_pos (by omega),hw]
   ·by_cases he:out=[]
    ·subst he
     refine ⟨fun h=>ev_go _ (fun k=>?_) h,fun h=>ev_go _ (fun k=>?_) h⟩
     ·simp only [spec_LongestChain.l1]
      rw [if_pos (by omega),if_pos (by rw [tailsL_len];omega),tailsL_rd _ _ hq,if_pos hn.1,if_neg (by simp),if_pos (by simp),if_pos (by omega),hw]
     ·simp only [impl_LongestChain.l1]
      rw [if_pos (by omega),if_pos (by omega),if_pos (by rw [tailsL_len];omega),tailsL_rd _ _ hq,if_pos hn.1,if_pos (by simp),if_pos (by simp),if_pos (by omega),hw]
    ·obtain ⟨p,hpn,hpe,hwl⟩:=hlast he
     have hl:=List.length_pos_iff.2 he
     rw [hpe,Int.toNat_natCast] at hf
     refine ⟨fun h=>ev_go _ (fun k=>?_) h,fun h=>ev_go _ (fun k=>?_) h⟩
     ·simp only [spec_LongestChain.l1]
      rw [if_pos (by omega),if_pos (by rw [tailsL_len];omega),tailsL_rd _ _ hq,if_pos hn.1,if_pos (by omega),hwl,if_pos (by omega),if_pos (by omega),hpe,if_pos (by omega),if_pos (by rw [tbl_length];omega),if_pos (by rw [tbl_rowlen hpn];omega),tbl_at hpn hq,if_pos hf,if_pos (by omega),if_pos (by omega),hw]
     ·simp only [impl_LongestChain.l1]
      rw [if_pos (by omega),if_pos (by omega),if_pos (by rw [tailsL_len];omega),tailsL_rd _ _ hq,if_pos hn.1,if_neg (by omega),hwl,if_pos (by omega),if_pos (by omega),hpe,if_pos (by omega),if_pos (by rw [tbl_length];omega),if_pos (by rw [tbl_rowlen hpn];omega),tbl_at hpn hq,if_pos hf,if_pos (by omega),if_pos (by omega),hw]
  ·have hne:q≠i0:=fun e=>hn (by rw [e];exact hok)
   obtain ⟨i,hi,hni,hR⟩:=ih (by omega)
   refine ⟨i,hi,hni,fun R=>⟨fun h=>ev_go _ (fun k=>?_) ((hR R).1 h),fun h=>ev_go _ (fun k=>?_) ((hR R).2 h)⟩⟩
   ·simp only [spec_LongestChain.l1]
    rw [if_pos (by omega),if_pos (by rw [tailsL_len];omega),tailsL_rd _ _ hq,wr1 (by omega)]
    by_cases h1:TL jobs f q=want
    ·have he:out≠[]:=fun e=>hn ⟨h1,.inl e⟩
     obtain ⟨p,hpn,hpe,hwl⟩:=hlast he
     have hl:=List.length_pos_iff.2 he
     have hf:¬ (f p q=true):=fun hf=>hn ⟨h1,.inr (by rw [hpe,Int.toNat_natCast];exact hf)⟩
     rw [if_pos h1,if_pos (by omega),hwl,if_pos (by omega),if_pos (by omega),hpe,if_pos (by omega),if_pos (by rw [tbl_length];omega),if_pos (by rw [tbl_rowlen hpn];omega),tbl_at hpn hq,if_neg hf]
    ·rw [if_neg h1]
   ·simp only [impl_LongestChain.l1]
    rw [if_pos (by omega),if_pos (by omega),if_pos (by rw [tailsL_len];omega),tailsL_rd _ _ hq,wr1 (by omega)]
    by_cases h1:TL jobs f q=want
    ·have he:out≠[]:=fun e=>hn ⟨h1,.inl e⟩
     obtain ⟨p,hpn,hpe,hwl⟩:=hlast he
     have hl:=List.length_pos_iff.2 he
     have hf:¬ (f p q=true):=fun hf=>hn ⟨h1,.inr (by rw [hpe,Int.toNat_natCast];exact hf)⟩
     rw [if_pos h1,if_neg (by omega),hwl,if_pos (by omega),if_pos (by omega),hpe,if_pos (by omega),if_pos (by rw [tbl_length];omega),if_pos (by rw [tbl_rowlen hpn];omega),tbl_at hpn hq,if_neg hf]
    ·rw [if_neg h1]
/-- What a chain is: each job is behind the one before it, and what is behind it is its tail but its time. -/
def ChainP (jobs:List J) (f:BF):List Int→Int→Prop
 | [],_=>True
 | x::xs,want=>(0≤x∧x<(jobs.length:Int))∧TL jobs f x.toNat=want∧(match xs with | []=>want - tmF jobs x.toNat=0|y::_=>f x.toNat y.toNat=true)∧ChainP jobs f xs (want - tmF jobs x.toNat)
theorem best_next (jobs:List J) {f:BF} (hp:PreF jobs.length f) {i:Nat} (hi:i<jobs.length) (h0:0<TL jobs f i - tmF jobs i):∃ j,j<jobs.length∧f i j=true∧TL jobs f j=TL jobs f i - tmF jobs i:=by
 rw [TL_eq jobs hp i hi] at h0 ⊢
 rcases bestB_at f (TL jobs f) i (List.range jobs.length) 0 with e | ⟨j,hj,hf,e⟩
 ·rw [e] at h0;omega
 ·exact ⟨j,List.mem_range.1 hj,hf,by rw [e];omega⟩
theorem ChainP_len (jobs:List J) (hj:JobsOk jobs) {f:BF} (hp:PreF jobs.length f):∀ (r:List Int) (want:Int),ChainP jobs f r want→(r.length:Int)≤want∨r=[]
 | [],_,_=>.inr rfl
 | x::xs,want,h=>by
  obtain ⟨hx,ht,_,hr⟩:=h
  have hT:=TL_pos jobs hj hp x.toNat (by omega)
  rcases ChainP_len jobs hj hp xs _ hr with e|e
  ·refine .inl ?_
   simp only [List.length_cons]
   omega
  ·subst e
   refine .inl ?_
   simp only [List.length_cons,List.length_nil]
   omega
/-- The rest of a chain: both walks find the same. -/
theorem chain_go (jobs:List J) (hj:JobsOk jobs) {f:BF} (hp:PreF jobs.length f):∀ (c:Nat) (out:List Int) (want:Int),want.toNat<c→0≤want→out.length + want.toNat≤500→(∀ x ∈ out,0≤x∧x<(jobs.length:Int))→(0<want→∃ i,i<jobs.length∧NextOk jobs f out want i)→∃ r:List Int,r.length≤500∧ChainP jobs f r want∧(out≠[]→∀ y ∈ r.head?,f (rd out ((out.length - 1:Nat):Int)).toNat y.toNat=true)∧(r=[] ↔ want=0)∧Ev (fun k=>spec_LongestChain.l0 k jobs out (tailsL jobs f) (tbl jobs.length f) want) (out++r,true)∧Ev (fun k=>impl_LongestChain.l0 k jobs (tbl jobs.length f) (tailsL jobs f) out want) (out++r,true)
 | 0,_,_,hc,_,_,_,_=>absurd hc (by omega)
 | c + 1,out,want,hc,h0,hl,hin,hn=>by
  by_cases hw:0<want
  ·obtain ⟨i0,hi0,hok⟩:=hn hw
   obtain ⟨i,hi,hni,hR⟩:=chain_find jobs hj hp out want (by omega) hin i0 hi0 hok
   have ht:=TL_pos jobs hj hp i hi
   have hge:0≤want - tmF jobs i:=by rw [←hni.1];omega
   have hlen:(out++[(i:Int)]).length=out.length + 1:=by simp
   have hlast:rd (out++[(i:Int)]) (((out++[(i:Int)]).length - 1:Nat):Int)=(i:Int):=by
    rw [rd_nat (by rw [hlen];omega)]
    simp
   have hA:(want - tmF jobs i).toNat<c:=by clear hR hn hok;omega
   have hB:(out++[(i:Int)]).length + (want - tmF jobs i).toNat≤500:=by rw [hlen];clear hR hn hok;omega
   obtain ⟨r,hr1,hr2,hr3,hr5,hr4⟩:=chain_go jobs hj hp c (out++[(i:Int)]) (want - tmF jobs i) hA hge hB (fun x hx=>by
    rcases List.mem_append.1 hx with hx|hx
    ·exact hin x hx
    ·rw [List.mem_singleton] at hx;omega) (fun h1=>by
    obtain ⟨q,hq,hf,e⟩:=best_next jobs hp hi (by rw [hni.1];exact h1)
    exact ⟨q,hq,by rw [e,hni.1],.inr (by rw [hlast,Int.toNat_natCast];exact hf)⟩)
   refine ⟨(i:Int)::r,?_,⟨by omega,by rw [Int.toNat_natCast];exact hni.1,?_,by rw [Int.toNat_natCast];exact hr2⟩,fun hne y hy=>?_,⟨fun h=>by simp at h,fun h=>by omega⟩,?_,?_⟩
   ·have:=ChainP_len jobs hj hp r _ hr2
    simp only [List.length_cons]
    rcases this with h|h
    ·omega
    ·rw [h];simp
   ·cases r with
    | nil=>exact (by rw [Int.toNat_natCast];exact hr5.1 rfl)
    | cons y r=>
     have:=hr3 (by simp) y (by simp)
     rw [hlast] at this
     exact this
   ·simp only [List.head?_cons,Option.mem_def,Option.some.injEq] at hy
    subst hy
    rw [Int.toNat_natCast]
    exact hni.2.resolve_left hne
   ·rw [show out++(i:Int)::r=out++[(i:Int)]++r by simp]
    refine ev_go _ (fun k=>?_) ((hR _).1 hr4.1)
    simp only [spec_LongestChain.l0];rw [if_pos hw]
   ·rw [show out++(i:Int)::r=out++[(i:Int)]++r by simp]
    refine ev_go _ (fun k=>?_) ((hR _).2 hr4.2)
    simp only [impl_LongestChain.l0];rw [if_pos hw]
  ·have e0:want=0:=by omega
   subst e0
   refine ⟨[],by simp,trivial,fun _ y hy=>absurd hy (by simp),⟨fun _=>rfl,fun _=>rfl⟩,?_,?_⟩
   ·rw [List.append_nil];refine ev_stop fun k=>?_
    simp only [spec_LongestChain.l0];rw [if_neg (by omega)]
   ·rw [List.append_nil];refine ev_stop fun k=>?_
    simp only [impl_LongestChain.l0];rw [if_neg (by omega)]
theorem chain_all (jobs:List J) (E:List A2) (hj:JobsOk jobs) (h:PrecOk (jobs.length:Int) E):∃ r:List Int,r.length≤500∧ChainP jobs (cloF jobs.length E) r (mxW (tailsL jobs (cloF jobs.length E)) 0)∧(r=[] ↔ mxW (tailsL jobs (cloF jobs.length E)) 0=0)∧Ev (fun k=>spec_LongestChain.l0 k jobs [] (tailsL jobs (cloF jobs.length E)) (tbl jobs.length (cloF jobs.length E)) (mxW (tailsL jobs (cloF jobs.length E)) 0)) (r,true)∧Ev (fun k=>impl_LongestChain.l0 k jobs (tbl jobs.length (cloF jobs.length E)) (tailsL jobs (cloF jobs.length E)) [] (mxW (tailsL jobs (cloF jobs.length E)) 0)) (r,true):=by
 have hp:PreF jobs.length (cloF jobs.length E):=preF_of (by have:=h.2;rwa [Int.toNat_natCast] at this)
 generalize cloF jobs.length E=f at hp
 have hm:mxW (tailsL jobs f) 0=0∨∃ i,i<jobs.length∧TL jobs f i=mxW (tailsL jobs f) 0:=by
  rcases mxW_at (tailsL jobs f) 0 with e|e
  ·exact .inl e
  ·obtain ⟨i,hi,e⟩:=List.mem_map.1 e
   exact .inr ⟨i,List.mem_range.1 hi,e⟩
 have hge:=mxW_ge (tailsL jobs f) 0
 have hle:mxW (tailsL jobs f) 0≤400:=by
  rcases hm with e | ⟨i,hi,e⟩
  ·omega
  ·have:=TL_pos jobs hj hp i hi;omega
 obtain ⟨r,h1,h2,_,h5,h3,h4⟩:=chain_go jobs hj hp ((mxW (tailsL jobs f) 0).toNat + 1) [] (mxW (tailsL jobs f) 0) (by omega) hge (by simp;omega) (by simp) (fun hw=>by
  rcases hm with e | ⟨i,hi,e⟩
  ·omega
  ·exact ⟨i,hi,e,.inl rfl⟩)
 exact ⟨r,h1,h2,h5,h3,h4⟩
theorem chainBoth (jobs:List J) (E:List A2) (hj:jobs.length≤1048576) (hE:E.length≤1048576):∃ r b,Ev (fun k=>spec_LongestChain.f k jobs E) (r,b)∧Ev (fun k=>impl_LongestChain.f k jobs E) (r,b)∧r.length≤500∧(ParOk jobs 1 E→(r=[] ↔ mxW (tailsL jobs (cloF jobs.length E)) 0=0)∧ChainP jobs (cloF jobs.length E) r (mxW (tailsL jobs (cloF jobs.length E)) 0)):=by
 unfold spec_LongestChain.f impl_LongestChain.f
 simp only [Option.bind_some]
 have es:=spec_l7Good.ev jobs 1 E hj (by omega)
 have ei:=impl_isParallel.ev jobs 1 E hj (by omega)
 have sno:Ev (fun k=>spec_LongestChain.j0 k jobs E [] true) ([],false):=ev_stop fun k=>by simp only [spec_LongestChain.j0];rw [if_pos trivial]
 have ino:Ev (fun k=>impl_LongestChain.j0 k jobs E true) ([],false):=ev_stop fun k=>by simp only [impl_LongestChain.j0];rw [if_pos trivial]
 by_cases h:ParOk jobs 1 E
 ·by_cases h0:jobs.length=0
  ·have e0:((jobs.length:Int) == 0)=true:=by rw [beq_iff_eq];omega
   rw [e0]
   exact ⟨[],false,ev_guard' es (fun _=>sno) (fun hn=>absurd h hn),ev_guard' ei (fun _=>ino) (fun hn=>absurd h hn),by simp,fun _=>⟨by rw [show tailsL jobs (cloF jobs.length E)=[] from List.eq_nil_of_length_eq_zero (by rw [tailsL_len];exact h0)];simp [mxW],trivial⟩⟩
  ·have e0:((jobs.length:Int) == 0)=false:=by rw [beq_eq_false_iff_ne];omega
   have h8:=h.1.1.1
   have h28:=h.2.2.1.2.1
   rw [e0]
   obtain ⟨r,hr,hc,hc2,h3,h4⟩:=chain_all jobs E h.1.1 h.2.2
   have t1:=spec_l7Tails.ev jobs E h.1.1 h.2.2
   have t2:=spec_l4Table.ev jobs.length E (by omega) (by omega) (PairsOk.edg h.2.2.1.2.2)
   have t3:=impl_tailsOf.ev jobs E h.1.1 h.2.2
   have t4:=impl_closure.ev jobs.length E (by omega) (by omega) (PairsOk.edg h.2.2.1.2.2)
   have t5:=spec_l2Last.ev (tailsL jobs (cloF jobs.length E)) (by rw [tailsL_len];omega)
   have t6:=impl_greatestOf.ev (tailsL jobs (cloF jobs.length E)) (by rw [tailsL_len];omega)
   have hS:Ev (fun k=>spec_LongestChain.j0 k jobs E [] false) (r,true):=by
    refine ev_succ ?_
    simp only [spec_LongestChain.j0,Bool.false_eq_true,if_false]
    exact ev_bind _ t1 (ev_bind _ t2 (ev_bind _ t5 h3))
   have hI:Ev (fun k=>impl_LongestChain.j0 k jobs E false) (r,true):=by
    refine ev_succ ?_
    simp only [impl_LongestChain.j0,Bool.false_eq_true,if_false]
    exact ev_bind _ t4 (ev_bind _ t3 (ev_bind _ t6 h4))
   exact ⟨r,true,ev_guard' es (fun _=>hS) (fun hn=>absurd h hn),ev_guard' ei (fun _=>hI) (fun hn=>absurd h hn),by omega,fun _=>⟨hc2,hc⟩⟩
 ·exact ⟨[],false,ev_guard' es (fun h1=>absurd h1 h) (fun _=>sno),ev_guard' ei (fun h1=>absurd h1 h) (fun _=>ino),by simp,fun hn=>absurd hn h⟩
theorem core_LongestChain (jobs:List J) (E:List A2) (hj:jobs.length≤1048576) (hE:E.length≤1048576):∃ r b,Ev (fun k=>spec_LongestChain.f k jobs E) (r,b)∧Ev (fun k=>impl_LongestChain.f k jobs E) (r,b)∧r.length≤1048576:=by
 obtain ⟨r,b,h1,h2,h3,_⟩:=chainBoth jobs E hj hE
 exact ⟨r,b,h1,h2,by omega⟩

/-- The bytes of a draw. -/
def ByteL (s:List Int):Prop:=∀ x ∈ s,(Lit.int .u8 x).wf=true
theorem byte_in {x:Int} (h:(Lit.int .u8 x).wf=true):0≤x∧x≤255:=by
 simp [Lit.wf,IntKind.min,IntKind.max,IntKind.signed,IntKind.bits] at h
 omega
theorem u64_range (n:Int):0≤IntKind.u64.wrap n∧IntKind.u64.wrap n<18446744073709551616:=by
 have:IntKind.u64.wrap n=n % 18446744073709551616:=by simp [IntKind.wrap,IntKind.bits,IntKind.signed]
 rw [this];omega
theorem u64_small (n:Int) (h0:0≤n) (h1:n<2 ^ 24):IntKind.u64.wrap n=n:=by
 have:IntKind.u64.wrap n=n % 18446744073709551616:=by simp [IntKind.wrap,IntKind.bits,IntKind.signed]
 rw [this];omega
theorem u64_byte (n:Int):0≤wrap64 (Go.bits .and .u64 (IntKind.u64.wrap n / 1099511627776) 255)∧wrap64 (Go.bits .and .u64 (IntKind.u64.wrap n / 1099511627776) 255)≤255:=by
 have hr:=u64_range n
 have h:=bits_mask .u64 24 (by decide) u64_small 8 (by decide) (IntKind.u64.wrap n / 1099511627776) (by omega) (by omega)
 have h2:Go.bits .and .u64 (IntKind.u64.wrap n / 1099511627776) 255=IntKind.u64.wrap n / 1099511627776 % 256:=by simpa using h
 rw [h2,wr (by omega) (by omega)]
 omega

theorem nx {s:List Int} (hs:ByteL s) (p q:Int) (hp:0≤p) (hb:p≤1000000000000000):∃ v q',spec_l1Cur_next.f s p q=some (v,p + 1,q')∧0≤v∧v≤255:=by
 unfold spec_l1Cur_next.f
 have w:wrap64 (p + 1)=p + 1:=wr (by omega) (by omega)
 rw [w]
 by_cases c1:p<(s.length:Int)
 ·rw [if_pos c1,if_pos hp,if_pos (by omega)]
  have hm:rd s p ∈ s:=by
   rw [rd,List.getD_eq_getElem?_getD,List.getElem?_eq_getElem (by omega)]
   exact List.getElem_mem _
  have hx:=byte_in (hs _ hm)
  exact ⟨_,_,rfl,by rw [wr (by omega) (by omega)];omega,by rw [wr (by omega) (by omega)];omega⟩
 ·rw [if_neg c1,if_neg (by omega)]
  exact ⟨_,_,rfl,(u64_byte _).1,(u64_byte _).2⟩

theorem pk {s:List Int} (hs:ByteL s) (p q a:Int) (hp:0≤p) (hb:p≤900000000000000):∃ v p' q',spec_l1Cur_pick.f s p q a=some (v,p',q')∧0≤v∧(1≤a→v<a)∧p≤p'∧p'≤p + 2:=by
 unfold spec_l1Cur_pick.f
 by_cases h1:a≤1
 ·rw [if_pos h1]
  exact ⟨0,p,q,rfl,by omega,by omega,by omega,by omega⟩
 ·rw [if_neg h1]
  obtain ⟨v,q1,e1,hv0,hv1⟩:=nx hs p q hp (by omega)
  rw [e1,Option.bind_some]
  by_cases h2:a>200
  ·rw [if_pos h2]
   obtain ⟨u,q2,e2,hu0,hu1⟩:=nx hs (p + 1) q1 (by omega) (by omega)
   rw [e2,Option.bind_some,if_neg (by omega)]
   have hw:wrap64 (wrap64 (v * 256) + u)=v * 256 + u:=by rw [wr (x:=v * 256) (by omega) (by omega),wr (by omega) (by omega)]
   refine ⟨_,_,_,rfl,?_,fun _=>?_,by show p≤p + 1 + 1;omega,by show p + 1 + 1≤p + 2;omega⟩
   ·rw [hw];exact Int.tmod_nonneg _ (by omega)
   ·rw [hw];exact Int.tmod_lt_of_pos _ (by omega)
  ·rw [if_neg h2,if_neg (by omega)]
   exact ⟨_,_,_,rfl,Int.tmod_nonneg _ hv0,fun _=>Int.tmod_lt_of_pos _ (by omega),by show p≤p + 1;omega,by show p + 1≤p + 2;omega⟩

theorem on {s:List Int} (hs:ByteL s) (p q a:Int) (hp:0≤p) (hb:p≤900000000000000):∃ b p' q',spec_l1Cur_one.f s p q a=some (b,p',q')∧p≤p'∧p'≤p + 2:=by
 unfold spec_l1Cur_one.f
 obtain ⟨v,p1,q1,e,_,_,h1,h2⟩:=pk hs p q a hp hb
 rw [e,Option.bind_some]
 exact ⟨_,_,_,rfl,h1,h2⟩

theorem am {s:List Int} (hs:ByteL s) (p q:Int) (l:List Int) (hl:0<l.length) (hp:0≤p) (hb:p≤900000000000000):∃ v p' q',spec_l1Cur_among.f s p q l=some (v,p',q')∧v ∈ l∧p≤p'∧p'≤p + 2:=by
 unfold spec_l1Cur_among.f
 obtain ⟨v,p1,q1,e,h0,h3,h1,h2⟩:=pk hs p q (l.length:Int) hp hb
 have h4:=h3 (by omega)
 rw [e,Option.bind_some,if_pos h0,if_pos h4]
 refine ⟨_,_,_,rfl,?_,h1,h2⟩
 show rd l v ∈ l
 rw [rd,List.getD_eq_getElem?_getD,List.getElem?_eq_getElem (by omega)]
 exact List.getElem_mem _

theorem jb {s:List Int} (hs:ByteL s) (p q:Int) (a:Bool) (hp:0≤p) (hb:p≤800000000000000):∃ x0 x1 x2 x3 p' q',spec_l1Cur_job.f s p q a=some (x0,x1,x2,x3,p',q')∧p≤p'∧p'≤p + 8:=by
 unfold spec_l1Cur_job.f
 obtain ⟨v1,p1,q1,e1,_,h1,h2⟩:=am hs p q [1,2,3,4,5,7,9] (by simp) hp (by omega)
 rw [e1,Option.bind_some]
 obtain ⟨v2,p2,q2,e2,_,h3,h4⟩:=am hs p1 q1 [0,1,1,2,3,5,8] (by simp) (by omega) (by omega)
 simp only [e2,Option.bind_some]
 obtain ⟨v3,p3,q3,e3,_,_,h5,h6⟩:=pk hs p2 q2 24 (by omega) (by omega)
 simp only [e3,Option.bind_some]
 by_cases c:a=true
 ·rw [if_pos c]
  obtain ⟨v4,p4,q4,e4,_,_,h7,h8⟩:=pk hs p3 q3 12 (by omega) (by omega)
  simp only [e4,Option.bind_some]
  exact ⟨_,_,_,_,_,_,rfl,by omega,by omega⟩
 ·rw [if_neg c]
  exact ⟨_,_,_,_,_,_,rfl,by omega,by omega⟩

theorem sj {s:List Int} (hs:ByteL s) (p q a0 a1 a2 a3:Int) (hp:0≤p) (hb:p≤800000000000000):∃ x0 x1 x2 x3 p' q',spec_l1Cur_spoiltJob.f s p q a0 a1 a2 a3=some (x0,x1,x2,x3,p',q')∧p≤p'∧p'≤p + 8:=by
 unfold spec_l1Cur_spoiltJob.f
 obtain ⟨v,p1,q1,e1,_,_,h1,h2⟩:=pk hs p q 4 hp (by omega)
 rw [e1,Option.bind_some]
 have g:=fun (l:List Int) (hl:0<l.length)=>am hs p1 q1 l hl (by omega) (by omega)
 dsimp only
 split
 ·obtain ⟨u,p2,q2,e2,_,h3,h4⟩:=g [0,50,51,(-1),4611686018427387904] (by simp)
  rw [e2,Option.bind_some]
  exact ⟨_,_,_,_,_,_,rfl,by show p≤p2;omega,by show p2≤p + 8;omega⟩
 ·split
  ·obtain ⟨u,p2,q2,e2,_,h3,h4⟩:=g [(-1),50,51] (by simp)
   rw [e2,Option.bind_some]
   exact ⟨_,_,_,_,_,_,rfl,by show p≤p2;omega,by show p2≤p + 8;omega⟩
  ·split
   ·obtain ⟨u,p2,q2,e2,_,h3,h4⟩:=g [(-1),500,501] (by simp)
    rw [e2,Option.bind_some]
    exact ⟨_,_,_,_,_,_,rfl,by show p≤p2;omega,by show p2≤p + 8;omega⟩
   ·obtain ⟨u,p2,q2,e2,_,h3,h4⟩:=g [(-1),500,501,(-9223372036854775808)] (by simp)
    rw [e2,Option.bind_some]
    exact ⟨_,_,_,_,_,_,rfl,by show p≤p2;omega,by show p2≤p + 8;omega⟩

theorem someJobs_l1 {s:List Int} (hs:ByteL s) (a:Bool):∀ (c:Nat) (jobs:List J) (p q:Int),jobs.length≤100→9≤jobs.length + c→c≤1000→0≤p→p + 8 * c≤700000000000000→∃ r p' q',Ev (fun k=>spec_l1Cur_someJobs.l1 k a jobs s p q) (r,p',q')∧r.length≤100∧p≤p'∧p'≤p + 8 * c:=by
 intro c
 induction c with
 | zero=>
  intro jobs p q h1 h2 _ hp hb
  refine ⟨jobs,p,q,ev_stop fun k=>?_,h1,by omega,by omega⟩
  simp only [spec_l1Cur_someJobs.l1];rw [if_neg (by omega)]
 | succ c ih=>
  intro jobs p q h1 h2 h3 hp hb
  by_cases hl:(jobs.length:Int)<9
  ·obtain ⟨x0,x1,x2,x3,p1,q1,e,h4,h5⟩:=jb hs p q a hp (by omega)
   obtain ⟨r,p2,q2,hr,h6,h7,h8⟩:=ih (jobs++[⟨x0,x1,x2,x3⟩]) p1 q1 (by simp;omega) (by simp;omega) (by omega) (by omega) (by omega)
   refine ⟨r,p2,q2,ev_go _ (fun k=>?_) hr,h6,by omega,by omega⟩
   simp only [spec_l1Cur_someJobs.l1];rw [if_pos hl,e,Option.bind_some,if_pos (by omega)]
  ·refine ⟨jobs,p,q,ev_stop fun k=>?_,h1,by omega,by omega⟩
   simp only [spec_l1Cur_someJobs.l1];rw [if_neg hl]
theorem someJobs_j5 {s:List Int} (hs:ByteL s) (a:Bool) (jobs:List J) (p q:Int) (h1:jobs.length≤100) (hp:0≤p) (hb:p≤600000000000000):∃ r p' q',Ev (fun k=>spec_l1Cur_someJobs.j5 k a jobs s p q) (r,p',q')∧r.length≤100∧p≤p'∧p'≤p + 100:=by
 obtain ⟨b,p1,q1,e,h2,h3⟩:=on hs p q 60 hp (by omega)
 by_cases c:b=true
 ·obtain ⟨r,p2,q2,hr,h4,h5,h6⟩:=someJobs_l1 hs a 9 jobs p1 q1 h1 (by omega) (by omega) (by omega) (by omega)
  refine ⟨r,p2,q2,ev_go _ (fun k=>?_) hr,h4,by omega,by omega⟩
  simp only [spec_l1Cur_someJobs.j5];rw [e,Option.bind_some,if_pos c]
 ·refine ⟨jobs,p1,q1,ev_stop fun k=>?_,h1,by omega,by omega⟩
  simp only [spec_l1Cur_someJobs.j5];rw [e,Option.bind_some,if_neg c]
theorem someJobs_j4 {s:List Int} (hs:ByteL s) (a b:Bool) (jobs:List J) (p q:Int) (hne:b=true→0<jobs.length) (h1:jobs.length≤100) (hp:0≤p) (hb:p≤500000000000000):∃ r p' q',Ev (fun k=>spec_l1Cur_someJobs.j4 k a jobs b s p q) (r,p',q')∧r.length≤100∧p≤p'∧p'≤p + 120:=by
 by_cases c:b=true
 ·obtain ⟨v,p1,q1,e,h2,h3,h4,h5⟩:=pk hs p q (jobs.length:Int) hp (by omega)
  have h6:=h3 (by have:=hne c;omega)
  obtain ⟨x0,x1,x2,x3,p2,q2,e2,h7,h8⟩:=sj hs p1 q1 (rd_T47 jobs v).f0 (rd_T47 jobs v).f1 (rd_T47 jobs v).f2 (rd_T47 jobs v).f3 (by omega) (by omega)
  obtain ⟨r,p3,q3,hr,h9,h10,h11⟩:=someJobs_j5 hs a (jobs.set v.toNat ⟨x0,x1,x2,x3⟩) p2 q2 (by simpa using h1) (by omega) (by omega)
  refine ⟨r,p3,q3,ev_go _ (fun k=>?_) hr,h9,by omega,by omega⟩
  simp only [spec_l1Cur_someJobs.j4];rw [if_pos c,e,Option.bind_some,if_pos h2,if_pos h6,e2,Option.bind_some]
 ·obtain ⟨r,p3,q3,hr,h9,h10,h11⟩:=someJobs_j5 hs a jobs p q h1 (by omega) (by omega)
  refine ⟨r,p3,q3,ev_go _ (fun k=>?_) hr,h9,by omega,by omega⟩
  simp only [spec_l1Cur_someJobs.j4];rw [if_neg c]
theorem someJobs_j3 {s:List Int} (hs:ByteL s) (a:Bool) (jobs:List J) (p q:Int) (h1:jobs.length≤100) (hp:0≤p) (hb:p≤400000000000000):∃ r p' q',Ev (fun k=>spec_l1Cur_someJobs.j3 k a jobs s p q) (r,p',q')∧r.length≤100∧p≤p'∧p'≤p + 150:=by
 by_cases c:(jobs.length:Int)>0
 ·obtain ⟨b,p1,q1,e,h2,h3⟩:=on hs p q 20 hp (by omega)
  obtain ⟨r,p2,q2,hr,h4,h5,h6⟩:=someJobs_j4 hs a b jobs p1 q1 (fun _=>by omega) h1 (by omega) (by omega)
  refine ⟨r,p2,q2,ev_go _ (fun k=>?_) hr,h4,by omega,by omega⟩
  simp only [spec_l1Cur_someJobs.j3];rw [if_pos c,e,Option.bind_some]
 ·obtain ⟨r,p2,q2,hr,h4,h5,h6⟩:=someJobs_j4 hs a false jobs p q (by simp) h1 (by omega) (by omega)
  refine ⟨r,p2,q2,ev_go _ (fun k=>?_) hr,h4,by omega,by omega⟩
  simp only [spec_l1Cur_someJobs.j3];rw [if_neg c]
theorem someJobs_l0 {s:List Int} (hs:ByteL s) (a:Bool) (m:Int) (hm:m≤100):∀ (c:Nat) (n:Int) (jobs:List J) (p q:Int),n≤c→c≤1000→jobs.length≤100→0≤p→p + 8 * c≤300000000000000→∃ r p' q',Ev (fun k=>spec_l1Cur_someJobs.l0 k a m jobs n s p q) (r,p',q')∧r.length≤100∧p≤p'∧p'≤p + 8 * c + 150:=by
 intro c
 induction c with
 | zero=>
  intro n jobs p q h1 _ h2 hp hb
  obtain ⟨r,p2,q2,hr,h4,h5,h6⟩:=someJobs_j3 hs a jobs p q h2 hp (by omega)
  refine ⟨r,p2,q2,ev_go _ (fun k=>?_) hr,h4,by omega,by omega⟩
  simp only [spec_l1Cur_someJobs.l0];rw [if_neg (by omega)]
 | succ c ih=>
  intro n jobs p q h1 h3 h2 hp hb
  by_cases cn:n>0∧(jobs.length:Int)<m
  ·obtain ⟨x0,x1,x2,x3,p1,q1,e,h4,h5⟩:=jb hs p q a hp (by omega)
   obtain ⟨r,p2,q2,hr,h6,h7,h8⟩:=ih (n - 1) (jobs++[⟨x0,x1,x2,x3⟩]) p1 q1 (by omega) (by omega) (by simp;omega) (by omega) (by omega)
   refine ⟨r,p2,q2,ev_go _ (fun k=>?_) hr,h6,by omega,by omega⟩
   simp only [spec_l1Cur_someJobs.l0];rw [if_pos cn.1,if_pos cn.2,e,Option.bind_some,if_pos (by omega),wr (x:=n - 1) (by omega) (by omega)]
  ·obtain ⟨r,p2,q2,hr,h4,h5,h6⟩:=someJobs_j3 hs a jobs p q h2 hp (by omega)
   refine ⟨r,p2,q2,ev_go _ (fun k=>?_) hr,h4,by omega,by omega⟩
   simp only [spec_l1Cur_someJobs.l0]
   by_cases c1:n>0
   ·rw [if_pos c1,if_neg (fun c2=>cn ⟨c1,c2⟩)]
   ·rw [if_neg c1]
theorem spec_l1Cur_someJobs.tot {s:List Int} (hs:ByteL s) (a:Bool) (m p q:Int) (hm:m≤100) (hp:0≤p) (hb:p≤200000000000000):∃ r p' q',Ev (fun k=>spec_l1Cur_someJobs.f k s p q a m) (r,p',q')∧r.length≤100∧p≤p'∧p'≤p + 300:=by
 unfold spec_l1Cur_someJobs.f
 simp only [Option.bind_some]
 obtain ⟨v,p1,q1,e1,hv,h1,h2⟩:=am hs p q [3,4,5,2,6,1,0] (by simp) hp (by omega)
 simp only [e1,Option.bind_some]
 have hv6:v≤6:=by simp at hv;omega
 have J1:=fun (n p q:Int) (hn:n≤8) (hp:0≤p) (hb:p≤250000000000000)=>someJobs_l0 hs a m hm 8 n [] p q hn (by omega) (by simp) hp (by omega)
 by_cases c:m>6
 ·simp only [if_pos c]
  obtain ⟨b,p2,q2,e2,h3,h4⟩:=on hs p1 q1 6 (by omega) (by omega)
  simp only [e2,Option.bind_some]
  by_cases cb:b=true
  ·obtain ⟨u,p3,q3,e3,h5,h6,h7,h8⟩:=pk hs p2 q2 2 (by omega) (by omega)
   have h9:=h6 (by omega)
   obtain ⟨r,p4,q4,hr,h10,h11,h12⟩:=J1 (7 + u) p3 q3 (by omega) (by omega) (by omega)
   refine ⟨r,p4,q4,ev_go (fun k=>spec_l1Cur_someJobs.j1 k a m [] (7 + u) s p3 q3) (fun k=>?_) (ev_go _ (fun k=>by simp only [spec_l1Cur_someJobs.j1]) hr),h10,by omega,by omega⟩
   simp only [spec_l1Cur_someJobs.j0];rw [if_pos cb,e3,Option.bind_some,wr (x:=7 + u) (by omega) (by omega)]
  ·obtain ⟨r,p4,q4,hr,h10,h11,h12⟩:=J1 v p2 q2 (by omega) (by omega) (by omega)
   refine ⟨r,p4,q4,ev_go (fun k=>spec_l1Cur_someJobs.j1 k a m [] v s p2 q2) (fun k=>?_) (ev_go _ (fun k=>by simp only [spec_l1Cur_someJobs.j1]) hr),h10,by omega,by omega⟩
   simp only [spec_l1Cur_someJobs.j0];rw [if_neg cb]
 ·simp only [if_neg c]
  obtain ⟨r,p4,q4,hr,h10,h11,h12⟩:=J1 v p1 q1 (by omega) (by omega) (by omega)
  refine ⟨r,p4,q4,ev_go (fun k=>spec_l1Cur_someJobs.j1 k a m [] v s p1 q1) (fun k=>?_) (ev_go _ (fun k=>by simp only [spec_l1Cur_someJobs.j1]) hr),h10,by omega,by omega⟩
  simp only [spec_l1Cur_someJobs.j0];rw [if_neg (by simp)]

theorem spec_l1Cur_jobs.tot {s:List Int} (hs:ByteL s) (p q:Int) (hp:0≤p) (hb:p≤100000000000000):∃ r p' q',Ev (fun k=>spec_l1Cur_jobs.f k s p q) (r,p',q')∧r.length≤100∧p≤p'∧p'≤p + 400:=by
 unfold spec_l1Cur_jobs.f
 obtain ⟨b,p1,q1,e,h1,h2⟩:=on hs p q 2 hp (by omega)
 simp only [e,Option.bind_some]
 obtain ⟨r,p2,q2,hr,h3,h4,h5⟩:=spec_l1Cur_someJobs.tot hs b 6 p1 q1 (by omega) (by omega) (by omega)
 exact ⟨r,p2,q2,ev_bind _ hr (Ev.now _),h3,by omega,by omega⟩

def pl1 (x:List J) (i:Int):List J:=x.set i.toNat ⟨(rd_T47 x i).f0,(rd_T47 x i).f1,0,(rd_T47 x i).f3⟩
def pl2 (x:List J) (i:Int):List J:=x.set i.toNat ⟨(rd_T47 x (wrap64 (i - 1))).f0,(rd_T47 x i).f1,(rd_T47 x i).f2,(rd_T47 x i).f3⟩
def pl3 (x:List J) (i:Int):List J:=x.set i.toNat ⟨(rd_T47 x i).f0,(rd_T47 x (wrap64 (i - 1))).f1,(rd_T47 x i).f2,(rd_T47 x i).f3⟩
theorem plain3_l0 {s:List Int} (hs:ByteL s):∀ (c i:Nat) (jobs:List J) (p q:Int),jobs.length=i + c→jobs.length≤100→0≤p→p + 2 * c≤90000000000000→∃ r p' q',Ev (fun k=>spec_l1Cur_plain3.l0 k jobs (i:Int) s p q) (r,p',q')∧r.length≤100∧p≤p'∧p'≤p + 2 * c:=by
 intro c
 induction c with
 | zero=>
  intro i jobs p q h1 h2 hp hb
  refine ⟨jobs,p,q,ev_stop fun k=>?_,h2,by omega,by omega⟩
  simp only [spec_l1Cur_plain3.l0];rw [if_neg (by omega)]
 | succ c ih=>
  intro i jobs p q h1 h2 hp hb
  by_cases c0:(i:Int)>0
  ·obtain ⟨b,p1,q1,e,h3,h4⟩:=on hs p q 3 hp (by omega)
   have w1:wrap64 ((i:Int) - 1)=(i:Int) - 1:=wr (by omega) (by omega)
   by_cases cb:b=true
   ·obtain ⟨r,p2,q2,hr,h5,h6,h7⟩:=ih (i + 1) (pl3 (pl2 (pl1 jobs i) i) i) p1 q1 (by simp [pl1,pl2,pl3];omega) (by simp [pl1,pl2,pl3];omega) (by omega) (by omega)
    refine ⟨r,p2,q2,ev_go _ (fun k=>?_) hr,h5,by omega,by omega⟩
    simp only [spec_l1Cur_plain3.l0]
    rw [if_pos (by omega),if_pos (by omega),Option.bind_some,if_pos c0,e,Option.bind_some,if_pos cb,if_pos (by omega),if_pos (by omega),Option.bind_some,wr1 (by omega)]
    rfl
   ·obtain ⟨r,p2,q2,hr,h5,h6,h7⟩:=ih (i + 1) (pl1 jobs i) p1 q1 (by simp [pl1];omega) (by simp [pl1];omega) (by omega) (by omega)
    refine ⟨r,p2,q2,ev_go _ (fun k=>?_) hr,h5,by omega,by omega⟩
    simp only [spec_l1Cur_plain3.l0]
    rw [if_pos (by omega),if_pos (by omega),Option.bind_some,if_pos c0,e,Option.bind_some,if_neg cb,wr1 (by omega)]
    rfl
  ·obtain ⟨r,p2,q2,hr,h5,h6,h7⟩:=ih (i + 1) (pl1 jobs i) p q (by simp [pl1];omega) (by simp [pl1];omega) (by omega) (by omega)
   refine ⟨r,p2,q2,ev_go _ (fun k=>?_) hr,h5,by omega,by omega⟩
   simp only [spec_l1Cur_plain3.l0]
   rw [if_pos (by omega),if_pos (by omega),Option.bind_some,if_neg c0,wr1 (by omega)]
   rfl
theorem spec_l1Cur_plain3.tot {s:List Int} (hs:ByteL s) (p q:Int) (hp:0≤p) (hb:p≤10000000000000):∃ r p' q',Ev (fun k=>spec_l1Cur_plain3.f k s p q) (r,p',q')∧r.length≤100∧p≤p'∧p'≤p + 1000:=by
 unfold spec_l1Cur_plain3.f
 obtain ⟨r,p1,q1,hr,h1,h2,h3⟩:=spec_l1Cur_jobs.tot hs p q hp (by omega)
 obtain ⟨b,p2,q2,e,h4,h5⟩:=on hs p1 q1 24 (by omega) (by omega)
 by_cases cb:b=true
 ·exact ⟨r,p2,q2,ev_bind _ hr (by simp only [e,Option.bind_some,if_pos cb];exact Ev.now _),h1,by omega,by omega⟩
 ·obtain ⟨r2,p3,q3,hr2,h6,h7,h8⟩:=plain3_l0 hs r.length 0 r p2 q2 (by omega) h1 (by omega) (by omega)
  exact ⟨r2,p3,q3,ev_bind _ hr (by simp only [e,Option.bind_some,if_neg cb];exact hr2),h6,by omega,by omega⟩

theorem work7_l0 {s:List Int} (hs:ByteL s):∀ (c i:Nat) (jobs:List J) (p q:Int),jobs.length=i + c→jobs.length≤100→0≤p→p + 4 * c≤90000000000000→∃ r p' q',Ev (fun k=>spec_l1Cur_work7.l0 k jobs (i:Int) s p q) (r,p',q')∧r.length≤100∧p≤p'∧p'≤p + 4 * c:=by
 intro c
 induction c with
 | zero=>
  intro i jobs p q h1 h2 hp hb
  refine ⟨jobs,p,q,ev_stop fun k=>?_,h2,by omega,by omega⟩
  simp only [spec_l1Cur_work7.l0];rw [if_neg (by omega)]
 | succ c ih=>
  intro i jobs p q h1 h2 hp hb
  obtain ⟨b,p1,q1,e,h3,h4⟩:=on hs p q 4 hp (by omega)
  by_cases cb:b=true
  ·refine ⟨jobs,p1,q1,ev_stop fun k=>?_,h2,by omega,by omega⟩
   simp only [spec_l1Cur_work7.l0];rw [if_pos (by omega),e,Option.bind_some,if_pos cb]
  ·obtain ⟨v,p2,q2,e2,_,h5,h6⟩:=am hs p1 q1 [1,1,2,3,4,7] (by simp) (by omega) (by omega)
   obtain ⟨r,p3,q3,hr,h7,h8,h9⟩:=ih (i + 1) (jobs.set (i:Int).toNat ⟨v,(rd_T47 jobs i).f1,(rd_T47 jobs i).f2,(rd_T47 jobs i).f3⟩) p2 q2 (by simp;omega) (by simp;omega) (by omega) (by omega)
   refine ⟨r,p3,q3,ev_go _ (fun k=>?_) hr,h7,by omega,by omega⟩
   simp only [spec_l1Cur_work7.l0]
   rw [if_pos (by omega),e,Option.bind_some,if_neg cb,e2,Option.bind_some,if_pos (by omega),wr1 (by omega)]
theorem spec_l1Cur_work7.tot {s:List Int} (hs:ByteL s) (p q:Int) (hp:0≤p) (hb:p≤1000000000000):∃ r p' q',Ev (fun k=>spec_l1Cur_work7.f k s p q) (r,p',q')∧r.length≤100∧p≤p'∧p'≤p + 2000:=by
 unfold spec_l1Cur_work7.f
 obtain ⟨r,p1,q1,hr,h1,h2,h3⟩:=spec_l1Cur_plain3.tot hs p q hp (by omega)
 obtain ⟨r2,p3,q3,hr2,h6,h7,h8⟩:=work7_l0 hs r.length 0 r p1 q1 (by omega) h1 (by omega) (by omega)
 exact ⟨r2,p3,q3,ev_bind _ hr hr2,h6,by omega,by omega⟩

theorem edges_step {s:List Int} (hs:ByteL s) (n i j v:Int) (E:List A2) (b:Bool) (p q:Int) (hj:j<n) (hE:E.length≤28) (hj2 : -1000≤j∧j≤1000) (hp:0≤p) (hb:p≤90000000000000):∃ E' p' q',(∀ k,spec_l1Cur_edges.l1 (k + 1) n E b v i j s p q=spec_l1Cur_edges.l1 k n E' b v i (j + 1) s p' q')∧E'.length≤28∧p≤p'∧p'≤p + 2:=by
 obtain ⟨t,p1,q1,e,h1,h2⟩:=on hs p q v hp (by omega)
 have w:wrap64 (j + 1)=j + 1:=wr (by omega) (by omega)
 have two:∃ E':List A2,E'.length≤28∧∀ k,(if t=true then (if (E.length:Int)<28 then (if E.length<8796093022208 then spec_l1Cur_edges.l1 k n (E++[⟨i,j⟩]) b v i (j + 1) s p1 q1 else none) else spec_l1Cur_edges.l1 k n E b v i (j + 1) s p1 q1) else spec_l1Cur_edges.l1 k n E b v i (j + 1) s p1 q1)=spec_l1Cur_edges.l1 k n E' b v i (j + 1) s p1 q1:=by
  by_cases c:t=true∧(E.length:Int)<28
  ·exact ⟨E++[⟨i,j⟩],by simp;omega,fun k=>by rw [if_pos c.1,if_pos c.2,if_pos (by omega)]⟩
  ·refine ⟨E,hE,fun k=>?_⟩
   by_cases c1:t=true
   ·rw [if_pos c1,if_neg (fun c2=>c ⟨c1,c2⟩)]
   ·rw [if_neg c1]
 obtain ⟨E',hE',two⟩:=two
 by_cases c1:i<j
 ·by_cases c2:b=true
  ·refine ⟨E,p,q,fun k=>?_,hE,by omega,by omega⟩
   simp only [spec_l1Cur_edges.l1];rw [if_pos hj,if_pos c1,if_pos c2,if_neg (by omega),w]
  ·refine ⟨E',p1,q1,fun k=>?_,hE',h1,h2⟩
   rw [←two k]
   simp only [spec_l1Cur_edges.l1];rw [if_pos hj,if_pos c1,if_neg c2,e,Option.bind_some,w]
 ·by_cases c3:i>j
  ·by_cases c2:b=true
   ·refine ⟨E',p1,q1,fun k=>?_,hE',h1,h2⟩
    rw [←two k]
    simp only [spec_l1Cur_edges.l1];rw [if_pos hj,if_neg c1,if_pos c3,if_pos c2,e,Option.bind_some,w]
   ·refine ⟨E,p,q,fun k=>?_,hE,by omega,by omega⟩
    simp only [spec_l1Cur_edges.l1];rw [if_pos hj,if_neg c1,if_pos c3,if_neg c2,w]
  ·refine ⟨E,p,q,fun k=>?_,hE,by omega,by omega⟩
   simp only [spec_l1Cur_edges.l1];rw [if_pos hj,if_neg c1,if_neg c3,w]
theorem edges_l1 {s:List Int} (hs:ByteL s) (n i v:Int) (b:Bool) (hn:0≤n∧n≤100) (hi:0≤i∧i≤100) (B:Int) (rest:∀ (E:List A2) (p q:Int),E.length≤28→0≤p→p≤B→∃ r p' q',Ev (fun k=>spec_l1Cur_edges.l0 k n E b v (i + 1) s p q) (r,p',q')∧r.length≤100):∀ (c:Nat) (j:Int) (E:List A2) (p q:Int),n=j + c→0≤j→E.length≤28→0≤p→p + 2 * c≤80000000000000→p + 2 * c≤B→∃ r p' q',Ev (fun k=>spec_l1Cur_edges.l1 k n E b v i j s p q) (r,p',q')∧r.length≤100:=by
 intro c
 induction c with
 | zero=>
  intro j E p q h1 h2 h3 hp hb hB
  obtain ⟨r,p',q',hr,h4⟩:=rest E p q h3 hp (by omega)
  refine ⟨r,p',q',ev_go _ (fun k=>?_) hr,h4⟩
  simp only [spec_l1Cur_edges.l1];rw [if_neg (by omega),wr (x:=i + 1) (by omega) (by omega)]
 | succ c ih=>
  intro j E p q h1 h2 h3 hp hb hB
  obtain ⟨E',p1,q1,he,h4,h5,h6⟩:=edges_step hs n i j v E b p q (by omega) h3 (by omega) hp (by omega)
  obtain ⟨r,p',q',hr,h7⟩:=ih (j + 1) E' p1 q1 (by omega) (by omega) h4 (by omega) (by omega) (by omega)
  exact ⟨r,p',q',ev_go _ he hr,h7⟩
theorem edges_end {s:List Int} (hs:ByteL s) (n i v:Int) (b:Bool) (hn:0≤n∧n≤100) (hi:¬ i<n) (E:List A2) (p q:Int) (hE:E.length≤28) (hp:0≤p) (hb:p≤80000000000000):∃ r p' q',Ev (fun k=>spec_l1Cur_edges.l0 k n E b v i s p q) (r,p',q')∧r.length≤100:=by
 obtain ⟨t,p1,q1,e,h0,h1,h2,h3⟩:=pk hs p q 40 hp (by omega)
 have wn:wrap64 (n + 1)=n + 1:=wr (by omega) (by omega)
 by_cases c0:t=0
 ·obtain ⟨u,p2,q2,e2,_,_,h4,h5⟩:=pk hs p1 q1 (n + 1) (by omega) (by omega)
  obtain ⟨w,p3,q3,e3,_,_,h6,h7⟩:=pk hs p2 q2 (n + 1) (by omega) (by omega)
  refine ⟨E++[⟨wrap64 (u - 1),w⟩],p3,q3,ev_stop fun k=>?_,by simp;omega⟩
  simp only [spec_l1Cur_edges.l0];rw [if_neg hi,e,Option.bind_some,if_pos c0,wn,e2,Option.bind_some,e3,Option.bind_some,if_pos (by omega)]
 ·by_cases c1:t=1
  ·by_cases c2:(E.length:Int)>0
   ·have wl:wrap64 ((E.length:Int) - 1)=(E.length:Int) - 1:=wr (by omega) (by omega)
    refine ⟨E++[⟨(rd_T45 E ((E.length:Int) - 1)).f0,(rd_T45 E ((E.length:Int) - 1)).f1⟩],p1,q1,ev_stop fun k=>?_,by simp;omega⟩
    simp only [spec_l1Cur_edges.l0];rw [if_neg hi,e,Option.bind_some,if_neg c0,if_pos c1,if_pos c2,wl,if_pos (by omega),if_pos (by omega),if_pos (by omega)]
   ·refine ⟨E,p1,q1,ev_stop fun k=>?_,by omega⟩
    simp only [spec_l1Cur_edges.l0];rw [if_neg hi,e,Option.bind_some,if_neg c0,if_pos c1,if_neg c2]
  ·by_cases c3:t=2
   ·by_cases c4:n>2
    ·refine ⟨[⟨0,1⟩,⟨1,2⟩,⟨2,0⟩],p1,q1,ev_stop fun k=>?_,by simp⟩
     simp only [spec_l1Cur_edges.l0];rw [if_neg hi,e,Option.bind_some,if_neg c0,if_neg c1,if_pos c3,if_pos c4]
    ·refine ⟨E,p1,q1,ev_stop fun k=>?_,by omega⟩
     simp only [spec_l1Cur_edges.l0];rw [if_neg hi,e,Option.bind_some,if_neg c0,if_neg c1,if_pos c3,if_neg c4]
   ·refine ⟨E,p1,q1,ev_stop fun k=>?_,by omega⟩
    simp only [spec_l1Cur_edges.l0];rw [if_neg hi,e,Option.bind_some,if_neg c0,if_neg c1,if_neg c3]
theorem edges_l0 {s:List Int} (hs:ByteL s) (n v:Int) (b:Bool) (hn:0≤n∧n≤100):∀ (c:Nat) (i:Int) (E:List A2) (p q:Int),n=i + c→0≤i→E.length≤28→0≤p→p + 200 * c≤70000000000000→∃ r p' q',Ev (fun k=>spec_l1Cur_edges.l0 k n E b v i s p q) (r,p',q')∧r.length≤100:=by
 intro c
 induction c with
 | zero=>
  intro i E p q h1 h2 h3 hp hb
  exact edges_end hs n i v b hn (by omega) E p q h3 hp (by omega)
 | succ c ih=>
  intro i E p q h1 h2 h3 hp hb
  obtain ⟨r,p',q',hr,h4⟩:=edges_l1 hs n i v b hn (by omega) (p + 200) (fun E p' q' h5 h6 h7=>ih (i + 1) E p' q' (by omega) (by omega) h5 h6 (by omega)) n.toNat 0 E p q (by omega) (by omega) h3 hp (by omega) (by omega)
  refine ⟨r,p',q',ev_go _ (fun k=>?_) hr,h4⟩
  simp only [spec_l1Cur_edges.l0];rw [if_pos (by omega)]
theorem spec_l1Cur_edges.tot {s:List Int} (hs:ByteL s) (n p q:Int) (hn:0≤n∧n≤100) (hp:0≤p) (hb:p≤1000000000000):∃ r p' q',Ev (fun k=>spec_l1Cur_edges.f k s p q n) (r,p',q')∧r.length≤100:=by
 unfold spec_l1Cur_edges.f
 obtain ⟨b,p1,q1,e,h1,h2⟩:=on hs p q 3 hp (by omega)
 obtain ⟨v,p2,q2,e2,_,h3,h4⟩:=am hs p1 q1 [2,3,5] (by simp) (by omega) (by omega)
 obtain ⟨r,p',q',hr,h5⟩:=edges_l0 hs n v b hn n.toNat 0 [] p2 q2 (by omega) (by omega) (by simp) (by omega) (by omega)
 refine ⟨r,p',q',?_,h5⟩
 simp only [e,Option.bind_some,e2]
 exact hr

theorem spec_DrawTailsOf.tot {s:List Int} (hs:ByteL s):∃ (jobs:List J) (E:List A2),Ev (fun k=>spec_DrawTailsOf.f k s) (jobs,E)∧jobs.length≤100∧E.length≤100:=by
 unfold spec_DrawTailsOf.f
 obtain ⟨r,p1,q1,hr,h1,h2,h3⟩:=spec_l1Cur_work7.tot hs 0 0 (by omega) (by omega)
 obtain ⟨E,p2,q2,hE,h4⟩:=spec_l1Cur_edges.tot hs (r.length:Int) p1 q1 (by omega) (by omega) (by omega)
 exact ⟨r,E,ev_bind _ hr (ev_bind _ hE (Ev.now _)),h1,h4⟩

def pjs (f:BF) (i:Nat):Nat→Nat→List A2
 | 0,_=>[]
 | c + 1,j=>(if f i j=true then [⟨(i:Int),(j:Int)⟩] else [])++pjs f i c (j + 1)
def pis (f:BF) (n:Nat):Nat→Nat→List A2
 | 0,_=>[]
 | c + 1,i=>pjs f i n 0++pis f n c (i + 1)
theorem pjs_mem (f:BF) (i:Nat) (p:A2):∀ (c j:Nat),p ∈ pjs f i c j ↔ ∃ m,j≤m∧m<j + c∧f i m=true∧p=⟨(i:Int),(m:Int)⟩
 | 0,j=>by simp [pjs];omega
 | c + 1,j=>by
  rw [pjs,List.mem_append,pjs_mem f i p c (j + 1)]
  constructor
  ·rintro (h | ⟨m,h1,h2,h3,h4⟩)
   ·split at h
    ·rename_i hf
     exact ⟨j,by omega,by omega,hf,by simpa using h⟩
    ·simp at h
   ·exact ⟨m,by omega,by omega,h3,h4⟩
  ·rintro ⟨m,h1,h2,h3,h4⟩
   by_cases e:m=j
   ·subst e;exact .inl (by rw [if_pos h3,h4];simp)
   ·exact .inr ⟨m,by omega,by omega,h3,h4⟩
theorem pis_mem (f:BF) (n:Nat) (p:A2):∀ (c i:Nat),p ∈ pis f n c i ↔ ∃ a b,i≤a∧a<i + c∧b<n∧f a b=true∧p=⟨(a:Int),(b:Int)⟩
 | 0,i=>by simp [pis];omega
 | c + 1,i=>by
  rw [pis,List.mem_append,pis_mem f n p c (i + 1),pjs_mem]
  constructor
  ·rintro (⟨m,h1,h2,h3,h4⟩ | ⟨a,b,h1,h2,h3,h4,h5⟩)
   ·exact ⟨i,m,by omega,by omega,by omega,h3,h4⟩
   ·exact ⟨a,b,by omega,by omega,h3,h4,h5⟩
  ·rintro ⟨a,b,h1,h2,h3,h4,h5⟩
   by_cases e:a=i
   ·subst e;exact .inl ⟨b,by omega,by omega,h4,h5⟩
   ·exact .inr ⟨a,b,by omega,by omega,h3,h4,h5⟩
theorem pjs_len (f:BF) (i:Nat):∀ (c j:Nat),(pjs f i c j).length≤c
 | 0,_=>by simp [pjs]
 | c + 1,j=>by
  have:=pjs_len f i c (j + 1)
  rw [pjs,List.length_append]
  split <;> simp <;> omega
theorem pis_len (f:BF) (n:Nat):∀ (c i:Nat),(pis f n c i).length≤c * n
 | 0,_=>by simp [pis]
 | c + 1,i=>by
  have h1:=pis_len f n c (i + 1)
  have h2:=pjs_len f i n 0
  rw [pis,List.length_append,Nat.succ_mul]
  omega

theorem pairsOf_l1 {n:Nat} {f:BF} (hn:n≤1000) (i:Nat) (hi:i<n) (R:List A2):∀ (c j:Nat) (acc:List A2),j + c=n→acc.length + c≤100000000→Ev (fun k=>impl_pairsOf.l0 k (acc++pjs f i c j) (tbl n f) (n:Int) ((i + 1:Nat):Int)) R→Ev (fun k=>impl_pairsOf.l1 k acc (i:Int) (tbl n f) (n:Int) (i:Int) (rd_L5 (tbl n f) (i:Int)) (n:Int) (j:Int)) R:=by
 intro c
 induction c with
 | zero=>
  intro j acc h1 _ h
  rw [pjs,List.append_nil] at h
  refine ev_go _ (fun k=>?_) h
  simp only [impl_pairsOf.l1];rw [if_neg (by omega),wr1 (by omega)]
 | succ c ih=>
  intro j acc h1 h2 h
  have hl:=tbl_rowlen (f:=f) hi
  have ha:=tbl_at (f:=f) hi (show j<n by omega)
  rw [pjs] at h
  by_cases cf:f i j=true
  ·rw [if_pos cf,←List.append_assoc] at h
   refine ev_go _ (fun k=>?_) (ih (j + 1) (acc++[⟨(i:Int),(j:Int)⟩]) (by omega) (by simp;omega) h)
   simp only [impl_pairsOf.l1];rw [if_pos (by omega),if_pos (by omega),if_pos (by rw [hl];omega),ha,if_pos cf,if_pos (by omega),wr1 (by omega)]
  ·rw [if_neg cf,List.nil_append] at h
   refine ev_go _ (fun k=>?_) (ih (j + 1) acc (by omega) (by omega) h)
   simp only [impl_pairsOf.l1];rw [if_pos (by omega),if_pos (by omega),if_pos (by rw [hl];omega),ha,if_neg cf,wr1 (by omega)]
theorem pairsOf_l0 {n:Nat} {f:BF} (hn:n≤1000):∀ (c i:Nat) (acc:List A2),i + c=n→acc.length + c * n≤10000000→Ev (fun k=>impl_pairsOf.l0 k acc (tbl n f) (n:Int) (i:Int)) (acc++pis f n c i):=by
 intro c
 induction c with
 | zero=>
  intro i acc h1 _
  rw [pis,List.append_nil]
  refine ev_stop fun k=>?_
  simp only [impl_pairsOf.l0];rw [if_neg (by omega)]
 | succ c ih=>
  intro i acc h1 h2
  have hl:=tbl_rowlen (f:=f) (show i<n by omega)
  have hp:=pjs_len f i n 0
  rw [Nat.succ_mul] at h2
  have h3:=ih (i + 1) (acc++pjs f i n 0) (by omega) (by simp;omega)
  rw [List.append_assoc] at h3
  refine ev_go _ (fun k=>?_) (pairsOf_l1 hn i (by omega) _ n 0 acc (by omega) (by omega) h3)
  simp only [impl_pairsOf.l0];rw [if_pos (by omega),if_pos (by omega),if_pos (by rw [tbl_length];omega),hl]
  rfl
theorem impl_pairsOf.ev {n:Nat} {f:BF} (hn:n≤1000):Ev (fun k=>impl_pairsOf.f k (tbl n f)) (pis f n n 0):=by
 have hq:n * n≤1000 * 1000:=Nat.mul_le_mul hn hn
 have h:=pairsOf_l0 (f:=f) hn n 0 [] (by omega) (by simp;omega)
 unfold impl_pairsOf.f
 rw [tbl_length]
 exact h

def dirR (f:BF) (a b:Nat):Nat→Nat→Bool→Bool
 | 0,_,s=>s
 | c + 1,m,s=>dirR f a b c (m + 1) (if s=true then !(f a m && f m b) else false)
theorem dirR_true (f:BF) (a b:Nat):∀ (c m:Nat) (s:Bool),dirR f a b c m s=true ↔ s=true∧∀ x,m≤x→x<m + c→¬ (f a x=true∧f x b=true)
 | 0,m,s=>by rw [dirR];exact ⟨fun h=>⟨h,fun x _ _=>by omega⟩,fun h=>h.1⟩
 | c + 1,m,s=>by
  rw [dirR,dirR_true f a b c (m + 1)]
  constructor
  ·rintro ⟨h1,h2⟩
   split at h1
   ·rename_i hs
    refine ⟨hs,fun x hx hx2 h=>?_⟩
    by_cases e:x=m
    ·subst e;rw [h.1,h.2] at h1;simp at h1
    ·exact h2 x (by omega) (by omega) h
   ·simp at h1
  ·rintro ⟨h1,h2⟩
   refine ⟨?_,fun x hx hx2=>h2 x (by omega) (by omega)⟩
   rw [if_pos h1]
   have:=h2 m (by omega) (by omega)
   cases e:f a m
   ·rfl
   ·cases e2:f m b
    ·rfl
    ·exact absurd ⟨e,e2⟩ this
def redL (f:BF) (n:Nat) (L:List A2):List A2:=L.filter fun p=>dirR f p.f0.toNat p.f1.toNat n 0 true
theorem reduction_l1 {n:Nat} {f:BF} (hn:n≤1000) (a b:Nat) (ha:a<n) (hb:b<n) (L:List A2) (i:Nat) (hi:i + 1≤10000000) (R:List A2):∀ (c m:Nat) (s:Bool) (acc:List A2),m + c=n→acc.length≤10000000→Ev (fun k=>impl_reduction.l0 k (tbl n f) (if dirR f a b c m s=true then acc++[⟨(a:Int),(b:Int)⟩] else acc) L (L.length:Int) ((i + 1:Nat):Int)) R→Ev (fun k=>impl_reduction.l1 k (tbl n f) acc s L (L.length:Int) (i:Int) (n:Int) (m:Int) (a:Int) (b:Int)) R:=by
 intro c
 induction c with
 | zero=>
  intro m s acc h1 h2 h
  rw [dirR] at h
  refine ev_go _ (fun k=>?_) h
  simp only [impl_reduction.l1];rw [if_neg (by omega),wr1 (by omega)]
  by_cases cs:s=true
  ·rw [if_pos cs,if_pos cs,if_pos (by omega)]
  ·rw [if_neg cs,if_neg cs]
 | succ c ih=>
  intro m s acc h1 h2 h
  rw [dirR] at h
  have hm:m<n:=by omega
  have la:=tbl_rowlen (f:=f) ha
  have lm:=tbl_rowlen (f:=f) hm
  have ea:=tbl_at (f:=f) ha hm
  have em:=tbl_at (f:=f) hm hb
  by_cases cs:s=true
  ·rw [if_pos cs] at h
   have h3:=ih (m + 1) _ acc (by omega) h2 h
   by_cases c1:f a m=true
   ·rw [c1,Bool.true_and] at h3
    refine ev_go _ (fun k=>?_) h3
    simp only [impl_reduction.l1];rw [if_pos (by omega),if_pos cs,if_pos (by omega),if_pos (by rw [tbl_length];omega),if_pos (by omega),if_pos (by rw [la];omega),ea,if_pos c1,if_pos (by rw [tbl_length];omega),if_pos (by omega),if_pos (by rw [lm];omega),em,wr1 (by omega)]
   ·rw [Bool.eq_false_iff.2 c1,Bool.false_and] at h3
    refine ev_go _ (fun k=>?_) h3
    simp only [impl_reduction.l1];rw [if_pos (by omega),if_pos cs,if_pos (by omega),if_pos (by rw [tbl_length];omega),if_pos (by omega),if_pos (by rw [la];omega),ea,if_neg c1,wr1 (by omega)]
  ·rw [if_neg cs] at h
   refine ev_go _ (fun k=>?_) (ih (m + 1) _ acc (by omega) h2 h)
   simp only [impl_reduction.l1];rw [if_pos (by omega),if_neg cs,wr1 (by omega)]
theorem impl_reduction.ev {n:Nat} {f:BF} (hn:n≤1000):Ev (fun k=>impl_reduction.f k (tbl n f)) (redL f n (pis f n n 0)):=by
 have hq:n * n≤1000 * 1000:=Nat.mul_le_mul hn hn
 have hL:=pis_len f n n 0
 have hmem:=fun p=>pis_mem f n p n 0
 unfold impl_reduction.f
 refine ev_bind _ (impl_pairsOf.ev hn) ?_
 generalize pis f n n 0=L at hL hmem
 have key:=rev_ind (P:=fun i=>Ev (fun k=>impl_reduction.l0 k (tbl n f) (redL f n (L.take i)) L (L.length:Int) (i:Int)) (redL f n L)) L.length ?_ ?_ 0 (Nat.zero_le _)
 ·simpa [redL] using key
 ·refine ev_stop fun k=>?_
  simp only [impl_reduction.l0];rw [if_neg (by omega),List.take_of_length_le (Nat.le_refl _)]
 ·intro i hi ih
  obtain ⟨a,b,_,ha,hb,_,e⟩:=(hmem L[i]).1 (List.getElem_mem hi)
  have hr:rd_T45 L (i:Int)=⟨(a:Int),(b:Int)⟩:=by rw [rdA2 hi,e]
  have e2:redL f n (L.take (i + 1))=if dirR f a b n 0 true=true then redL f n (L.take i)++[⟨(a:Int),(b:Int)⟩] else redL f n (L.take i):=by
   rw [List.take_add_one,List.getElem?_eq_getElem hi,e]
   unfold redL
   rw [List.filter_append]
   by_cases c:dirR f a b n 0 true=true
   ·rw [if_pos c];simp [c]
   ·rw [if_neg c];simp [c]
  rw [e2] at ih
  have hlen:(redL f n (L.take i)).length≤10000000:=by
   have h1:(redL f n (L.take i)).length≤(L.take i).length:=List.length_filter_le _ _
   simp at h1;omega
  refine ev_go _ (fun k=>?_) (reduction_l1 hn a b (by omega) hb L i (by omega) _ n 0 true _ (by omega) hlen ih)
  simp only [impl_reduction.l0];rw [if_pos (by omega),if_pos (by omega),if_pos (by omega),hr,tbl_length]
  rfl
theorem redL_mem {n:Nat} {f:BF} {p:A2} : p ∈ redL f n (pis f n n 0) ↔ ∃ a b,a<n∧b<n∧f a b=true∧(∀ x,x<n→¬ (f a x=true∧f x b=true))∧p=⟨(a:Int),(b:Int)⟩:=by
 unfold redL
 rw [List.mem_filter,pis_mem,dirR_true]
 constructor
 ·rintro ⟨⟨a,b,_,h1,h2,h3,e⟩,_,h4⟩
  subst e
  exact ⟨a,b,by omega,h2,h3,fun x hx=>by have:=h4 x (by omega) (by omega);simpa using this,rfl⟩
 ·rintro ⟨a,b,h1,h2,h3,h4,e⟩
  subst e
  exact ⟨⟨a,b,by omega,by omega,h2,h3,rfl⟩,rfl,fun x _ hx=>by have:=h4 x (by omega);simpa using this⟩

/-- A job whose tail is the greatest behind another is behind it at once. -/
theorem red_best (jobs:List J) (hj:JobsOk jobs) {f:BF} (hp:PreF jobs.length f) {i j:Nat} (hi:i<jobs.length) (hj2:j<jobs.length) (hf:f i j=true) (hmax:TL jobs f i≤tmF jobs i + TL jobs f j):(⟨(i:Int),(j:Int)⟩:A2) ∈ redL f jobs.length (pis f jobs.length jobs.length 0):=by
 rw [redL_mem]
 refine ⟨i,j,hi,hj2,hf,fun x hx h=>?_,rfl⟩
 have e1:=TL_eq jobs hp i hi
 have g1:=(bestB_ge f (TL jobs f) i (List.range jobs.length) 0).2 x (List.mem_range.2 hx) h.1
 have e2:=TL_eq jobs hp x hx
 have g2:=(bestB_ge f (TL jobs f) x (List.range jobs.length) 0).2 j (List.mem_range.2 hj2) h.2
 have p:=TL_pos jobs hj hp x hx
 omega
def behF (tails:List Int) (i:Nat):List A2→Int→Int
 | [],s=>s
 | p::ps,s=>behF tails i ps (if p.f0=(i:Int)∧rd tails p.f1>s then rd tails p.f1 else s)
theorem behF_ge (tails:List Int) (i:Nat):∀ (R:List A2) (s:Int),s≤behF tails i R s∧∀ p ∈ R,p.f0=(i:Int)→rd tails p.f1≤behF tails i R s
 | [],s=>⟨Int.le_refl _,by simp⟩
 | p::R,s=>by
  rw [behF]
  have ih:=behF_ge tails i R (if p.f0=(i:Int)∧rd tails p.f1>s then rd tails p.f1 else s)
  refine ⟨?_,fun x hx hx0=>?_⟩
  ·have:=ih.1;split at this <;> omega
  ·rcases List.mem_cons.1 hx with e|hx
   ·subst e
    have h1:=ih.1
    by_cases c:rd tails x.f1>s
    ·rw [if_pos ⟨hx0,c⟩] at h1 ⊢;exact h1
    ·rw [if_neg (fun h=>c h.2)] at h1 ⊢;omega
   ·exact ih.2 x hx hx0
theorem behF_at (tails:List Int) (i:Nat):∀ (R:List A2) (s:Int),behF tails i R s=s∨∃ p,p ∈ R∧p.f0=(i:Int)∧behF tails i R s=rd tails p.f1
 | [],s=>.inl rfl
 | p::R,s=>by
  rw [behF]
  rcases behF_at tails i R (if p.f0=(i:Int)∧rd tails p.f1>s then rd tails p.f1 else s) with e | ⟨x,h1,h2,h3⟩
  ·by_cases c:p.f0=(i:Int)∧rd tails p.f1>s
   ·rw [if_pos c] at e ⊢;exact .inr ⟨p,List.mem_cons_self,c.1,e⟩
   ·rw [if_neg c] at e ⊢;exact .inl e
  ·exact .inr ⟨x,List.mem_cons_of_mem _ h1,h2,h3⟩
theorem beh_eq (jobs:List J) (hj:JobsOk jobs) {f:BF} (hp:PreF jobs.length f) {i:Nat} (hi:i<jobs.length):TL jobs f i=tmF jobs i + behF (tailsL jobs f) i (redL f jobs.length (pis f jobs.length jobs.length 0)) 0:=by
 have e1:=TL_eq jobs hp i hi
 have g:=bestB_ge f (TL jobs f) i (List.range jobs.length) 0
 have hb:=behF_ge (tailsL jobs f) i (redL f jobs.length (pis f jobs.length jobs.length 0)) 0
 have up:behF (tailsL jobs f) i (redL f jobs.length (pis f jobs.length jobs.length 0)) 0≤bestB f (TL jobs f) i (List.range jobs.length) 0:=by
  rcases behF_at (tailsL jobs f) i (redL f jobs.length (pis f jobs.length jobs.length 0)) 0 with e | ⟨p,h1,h2,h3⟩
  ·rw [e];exact g.1
  ·obtain ⟨a,b,ha,hb2,hf,_,rfl⟩:=redL_mem.1 h1
   rw [h3]
   show rd (tailsL jobs f) (b:Int)≤_
   rw [tailsL_rd jobs f hb2]
   have:a=i:=by have:(a:Int)=(i:Int):=h2;omega
   subst this
   exact g.2 b (List.mem_range.2 hb2) hf
 have dn:bestB f (TL jobs f) i (List.range jobs.length) 0≤behF (tailsL jobs f) i (redL f jobs.length (pis f jobs.length jobs.length 0)) 0:=by
  rcases bestB_at f (TL jobs f) i (List.range jobs.length) 0 with e | ⟨m,hm,hf,e⟩
  ·rw [e];exact hb.1
  ·have hm2:=List.mem_range.1 hm
   have h1:=red_best jobs hj hp hi hm2 hf (by omega)
   have h2:=hb.2 _ h1 rfl
   rw [show (⟨(i:Int),(m:Int)⟩:A2).f1=(m:Int) from rfl,tailsL_rd jobs f hm2] at h2
   omega
 omega
theorem chain_pair (jobs:List J) (f:BF):∀ (r:List Int) (want:Int),ChainP jobs f r want→∀ i,(h:i + 1<r.length)→(0≤r[i]∧r[i]<(jobs.length:Int))∧(0≤r[i + 1]∧r[i + 1]<(jobs.length:Int))∧f r[i].toNat r[i + 1].toNat=true∧TL jobs f r[i + 1].toNat=TL jobs f r[i].toNat - tmF jobs r[i].toNat
 | [],_,_,i,h=>by simp at h
 | [x],_,_,i,h=>by simp at h
 | x::y::ys,want,hc,i,h=>by
  obtain ⟨h1,h2,h3,h4⟩:=hc
  cases i with
  | zero=>
   have h4':=h4
   obtain ⟨h5,h6,_,_⟩:=h4'
   exact ⟨h1,h5,h3,by rw [show (x::y::ys)[0 + 1]=y from rfl,show (x::y::ys)[0]=x from rfl,h6,h2]⟩
  | succ i=>exact chain_pair jobs f (y::ys) _ h4 i (by simpa using h)
def sumT (jobs:List J):List Int→Int
 | []=>0
 | x::xs=>tmF jobs x.toNat + sumT jobs xs
theorem chain_sum (jobs:List J) (f:BF):∀ (r:List Int) (want:Int),ChainP jobs f r want→r≠[]→sumT jobs r=want
 | [],_,_,h=>absurd rfl h
 | [x],want,hc,_=>by
  obtain ⟨_,_,h3,_⟩:=hc
  have h3':want - tmF jobs x.toNat=0:=h3
  simp only [sumT];omega
 | x::y::ys,want,hc,_=>by
  obtain ⟨_,_,_,h4⟩:=hc
  have:=chain_sum jobs f (y::ys) _ h4 (by simp)
  rw [sumT,this];omega
theorem chain_in (jobs:List J) (f:BF):∀ (r:List Int) (want:Int),ChainP jobs f r want→∀ x ∈ r,0≤x∧x<(jobs.length:Int)
 | [],_,_,_,h=>by simp at h
 | x::xs,_,hc,y,h=>by
  obtain ⟨h1,_,_,h4⟩:=hc
  rcases List.mem_cons.1 h with e|h
  ·rw [e];exact h1
  ·exact chain_in jobs f xs _ h4 y h
theorem tm_in (jobs:List J) (hj:JobsOk jobs) {i:Nat} (hi:i<jobs.length):1≤tmF jobs i∧tmF jobs i≤50:=by unfold tmF;rw [rdJ hi];exact (hj.2 _ (List.getElem_mem hi)).1
theorem laws_vTimes.ev (jobs:List J) (hj:JobsOk jobs) (r:List Int) (hr:r.length≤1000) (hin:∀ x ∈ r,0≤x∧x<(jobs.length:Int)):Ev (fun k=>laws_vTimes.f k jobs r) (sumT jobs r):=by
 have key:=rev_ind (P:=fun i=>∀ s:Int,0≤s→s≤50 * (i:Int)→Ev (fun k=>laws_vTimes.l0 k jobs r s (i:Int)) (s + sumT jobs (r.drop i))) r.length ?_ ?_ 0 (Nat.zero_le _) 0 (by omega) (by omega)
 ·simpa [laws_vTimes.f] using key
 ·intro s _ _
  refine ev_stop fun k=>?_
  simp only [laws_vTimes.l0];rw [if_neg (by omega),List.drop_length,sumT,Int.add_zero]
 ·intro i hi ih s h0 h1
  have hx:=hin r[i] (List.getElem_mem hi)
  have ht:=tm_in jobs hj (show r[i].toNat<jobs.length by omega)
  have e:(rd_T47 jobs (rd r (i:Int))).f0=tmF jobs r[i].toNat:=by rw [rd_nat hi,tmF,Int.toNat_of_nonneg hx.1]
  rw [drop_cons hi,sumT,←Int.add_assoc]
  refine ev_go _ (fun k=>?_) (ih (s + tmF jobs r[i].toNat) (by omega) (by omega))
  simp only [laws_vTimes.l0];rw [if_pos (by omega),if_pos (by omega),if_pos (by rw [rd_nat hi];exact hx.1),if_pos (by rw [rd_nat hi];exact hx.2),e,wr (x:=s + tmF jobs r[i].toNat) (by omega) (by omega),wr1 (by omega)]

end Go.Proofs.Ytplbabjigikgjaa.Pure
-- minified
