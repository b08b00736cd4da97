/- Proved here: what functions that the law FnLongestFirst reaches answer (listLS, permsAll, ruledGap, slotsP, sumsN, lptBound, totBounds, bstP, planLSP, loadP, isPlanEv, natP, bestP, freeP, totalP, lptP, laws_vTasks). Conditions: those that each theorem names. -/
import Derived.Test.YtkolecmpncaooaaQFnLongestFirsta
set_option linter.unusedVariables false
set_option linter.unusedSimpArgs false
namespace Go.Proofs.Ytkolecmpncaooaa.Pure
open Go.RowKit Go.Proofs.Ytkolecmpncaooaa.XFnLongestFirst Go.Proofs.YtkolecmpncaooaaW.PrintWords Go.Proofs.YtkolecmpncaooaaW.PrintLast
theorem ev_uniq {α:Type} {g:Nat->Option α} {r r':α} (h:Ev g r) (h':Ev g r'):r=r':=by
 obtain ⟨a,ha⟩:=h
 obtain ⟨b,hb⟩:=h'
 have h1:=ha (a + b) (by omega)
 have h2:=hb (a + b) (by omega)
 rw [h1] at h2
 exact Option.some.inj h2
/-- the place of a number in a list -/
def posN:List Int->Int->Nat
 | [],_=>0
 | a::l,x=>if a=x then 0 else posN l x + 1
theorem posN_find {p:Int->Bool} : ∀ (l:List Int) (i j:Int),l.find? p=some i->p j=true->j ∈ l->posN l i<=posN l j
 | [],_,_,h,_,_=>by cases h
 | a::l,i,j,h,hj,hm=>by
  rw [List.find?_cons] at h
  by_cases c:p a=true
  ·rw [c] at h
   injection h with h
   subst h
   rw [posN,if_pos rfl];omega
  ·have c':p a=false:=by simpa using c
   rw [c'] at h
   have hi:=List.find?_some h
   have ne1:a≠i:=fun e=>by rw [e] at c;exact c hi
   have ne2:a≠j:=fun e=>by rw [e] at c;exact c hj
   have hm2:j ∈ l:=(List.mem_cons.1 hm).resolve_left (fun e=>ne2 e.symm)
   have:=posN_find l i j h hj hm2
   rw [posN,posN,if_neg ne1,if_neg ne2];omega
theorem posN_inj:∀ (l:List Int) (i j:Int),i ∈ l->j ∈ l->posN l i=posN l j->i=j
 | [],_,_,h,_,_=>by cases h
 | a::l,i,j,hi,hj,h=>by
  rw [posN,posN] at h
  by_cases e1:a=i
  ·by_cases e2:a=j
   ·rw [<-e1,e2]
   ·rw [if_pos e1,if_neg e2] at h;omega
  ·by_cases e2:a=j
   ·rw [if_neg e1,if_pos e2] at h;omega
   ·rw [if_neg e1,if_neg e2] at h
    exact posN_inj l i j ((List.mem_cons.1 hi).resolve_left (fun e=>e1 e.symm)) ((List.mem_cons.1 hj).resolve_left (fun e=>e2 e.symm)) (by omega)
theorem posN_lt:∀ (l:List Int) (i:Int),i ∈ l->posN l i<l.length
 | [],_,h=>by cases h
 | a::l,i,h=>by
  rw [posN]
  by_cases e:a=i
  ·rw [if_pos e];simp
  ·rw [if_neg e]
   have:=posN_lt l i ((List.mem_cons.1 h).resolve_left (fun h=>e h.symm))
   simp only [List.length_cons];omega
def tS (r:List PTask) (j:Nat):Int:=(rd_T40 r (j:Int)).f2
def tM (r:List PTask) (j:Nat):Int:=(rd_T40 r (j:Int)).f1
/-- What a list plan is. -/
structure LSd (jobs:List J) (f:BF) (order:List Int) (m:Nat) (r:List PTask):Prop where
 mach:∀ j,j<jobs.length->0<=tM r j/\tM r j<(m:Int)
 prec:∀ k j,k<jobs.length->j<jobs.length->f k j=true->tS r k + tmI jobs (k:Int)<=tS r j
 apart:∀ i k,i<jobs.length->k<jobs.length->i≠k->tM r i=tM r k->tS r i + tmI jobs (i:Int)<=tS r k\/tS r k + tmI jobs (k:Int)<=tS r i
 prio:∀ i j,i<jobs.length->j<jobs.length->i≠j->(tS r i<tS r j\/(tS r i=tS r j/\tM r i<tM r j))->(∀ k,k<jobs.length->f k j=true->tS r k + tmI jobs (k:Int)<=tS r i)->posN order (i:Int)<posN order (j:Int)
 busy:∀ j,j<jobs.length->∀ t:Int,0<=t->t<tS r j->(∀ k,k<jobs.length->f k j=true->tS r k + tmI jobs (k:Int)<=t)->∀ q:Nat,q<m->∃ i,i<jobs.length/\tM r i=(q:Int)/\tS r i<=t/\t<tS r i + tmI jobs (i:Int)
def Std (s:SpS) (j:Nat):Prop:=0<=rd s.ends (j:Int)
def RdyAt (n:Nat) (f:BF) (s:SpS) (j:Nat) (t:Int):Prop:=∀ k,k<n->f k j=true->Std s k/\rd s.ends (k:Int)<=t
structure LI (jobs:List J) (f:BF) (order:List Int) (m:Nat) (now:Int) (mm:Nat) (s:SpS):Prop where
 a:∀ j,j<jobs.length->Std s j->tS s.plan j<=now/\(0<=tM s.plan j/\tM s.plan j<(m:Int))/\(tS s.plan j=now->tM s.plan j<(mm:Int))
 b:∀ k j,k<jobs.length->j<jobs.length->Std s j->f k j=true->Std s k/\rd s.ends (k:Int)<=tS s.plan j
 c:∀ i k,i<jobs.length->k<jobs.length->i≠k->Std s i->Std s k->tM s.plan i=tM s.plan k->rd s.ends (i:Int)<=tS s.plan k\/rd s.ends (k:Int)<=tS s.plan i
 d:∀ q:Nat,q<m->(∀ j,j<jobs.length->Std s j->tM s.plan j=(q:Int)->rd s.ends (j:Int)<=rd s.free (q:Int))/\(rd s.free (q:Int)=0\/∃ j,j<jobs.length/\Std s j/\tM s.plan j=(q:Int)/\rd s.free (q:Int)=rd s.ends (j:Int))
 e:∀ i j,i<jobs.length->j<jobs.length->i≠j->Std s i->(¬ Std s j\/tS s.plan i<tS s.plan j\/(tS s.plan i=tS s.plan j/\tM s.plan i<tM s.plan j))->RdyAt jobs.length f s j (tS s.plan i)->posN order (i:Int)<posN order (j:Int)
 g:∀ j,j<jobs.length->∀ t:Int,0<=t->t<now->(¬ Std s j\/t<tS s.plan j)->RdyAt jobs.length f s j t->∀ q:Nat,q<m->∃ i,i<jobs.length/\Std s i/\tM s.plan i=(q:Int)/\tS s.plan i<=t/\t<rd s.ends (i:Int)
theorem spRdy_iff {n:Nat} {f:BF} {s:SpS} {now:Int} {j:Nat} : spRdy n f s.ends now (j:Int)=true ↔ ¬ Std s j/\RdyAt n f s j now:=by
 unfold spRdy Std RdyAt Std
 rw [Bool.and_eq_true,decide_eq_true_eq,List.all_eq_true]
 simp only [List.mem_range,Bool.or_eq_true,Bool.not_eq_true',Bool.and_eq_true,decide_eq_true_eq,Int.toNat_natCast]
 constructor
 ·rintro ⟨h1,h2⟩
  refine ⟨by omega,fun k hk hf=>?_⟩
  rcases h2 k hk with h|h
  ·rw [hf] at h;cases h
  ·exact h
 ·rintro ⟨h1,h2⟩
  refine ⟨by omega,fun k hk=>?_⟩
  cases hf:f k j with
  | false=>exact .inl rfl
  | true=>exact .inr (h2 k hk hf)
theorem LI.step {jobs:List J} (hj:JobsOk jobs) {f:BF} {order:List Int} (ho:IsPerm jobs.length order) {m:Nat} {now:Int} {s:SpS} (hI:SpInv jobs m now s) {mm:Nat} (hm:mm<m) (h:LI jobs f order m now mm s):LI jobs f order m now (mm + 1) (spStep jobs f order now s mm):=by
 have same:LI jobs f order m now (mm + 1) s:=⟨fun j hj hs=>by have:=h.a j hj hs;exact ⟨this.1,this.2.1,fun e=>by have:=this.2.2 e;omega⟩,h.b,h.c,h.d,h.e,h.g⟩
 unfold spStep
 split
 ·rename_i hle
  cases hf:order.find? (spRdy jobs.length f s.ends now) with
  | none=>exact same
  | some x=>
   have hxm:=List.mem_of_find?_eq_some hf
   have hxi:=ho.2.2 x hxm
   obtain ⟨i,rfl⟩:=Int.eq_ofNat_of_zero_le hxi.1
   have hi:i<jobs.length:=by omega
   have htm:=tmI_in hj hxi.1 hxi.2
   have hrdy:=List.find?_some hf
   obtain ⟨hns,hrd⟩:=spRdy_iff.1 hrdy
   have l1:=hI.lens.1
   have l2:=hI.lens.2.1
   have l3:=hI.lens.2.2
   have h0:=hI.now0
   have eE:∀ j,j<jobs.length->rd (s.ends.set i (now + tmI jobs (i:Int))) (j:Int)=if i=j then now + tmI jobs (i:Int) else rd s.ends (j:Int):=fun j hj=>rd_setI (by omega) (by omega) _
   have eP:∀ j,j<jobs.length->rd_T40 (s.plan.set i ⟨(i:Int),(mm:Int),now⟩) (j:Int)=if i=j then ⟨(i:Int),(mm:Int),now⟩ else rd_T40 s.plan (j:Int):=fun j hj=>rdT_set (by omega) (by omega) _
   have eF:∀ q,q<m->rd (s.free.set mm (now + tmI jobs (i:Int))) (q:Int)=if mm=q then now + tmI jobs (i:Int) else rd s.free (q:Int):=fun q hq=>rd_setI (by omega) (by omega) _
   simp only [Int.toNat_natCast]
   generalize hs':(⟨s.plan.set i ⟨(i:Int),(mm:Int),now⟩,s.ends.set i (now + tmI jobs (i:Int)),s.free.set mm (now + tmI jobs (i:Int)),s.left - 1⟩:SpS)=s'
   have q1:∀ j,j<jobs.length->rd s'.ends (j:Int)=if i=j then now + tmI jobs (i:Int) else rd s.ends (j:Int):=fun j hj=>by rw [<-hs'];exact eE j hj
   have q2:∀ j,j<jobs.length->tS s'.plan j=if i=j then now else tS s.plan j:=fun j hj=>by
    rw [<-hs'];unfold tS;rw [eP j hj];split <;> rfl
   have q3:∀ j,j<jobs.length->tM s'.plan j=if i=j then (mm:Int) else tM s.plan j:=fun j hj=>by
    rw [<-hs'];unfold tM;rw [eP j hj];split <;> rfl
   have q4:∀ q,q<m->rd s'.free (q:Int)=if mm=q then now + tmI jobs (i:Int) else rd s.free (q:Int):=fun q hq=>by rw [<-hs'];exact eF q hq
   have hfind:=hf
   clear hs' eE eP eF hf hrdy
   have sNew:Std s' i:=by unfold Std;rw [q1 i hi,if_pos rfl];omega
   have sOld:∀ j,j<jobs.length->i≠j->(Std s' j ↔ Std s j):=fun j hj hne=>by unfold Std;rw [q1 j hj,if_neg hne]
   have rOld:∀ j t,j<jobs.length->t<=now->RdyAt jobs.length f s' j t->RdyAt jobs.length f s j t/\f i j=false:=fun j t hj ht hr=>by
    have hfi:f i j=false:=by
     refine Bool.eq_false_iff.2 fun hf=>?_
     have:=(hr i hi hf).2
     rw [q1 i hi,if_pos rfl] at this;omega
    refine ⟨fun k hk hf=>?_,hfi⟩
    have hne:i≠k:=fun e=>by subst e;rw [hf] at hfi;cases hfi
    have:=hr k hk hf
    rw [sOld k hk hne,q1 k hk,if_neg hne] at this
    exact this
   refine ⟨fun j hj hs=>?_,fun k j hk hj hs hf=>?_,fun x y hx hy hne hsx hsy hM=>?_,fun q hq=>?_,fun x y hx hy hne hsx hc hr=>?_,fun j hj t ht0 ht hc hr q hq=>?_⟩
   ·by_cases e:i=j
    ·rw [q2 j hj,q3 j hj,if_pos e,if_pos e]
     exact ⟨Int.le_refl _,by omega,fun _=>by omega⟩
    ·have:=h.a j hj ((sOld j hj e).1 hs)
     rw [q2 j hj,q3 j hj,if_neg e,if_neg e]
     exact ⟨this.1,this.2.1,fun e2=>by have:=this.2.2 e2;omega⟩
   ·by_cases e:i=j
    ·subst e
     have hr:=hrd k hk hf
     have hne:i≠k:=fun e=>by subst e;exact hns hr.1
     rw [sOld k hk hne,q1 k hk,if_neg hne,q2 i hi,if_pos rfl]
     exact hr
    ·have hr:=h.b k j hk hj ((sOld j hj e).1 hs) hf
     have hne:i≠k:=fun e=>by subst e;exact hns hr.1
     rw [sOld k hk hne,q1 k hk,if_neg hne,q2 j hj,if_neg e]
     exact hr
   ·by_cases e1:i=x
    ·have e2:i≠y:=fun e=>hne (e1.symm.trans e)
     right
     rw [q3 x hx,q3 y hy,if_pos e1,if_neg e2] at hM
     rw [q1 y hy,if_neg e2,q2 x hx,if_pos e1]
     have:=(h.d mm hm).1 y hy ((sOld y hy e2).1 hsy) hM.symm
     omega
    ·by_cases e2:i=y
     ·left
      rw [q3 x hx,q3 y hy,if_neg e1,if_pos e2] at hM
      rw [q1 x hx,if_neg e1,q2 y hy,if_pos e2]
      have:=(h.d mm hm).1 x hx ((sOld x hx e1).1 hsx) hM
      omega
     ·rw [q3 x hx,q3 y hy,if_neg e1,if_neg e2] at hM
      rw [q1 x hx,q1 y hy,q2 x hx,q2 y hy,if_neg e1,if_neg e2,if_neg e1,if_neg e2]
      exact h.c x y hx hy hne ((sOld x hx e1).1 hsx) ((sOld y hy e2).1 hsy) hM
   ·obtain ⟨d1,d2⟩:=h.d q hq
    rw [q4 q hq]
    by_cases e:mm=q
    ·subst e
     rw [if_pos rfl]
     refine ⟨fun j hj hs hM=>?_,.inr ⟨i,hi,sNew,by rw [q3 i hi,if_pos rfl],by rw [q1 i hi,if_pos rfl]⟩⟩
     rw [q1 j hj]
     by_cases e2:i=j
     ·rw [if_pos e2];exact Int.le_refl _
     ·rw [if_neg e2]
      rw [q3 j hj,if_neg e2] at hM
      have:=d1 j hj ((sOld j hj e2).1 hs) hM
      omega
    ·rw [if_neg e]
     refine ⟨fun j hj hs hM=>?_,?_⟩
     ·by_cases e2:i=j
      ·rw [q3 j hj,if_pos e2] at hM;omega
      ·rw [q3 j hj,if_neg e2] at hM
       rw [q1 j hj,if_neg e2]
       exact d1 j hj ((sOld j hj e2).1 hs) hM
     ·rcases d2 with d2 | ⟨j,hj,hs,hM,he⟩
      ·exact .inl d2
      ·have e2:i≠j:=fun e=>by subst e;exact hns hs
       exact .inr ⟨j,hj,(sOld j hj e2).2 hs,by rw [q3 j hj,if_neg e2];exact hM,by rw [q1 j hj,if_neg e2];exact he⟩
   ·by_cases e1:i=x
    ·have e2:i≠y:=fun e=>hne (e1.symm.trans e)
     rw [q2 x hx,if_pos e1] at hr hc
     rw [q2 y hy,q3 x hx,q3 y hy,if_neg e2,if_pos e1,if_neg e2,sOld y hy e2] at hc
     have hns2:¬ Std s y:=fun hs=>by
      have:=h.a y hy hs
      rcases hc with hc|hc|hc
      ·exact hc hs
      ·omega
      ·have:=this.2.2 hc.1.symm;omega
     have hr2:=(rOld y now hy (Int.le_refl _) hr).1
     have hin:(y:Int) ∈ order:=ho.all (y:Int) (by omega) (by omega)
     rw [<-e1]
     have h1:=posN_find order (i:Int) (y:Int) hfind (spRdy_iff.2 ⟨hns2,hr2⟩) hin
     have h2:posN order (i:Int)≠posN order (y:Int):=fun e=>e2 (by have:=posN_inj order _ _ hxm hin e;omega)
     omega
    ·have hsx2:=(sOld x hx e1).1 hsx
     have hax:=h.a x hx hsx2
     rw [q2 x hx,if_neg e1] at hr hc
     have hr2:=(rOld y _ hy hax.1 hr).1
     refine h.e x y hx hy hne hsx2 ?_ hr2
     by_cases e2:i=y
     ·subst e2;exact .inl hns
     ·rw [q2 y hy,q3 x hx,q3 y hy,if_neg e1,if_neg e2,if_neg e2,sOld y hy e2] at hc
      exact hc
   ·have hr2:=(rOld j t hj (by omega) hr).1
    have hc2:¬ Std s j\/t<tS s.plan j:=by
     by_cases e2:i=j
     ·subst e2;exact .inl hns
     ·rw [q2 j hj,if_neg e2,sOld j hj e2] at hc;exact hc
    obtain ⟨x,hx,hsx,hMx,h1,h2⟩:=h.g j hj t ht0 ht hc2 hr2 q hq
    have e1:i≠x:=fun e=>by subst e;exact hns hsx
    exact ⟨x,hx,(sOld x hx e1).2 hsx,by rw [q3 x hx,if_neg e1];exact hMx,by rw [q2 x hx,if_neg e1];exact h1,by rw [q1 x hx,if_neg e1];exact h2⟩
 ·exact same
theorem LI.run {jobs:List J} (hj:JobsOk jobs) {f:BF} {order:List Int} (ho:IsPerm jobs.length order) {m:Nat} {now:Int} : ∀ (c mm:Nat) (s:SpS),mm + c=m->SpInv jobs m now s->LI jobs f order m now mm s->LI jobs f order m now m (spRun jobs f order now c mm s)
 | 0,mm,s,hc,_,h=>by obtain rfl:mm=m:=(by omega);exact h
 | c + 1,mm,s,hc,hI,h=>LI.run hj ho c (mm + 1) _ (by omega) (hI.step hj ho.2.2 (by omega)) (LI.step hj ho hI (by omega) h)
theorem LI.next {jobs:List J} {f:BF} {order:List Int} (ho:IsPerm jobs.length order) {m:Nat} {now:Int} {s:SpS} (h0:0<=now) (h:LI jobs f order m now m s) (hs:StuckTo jobs.length f order now m s):LI jobs f order m (now + 1) 0 s:=by
 refine ⟨fun j hj hst=>?_,h.b,h.c,h.d,h.e,fun j hj t ht0 ht hc hr q hq=>?_⟩
 ·have:=h.a j hj hst
  exact ⟨by omega,this.2.1,fun e=>by omega⟩
 ·by_cases e:t<now
  ·exact h.g j hj t ht0 e hc hr q hq
  ·have e2:t=now:=by omega
   subst e2
   have hns:¬ Std s j:=fun hst=>by
    have:=h.a j hj hst
    rcases hc with hc|hc
    ·exact hc hst
    ·omega
   rcases hs q hq with h1|h1
   ·rcases (h.d q hq).2 with h2 | ⟨i,hi,hsi,hMi,he⟩
    ·omega
    ·exact ⟨i,hi,hsi,hMi,(h.a i hi hsi).1,by omega⟩
   ·have:=List.find?_eq_none.1 h1 (j:Int) (ho.all (j:Int) (by omega) (by omega))
    exact absurd (spRdy_iff.2 ⟨hns,hr⟩) this
theorem LI.done {jobs:List J} {f:BF} {order:List Int} {m mm:Nat} {now:Int} {s:SpS} (hI:SpInv jobs m now s) (h:LI jobs f order m now mm s) (hz:s.left=0):LSd jobs f order m s.plan:=by
 have all:∀ j,j<jobs.length->Std s j:=fun j hj=>cntU_zero (l:=s.ends) (by have:=hI.left;omega) j (by rw [hI.lens.2.1];exact hj)
 have ee:∀ j,j<jobs.length->rd s.ends (j:Int)=tS s.plan j + tmI jobs (j:Int):=fun j hj=>((hI.ends j hj).2.2 (all j hj)).1
 refine ⟨fun j hj=>(h.a j hj (all j hj)).2.1,fun k j hk hj hf=>?_,fun i k hi hk hne hM=>?_,fun i j hi hj hne hc hr=>?_,fun j hj t ht0 ht hr q hq=>?_⟩
 ·rw [<-ee k hk];exact (h.b k j hk hj (all j hj) hf).2
 ·rw [<-ee i hi,<-ee k hk];exact h.c i k hi hk hne (all i hi) (all k hk) hM
 ·exact h.e i j hi hj hne (all i hi) (.inr hc) (fun k hk hf=>⟨all k hk,by rw [ee k hk];exact hr k hk hf⟩)
 ·obtain ⟨i,hi,hsi,hMi,h1,h2⟩:=h.g j hj t ht0 (by have:=(h.a j hj (all j hj)).1;omega) (.inr ht) (fun k hk hf=>⟨all k hk,by rw [ee k hk];exact hr k hk hf⟩) q hq
  exact ⟨i,hi,hMi,h1,by rw [<-ee i hi];exact h2⟩
theorem list_ls {jobs:List J} (hj:JobsOk jobs) {f:BF} (hp:PreF jobs.length f) {order:List Int} (ho:IsPerm jobs.length order) {m:Nat} (hm:1<=m/\m<=4):∀ (d:Nat) (now:Int) (s:SpS),SpInv jobs m now s->LI jobs f order m now 0 s->(50 * (jobs.length:Int) - now).toNat<=d->∃ r:List PTask,LSd jobs f order m r/\Ev (fun k=>impl_listPlan.l0 jobs (tbl jobs.length f) order m k (imgS s) now) r:=by
 intro d
 induction d with
 | zero=>
  intro now s h hL hd
  have h1:=h.now1
  have h2:=h.left
  refine ⟨s.plan,hL.done h (by omega),ev_stop fun k=>?_⟩
  rw [impl_listPlan.l0,if_neg (show ¬ 0<(imgS s).left by show ¬ 0<s.left;omega)];rfl
 | succ d ih=>
  intro now s h hL hd
  have h8:=hj.1
  have hor:=ho.2.2
  have h0:=h.now0
  have h1:=h.now1
  have h2:=h.left
  by_cases hl:0<s.left
  ·obtain ⟨hI,hS⟩:=spRun_all hj hor (f:=f) m 0 s (by omega) h (fun k hk=>absurd hk (by omega))
   have hL1:=LI.run hj ho (f:=f) m 0 s (by omega) h hL
   have himp:∀ r,Ev (fun k=>impl_listPlan.l0 jobs (tbl jobs.length f) order m k (imgS (spRun jobs f order now m 0 s)) (now + 1)) r->Ev (fun k=>impl_listPlan.l0 jobs (tbl jobs.length f) order m k (imgS s) now) r:=fun r hr=>by
    refine ev_go _ (fun k=>?_) hr
    rw [impl_listPlan.l0,if_pos (show 0<(imgS s).left from hl),lpRun_img hj hor m 0 s (by omega) h,wr (by omega) (by omega)]
   generalize spRun jobs f order now m 0 s=s1 at hI hS himp hL1
   by_cases hl1:0<s1.left
   ·obtain ⟨e,he,hlt⟩:=soon_there hp ho (by omega) hI hS hl1
    obtain ⟨j,hjl,hje⟩:=List.getElem_of_mem he
    have hb:=hI.ends j (by rw [<-hI.lens.2.1];exact hjl)
    rw [rd_nat hjl,hje] at hb
    obtain ⟨r,r1,r2⟩:=ih (now + 1) s1 (hI.at (by omega) (by omega)) (hL1.next ho h0 hS) (by omega)
    exact ⟨r,r1,himp r r2⟩
   ·refine ⟨s1.plan,hL1.done hI (by have:=hI.left;omega),himp _ (ev_stop fun k=>?_)⟩
    rw [impl_listPlan.l0,if_neg (show ¬ 0<(imgS s1).left from hl1)];rfl
  ·refine ⟨s.plan,hL.done h (by omega),ev_stop fun k=>?_⟩
   rw [impl_listPlan.l0,if_neg (show ¬ 0<(imgS s).left from hl)];rfl
/-- What the program's list plan is. -/
theorem planLS {jobs:List J} (hj:JobsOk jobs) {E:List A2} (hE:PrecOk (jobs.length:Int) E) {order:List Int} (ho:IsPerm jobs.length order) {m:Nat} (hm:1<=m/\m<=4) {r:List PTask} (hr:Ev (fun k=>impl_listPlan.f k jobs (m:Int) E order) r):LSd jobs (cloF jobs.length E) order m r:=by
 have h8:=hj.1
 have h28:=hE.1.2.1
 have hp:PreF jobs.length (cloF jobs.length E):=preF_of (by have:=hE.2;rwa [Int.toNat_natCast] at this)
 have hs:SpInv jobs m 0 ⟨List.replicate jobs.length z40,List.replicate jobs.length (-1),List.replicate m 0,(jobs.length:Int)⟩:=by
  refine ⟨by simp,?_,fun j hj2=>?_,fun k hk=>.inl (rd_rep m 0 k hk),by omega,?_⟩
  ·show (jobs.length:Int)=(cntU (List.replicate jobs.length (-1)):Int);rw [cntU_rep]
  ·show -1<=rd (List.replicate jobs.length (-1)) (j:Int)/\rd (List.replicate jobs.length (-1)) (j:Int)<=50 * ((jobs.length:Int) - (jobs.length:Int))/\(0<=rd (List.replicate jobs.length (-1)) (j:Int)->_)
   rw [rd_rep _ _ _ hj2]
   exact ⟨by omega,by omega,fun h=>absurd h (by omega)⟩
  ·show (0:Int)<=50 * ((jobs.length:Int) - (jobs.length:Int));omega
 have ns:∀ j,j<jobs.length->¬ Std ⟨List.replicate jobs.length z40,List.replicate jobs.length (-1),List.replicate m 0,(jobs.length:Int)⟩ j:=fun j hj2 h=>by
  unfold Std at h
  rw [rd_rep _ _ _ hj2] at h;omega
 have hL:LI jobs (cloF jobs.length E) order m 0 0 ⟨List.replicate jobs.length z40,List.replicate jobs.length (-1),List.replicate m 0,(jobs.length:Int)⟩:=
  ⟨fun j hj2 h=>absurd h (ns j hj2),fun k j hk hj2 h=>absurd h (ns j hj2),fun i k hi hk _ h=>absurd h (ns i hi),fun q hq=>⟨fun j hj2 h=>absurd h (ns j hj2),.inl (rd_rep m 0 q hq)⟩,fun i j hi hj2 _ h=>absurd h (ns i hi),fun j hj2 t h1 h2=>by omega⟩
 obtain ⟨r2,r3,r4⟩:=list_ls hj hp ho (by omega) _ 0 _ hs hL (Nat.le_refl _)
 have e:Ev (fun k=>impl_listPlan.f k jobs (m:Int) E order) r2:=by
  unfold impl_listPlan.f
  refine ev_bind _ (impl_closure.ev jobs.length E (by omega) (by omega) (PairsOk.edg hE.1.2.2)) ?_
  have hg:lpGood jobs (m:Int) (tbl jobs.length (cloF jobs.length E)) order:=by
   refine ⟨by omega,by omega,⟨tbl_length _ _,fun r hr=>?_⟩,by have:=ho.1;omega,ho.2.2⟩
   obtain ⟨i,hi,rfl⟩:=List.mem_map.1 hr
   simp
  simp only [if_pos hg]
  have e:lpStart jobs (m:Int)=imgS ⟨List.replicate jobs.length z40,List.replicate jobs.length (-1),List.replicate m 0,(jobs.length:Int)⟩:=by
   simp [lpStart,imgS]
  rw [e]
  exact r4
 rw [ev_uniq hr e]
 exact r3
theorem perms_all:∀ (n:Nat) (L l:List Int),L.length=n->L.Nodup->l.Perm L->l ∈ perms n L
 | 0,L,l,hL,_,hp=>by
  obtain rfl:=List.eq_nil_of_length_eq_zero hL
  have:=hp.eq_nil
  subst this
  simp [perms]
 | n + 1,L,l,hL,hn,hp=>by
  have hlen:=hp.length_eq
  cases l with
  | nil=>simp at hlen;omega
  | cons x t=>
   have hx:x ∈ L:=hp.subset List.mem_cons_self
   have ht:t.Perm (L.erase x):=by
    have h2:=hp.erase x
    rwa [List.erase_cons_head] at h2
   have:=perms_all n (L.erase x) t (by rw [List.length_erase_of_mem hx];omega) (hn.erase x) ht
   show x::t ∈ L.flatMap fun x=>(perms n (L.erase x)).map fun l=>x::l
   exact List.mem_flatMap.2 ⟨x,hx,List.mem_map.2 ⟨t,this,rfl⟩⟩
theorem count_nodup:∀ {l:List Int},l.Nodup->∀ a,l.count a=if a ∈ l then 1 else 0
 | [],_,a=>by simp
 | b::l,h,a=>by
  have h':=List.nodup_cons.1 h
  rw [List.count_cons,count_nodup h'.2]
  by_cases e:b=a
  ·subst e
   simp [h'.1]
  ·have e':¬ a=b:=fun h2=>e h2.symm
   simp [e,e']
theorem isPerm_perms {n:Nat} {l:List Int} (h:IsPerm n l):l ∈ perms n (nums_to n):=by
 refine perms_all n _ l (nums_to_length n) (nums_to_nodup n) ?_
 have h1:l.Perm (nums_to n):=by
  rw [List.perm_iff_count]
  intro a
  have c1:=count_nodup h.2.1 a
  have c2:=count_nodup (nums_to_nodup n) a
  rw [c1,c2]
  have:a ∈ l ↔ a ∈ nums_to n:=⟨fun h2=>mem_nums_to.2 (h.2.2 a h2),fun h2=>h.all a (mem_nums_to.1 h2).1 (mem_nums_to.1 h2).2⟩
  simp [this]
 exact h1
theorem gap_pre {jobs:List J} (hj:JobsOk jobs) (a:Int):Pre (gapLt jobs a) (fun y=>0<=y/\y<(jobs.length:Int)):=by
 have at_:∀ x:Int,0<=x/\x<(jobs.length:Int)->1<=(rd_T31 jobs x).f0/\0<=(rd_T31 jobs x).f1:=fun x hx=>by
  rw [rdJ_int hx.1 hx.2]
  have:=hj.2 _ (List.getElem_mem (show x.toNat<jobs.length by omega))
  exact ⟨this.1.1,this.2.1.1⟩
 refine ⟨fun x y z hx hy hz h1 h2=>?_,fun x y hx hy h1=>?_⟩
 ·have h1:=of_decide_eq_false h1
  have h2:=of_decide_eq_false h2
  refine decide_eq_false ?_
  unfold gapF at *
  by_cases a1:a=1
  ·rw [if_pos a1] at *;omega
  by_cases a2:a=2
  ·rw [if_neg a1,if_pos a2] at *;omega
  by_cases a3:a=3
  ·rw [if_neg a1,if_neg a2,if_pos a3] at *
   have k1:=at_ x hx
   have k2:=at_ y hy
   have k3:=at_ z hz
   generalize (rd_T31 jobs x).f0=ta at *
   generalize (rd_T31 jobs x).f1=wa at *
   generalize (rd_T31 jobs y).f0=tb at *
   generalize (rd_T31 jobs y).f1=wb at *
   generalize (rd_T31 jobs z).f0=tc at *
   generalize (rd_T31 jobs z).f1=wc at *
   have q1':ta * wb<=tb * wa:=by omega
   have q2':tb * wc<=tc * wb:=by omega
   have m1:=Int.mul_le_mul_of_nonneg_left q2' (show 0<=ta by omega)
   have m2:=Int.mul_le_mul_of_nonneg_left q1' (show 0<=tc by omega)
   have e1:ta * (tb * wc)=tb * (ta * wc):=by rw [<-Int.mul_assoc,Int.mul_comm ta tb,Int.mul_assoc]
   have e2:ta * (tc * wb)=tc * (ta * wb):=by rw [<-Int.mul_assoc,Int.mul_comm ta tc,Int.mul_assoc]
   have e3:tc * (tb * wa)=tb * (tc * wa):=by rw [<-Int.mul_assoc,Int.mul_comm tc tb,Int.mul_assoc]
   have m3:tb * (ta * wc)<=tb * (tc * wa):=by rw [<-e1,<-e3];exact Int.le_trans m1 (by rw [e2];exact m2)
   have m4:=Int.le_of_mul_le_mul_left m3 (by omega)
   omega
  ·rw [if_neg a1,if_neg a2,if_neg a3] at *;omega
 ·have h1:=of_decide_eq_true h1
  refine decide_eq_false ?_
  rw [gapF_neg];omega
theorem diff_gap {jobs:List J} (hj:JobsOk jobs) (a:Int) {x y:Int} (hx:0<=x/\x<(jobs.length:Int)) (hy:0<=y/\y<(jobs.length:Int)):diffO jobs a x y=some (gapF a (rd_T31 jobs x) (rd_T31 jobs y)):=by
 unfold diffO
 have k1:=hj.2 _ (List.getElem_mem (show x.toNat<jobs.length by omega))
 have k2:=hj.2 _ (List.getElem_mem (show y.toNat<jobs.length by omega))
 rw [<-rdJ_int hx.1 hx.2] at k1
 rw [<-rdJ_int hy.1 hy.2] at k2
 exact impl_difference.eq _ _ a k1 k2
theorem impl_ruledOrder.gap {jobs:List J} (hj:JobsOk jobs) (a:Int):Ev (fun k=>impl_ruledOrder.f k jobs a) (sortN (gapLt jobs a) jobs.length):=by
 have h8:=hj.1
 unfold impl_ruledOrder.f
 refine ev_bind _ (impl_numbersTo.ev jobs.length (by omega)) ?_
 rw [if_pos ⟨by rw [nums_to_length];omega,fun x hx=>mem_nums_to.1 hx,fun x hx y hy=>by rw [diff_gap hj a (mem_nums_to.1 hx) (mem_nums_to.1 hy)];rfl⟩]
 have e:insAll (ruledLt jobs a) (nums_to jobs.length) []=sortN (gapLt jobs a) jobs.length:=by
  unfold sortN
  refine insAll_congr (P:=fun x=>0<=x/\x<(jobs.length:Int)) (fun x y hx hy=>?_) _ _ (fun y hy=>mem_nums_to.1 hy) (fun y hy=>by cases hy)
  unfold ruledLt gapLt
  rw [diff_gap hj a hx hy,Option.getD_some,gapF_neg]
  exact decide_eq_decide.2 (by omega)
 rw [e]
 exact Ev.now _
theorem cnt_inj (g:Nat->Nat):∀ (l s:List Nat),l.Nodup->(∀ x ∈ l,g x ∈ s)->(∀ x ∈ l,∀ y ∈ l,g x=g y->x=y)->l.length<=s.length:=by
 intro l
 induction l with
 | nil=>intro s _ _ _;simp
 | cons a l ih=>
  intro s hn hm hi
  have hn':=List.nodup_cons.1 hn
  have ha:=hm a List.mem_cons_self
  have:=ih (s.erase (g a)) hn'.2 (fun x hx=>by
   have hne:g x≠g a:=fun e=>by
    have:=hi x (List.mem_cons_of_mem _ hx) a List.mem_cons_self e
    subst this;exact hn'.1 hx
   exact (List.mem_erase_of_ne hne).2 (hm x (List.mem_cons_of_mem _ hx))) (fun x hx y hy=>hi x (List.mem_cons_of_mem _ hx) y (List.mem_cons_of_mem _ hy))
  rw [List.length_erase_of_mem ha] at this
  have hp:0<s.length:=List.length_pos_of_mem ha
  simp only [List.length_cons];omega
/-- jobs below n with a mark -/
def selN (n:Nat) (q:Nat->Bool):List Nat:=(List.range n).filter q
theorem selN_nodup (n:Nat) (q:Nat->Bool):(selN n q).Nodup:=List.Pairwise.filter _ List.nodup_range
theorem mem_selN {n:Nat} {q:Nat->Bool} {x:Nat} : x ∈ selN n q ↔ x<n/\q x=true:=by simp [selN]
theorem selN_sub {n:Nat} {q r:Nat->Bool} (h:∀ x,x<n->q x=true->r x=true):(selN n q).length<=(selN n r).length:=
 cnt_inj id _ _ (selN_nodup n q) (fun x hx=>by have:=mem_selN.1 hx;exact mem_selN.2 ⟨this.1,h x this.1 this.2⟩) (fun _ _ _ _ e=>e)
theorem selN_or {n:Nat} {q r s:Nat->Bool} (h:∀ x,x<n->q x=true->r x=true\/s x=true):(selN n q).length<=(selN n r).length + (selN n s).length:=by
 rw [<-List.length_append]
 refine cnt_inj id _ _ (selN_nodup n q) (fun x hx=>?_) (fun _ _ _ _ e=>e)
 have:=mem_selN.1 hx
 rw [List.mem_append]
 rcases h x this.1 this.2 with h|h
 ·exact .inl (mem_selN.2 ⟨this.1,h⟩)
 ·exact .inr (mem_selN.2 ⟨this.1,h⟩)
theorem selN_add {n:Nat} {q r s:Nat->Bool} (h:∀ x,x<n->(r x=true->q x=true)/\(s x=true->q x=true/\r x=false)):(selN n r).length + (selN n s).length<=(selN n q).length:=by
 have e:(selN n q).length=((selN n q).filter r).length + ((selN n q).filter (fun x=> !r x)).length:=by
  rw [<-List.countP_eq_length_filter,<-List.countP_eq_length_filter]
  have:=List.length_eq_countP_add_countP r (l:=selN n q)
  simpa using this
 rw [e]
 refine Nat.add_le_add ?_ ?_
 ·refine cnt_inj id _ _ (selN_nodup n r) (fun x hx=>?_) (fun _ _ _ _ e=>e)
  have:=mem_selN.1 hx
  exact List.mem_filter.2 ⟨mem_selN.2 ⟨this.1,(h x this.1).1 this.2⟩,this.2⟩
 ·refine cnt_inj id _ _ (selN_nodup n s) (fun x hx=>?_) (fun _ _ _ _ e=>e)
  have:=mem_selN.1 hx
  have h2:=(h x this.1).2 this.2
  exact List.mem_filter.2 ⟨mem_selN.2 ⟨this.1,h2.1⟩,by simp [h2.2]⟩
/-- at most m jobs a slot: those ahead of slot t are m t at most -/
theorem slots_le {n m:Nat} {S:Nat->Nat} (q:Nat->Bool) (hm:∀ t,(selN n fun x=>q x && decide (S x=t)).length<=m):∀ t,(selN n fun x=>q x && decide (S x<t)).length<=m * t
 | 0=>by
  have:(selN n fun x=>q x && decide (S x<0))=[]:=by simp [selN]
  rw [this];simp
 | t + 1=>by
  have ih:=slots_le q hm t
  have h1:=hm t
  have:=selN_or (n:=n) (q:=fun x=>q x && decide (S x<t + 1)) (r:=fun x=>q x && decide (S x<t)) (s:=fun x=>q x && decide (S x=t)) (fun x _ h=>by
   simp only [Bool.and_eq_true,decide_eq_true_eq] at h ⊢
   by_cases e:S x=t
   ·exact .inr ⟨h.1,e⟩
   ·exact .inl ⟨h.1,by omega⟩)
  rw [Nat.mul_add];omega
/-- at least m jobs a slot -/
theorem slots_ge {n m:Nat} {S:Nat->Nat} (q:Nat->Bool) (s0:Nat):∀ d,(∀ t,s0<=t->t<s0 + d->m<=(selN n fun x=>q x && decide (S x=t)).length)->m * d<=(selN n fun x=>q x && (decide (s0<=S x) && decide (S x<s0 + d))).length
 | 0,_=>by simp
 | d + 1,h=>by
  have ih:=slots_ge q s0 d (fun t h1 h2=>h t h1 (by omega))
  have h1:=h (s0 + d) (by omega) (by omega)
  have:=selN_add (n:=n) (q:=fun x=>q x && (decide (s0<=S x) && decide (S x<s0 + (d + 1)))) (r:=fun x=>q x && (decide (s0<=S x) && decide (S x<s0 + d))) (s:=fun x=>q x && decide (S x=s0 + d)) (fun x _=>by
   simp only [Bool.and_eq_true,decide_eq_true_eq,Bool.and_eq_false_iff,decide_eq_false_iff_not]
   constructor
   ·rintro ⟨h1,h2,h3⟩;exact ⟨h1,h2,by omega⟩
   ·rintro ⟨h1,h2⟩;exact ⟨⟨h1,by omega,by omega⟩,.inr (.inr (by omega))⟩)
  rw [Nat.mul_add];omega
/-- sums over the numbers below n -/
def sumN:Nat->(Nat->Nat)->Nat
 | 0,_=>0
 | n + 1,w=>sumN n w + w n
theorem sumN_le {w v:Nat->Nat} : ∀ n,(∀ x,x<n->w x<=v x)->sumN n w<=sumN n v
 | 0,_=>Nat.le_refl _
 | n + 1,h=>by
  have:=sumN_le n (fun x hx=>h x (by omega))
  have:=h n (by omega)
  simp only [sumN];omega
theorem sumN_congr {w v:Nat->Nat} (n:Nat) (h:∀ x,x<n->w x=v x):sumN n w=sumN n v:=
 Nat.le_antisymm (sumN_le n fun x hx=>Nat.le_of_eq (h x hx)) (sumN_le n fun x hx=>Nat.le_of_eq (h x hx).symm)
theorem sumN_add (w v:Nat->Nat):∀ n,sumN n (fun x=>w x + v x)=sumN n w + sumN n v
 | 0=>rfl
 | n + 1=>by simp only [sumN];rw [sumN_add w v n];omega
theorem sumN_mul (c:Nat) (w:Nat->Nat):∀ n,sumN n (fun x=>c * w x)=c * sumN n w
 | 0=>rfl
 | n + 1=>by simp only [sumN];rw [sumN_mul c w n,Nat.mul_add]
theorem sumN_zero:∀ n,sumN n (fun _=>0)=0
 | 0=>rfl
 | n + 1=>by simp only [sumN];rw [sumN_zero n]
theorem sumN_const (c:Nat):∀ n,sumN n (fun _=>c)=n * c
 | 0=>by simp [sumN]
 | n + 1=>by simp only [sumN];rw [sumN_const c n,Nat.add_mul];omega
theorem sumN_swap (w:Nat->Nat->Nat) (m:Nat):∀ n,sumN n (fun x=>sumN m (fun y=>w x y))=sumN m (fun y=>sumN n (fun x=>w x y))
 | 0=>by simp only [sumN];rw [sumN_zero]
 | n + 1=>by simp only [sumN];rw [sumN_swap w m n,<-sumN_add]
theorem sumN_one (v:Nat) (k:Nat):∀ n,sumN n (fun x=>if k=x then v else 0)=if k<n then v else 0
 | 0=>rfl
 | n + 1=>by
  simp only [sumN];rw [sumN_one v k n]
  by_cases h1:k<n
  ·rw [if_pos h1,if_neg (by omega),if_pos (by omega)];omega
  ·by_cases h2:k=n
   ·rw [if_neg h1,if_pos h2,if_pos (by omega)];omega
   ·rw [if_neg h1,if_neg h2,if_neg (by omega)]
theorem sumN_ge {w:Nat->Nat} {k:Nat} : ∀ n,k<n->w k<=sumN n w
 | 0,h=>absurd h (by omega)
 | n + 1,h=>by
  simp only [sumN]
  by_cases e:k=n
  ·subst e;omega
  ·have:=sumN_ge (w:=w) n (show k<n by omega);omega
theorem sumN_ge2 {w:Nat->Nat} {i k:Nat} (hne:i≠k):∀ n,i<n->k<n->w i + w k<=sumN n w
 | 0,h,_=>absurd h (by omega)
 | n + 1,h1,h2=>by
  simp only [sumN]
  by_cases e:k=n
  ·subst e
   have:=sumN_ge (w:=w) k (show i<k by omega);omega
  ·by_cases e2:i=n
   ·subst e2
    have:=sumN_ge (w:=w) i (show k<i by omega);omega
   ·have:=sumN_ge2 (w:=w) hne n (by omega) (by omega);omega
theorem sumN_ge3 {w:Nat->Nat} {i k j:Nat} (h1:i≠k) (h2:i≠j) (h3:k≠j):∀ n,i<n->k<n->j<n->w i + w k + w j<=sumN n w
 | 0,h,_,_=>absurd h (by omega)
 | n + 1,a,b,c=>by
  simp only [sumN]
  by_cases e:j=n
  ·subst e
   have:=sumN_ge2 (w:=w) h1 j (by omega) (by omega);omega
  ·by_cases e2:k=n
   ·subst e2
    have:=sumN_ge2 (w:=w) h2 k (by omega) (by omega);omega
   ·by_cases e3:i=n
    ·subst e3
     have:=sumN_ge2 (w:=w) h3 i (by omega) (by omega);omega
    ·have:=sumN_ge3 (w:=w) h1 h2 h3 n (by omega) (by omega) (by omega);omega
/-- by machines -/
theorem sumN_by {n m:Nat} {M:Nat->Nat} (hM:∀ x,x<n->M x<m) (w:Nat->Nat):sumN m (fun k=>sumN n (fun x=>if M x=k then w x else 0))=sumN n w:=by
 rw [<-sumN_swap (fun x k=>if M x=k then w x else 0) m n]
 exact sumN_congr n fun x hx=>by rw [sumN_one,if_pos (hM x hx)]
/-- how long a job is done ahead of a time -/
def covT (s p T:Nat):Nat:=min T (s + p) - min T s
theorem covT_le (s p T:Nat):covT s p T<=p:=by unfold covT;omega
theorem covT_step (s p T:Nat):covT s p (T + 1)=covT s p T + if s<=T/\T<s + p then 1 else 0:=by
 unfold covT;split <;> omega
theorem cover {n:Nat} (q:Nat->Bool) (S p:Nat->Nat):∀ T,(∀ t,t<T->∃ i,i<n/\q i=true/\S i<=t/\t<S i + p i)->T<=sumN n (fun i=>if q i=true then covT (S i) (p i) T else 0)
 | 0,_=>Nat.zero_le _
 | T + 1,h=>by
  have ih:=cover q S p T (fun t ht=>h t (by omega))
  obtain ⟨i,hi,hq,h1,h2⟩:=h T (by omega)
  have e:sumN n (fun i=>if q i=true then covT (S i) (p i) (T + 1) else 0)=sumN n (fun i=>if q i=true then covT (S i) (p i) T else 0) + sumN n (fun i=>if q i=true/\S i<=T/\T<S i + p i then 1 else 0):=by
   rw [<-sumN_add]
   refine sumN_congr n fun x _=>?_
   rw [covT_step]
   by_cases c:q x=true
   ·rw [if_pos c,if_pos c]
    by_cases d:S x<=T/\T<S x + p x
    ·rw [if_pos d,if_pos ⟨c,d⟩]
    ·rw [if_neg d,if_neg (fun h=>d h.2)]
   ·rw [if_neg c,if_neg c,if_neg (fun h=>c h.1)]
  have:=sumN_ge (w:=fun i=>if q i=true/\S i<=T/\T<S i + p i then 1 else 0) n hi
  simp only [if_pos (show q i=true/\S i<=T/\T<S i + p i from ⟨hq,h1,h2⟩)] at this
  omega
theorem cover_le {n:Nat} (q:Nat->Bool) (S p:Nat->Nat) (T:Nat) (h:∀ t,t<T->∃ i,i<n/\q i=true/\S i<=t/\t<S i + p i):T<=sumN n (fun i=>if q i=true then p i else 0):=
 Nat.le_trans (cover q S p T h) (sumN_le n fun x _=>by
  split
  ·exact covT_le _ _ _
  ·exact Nat.le_refl _)
theorem sumN_le1 {w:Nat->Nat} : ∀ n,(∀ x,x<n->w x<=1)->(∀ x y,x<n->y<n->w x=1->w y=1->x=y)->sumN n w<=1
 | 0,_,_=>Nat.zero_le _
 | n + 1,h,hu=>by
  simp only [sumN]
  by_cases c:w n=1
  ·have:sumN n w=0:=by
    have h2:=sumN_le (w:=w) (v:=fun _=>0) n (fun x hx=>by
     have h3:=h x (by omega)
     refine Classical.byContradiction fun h4=>?_
     have:=hu x n (by omega) (by omega) (by omega) c
     omega)
    rw [sumN_zero] at h2;omega
   omega
  ·have h1:=h n (by omega)
   have:=sumN_le1 n (fun x hx=>h x (by omega)) (fun x y hx hy=>hu x y (by omega) (by omega))
   omega
/-- jobs that don't overlap end no sooner than their times allow -/
theorem packed {n:Nat} (q:Nat->Bool) (S p:Nat->Nat) (hd:∀ i k,i<n->k<n->i≠k->q i=true->q k=true->S i + p i<=S k\/S k + p k<=S i):∀ T,sumN n (fun i=>if q i=true then covT (S i) (p i) T else 0)<=T
 | 0=>by
  rw [sumN_congr (v:=fun _=>0) n (fun x _=>by simp [covT]),sumN_zero];omega
 | T + 1=>by
  have ih:=packed q S p hd T
  have e:sumN n (fun i=>if q i=true then covT (S i) (p i) (T + 1) else 0)=sumN n (fun i=>if q i=true then covT (S i) (p i) T else 0) + sumN n (fun i=>if q i=true/\S i<=T/\T<S i + p i then 1 else 0):=by
   rw [<-sumN_add]
   refine sumN_congr n fun x _=>?_
   rw [covT_step]
   by_cases c:q x=true
   ·rw [if_pos c,if_pos c]
    by_cases d:S x<=T/\T<S x + p x
    ·rw [if_pos d,if_pos ⟨c,d⟩]
    ·rw [if_neg d,if_neg (fun h=>d h.2)]
   ·rw [if_neg c,if_neg c,if_neg (fun h=>c h.1)]
  have:=sumN_le1 (w:=fun i=>if q i=true/\S i<=T/\T<S i + p i then 1 else 0) n (fun x _=>by split <;> omega) (fun x y hx hy h1 h2=>by
   refine Classical.byContradiction fun hne=>?_
   have a:q x=true/\S x<=T/\T<S x + p x:=by
    refine Classical.byContradiction fun h=>?_
    simp only [if_neg h] at h1;omega
   have b:q y=true/\S y<=T/\T<S y + p y:=by
    refine Classical.byContradiction fun h=>?_
    simp only [if_neg h] at h2;omega
   have:=hd x y hx hy hne a.1 b.1
   omega)
  omega
theorem packed_le {n:Nat} (q:Nat->Bool) (S p:Nat->Nat) (T:Nat) (hd:∀ i k,i<n->k<n->i≠k->q i=true->q k=true->S i + p i<=S k\/S k + p k<=S i) (hT:∀ i,i<n->q i=true->S i + p i<=T):sumN n (fun i=>if q i=true then p i else 0)<=T:=by
 have h:=packed q S p hd T
 have:sumN n (fun i=>if q i=true then p i else 0)<=sumN n (fun i=>if q i=true then covT (S i) (p i) T else 0):=sumN_le n fun x hx=>by
  by_cases c:q x=true
  ·rw [if_pos c,if_pos c]
   have:=hT x hx c
   unfold covT;omega
  ·rw [if_neg c,if_neg c];exact Nat.le_refl _
 omega
/-- a list plan without precedence, jobs ahead by 'a' -/
structure LPl (n m:Nat) (p S M:Nat->Nat) (a:Nat->Nat->Prop):Prop where
 mach:∀ i,i<n->M i<m
 apart:∀ i k,i<n->k<n->i≠k->M i=M k->S i + p i<=S k\/S k + p k<=S i
 busy:∀ j t k,j<n->t<S j->k<m->∃ i,i<n/\a i j/\M i=k/\S i<=t/\t<S i + p i
 first:∀ i j,i<n->j<n->S i<S j->a i j
/-- Longest first is at most 4/3 - 1/(3 m) times as long as loads on m machines can be. -/
theorem lpt_bound {n m:Nat} {p S M A:Nat->Nat} {a:Nat->Nat->Prop} {L:Nat}
  (h:LPl n m p S M a) (hirr:∀ i k,i<n->k<n->a i k->¬ a k i) (htr:∀ i k j,i<n->k<n->j<n->a i k->a k j->a i j)
  (hdesc:∀ i k,i<n->k<n->a i k->p k<=p i) (hm:0<m)
  (hA:∀ i,i<n->A i<m) (hL:∀ k,k<m->sumN n (fun i=>if A i=k then p i else 0)<=L) :
  ∀ j,j<n->3 * m * (S j + p j)<=(4 * m - 1) * L:=by
 have pL:∀ i,i<n->p i<=L:=fun i hi=>by
  have h1:=hL (A i) (hA i hi)
  have h2:=sumN_ge (w:=fun x=>if A x=A i then p x else 0) n hi
  simp only [if_true] at h2
  omega
 have small:∀ j,j<n->3 * p j<=L->3 * m * (S j + p j)<=(4 * m - 1) * L:=by
  intro j hj h3
  have h1:m * S j + p j<=m * L:=by
   have b1:sumN m (fun _=>S j)<=sumN m (fun k=>sumN n (fun i=>if M i=k then (if i=j then 0 else p i) else 0)):=sumN_le m fun k hk=>by
    have:=cover_le (fun i=>decide (M i=k) && decide (i≠j)) S p (S j) (fun t ht=>by
     obtain ⟨i,hi,ha,h4,h5,h6⟩:=h.busy j t k hj ht hk
     refine ⟨i,hi,?_,h5,h6⟩
     simp only [Bool.and_eq_true,decide_eq_true_eq]
     exact ⟨h4,fun e=>by subst e;omega⟩) (n:=n)
    refine Nat.le_trans this (sumN_le n fun x _=>?_)
    simp only [Bool.and_eq_true,decide_eq_true_eq]
    by_cases c:M x=k
    ·by_cases d:x=j
     ·simp [c,d]
     ·simp [c,d]
    ·simp [c]
   rw [sumN_by h.mach,sumN_const] at b1
   have b2:sumN n (fun i=>if i=j then 0 else p i) + p j<=sumN n p:=by
    have e:sumN n (fun i=>if i=j then 0 else p i) + sumN n (fun i=>if j=i then p j else 0)=sumN n p:=by
     rw [<-sumN_add]
     refine sumN_congr n fun x _=>?_
     by_cases c:x=j
     ·subst c;simp
     ·rw [if_neg c,if_neg (fun h=>c h.symm)];omega
    rw [sumN_one,if_pos hj] at e;omega
   have b3:sumN n p<=m * L:=by
    rw [<-sumN_by hA p,<-sumN_const L m]
    exact sumN_le m hL
   omega
  have h2:3 * m * (S j + p j)=3 * (m * S j + p j) + (m - 1) * (3 * p j):=by
   obtain ⟨k,rfl⟩:∃ k,m=k + 1:=⟨m - 1,by omega⟩
   have e1:3 * (k + 1) * (S j + p j)=3 * ((k + 1) * S j) + 3 * ((k + 1) * p j):=by rw [Nat.mul_assoc,Nat.mul_add,Nat.mul_add 3]
   have e2:3 * ((k + 1) * p j)=3 * p j + k * (3 * p j):=by
    rw [Nat.add_mul,Nat.mul_add,Nat.one_mul,Nat.mul_left_comm];omega
   rw [show k + 1 - 1=k by omega,e1,e2]
   omega
  have h4:(m - 1) * (3 * p j)<=(m - 1) * L:=Nat.mul_le_mul_left _ h3
  have h5:(4 * m - 1) * L=3 * (m * L) + (m - 1) * L:=by
   obtain ⟨k,rfl⟩:∃ k,m=k + 1:=⟨m - 1,by omega⟩
   rw [show 4 * (k + 1) - 1=3 * (k + 1) + k by omega,show k + 1 - 1=k by omega,Nat.add_mul,Nat.mul_assoc]
  omega
 have within:∀ j,j<n->S j + p j<=L->3 * m * (S j + p j)<=(4 * m - 1) * L:=by
  intro j _ h1
  have h2:3 * m * (S j + p j)<=3 * m * L:=Nat.mul_le_mul_left _ h1
  have h3:3 * m * L<=(4 * m - 1) * L:=Nat.mul_le_mul_right _ (by omega)
  omega
 intro j hj
 by_cases hj1:S j + p j<=L
 ·exact within j hj hj1
 by_cases hj2:3 * p j<=L
 ·exact small j hj hj2
 exfalso
  -- the first job that ends behind L
 have firstj:∃ l,l<n/\L<S l + p l/\L<3 * p l/\∀ i,i<n->a i l->S i + p i<=L:=by
  have go:∀ d l,l<n->L<S l + p l->L<3 * p l->sumN n (fun i=>if L<S i + p i/\L<3 * p i then (by exact if Classical.propDecidable (a i l) |>.decide then 1 else 0) else 0)<=d->∃ l,l<n/\L<S l + p l/\L<3 * p l/\∀ i,i<n->a i l->S i + p i<=L:=by
   intro d
   induction d with
   | zero=>
    intro l hl h1 h2 h3
    refine ⟨l,hl,h1,h2,fun i hi hai=>?_⟩
    refine Classical.byContradiction fun hc=>?_
    have h4:=hdesc i l hi hl hai
    have:=sumN_ge (w:=fun i=>if L<S i + p i/\L<3 * p i then (by exact if Classical.propDecidable (a i l) |>.decide then 1 else 0) else 0) n hi
    simp only [if_pos (show L<S i + p i/\L<3 * p i by omega),hai,decide_true,if_true] at this
    omega
   | succ d ih=>
    intro l hl h1 h2 h3
    by_cases c:∃ i,i<n/\a i l/\L<S i + p i
    ·obtain ⟨i,hi,hai,hLi⟩:=c
     have h4:=hdesc i l hi hl hai
     refine ih i hi hLi (by omega) ?_
     have h5:sumN n (fun x=>if L<S x + p x/\L<3 * p x then (by exact if Classical.propDecidable (a x i) |>.decide then 1 else 0) else 0) + sumN n (fun x=>if i=x then 1 else 0)<=sumN n (fun x=>if L<S x + p x/\L<3 * p x then (by exact if Classical.propDecidable (a x l) |>.decide then 1 else 0) else 0):=by
      rw [<-sumN_add]
      refine sumN_le n fun x hx=>?_
      by_cases e:i=x
      ·subst e
       have:¬ a i i:=fun h=>hirr i i hx hx h h
       simp [this,hai,show L<S i + p i/\L<3 * p i by omega]
      ·rw [if_neg e]
       by_cases c1:L<S x + p x/\L<3 * p x
       ·rw [if_pos c1,if_pos c1]
        by_cases c2:a x i
        ·have:=htr x i l hx hi hl c2 hai
         simp [c2,this]
        ·simp [c2]
       ·rw [if_neg c1,if_neg c1];omega
     rw [sumN_one,if_pos hi] at h5
     omega
    ·exact ⟨l,hl,h1,h2,fun i hi hai=>by refine Classical.byContradiction fun h4=>c ⟨i,hi,hai,by omega⟩⟩
  exact go _ j hj (by omega) (by omega) (Nat.le_refl _)
 obtain ⟨l,hl,hl1,hl2,hl3⟩:=firstj
 have hpl:=pL l hl
  -- B: the jobs ahead of l; long jobs
 let B:Nat->Bool:=fun i=>(Classical.propDecidable (a i l)).decide
 have hB:∀ i,B i=true ↔ a i l:=fun i=>by simp [B]
 let W:Nat->Nat:=fun i=>1 + if L<p i + p l then 1 else 0
 have up:sumN n (fun i=>if B i=true\/i=l then W i else 0)<=2 * m:=by
  rw [<-sumN_by hA]
  have:sumN m (fun k=>sumN n (fun x=>if A x=k then (if B x=true\/x=l then W x else 0) else 0))<=sumN m (fun _=>2):=sumN_le m fun k hk=>by
   have hk':=hL k hk
   have pge:∀ x,x<n->(B x=true\/x=l)->p l<=p x:=fun x hx h=>by
    rcases h with h|rfl
    ·exact hdesc x l hx hl ((hB x).1 h)
    ·exact Nat.le_refl _
   refine Classical.byContradiction fun hc=>?_
      -- two jobs at least
   have ex:∃ x,x<n/\A x=k/\(B x=true\/x=l):=by
    refine Classical.byContradiction fun h0=>hc ?_
    rw [sumN_congr (v:=fun _=>0) n (fun x hx=>by
     by_cases c1:A x=k
     ·rw [if_pos c1,if_neg (fun h=>h0 ⟨x,hx,c1,h⟩)]
     ·rw [if_neg c1]),sumN_zero];omega
   obtain ⟨x,hx,hxk,hxB⟩:=ex
   have ex2:∃ y,y<n/\A y=k/\(B y=true\/y=l)/\y≠x:=by
    refine Classical.byContradiction fun h0=>hc ?_
    have:sumN n (fun z=>if A z=k then (if B z=true\/z=l then W z else 0) else 0)<=sumN n (fun z=>if x=z then 2 else 0):=sumN_le n fun z hz=>by
     by_cases e:x=z
     ·subst e
      rw [if_pos rfl]
      by_cases c1:A x=k
      ·rw [if_pos c1]
       have hW:W x<=2:=by simp only [W];split <;> omega
       split <;> omega
      ·rw [if_neg c1];omega
     ·rw [if_neg e]
      by_cases c1:A z=k
      ·rw [if_pos c1,if_neg (fun h=>h0 ⟨z,hz,c1,h,fun h=>e h.symm⟩)];omega
      ·rw [if_neg c1];omega
    rw [sumN_one,if_pos hx] at this;exact this
   obtain ⟨y,hy,hyk,hyB,hyx⟩:=ex2
   have p2:=sumN_ge2 (w:=fun i=>if A i=k then p i else 0) (fun e=>hyx e.symm) n hx hy
   simp only [if_pos hxk,if_pos hyk] at p2
   have q1:=pge x hx hxB
   have q2:=pge y hy hyB
   by_cases ex3:∃ z,z<n/\A z=k/\(B z=true\/z=l)/\z≠x/\z≠y
   ·obtain ⟨z,hz,hzk,hzB,hzx,hzy⟩:=ex3
    have p3:=sumN_ge3 (w:=fun i=>if A i=k then p i else 0) (fun e=>hyx e.symm) (fun e=>hzx e.symm) (fun e=>hzy e.symm) n hx hy hz
    simp only [if_pos hxk,if_pos hyk,if_pos hzk] at p3
    have q3:=pge z hz hzB
    omega
   ·refine hc ?_
    have:sumN n (fun z=>if A z=k then (if B z=true\/z=l then W z else 0) else 0)<=sumN n (fun z=>(if x=z then 1 else 0) + if y=z then 1 else 0):=sumN_le n fun z hz=>by
     by_cases e:x=z
     ·subst e
      rw [if_pos rfl,if_neg hyx,if_pos hxk,if_pos hxB]
      simp only [W];rw [if_neg (by omega)];omega
     ·by_cases e2:y=z
      ·subst e2
       rw [if_neg e,if_pos rfl,if_pos hyk,if_pos hyB]
       simp only [W];rw [if_neg (by omega)];omega
      ·rw [if_neg e,if_neg e2]
       by_cases c1:A z=k
       ·rw [if_pos c1,if_neg (fun h=>ex3 ⟨z,hz,c1,h,fun h=>e h.symm,fun h=>e2 h.symm⟩)];omega
       ·rw [if_neg c1];omega
    rw [sumN_add,sumN_one,sumN_one,if_pos hx,if_pos hy] at this
    exact this
  rw [sumN_const] at this
  omega
 have lo:2 * m<=sumN n (fun i=>if B i=true then W i else 0):=by
  rw [<-sumN_by h.mach]
  have:sumN m (fun _=>2)<=sumN m (fun k=>sumN n (fun x=>if M x=k then (if B x=true then W x else 0) else 0)):=sumN_le m fun k hk=>by
   obtain ⟨i,hi,hai,hik,hi0,hi1⟩:=h.busy l 0 k hl (by omega) hk
   by_cases long:L<p i + p l
   ·have:=sumN_ge (w:=fun x=>if M x=k then (if B x=true then W x else 0) else 0) n hi
    simp only [if_pos hik,if_pos ((hB i).2 hai)] at this
    have e:W i=2:=by simp only [W];rw [if_pos long]
    omega
   ·obtain ⟨i2,hi2,hai2,hik2,hs2,hs3⟩:=h.busy l (p i) k hl (by omega) hk
    have hne:i≠i2:=fun e=>by subst e;omega
    have:=sumN_ge2 (w:=fun x=>if M x=k then (if B x=true then W x else 0) else 0) hne n hi hi2
    simp only [if_pos hik,if_pos ((hB i).2 hai),if_pos hik2,if_pos ((hB i2).2 hai2)] at this
    have e1:1<=W i:=by simp only [W];omega
    have e2:1<=W i2:=by simp only [W];omega
    omega
  rw [sumN_const] at this
  omega
 have step:sumN n (fun i=>if B i=true then W i else 0) + 1<=sumN n (fun i=>if B i=true\/i=l then W i else 0):=by
  have:sumN n (fun i=>if B i=true then W i else 0) + sumN n (fun i=>if l=i then 1 else 0)<=sumN n (fun i=>if B i=true\/i=l then W i else 0):=by
   rw [<-sumN_add]
   refine sumN_le n fun x hx=>?_
   by_cases e:l=x
   ·subst e
    have:¬ B l=true:=fun h=>by
     have h:=(hB l).1 h
     exact hirr l l hl hl h h
    rw [if_neg this,if_pos rfl,if_pos (.inr rfl)]
    simp only [W];omega
   ·rw [if_neg e]
    by_cases c:B x=true
    ·rw [if_pos c,if_pos (.inl c)];omega
    ·rw [if_neg c,if_neg (fun h=>h.elim c (fun h=>e h.symm))];omega
  rw [sumN_one,if_pos hl] at this;exact this
 omega
theorem lpl_ahead {n m:Nat} {p S M A s pos:Nat->Nat} (h:LPl n m p S M fun i k=>pos i<pos k) (hp:∀ i,i<n->1<=p i)
  (hA:∀ i,i<n->A i<m) (hd:∀ i k,i<n->k<n->i≠k->A i=A k->s i + p i<=s k\/s k + p k<=s i)
  (hs:∀ i k,i<n->k<n->pos i<pos k->s i<=s k):∀ d j,j<n->pos j<=d->S j<=s j:=by
 have key:∀ j,j<n->(∀ i,i<n->pos i<pos j->S i<=s i)->S j<=s j:=by
  intro j hj ih
  refine Classical.byContradiction fun hc=>?_
  have run:∀ k,k<m->∃ i,i<n/\pos i<pos j/\M i=k/\S i<=s j/\s j<S i + p i:=fun k hk=>h.busy j (s j) k hj (by omega) hk
  let c:Nat->Nat:=fun k=>if hk:k<m then Classical.choose (run k hk) else j
  have cs:∀ k,k<m->c k<n/\pos (c k)<pos j/\M (c k)=k/\S (c k)<=s j/\s j<S (c k) + p (c k):=fun k hk=>by
   have:c k=Classical.choose (run k hk):=dif_pos hk
   rw [this];exact Classical.choose_spec (run k hk)
  have cm:c m=j:=dif_neg (Nat.lt_irrefl m)
  have at_:∀ k,k<m + 1->c k<n/\s (c k)<=s j/\s j<s (c k) + p (c k):=fun k hk=>by
   by_cases e:k=m
   ·subst e
    rw [cm]
    have:=hp j hj
    exact ⟨hj,Nat.le_refl _,by omega⟩
   ·obtain ⟨h1,h2,h3,h4,h5⟩:=cs k (by omega)
    have h6:=ih _ h1 h2
    have h7:=hs _ _ h1 hj h2
    exact ⟨h1,h7,by omega⟩
  have inj:∀ x ∈ List.range (m + 1),∀ y ∈ List.range (m + 1),A (c x)=A (c y)->x=y:=fun x hx y hy e=>by
   have hx:=List.mem_range.1 hx
   have hy:=List.mem_range.1 hy
   refine Classical.byContradiction fun hne=>?_
   have hcc:c x≠c y:=fun e2=>by
    by_cases ex:x=m
    ·have:=cs y (by omega)
     rw [ex,cm] at e2
     rw [<-e2] at this;omega
    ·by_cases ey:y=m
     ·have:=cs x (by omega)
      rw [ey,cm] at e2
      rw [e2] at this;omega
     ·have h1:=(cs x (by omega)).2.2.1
      have h2:=(cs y (by omega)).2.2.1
      rw [e2,h2] at h1
      exact hne h1.symm
   have a1:=at_ x hx
   have a2:=at_ y hy
   have:=hd _ _ a1.1 a2.1 hcc e
   omega
  have:=cnt_inj (fun k=>A (c k)) (List.range (m + 1)) (List.range m) List.nodup_range (fun x hx=>List.mem_range.2 (hA _ (at_ x (List.mem_range.1 hx)).1)) inj
  simp at this;omega
 intro d
 induction d with
 | zero=>intro j hj h0;exact key j hj fun i _ hi=>by omega
 | succ d ih=>intro j hj h0;exact key j hj fun i hi hip=>ih i hi (by omega)
theorem sumN_shift (w:Nat->Nat):∀ n,sumN (n + 1) w=w 0 + sumN n (fun k=>w (k + 1))
 | 0=>by simp [sumN]
 | n + 1=>by
  have:=sumN_shift w n
  simp only [sumN] at this ⊢;omega
/-- the numbers below n, otherwise numbered -/
theorem sumN_perm {n:Nat} {o pos:Nat->Nat} (ho:∀ r,r<n->o r<n/\pos (o r)=r) (hp:∀ i,i<n->pos i<n/\o (pos i)=i) (g:Nat->Nat):sumN n (fun r=>g (o r))=sumN n g:=by
 have e1:sumN n (fun r=>g (o r))=sumN n (fun r=>sumN n (fun i=>if o r=i then g (o r) else 0)):=sumN_congr n fun r hr=>by rw [sumN_one,if_pos (ho r hr).1]
 have e2:sumN n g=sumN n (fun i=>sumN n (fun r=>if pos i=r then g i else 0)):=sumN_congr n fun i hi=>by rw [sumN_one,if_pos (hp i hi).1]
 rw [e1,e2,sumN_swap (fun r i=>if o r=i then g (o r) else 0) n n]
 refine sumN_congr n fun i hi=>sumN_congr n fun r hr=>?_
 by_cases c:o r=i
 ·have:pos i=r:=by rw [<-c];exact (ho r hr).2
  rw [if_pos c,if_pos this,c]
 ·rw [if_neg c,if_neg (fun e=>c (by rw [<-e];exact (hp i hi).2))]
theorem sumN_cut (w:Nat->Nat) (r:Nat):∀ n,sumN n (fun i=>if i<r then w i else 0)=sumN (min n r) w
 | 0=>by simp [sumN]
 | n + 1=>by
  simp only [sumN];rw [sumN_cut w r n]
  by_cases c:n<r
  ·rw [if_pos c,show min n r=n by omega,show min (n + 1) r=n + 1 by omega];rfl
  ·rw [if_neg c,show min n r=r by omega,show min (n + 1) r=r by omega];omega
/-- the least sum of so many of growing numbers -/
theorem least_sum {n r:Nat} {p:Nat->Nat} (asc:∀ i k,i<=k->k<n->p i<=p k) (R:Nat->Bool) (hr:r<=n) (hR:r<=sumN n (fun i=>if R i=true then 1 else 0)):sumN r p<=sumN n (fun i=>if R i=true then p i else 0):=by
 by_cases r0:r=0
 ·subst r0;simp [sumN]
 have h1:sumN n (fun i=>(if i<r then p i else 0) + if R i=true/\¬ i<r then p (r - 1) else 0)<=sumN n (fun i=>(if R i=true then p i else 0) + if R i=false/\i<r then p (r - 1) else 0):=sumN_le n fun i hi=>by
  by_cases c:i<r
  ·have:=asc i (r - 1) (by omega) (by omega)
   cases hRi:R i <;> simp [c]
   exact this
  ·have:=asc (r - 1) i (by omega) hi
   cases hRi:R i <;> simp [c]
   exact this
 rw [sumN_add,sumN_add,sumN_cut,show min n r=r by omega] at h1
 have h2:sumN n (fun i=>if R i=true/\¬ i<r then 1 else 0) + sumN n (fun i=>if i<r then 1 else 0)=sumN n (fun i=>if R i=true then 1 else 0) + sumN n (fun i=>if R i=false/\i<r then 1 else 0):=by
  rw [<-sumN_add,<-sumN_add]
  refine sumN_congr n fun i _=>?_
  by_cases c:i<r
  ·cases hRi:R i <;> simp [c]
  ·cases hRi:R i <;> simp [c]
 rw [sumN_cut (fun _=>1),show min n r=r by omega,sumN_const] at h2
 have h3:sumN n (fun i=>if R i=true/\¬ i<r then p (r - 1) else 0)=p (r - 1) * sumN n (fun i=>if R i=true/\¬ i<r then 1 else 0):=by
  rw [<-sumN_mul];exact sumN_congr n fun i _=>by split <;> simp
 have h4:sumN n (fun i=>if R i=false/\i<r then p (r - 1) else 0)=p (r - 1) * sumN n (fun i=>if R i=false/\i<r then 1 else 0):=by
  rw [<-sumN_mul];exact sumN_congr n fun i _=>by split <;> simp
 have h5:p (r - 1) * sumN n (fun i=>if R i=false/\i<r then 1 else 0)<=p (r - 1) * sumN n (fun i=>if R i=true/\¬ i<r then 1 else 0):=Nat.mul_le_mul_left _ (by omega)
 omega
theorem sumN_len (n:Nat) (q:Nat->Bool):sumN n (fun i=>if q i=true then 1 else 0)=(selN n q).length:=by
 induction n with
 | zero=>rfl
 | succ n ih=>
  simp only [sumN];rw [ih]
  unfold selN
  rw [List.range_succ,List.filter_append,List.length_append]
  cases h:q n <;> simp [h]
/-- what the sum of all ends is at least -/
theorem tot_lower {n m:Nat} {p S M:Nat->Nat} (asc:∀ i k,i<=k->k<n->p i<=p k) (hp:∀ i,i<n->1<=p i) (mach:∀ i,i<n->M i<m)
  (apart:∀ i k,i<n->k<n->i≠k->M i=M k->S i + p i<=S k\/S k + p k<=S i) (K:Nat):sumN K (fun k=>sumN (n - m * k) p)<=sumN n (fun i=>S i + p i):=by
 let c:Nat->Nat:=fun i=>sumN n (fun j=>if M i=M j/\S i<=S j then 1 else 0)
 have h1:sumN n (fun i=>p i * c i)<=sumN n (fun j=>S j + p j):=by
  have e:sumN n (fun i=>p i * c i)=sumN n (fun j=>sumN n (fun i=>if M i=M j/\S i<=S j then p i else 0)):=by
   rw [<-sumN_swap (fun i j=>if M i=M j/\S i<=S j then p i else 0) n n]
   refine sumN_congr n fun i _=>?_
   simp only [c];rw [<-sumN_mul]
   exact sumN_congr n fun j _=>by split <;> simp
  rw [e]
  refine sumN_le n fun j hj=>?_
  have:=packed_le (n:=n) (fun i=>decide (M i=M j/\S i<=S j)) S p (S j + p j) (fun i k hi hk hne h1 h2=>by
   simp only [decide_eq_true_eq] at h1 h2
   exact apart i k hi hk hne (by omega)) (fun i hi h1=>by
   simp only [decide_eq_true_eq] at h1
   by_cases e:i=j
   ·subst e;omega
   ·have:=apart i j hi hj e h1.1
    have:=hp i hi
    have:=hp j hj
    omega)
  simpa using this
 have h2:sumN K (fun k=>sumN n (fun i=>if k<c i then p i else 0))<=sumN n (fun i=>p i * c i):=by
  rw [<-sumN_swap (fun i k=>if k<c i then p i else 0) K n]
  refine sumN_le n fun i _=>?_
  rw [sumN_cut (fun _=>p i),sumN_const,Nat.mul_comm]
  exact Nat.mul_le_mul_left _ (by omega)
 refine Nat.le_trans ?_ (Nat.le_trans h2 h1)
 refine sumN_le K fun k _=>?_
 have cpos:∀ i,i<n->1<=c i:=fun i hi=>by
  have:=sumN_ge (w:=fun j=>if M i=M j/\S i<=S j then 1 else 0) n hi
  simpa using this
 have few:∀ v,(selN n fun x=>true && decide (c x - 1=v)).length<=m:=fun v=>by
  have:=cnt_inj M (selN n fun x=>true && decide (c x - 1=v)) (List.range m) (selN_nodup _ _) (fun x hx=>List.mem_range.2 (mach x (mem_selN.1 hx).1)) (fun x hx y hy e=>by
   obtain ⟨hx,ex⟩:=mem_selN.1 hx
   obtain ⟨hy,ey⟩:=mem_selN.1 hy
   simp only [Bool.true_and,decide_eq_true_eq] at ex ey
   refine Classical.byContradiction fun hne=>?_
   have lt:∀ a b,a<n->b<n->M a=M b->S a<S b->c b + 1<=c a:=fun a b ha hb hM hS=>by
    have:sumN n (fun j=>if M b=M j/\S b<=S j then 1 else 0) + sumN n (fun j=>if a=j then 1 else 0)<=c a:=by
     rw [<-sumN_add]
     refine sumN_le n fun j hj=>?_
     by_cases e1:a=j
     ·subst e1
      rw [if_pos rfl,if_neg (by omega),if_pos ⟨rfl,Nat.le_refl _⟩];omega
     ·rw [if_neg e1]
      by_cases e2:M b=M j/\S b<=S j
      ·rw [if_pos e2,if_pos ⟨by omega,by omega⟩];omega
      ·rw [if_neg e2];omega
    rw [sumN_one,if_pos ha] at this;exact this
   have hx1:=cpos x hx
   have hy1:=cpos y hy
   have:=apart x y hx hy hne e
   have:=hp x hx
   have:=hp y hy
   by_cases o:S x<S y
   ·have:=lt x y hx hy e o;omega
   ·have:=lt y x hy hx e.symm (by omega);omega)
  simpa using this
 by_cases hk:m * k<=n
 ·refine Nat.le_trans (least_sum asc (fun i=>decide (k<c i)) (show n - m * k<=n by omega) ?_) (by simp)
  have a1:=slots_le (n:=n) (m:=m) (S:=fun x=>c x - 1) (fun _=>true) few k
  rw [sumN_len]
  have a2:=selN_or (n:=n) (q:=fun _=>true) (r:=fun i=>decide (k<c i)) (s:=fun x=>true && decide (c x - 1<k)) (fun x hx _=>by
   simp only [Bool.true_and,decide_eq_true_eq]
   have:=cpos x hx
   omega)
  have a3:(selN n fun _=>true).length=n:=by rw [<-sumN_len];simp only [if_true];rw [sumN_const];omega
  omega
 ·rw [show n - m * k=0 by omega];simp [sumN]
theorem tot_upper {n m:Nat} {p S M:Nat->Nat} (asc:∀ i k,i<=k->k<n->p i<=p k) (hm:0<m) (h:LPl n m p S M fun i k=>i<k) (K:Nat) (hK:n<=K):sumN n (fun i=>S i + p i)<=sumN K (fun k=>sumN (n - m * k) p):=by
 have mono:∀ i k,i<=k->k<n->S i + p i<=S k + p k:=fun i k hik hk=>by
  have h1:=asc i k hik hk
  by_cases e:i=k
  ·subst e;exact Nat.le_refl _
  ·have:¬ S k<S i:=fun hlt=>by have:=h.first k i hk (by omega) hlt;omega
   omega
 have main:∀ r,r<n->∀ K,r<K->S r + p r<=sumN K (fun k=>if m * k<=r then p (r - m * k) else 0):=by
  intro r
  induction r using Nat.strongRecOn with
  | _ r ih=>
  intro hr K hK
  obtain ⟨K,rfl⟩:∃ k,K=k + 1:=⟨K - 1,by omega⟩
  rw [sumN_shift]
  simp only [Nat.mul_zero,Nat.zero_le,if_true,Nat.sub_zero]
  by_cases c:m<=r
  ·have hS:S r<=S (r - m) + p (r - m):=by
    refine Classical.byContradiction fun hc=>?_
    have run:∀ k,k<m->∃ i,i<n/\i<r/\M i=k/\S i<=S (r - m) + p (r - m)/\S (r - m) + p (r - m)<S i + p i:=fun k hk=>h.busy r _ k hr (by omega) hk
    let g:Nat->Nat:=fun k=>if hk:k<m then Classical.choose (run k hk) else r
    have cs:∀ k,k<m->g k<n/\g k<r/\M (g k)=k/\S (g k)<=S (r - m) + p (r - m)/\S (r - m) + p (r - m)<S (g k) + p (g k):=fun k hk=>by
     have:g k=Classical.choose (run k hk):=dif_pos hk
     rw [this];exact Classical.choose_spec (run k hk)
    have gt:∀ k,k<m->r - m<g k:=fun k hk=>by
     obtain ⟨h1,h2,h3,h4,h5⟩:=cs k hk
     refine Classical.byContradiction fun hle=>?_
     have:=mono (g k) (r - m) (by omega) (by omega)
     omega
    have:=cnt_inj (fun k=>g k - (r - m) - 1) (List.range m) (List.range (m - 1)) List.nodup_range (fun x hx=>by
     have hx:=List.mem_range.1 hx
     have h1:=cs x hx
     have h2:=gt x hx
     exact List.mem_range.2 (by omega)) (fun x hx y hy e=>by
     have hx:=List.mem_range.1 hx
     have hy:=List.mem_range.1 hy
     have h1:=cs x hx
     have h2:=gt x hx
     have h3:=cs y hy
     have h4:=gt y hy
     have e2:g x=g y:=by
      have e:g x - (r - m) - 1=g y - (r - m) - 1:=e
      omega
     have h5:=h1.2.2.1
     rw [e2,h3.2.2.1] at h5
     exact h5.symm)
    simp at this;omega
   have h2:=ih (r - m) (by omega) (by omega) K (by omega)
   have e:sumN K (fun k=>if m * (k + 1)<=r then p (r - m * (k + 1)) else 0)=sumN K (fun k=>if m * k<=r - m then p (r - m - m * k) else 0):=sumN_congr K fun k _=>by
    rw [Nat.mul_add,Nat.mul_one]
    by_cases d:m * k + m<=r
    ·rw [if_pos d,if_pos (by omega),show r - (m * k + m)=r - m - m * k by omega]
    ·rw [if_neg d,if_neg (by omega)]
   rw [e];omega
  ·have hS:S r=0:=by
    refine Classical.byContradiction fun hc=>?_
    have run:∀ k,k<m->∃ i,i<n/\i<r/\M i=k/\S i<=0/\0<S i + p i:=fun k hk=>h.busy r 0 k hr (by omega) hk
    let g:Nat->Nat:=fun k=>if hk:k<m then Classical.choose (run k hk) else r
    have cs:∀ k,k<m->g k<n/\g k<r/\M (g k)=k/\S (g k)<=0/\0<S (g k) + p (g k):=fun k hk=>by
     have:g k=Classical.choose (run k hk):=dif_pos hk
     rw [this];exact Classical.choose_spec (run k hk)
    have:=cnt_inj g (List.range m) (List.range r) List.nodup_range (fun x hx=>List.mem_range.2 (cs x (List.mem_range.1 hx)).2.1) (fun x hx y hy e=>by
     have h1:=(cs x (List.mem_range.1 hx)).2.2.1
     rw [e,(cs y (List.mem_range.1 hy)).2.2.1] at h1
     exact h1.symm)
    simp at this;omega
   omega
 have h1:sumN n (fun i=>S i + p i)<=sumN n (fun r=>sumN K (fun k=>if m * k<=r then p (r - m * k) else 0)):=sumN_le n fun r hr=>main r hr K (by omega)
 refine Nat.le_trans h1 ?_
 rw [sumN_swap (fun r k=>if m * k<=r then p (r - m * k) else 0) K n]
 refine sumN_le K fun k _=>?_
 have sh:∀ n,sumN n (fun r=>if m * k<=r then p (r - m * k) else 0)<=sumN (n - m * k) p:=by
  intro n
  induction n with
  | zero=>simp [sumN]
  | succ n ih=>
   simp only [sumN]
   by_cases c:m * k<=n
   ·rw [if_pos c,show n + 1 - m * k=(n - m * k) + 1 by omega]
    simp only [sumN];omega
   ·rw [if_neg c,show n + 1 - m * k=n - m * k by omega];omega
 exact sh n
/-- j + 1, .., j + c multiplied -/
def risF:Nat->Nat->Nat
 | _,0=>1
 | j,c + 1=>(j + 1) * risF (j + 1) c
theorem risF_snoc:∀ c j,risF j (c + 1)=risF j c * (j + c + 1)
 | 0,j=>by simp [risF]
 | c + 1,j=>by
  rw [risF,risF_snoc c (j + 1),risF,Nat.mul_assoc,show j + 1 + c + 1=j + (c + 1) + 1 by omega]
def facN (n:Nat):Nat:=risF 0 n
theorem facN_succ (n:Nat):facN (n + 1)=(n + 1) * facN n:=by unfold facN;rw [risF_snoc,Nat.mul_comm,Nat.zero_add]
theorem facN_le:∀ n,n<=8->facN n<=40320:=by decide
def stepB (V:List Int->Int) (l:List Int) (s:List Int × Int × Int):List Int × Int × Int:=if s.2.2=0\/V l<s.2.1 then (l,V l,1) else if V l=s.2.1 then (s.1,s.2.1,wrap64 (s.2.2 + 1)) else s
def foldB (V:List Int->Int) (P:List (List Int)):List Int × Int × Int:=P.foldl (fun s l=>stepB V l s) ([],0,0)
theorem bst_fold (V:List Int->Int):∀ (P:List (List Int)) (s:List Int × Int × Int) (c:Nat),s.2.2=(c:Int)->0<c->c + P.length<=1000000000->
  ∃ m:Int,(P.foldl (fun s l=>stepB V l s) s).2.1=m/\m<=s.2.1/\(∀ l ∈ P,m<=V l)/\(m=s.2.1\/∃ l ∈ P,V l=m)/\(P.foldl (fun s l=>stepB V l s) s).2.2=(((if m=s.2.1 then c else 0) + P.countP (fun l=>decide (V l=m)):Nat):Int)
 | [],s,c,hc,h0,h1=>⟨s.2.1,rfl,Int.le_refl _,(fun l hl=>by cases hl),.inl rfl,by simp [hc]⟩
 | l::P,s,c,hc,h0,h1=>by
  rw [List.length_cons] at h1
  rw [List.foldl_cons]
  by_cases c1:V l<s.2.1
  ·have e:stepB V l s=(l,V l,1):=by unfold stepB;rw [if_pos (.inr c1)]
   rw [e]
   obtain ⟨m,h2,h3,h4,h5,h6⟩:=bst_fold V P (l,V l,1) 1 rfl (by omega) (by omega)
   have h3':m<=V l:=h3
   refine ⟨m,h2,by omega,fun l' hl'=>?_,.inr ?_,?_⟩
   ·rcases List.mem_cons.1 hl' with rfl|hl'
    ·exact h3'
    ·exact h4 l' hl'
   ·rcases h5 with h5 | ⟨l',hl',h5⟩
    ·exact ⟨l,List.mem_cons_self,h5.symm⟩
    ·exact ⟨l',List.mem_cons_of_mem _ hl',h5⟩
   ·rw [h6,List.countP_cons,if_neg (show ¬ m=s.2.1 by omega)]
    have e2:(m=(l,V l,(1:Int)).2.1)=(V l=m):=propext ⟨fun h=>h.symm,fun h=>h.symm⟩
    simp only [e2,decide_eq_true_eq];omega
  ·by_cases c2:V l=s.2.1
   ·have e:stepB V l s=(s.1,s.2.1,((c + 1:Nat):Int)):=by
     unfold stepB;rw [if_neg (by intro h;rcases h with h|h;omega;exact c1 h),if_pos c2,hc,wr (by omega) (by omega)];rfl
    rw [e]
    obtain ⟨m,h2,h3,h4,h5,h6⟩:=bst_fold V P (s.1,s.2.1,((c + 1:Nat):Int)) (c + 1) rfl (by omega) (by omega)
    have h3':m<=s.2.1:=h3
    refine ⟨m,h2,h3',fun l' hl'=>?_,?_,?_⟩
    ·rcases List.mem_cons.1 hl' with rfl|hl'
     ·omega
     ·exact h4 l' hl'
    ·rcases h5 with h5 | ⟨l',hl',h5⟩
     ·exact .inl h5
     ·exact .inr ⟨l',List.mem_cons_of_mem _ hl',h5⟩
    ·rw [h6,List.countP_cons,c2]
     have e2:(m=(s.1,s.2.1,((c + 1:Nat):Int)).2.1)=(m=s.2.1):=rfl
     simp only [e2,decide_eq_true_eq]
     by_cases q:m=s.2.1
     ·rw [if_pos q,if_pos q,if_pos q.symm];omega
     ·rw [if_neg q,if_neg q,if_neg (fun h=>q h.symm)];omega
   ·have e:stepB V l s=s:=by unfold stepB;rw [if_neg (by intro h;rcases h with h|h;omega;exact c1 h),if_neg c2]
    rw [e]
    obtain ⟨m,h2,h3,h4,h5,h6⟩:=bst_fold V P s c hc h0 (by omega)
    refine ⟨m,h2,h3,fun l' hl'=>?_,?_,?_⟩
    ·rcases List.mem_cons.1 hl' with rfl|hl'
     ·omega
     ·exact h4 l' hl'
    ·rcases h5 with h5 | ⟨l',hl',h5⟩
     ·exact .inl h5
     ·exact .inr ⟨l',List.mem_cons_of_mem _ hl',h5⟩
    ·rw [h6,List.countP_cons]
     rw [decide_eq_false (show ¬ V l=m by omega)];simp
theorem sum_const {α:Type} (g:α->Nat) (c:Nat):∀ l:List α,(∀ x ∈ l,g x=c)->(l.map g).sum=l.length * c
 | [],_=>by simp
 | x::l,h=>by
  rw [List.map_cons,List.sum_cons,sum_const g c l (fun y hy=>h y (List.mem_cons_of_mem _ hy)),h x List.mem_cons_self,List.length_cons,Nat.add_mul];omega
theorem perms_len:∀ (n:Nat) (L:List Int),L.length=n->(perms n L).length=facN n
 | 0,L,_=>by simp [perms,facN,risF]
 | n + 1,L,h=>by
  rw [perms,List.length_flatMap,sum_const _ (facN n) L (fun x hx=>by rw [List.length_map];exact perms_len n (L.erase x) (by rw [List.length_erase_of_mem hx];omega)),h,facN_succ]
theorem perms_any (n:Nat):perms n (nums_to n)≠[]:=by
 have:=isPerm_perms (l:=nums_to n) (n:=n) ⟨nums_to_length n,nums_to_nodup n,fun x hx=>mem_nums_to.1 hx⟩
 intro h;rw [h] at this;cases this
/-- how many orders are best, and the least value -/
theorem bst_count {V:List Int->Int} {n:Nat} (hn:n<=8):∃ m:Int,(foldB V (perms n (nums_to n))).2.1=m/\(∀ l ∈ perms n (nums_to n),m<=V l)/\(∃ l ∈ perms n (nums_to n),V l=m)/\(foldB V (perms n (nums_to n))).2.2=(((perms n (nums_to n)).countP (fun l=>decide (V l=m)):Nat):Int):=by
 have hne:=perms_any n
 have hlen:=perms_len n (nums_to n) (nums_to_length _)
 have h8:=facN_le n hn
 unfold foldB
 generalize perms n (nums_to n)=P at hne hlen ⊢
 cases P with
 | nil=>exact absurd rfl hne
 | cons l P=>
  rw [List.length_cons] at hlen
  have e:stepB V l ([],0,0)=(l,V l,1):=by unfold stepB;rw [if_pos (.inl rfl)]
  rw [List.foldl_cons,e]
  obtain ⟨m,h2,h3,h4,h5,h6⟩:=bst_fold V P (l,V l,1) 1 rfl (by omega) (by omega)
  have h3':m<=V l:=h3
  refine ⟨m,h2,fun l' hl'=>?_,?_,?_⟩
  ·rcases List.mem_cons.1 hl' with rfl|hl'
   ·exact h3'
   ·exact h4 l' hl'
  ·rcases h5 with h5 | ⟨l',hl',h5⟩
   ·exact ⟨l,List.mem_cons_self,h5.symm⟩
   ·exact ⟨l',List.mem_cons_of_mem _ hl',h5⟩
  ·rw [h6,List.countP_cons]
   have e2:(m=(l,V l,(1:Int)).2.1)=(V l=m):=propext ⟨fun h=>h.symm,fun h=>h.symm⟩
   simp only [e2,decide_eq_true_eq];omega
theorem planC_ls {jobs:List J} {m:Nat} {E:List A2} (h:ParOk jobs (m:Int) E) {l:List Int} (hl:IsPerm jobs.length l):LSd jobs (cloF jobs.length E) l m (planC jobs (m:Int) E l):=
 planLS h.1.1 h.2.2 hl (by have:=h.2.1;omega) (planC_spec h hl).2.1
def asgI (jobs:List J) (A:Nat->Nat) (q:Nat):Nat->Nat->Int
 | 0,_=>0
 | c + 1,i=>(if A i=q then tmI jobs (i:Int) else 0) + asgI jobs A q c (i + 1)
def finI (jobs:List J) (loads:List Int) (A:Nat->Nat) (c i q:Nat):Int:=rd loads (q:Int) + asgI jobs A q c i
/-- the least greatest load that jobs can bring loads to -/
structure LdV (jobs:List J) (m:Nat) (loads:List Int) (c i:Nat) (V:Int):Prop where
 ex:∃ A:Nat->Nat,(∀ j,A j<m)/\∀ q,q<m->finI jobs loads A c i q<=V
 le:∀ (A:Nat->Nat) (L:Int),(∀ j,A j<m)->(∀ q,q<m->finI jobs loads A c i q<=L)->V<=L
theorem LdV.uniq {jobs:List J} {m:Nat} {loads:List Int} {c i:Nat} {V V':Int} (h:LdV jobs m loads c i V) (h':LdV jobs m loads c i V'):V=V':=by
 obtain ⟨A,a1,a2⟩:=h.ex
 obtain ⟨B,b1,b2⟩:=h'.ex
 have:=h.le B V' b1 b2
 have:=h'.le A V a1 a2
 omega
theorem asgI_congr {jobs:List J} {A B:Nat->Nat} {q:Nat} : ∀ (c i:Nat),(∀ j,i<=j->A j=B j)->asgI jobs A q c i=asgI jobs B q c i
 | 0,_,_=>rfl
 | c + 1,i,h=>by rw [asgI,asgI,h i (Nat.le_refl _),asgI_congr c (i + 1) (fun j hj=>h j (by omega))]
theorem asgI_map {jobs:List J} {A B:Nat->Nat} {q r:Nat} (h:∀ j,A j=q ↔ B j=r):∀ (c i:Nat),asgI jobs A q c i=asgI jobs B r c i
 | 0,_=>rfl
 | c + 1,i=>by
  rw [asgI,asgI,asgI_map h c (i + 1)]
  by_cases e:A i=q
  ·rw [if_pos e,if_pos ((h i).1 e)]
  ·rw [if_neg e,if_neg (fun e2=>e ((h i).2 e2))]
theorem ovr (A:Nat->Nat) (i:Nat) {a0 m:Nat} (h1:a0<m) (h2:∀ j,A j<m):∃ B:Nat->Nat,B i=a0/\(∀ j,i + 1<=j->B j=A j)/\∀ j,B j<m:=
 ⟨fun j=>if j=i then a0 else A j,if_pos rfl,fun j hj=>if_neg (by omega),fun j=>by
  show (if j=i then a0 else A j)<m
  split
  ·exact h1
  ·exact h2 j⟩
theorem finI_step {jobs:List J} {m:Nat} {loads:List Int} (hl:loads.length=m) (A:Nat->Nat) (c i q:Nat) (hA:A i<m) (hq:q<m):finI jobs loads A (c + 1) i q=finI jobs (loads.set (A i) (rd loads (A i:Int) + tmI jobs (i:Int))) A c (i + 1) q:=by
 unfold finI
 rw [asgI,rd_setI (by omega) (by omega)]
 by_cases e:A i=q
 ·rw [if_pos e,if_pos e,e];omega
 ·rw [if_neg e,if_neg e];omega
theorem ldv_zero {jobs:List J} {m:Nat} (hm:0<m) {loads:List Int} (hl:loads.length=m) (h0:∀ q,q<m->0<=rd loads (q:Int)) (i:Nat):LdV jobs m loads 0 i (mxW loads 0):=by
 have ge:∀ (l:List Int) (a x:Int),x ∈ l->x<=mxW l a:=by
  intro l
  induction l with
  | nil=>intro a x h;cases h
  | cons y l ih=>
   intro a x h
   rw [mxW]
   rcases List.mem_cons.1 h with rfl|h
   ·have:=mxW_ge l (mx a x)
    have:x<=mx a x:=by unfold mx;split <;> omega
    omega
   ·exact ih _ x h
 have le:∀ (l:List Int) (a M:Int),a<=M->(∀ x ∈ l,x<=M)->mxW l a<=M:=by
  intro l
  induction l with
  | nil=>intro a M h _;exact h
  | cons y l ih=>
   intro a M h hx
   rw [mxW]
   refine ih _ M ?_ (fun x h=>hx x (List.mem_cons_of_mem _ h))
   have:=hx y List.mem_cons_self
   unfold mx;split <;> omega
 refine ⟨⟨fun _=>0,fun _=>hm,fun q hq=>?_⟩,fun A L _ h=>?_⟩
 ·unfold finI asgI
  rw [rd_nat (show q<loads.length by omega)]
  have:=ge loads 0 _ (List.getElem_mem (show q<loads.length by omega))
  omega
 ·have hq0:=h 0 hm
  have h00:=h0 0 hm
  unfold finI asgI at hq0
  refine le loads 0 L (by omega) fun x hx=>?_
  obtain ⟨q,hq,rfl⟩:=List.getElem_of_mem hx
  have:=h q (by omega)
  unfold finI asgI at this
  rw [rd_nat hq] at this
  omega
theorem ldv_min {jobs:List J} {m:Nat} {loads:List Int} (hl:loads.length=m) {c i:Nat} {Vq:Nat->Int} (hz:∀ a b,a<b->b<m->rd loads (a:Int)=0->rd loads (b:Int)=0) {ok:Nat->Prop} (hok:∀ a,a<m->(∀ b,b<a->rd loads (b:Int)≠0)->ok a) (hV:∀ a,a<m->ok a->LdV jobs m (loads.set a (rd loads (a:Int) + tmI jobs (i:Int))) c (i + 1) (Vq a)) {V:Int} {a0:Nat} (ha0:a0<m) (hoa:ok a0) (hVa:V=Vq a0) (hle:∀ a,a<m->(∀ b,b<a->rd loads (b:Int)≠0)->V<=Vq a):LdV jobs m loads (c + 1) i V:=by
 refine ⟨?_,fun A L hA hL=>?_⟩
 ·obtain ⟨A,a1,a2⟩:=(hV a0 ha0 hoa).ex
  obtain ⟨B,b1,b2,b3⟩:=ovr A i ha0 a1
  refine ⟨B,b3,fun q hq=>?_⟩
  rw [finI_step hl B c i q (b3 i) hq,b1,hVa]
  have:=a2 q hq
  unfold finI at this ⊢
  rw [asgI_congr (A:=B) (B:=A) c (i + 1) b2]
  exact this
 ·by_cases hc:∀ b,b<A i->rd loads (b:Int)≠0
  ·have h1:=(hV (A i) (hA i) (hok _ (hA i) hc)).le A L hA (fun q hq=>by rw [<-finI_step hl A c i q (hA i) hq];exact hL q hq)
   have:=hle (A i) (hA i) hc
   omega
  · -- the first machine with the load 0
   have ⟨b,hb⟩:=Classical.not_forall.1 hc
   have ⟨hbA,hb0⟩:=Classical.not_forall.1 hb
   have hb0:rd loads (b:Int)=0:=Classical.not_not.1 hb0
   obtain ⟨z,hzb,hz0,hzf⟩:∃ z,z<=b/\rd loads (z:Int)=0/\∀ y,y<z->rd loads (y:Int)≠0:=by
    have go:∀ (d b:Nat),b<=d->rd loads (b:Int)=0->∃ z,z<=b/\rd loads (z:Int)=0/\∀ y,y<z->rd loads (y:Int)≠0:=by
     intro d
     induction d with
     | zero=>intro b h1 h2;exact ⟨b,Nat.le_refl _,h2,fun y hy=>by omega⟩
     | succ d ih=>
      intro b h1 h2
      by_cases c:∃ y,y<b/\rd loads (y:Int)=0
      ·obtain ⟨y,hy,hy0⟩:=c
       obtain ⟨z,z1,z2,z3⟩:=ih y (by omega) hy0
       exact ⟨z,by omega,z2,z3⟩
      ·exact ⟨b,Nat.le_refl _,h2,fun y hy h=>c ⟨y,hy,h⟩⟩
    exact go b b (Nat.le_refl _) hb0
   have hzA:z<A i:=by omega
   have hAi:=hA i
   have hA0:=hz z (A i) hzA hAi hz0
   let B:Nat->Nat:=fun j=>if A j=A i then z else if A j=z then A i else A j
   have hBi:B i=z:=if_pos rfl
   have hB:∀ j,B j<m:=fun j=>by
    have:=hA j
    simp only [B];split
    ·omega
    ·split <;> omega
   have hBL:∀ q,q<m->finI jobs loads B (c + 1) i q<=L:=fun q hq=>by
    by_cases e1:q=z
    ·have e:asgI jobs B q (c + 1) i=asgI jobs A (A i) (c + 1) i:=asgI_map (fun j=>by
      simp only [B];rw [e1]
      by_cases h1:A j=A i
      ·rw [if_pos h1];exact ⟨fun _=>h1,fun _=>rfl⟩
      ·rw [if_neg h1]
       by_cases h2:A j=z
       ·rw [if_pos h2];constructor <;> intro h <;> omega
       ·rw [if_neg h2];constructor <;> intro h <;> omega) _ _
     have:=hL (A i) hAi
     unfold finI at this ⊢
     rw [e,e1];omega
    ·by_cases e2:q=A i
     ·have e:asgI jobs B q (c + 1) i=asgI jobs A z (c + 1) i:=asgI_map (fun j=>by
       simp only [B];rw [e2]
       by_cases h1:A j=A i
       ·rw [if_pos h1];constructor <;> intro h <;> omega
       ·rw [if_neg h1]
        by_cases h2:A j=z
        ·rw [if_pos h2];exact ⟨fun _=>h2,fun _=>rfl⟩
        ·rw [if_neg h2];constructor <;> intro h <;> omega) _ _
      have:=hL z (by omega)
      unfold finI at this ⊢
      rw [e,e2];omega
     ·have e:asgI jobs B q (c + 1) i=asgI jobs A q (c + 1) i:=asgI_map (fun j=>by
       simp only [B]
       by_cases h1:A j=A i
       ·rw [if_pos h1];constructor <;> intro h <;> omega
       ·rw [if_neg h1]
        by_cases h2:A j=z
        ·rw [if_pos h2];constructor <;> intro h <;> omega
        ·rw [if_neg h2]) _ _
      have:=hL q hq
      unfold finI at this ⊢
      rw [e];exact this
   have hzm:z<m:=by omega
   have h1:=(hV z hzm (hok z hzm hzf)).le B L hB (fun q hq=>by rw [<-hBi,<-finI_step hl B c i q (by rw [hBi];exact hzm) hq];exact hBL q hq)
   have:=hle z hzm hzf
   omega
theorem set_bd {jobs:List J} (hj:JobsOk jobs) {m:Nat} {loads:List Int} (hl:loads.length=m) {i:Nat} (hi:i<jobs.length) (hb:∀ q,q<m->0<=rd loads (q:Int)/\rd loads (q:Int)<=50 * (i:Int)) {a:Nat} (ha:a<m):(loads.set a (rd loads (a:Int) + tmI jobs (i:Int))).length=m/\∀ q,q<m->0<=rd (loads.set a (rd loads (a:Int) + tmI jobs (i:Int))) (q:Int)/\rd (loads.set a (rd loads (a:Int) + tmI jobs (i:Int))) (q:Int)<=50 * ((i + 1:Nat):Int):=by
 have ht:=tmI_in hj (i:=(i:Int)) (by omega) (by omega)
 refine ⟨by rw [List.length_set];exact hl,fun q hq=>?_⟩
 rw [rd_setI (by omega) (by omega)]
 have h1:=hb q hq
 have h2:=hb a ha
 split <;> omega
theorem spec_l7Load.ev {jobs:List J} (hj:JobsOk jobs) {m:Nat} (hm:0<m/\m<=1000):∀ (c i:Nat) (loads:List Int),i + c=jobs.length->loads.length=m->(∀ q,q<m->0<=rd loads (q:Int)/\rd loads (q:Int)<=50 * (i:Int))->∃ V,Ev (fun k=>spec_l7Load.f k jobs loads (i:Int)) V/\0<=V/\∀ ok:Prop,LdV jobs m loads c i V:=by
 intro c
 induction c with
 | zero=>
  intro i loads hi hl hb
  refine ⟨mxW loads 0,ev_go (fun k=>(spec_l2Last.f k loads).bind fun t=>some t) (fun k=>?_) (ev_bind _ (spec_l2Last.ev loads (by omega)) (Ev.now _)),mxW_ge _ _,fun _=>ldv_zero hm.1 hl (fun q hq=>(hb q hq).1) i⟩
  simp only [spec_l7Load.f];rw [if_pos (by omega)]
 | succ c ih=>
  intro i loads hi hl hb
  have h8:=hj.1
  have hin:i<jobs.length:=by omega
  have ht:=tmI_in hj (i:=(i:Int)) (by omega) (by omega)
  have IH:∀ a,a<m->∃ V,Ev (fun k=>spec_l7Load.f k jobs (loads.set a (rd loads (a:Int) + tmI jobs (i:Int))) ((i + 1:Nat):Int)) V/\0<=V/\∀ ok:Prop,LdV jobs m (loads.set a (rd loads (a:Int) + tmI jobs (i:Int))) c (i + 1) V:=fun a ha=>by
   obtain ⟨b1,b2⟩:=set_bd hj hl hin hb ha
   exact ih (i + 1) _ (by omega) b1 b2
  let Vq:Nat->Int:=fun a=>if h:a<m then Classical.choose (IH a h) else 0
  have hVq:∀ a,a<m->Ev (fun k=>spec_l7Load.f k jobs (loads.set a (rd loads (a:Int) + tmI jobs (i:Int))) ((i + 1:Nat):Int)) (Vq a)/\0<=Vq a/\∀ ok:Prop,LdV jobs m (loads.set a (rd loads (a:Int) + tmI jobs (i:Int))) c (i + 1) (Vq a):=fun a ha=>by
   have e:Vq a=Classical.choose (IH a ha):=dif_pos ha
   rw [e];exact Classical.choose_spec (IH a ha)
  have main:=rev_ind (P:=fun q=>∀ best:Int,(q=0/\best= -1\/0<q/\(∃ a,a<q/\best=Vq a)/\∀ a,a<q->best<=Vq a)->∃ V,Ev (fun k=>spec_l7Load.l0 k jobs loads (i:Int) best (q:Int)) V/\(∃ a,a<m/\V=Vq a)/\∀ a,a<m->V<=Vq a) m ?_ ?_ 0 (Nat.zero_le _) (-1) (.inl ⟨rfl,rfl⟩)
  ·obtain ⟨V,v1,⟨a,ha,hVa⟩,v3⟩:=main
   refine ⟨V,ev_go _ (fun k=>?_) v1,by rw [hVa];exact (hVq a ha).2.1,fun _=>?_⟩
   ·simp only [spec_l7Load.f];rw [if_neg (by omega)];rfl
   ·refine ⟨?_,fun A L hA hL=>?_⟩
    ·obtain ⟨A,a1,a2⟩:=((hVq a ha).2.2 True).ex
     obtain ⟨B,b1,b2,b3⟩:=ovr A i ha a1
     refine ⟨B,b3,fun q hq=>?_⟩
     rw [finI_step hl B c i q (b3 i) hq,b1,hVa]
     have:=a2 q hq
     unfold finI at this ⊢
     rw [asgI_congr (A:=B) (B:=A) c (i + 1) b2]
     exact this
    ·have h1:=((hVq (A i) (hA i)).2.2 True).le A L hA (fun q hq=>by rw [<-finI_step hl A c i q (hA i) hq];exact hL q hq)
     have:=v3 (A i) (hA i)
     omega
  ·intro best h
   rcases h with ⟨h,_⟩ | ⟨_,h1,h2⟩
   ·omega
   ·refine ⟨best,ev_stop fun k=>?_,h1,h2⟩
    simp only [spec_l7Load.l0];rw [if_neg (by omega)]
  ·intro q hq ihq best h
   obtain ⟨e1,e2,_⟩:=hVq q hq
   have hbq:=hb q hq
   have w1:wrap64 (rd loads (q:Int) + (rd_T31 jobs (i:Int)).f0)=rd loads (q:Int) + tmI jobs (i:Int):=by unfold tmI at ht ⊢;exact wr (by omega) (by omega)
   obtain ⟨best2,hb2,hb3⟩:∃ best2,(∀ k,(if best<0 then spec_l7Load.l0 k jobs loads (i:Int) (Vq q) ((q + 1:Nat):Int) else (if Vq q<best then spec_l7Load.l0 k jobs loads (i:Int) (Vq q) ((q + 1:Nat):Int) else spec_l7Load.l0 k jobs loads (i:Int) best ((q + 1:Nat):Int)))=spec_l7Load.l0 k jobs loads (i:Int) best2 ((q + 1:Nat):Int))/\(q + 1=0/\best2= -1\/0<q + 1/\(∃ a,a<q + 1/\best2=Vq a)/\∀ a,a<q + 1->best2<=Vq a):=by
    rcases h with ⟨h1,h2⟩ | ⟨h1,⟨a,ha,hba⟩,h3⟩
    ·refine ⟨Vq q,fun k=>by rw [if_pos (by omega)],.inr ⟨by omega,⟨q,by omega,rfl⟩,fun a ha=>?_⟩⟩
     rw [show a=q by omega];exact Int.le_refl _
    ·have hb0:0<=best:=by rw [hba];exact (hVq a (by omega)).2.1
     by_cases c2:Vq q<best
     ·refine ⟨Vq q,fun k=>by rw [if_neg (by omega),if_pos c2],.inr ⟨by omega,⟨q,by omega,rfl⟩,fun x hx=>?_⟩⟩
      by_cases e:x=q
      ·rw [e];exact Int.le_refl _
      ·have:=h3 x (by omega);omega
     ·refine ⟨best,fun k=>by rw [if_neg (by omega),if_neg c2],.inr ⟨by omega,⟨a,by omega,hba⟩,fun x hx=>?_⟩⟩
      by_cases e:x=q
      ·rw [e];omega
      ·exact h3 x (by omega)
   obtain ⟨V,v1,v2⟩:=ihq best2 hb3
   refine ⟨V,ev_go (fun k=>(spec_l7Load.f k jobs (loads.set q (rd loads (q:Int) + tmI jobs (i:Int))) ((i + 1:Nat):Int)).bind fun t=>if best<0 then spec_l7Load.l0 k jobs loads (i:Int) t ((q + 1:Nat):Int) else (if t<best then spec_l7Load.l0 k jobs loads (i:Int) t ((q + 1:Nat):Int) else spec_l7Load.l0 k jobs loads (i:Int) best ((q + 1:Nat):Int))) (fun k=>?_) (ev_bind _ e1 (by rw [show (fun k=>if best<0 then spec_l7Load.l0 k jobs loads (i:Int) (Vq q) ((q + 1:Nat):Int) else (if Vq q<best then spec_l7Load.l0 k jobs loads (i:Int) (Vq q) ((q + 1:Nat):Int) else spec_l7Load.l0 k jobs loads (i:Int) best ((q + 1:Nat):Int)))=fun k=>spec_l7Load.l0 k jobs loads (i:Int) best2 ((q + 1:Nat):Int) from funext hb2];exact v1)),v2⟩
   simp only [spec_l7Load.l0]
   rw [if_pos (by omega),spec_l1Own.eq _ (by omega),Option.bind_some,if_pos (by omega),if_pos (by omega),if_pos (by omega),if_pos (by omega),w1,wr1 (by omega),wr1 (by omega),Int.toNat_natCast]
theorem impl_leastLoad.ev {jobs:List J} (hj:JobsOk jobs) {m:Nat} (hm:0<m/\m<=1000):∀ (c i:Nat) (loads:List Int),i + c=jobs.length->loads.length=m->(∀ q,q<m->0<=rd loads (q:Int)/\rd loads (q:Int)<=50 * (i:Int))->(∀ a b,a<b->b<m->rd loads (a:Int)=0->rd loads (b:Int)=0)->∃ V,Ev (fun k=>impl_leastLoad.f k jobs loads (i:Int)) V/\0<=V/\LdV jobs m loads c i V:=by
 intro c
 induction c with
 | zero=>
  intro i loads hi hl hb _
  refine ⟨mxW loads 0,ev_go (fun k=>(impl_greatestOf.f k loads).bind fun t=>some t) (fun k=>?_) (ev_bind _ (impl_greatestOf.ev loads (by omega)) (Ev.now _)),mxW_ge _ _,ldv_zero hm.1 hl (fun q hq=>(hb q hq).1) i⟩
  simp only [impl_leastLoad.f];rw [if_pos (by omega)]
 | succ c ih=>
  intro i loads hi hl hb hz
  have h8:=hj.1
  have hin:i<jobs.length:=by omega
  have ht:=tmI_in hj (i:=(i:Int)) (by omega) (by omega)
  let ok:Nat->Prop:=fun a=>∀ b,b<a->rd loads (b:Int)≠0
  have IH:∀ a,a<m->ok a->∃ V,Ev (fun k=>impl_leastLoad.f k jobs (loads.set a (rd loads (a:Int) + tmI jobs (i:Int))) ((i + 1:Nat):Int)) V/\0<=V/\LdV jobs m (loads.set a (rd loads (a:Int) + tmI jobs (i:Int))) c (i + 1) V:=fun a ha hok=>by
   obtain ⟨b1,b2⟩:=set_bd hj hl hin hb ha
   refine ih (i + 1) _ (by omega) b1 b2 fun x y hxy hy hx0=>?_
   rw [rd_setI (by omega) (by omega)] at hx0 ⊢
   have hba:=hb a ha
   by_cases e1:a=x
   ·rw [if_pos e1] at hx0;omega
   ·rw [if_neg e1] at hx0
    by_cases e2:a=y
    ·exact absurd hx0 (hok x (by omega))
    ·rw [if_neg e2];exact hz x y hxy hy hx0
  let Vq:Nat->Int:=fun a=>if h:a<m/\ok a then Classical.choose (IH a h.1 h.2) else 0
  have hVq:∀ a,a<m->ok a->Ev (fun k=>impl_leastLoad.f k jobs (loads.set a (rd loads (a:Int) + tmI jobs (i:Int))) ((i + 1:Nat):Int)) (Vq a)/\0<=Vq a/\LdV jobs m (loads.set a (rd loads (a:Int) + tmI jobs (i:Int))) c (i + 1) (Vq a):=fun a ha hok=>by
   have e:Vq a=Classical.choose (IH a ha hok):=dif_pos ⟨ha,hok⟩
   rw [e];exact Classical.choose_spec (IH a ha hok)
  have main:=rev_ind (P:=fun q=>ok q->∀ best:Int,(q=0/\best= -1\/0<q/\(∃ a,a<q/\ok a/\best=Vq a)/\∀ a,a<q->best<=Vq a)->∃ V,Ev (fun k=>impl_leastLoad.l0 k jobs loads (i:Int) best (m:Int) (q:Int)) V/\(∃ a,a<m/\ok a/\V=Vq a)/\∀ a,a<m->ok a->V<=Vq a) m ?_ ?_ 0 (Nat.zero_le _) (fun b hb=>by omega) (-1) (.inl ⟨rfl,rfl⟩)
  ·obtain ⟨V,v1,⟨a,ha,hoa,hVa⟩,v3⟩:=main
   refine ⟨V,ev_go _ (fun k=>?_) v1,by rw [hVa];exact (hVq a ha hoa).2.1,ldv_min hl hz (ok:=ok) (fun a _ h=>h) (fun a ha h=>(hVq a ha h).2.2) ha hoa hVa v3⟩
   simp only [impl_leastLoad.f];rw [if_neg (by omega),hl];rfl
  ·intro _ best h
   rcases h with ⟨h,_⟩ | ⟨_,⟨a,h1,h2,h3⟩,h4⟩
   ·omega
   ·refine ⟨best,ev_stop fun k=>?_,⟨a,h1,h2,h3⟩,fun x hx _=>h4 x hx⟩
    simp only [impl_leastLoad.l0];rw [if_neg (by omega)]
  ·intro q hq ihq hokq best h
   obtain ⟨e1,e2,_⟩:=hVq q hq hokq
   have hbq:=hb q hq
   have w1:wrap64 (rd loads (q:Int) + (rd_T31 jobs (i:Int)).f0)=rd loads (q:Int) + tmI jobs (i:Int):=by unfold tmI at ht ⊢;exact wr (by omega) (by omega)
   obtain ⟨bb,best2,hb2,hb3,hb4⟩:∃ (bb:Bool) (best2:Int),(∀ k,(if best<0 then impl_leastLoad.j1 k jobs loads (i:Int) best (q:Int) (Vq q) (m:Int) (q:Int) true else impl_leastLoad.j1 k jobs loads (i:Int) best (q:Int) (Vq q) (m:Int) (q:Int) (decide (Vq q<best)))=impl_leastLoad.j1 k jobs loads (i:Int) best (q:Int) (Vq q) (m:Int) (q:Int) bb)/\best2=(if bb=true then Vq q else best)/\((∃ a,a<q + 1/\ok a/\best2=Vq a)/\∀ a,a<q + 1->best2<=Vq a):=by
    rcases h with ⟨h1,h2⟩ | ⟨h1,⟨a,ha,hoa,hba⟩,h3⟩
    ·refine ⟨true,Vq q,fun k=>by rw [if_pos (by omega)],by simp,⟨q,by omega,hokq,rfl⟩,fun a ha=>?_⟩
     rw [show a=q by omega];exact Int.le_refl _
    ·have hb0:0<=best:=by rw [hba];exact (hVq a (by omega) hoa).2.1
     by_cases c2:Vq q<best
     ·refine ⟨true,Vq q,fun k=>by rw [if_neg (by omega),decide_eq_true c2],by simp,⟨q,by omega,hokq,rfl⟩,fun x hx=>?_⟩
      by_cases e:x=q
      ·rw [e];exact Int.le_refl _
      ·have:=h3 x (by omega);omega
     ·refine ⟨false,best,fun k=>by rw [if_neg (by omega),decide_eq_false c2],by simp,⟨a,by omega,hoa,hba⟩,fun x hx=>?_⟩
      by_cases e:x=q
      ·rw [e];omega
      ·exact h3 x (by omega)
   have step:∀ {V:Int},Ev (fun k=>impl_leastLoad.j1 k jobs loads (i:Int) best (q:Int) (Vq q) (m:Int) (q:Int) bb) V->Ev (fun k=>impl_leastLoad.l0 k jobs loads (i:Int) best (m:Int) (q:Int)) V:=fun {V} hV=>by
    refine ev_go (fun k=>(impl_leastLoad.f k jobs (loads.set q (rd loads (q:Int) + tmI jobs (i:Int))) ((i + 1:Nat):Int)).bind fun t=>if best<0 then impl_leastLoad.j1 k jobs loads (i:Int) best (q:Int) t (m:Int) (q:Int) true else impl_leastLoad.j1 k jobs loads (i:Int) best (q:Int) t (m:Int) (q:Int) (decide (t<best))) (fun k=>?_) (ev_bind _ e1 (by simp only [hb2];exact hV))
    simp only [impl_leastLoad.l0]
    rw [if_pos (by omega),impl_copyInts.eq _ (by omega),Option.bind_some,if_pos (by omega),if_pos (by omega),if_pos (by omega),if_pos (by omega),w1,wr1 (by omega),Int.toNat_natCast]
   by_cases z0:rd loads (q:Int)=0
   ·refine ⟨best2,step (ev_stop fun k=>?_),?_,fun a ha hoa=>?_⟩
    ·simp only [impl_leastLoad.j1]
     cases bb with
     | true=>rw [if_pos rfl,if_pos (by omega),if_pos (by omega),if_pos z0,hb3,if_pos rfl]
     | false=>rw [if_neg (by decide),if_pos (by omega),if_pos (by omega),if_pos z0,hb3,if_neg (by decide)]
    ·obtain ⟨a,ha,hoa,hba⟩:=hb4.1
     exact ⟨a,by omega,hoa,hba⟩
    ·by_cases c2:a<q + 1
     ·exact hb4.2 a c2
     ·exact absurd z0 (hoa q (by omega))
   ·obtain ⟨V,v1,v2⟩:=ihq (fun b hb=>by
     by_cases e:b=q
     ·rw [e];exact z0
     ·exact hokq b (by omega)) best2 (.inr ⟨by omega,hb4⟩)
    refine ⟨V,step (ev_go (fun k=>impl_leastLoad.l0 k jobs loads (i:Int) best2 (m:Int) ((q + 1:Nat):Int)) (fun k=>?_) v1),v2⟩
    simp only [impl_leastLoad.j1]
    cases bb with
    | true=>rw [if_pos rfl,if_pos (by omega),if_pos (by omega),if_neg z0,hb3,if_pos rfl,wr1 (by omega)]
    | false=>rw [if_neg (by decide),if_pos (by omega),if_pos (by omega),if_neg z0,hb3,if_neg (by decide),wr1 (by omega)]
theorem loadBoth {jobs:List J} {m:Nat} (h:ParOk jobs (m:Int) []):∃ V,Ev (fun k=>impl_LeastLoad.f k jobs (m:Int)) (V,true)/\Ev (fun k=>spec_LeastLoad.f k jobs (m:Int)) (V,true)/\0<=V/\LdV jobs m (List.replicate m 0) jobs.length 0 V:=by
 have hj:=h.1.1
 have h8:=hj.1
 have hm:=h.2.1
 have rr:∀ q,q<m->rd (List.replicate m (0:Int)) (q:Int)=0:=fun q hq=>by rw [rd_nat (by simpa using hq)];simp
 have hb:∀ q,q<m->0<=rd (List.replicate m (0:Int)) (q:Int)/\rd (List.replicate m (0:Int)) (q:Int)<=50 * ((0:Nat):Int):=fun q hq=>by rw [rr q hq];omega
 obtain ⟨V,v1,v2,v3⟩:=impl_leastLoad.ev hj (m:=m) (by omega) jobs.length 0 (List.replicate m 0) (by omega) (by simp) hb (fun a b _ hb' _=>rr b hb')
 obtain ⟨V',u1,u2,u3⟩:=spec_l7Load.ev hj (m:=m) (by omega) jobs.length 0 (List.replicate m 0) (by omega) (by simp) hb
 have e:V'=V:=(u3 True).uniq v3
 subst e
 refine ⟨V',?_,?_,v2,v3⟩
 ·unfold impl_LeastLoad.f
  refine ev_guard' (impl_isParallel.ev jobs (m:Int) [] (by omega) (by simp)) (fun _=>?_) (fun hn=>absurd h hn)
  simp only [if_pos (show (0:Int)<=(m:Int) by omega),if_pos (show ((m:Int)).toNat<=35184372088832 by omega)]
  exact ev_bind _ v1 (Ev.now _)
 ·unfold spec_LeastLoad.f
  refine ev_guard' (spec_l7Good.ev jobs (m:Int) [] (by omega) (by simp)) (fun _=>?_) (fun hn=>absurd h hn)
  simp only [if_pos (show (0:Int)<=(m:Int) by omega),if_pos (show ((m:Int)).toNat<=35184372088832 by omega)]
  exact ev_bind _ u1 (Ev.now _)
theorem impl_isDate.eq2 (a:Int) (h:0<=a/\a<=500):impl_isDate.f a=some true:=by
 unfold impl_isDate.f
 rw [impl_within.eq,Option.bind_some,decide_eq_true h]
theorem impl_isPlan.ok {jobs:List J} {m:Nat} {E:List A2} (h:ParOk jobs (m:Int) E) {l:List Int} {r:List PTask} (hin:PlanIn jobs r) (hls:LSd jobs (cloF jobs.length E) l m r):Ev (fun k=>impl_isPlan.f k jobs (m:Int) E r) true:=by
 have hj:=h.1.1
 have h8:=hj.1
 have hm:=h.2.1
 have hE:=h.2.2
 have h28:=hE.1.2.1
 have hrl:=hin.1
 have st:∀ j:Nat,j<jobs.length->(rd_T40 r (j:Int)).f0=(j:Int)/\0<=tS r j/\tS r j<=400/\1<=tmI jobs (j:Int)/\tmI jobs (j:Int)<=50:=fun j hj2=>by
  have h1:=hin.2 j hj2
  have h2:=tmI_in hj (i:=(j:Int)) (by omega) (by omega)
  unfold tS
  exact ⟨h1.1,h1.2.1,by omega,h2.1,h2.2⟩
 unfold impl_isPlan.f
 simp only [if_pos (show (r.length:Int)=(jobs.length:Int) by omega)]
 refine ev_bind _ (impl_closure.ev jobs.length E (by omega) (by omega) (PairsOk.edg hE.1.2.2)) ?_
 have l1:=rev_ind (P:=fun i=>Ev (fun k=>impl_isPlan.l1 k jobs r (tbl jobs.length (cloF jobs.length E)) r (r.length:Int) (i:Int)) true) r.length ?_ ?_ 0 (Nat.zero_le _)
 ·refine rev_ind (P:=fun i=>Ev (fun k=>impl_isPlan.l0 k jobs (m:Int) r (tbl jobs.length (cloF jobs.length E)) r (r.length:Int) (i:Int)) true) r.length ?_ ?_ 0 (Nat.zero_le _)
  ·refine ev_go _ (fun k=>?_) l1
   simp only [impl_isPlan.l0];rw [if_neg (by omega)];rfl
  ·intro i hi ih
   obtain ⟨s1,s2,s3,s4,s5⟩:=st i (by omega)
   have hM:=hls.mach i (by omega)
   refine ev_go _ (fun k=>?_) ih
   unfold tM at hM
   unfold tS at s2 s3
   simp only [impl_isPlan.l0]
   rw [if_pos (by omega),if_pos (by omega),if_pos (by omega),if_pos s1,impl_isNumber.eq _ _ (by omega) (by omega),Option.bind_some,if_pos (decide_eq_true hM),impl_isDate.eq2 _ ⟨s2,by omega⟩,Option.bind_some,if_pos rfl,wr1 (by omega)]
 ·refine ev_stop fun k=>?_
  simp only [impl_isPlan.l1];rw [if_neg (by omega)]
 ·intro i hi ih
  have hin2:i<jobs.length:=by omega
  obtain ⟨s1,s2,s3,s4,s5⟩:=st i hin2
  have inner:=rev_ind (P:=fun j=>Ev (fun k=>impl_isPlan.l2 k jobs r (tbl jobs.length (cloF jobs.length E)) (i:Int) r (r.length:Int) (i:Int) r (r.length:Int) (j:Int) (rd_T40 r (i:Int)).f0 (rd_T40 r (i:Int)).f1 (rd_T40 r (i:Int)).f2) true) r.length ?_ ?_ 0 (Nat.zero_le _)
  ·refine ev_go _ (fun k=>?_) inner
   simp only [impl_isPlan.l1];rw [if_pos (by omega),if_pos (by omega),if_pos (by omega)];rfl
  ·refine ev_go _ (fun k=>?_) ih
   simp only [impl_isPlan.l2];rw [if_neg (by omega),wr1 (by omega)]
  ·intro j hj2 ihj
   have hjn:j<jobs.length:=by omega
   obtain ⟨u1,u2,u3,u4,u5⟩:=st j hjn
   have w1:wrap64 ((rd_T40 r (i:Int)).f2 + (rd_T31 jobs (i:Int)).f0)=tS r i + tmI jobs (i:Int):=by unfold tmI at s4 s5 ⊢;unfold tS at s2 s3 ⊢;exact wr (by omega) (by omega)
   have w2:wrap64 ((rd_T40 r (j:Int)).f2 + (rd_T31 jobs (j:Int)).f0)=tS r j + tmI jobs (j:Int):=by unfold tmI at u4 u5 ⊢;unfold tS at u2 u3 ⊢;exact wr (by omega) (by omega)
   have hrow:=tbl_rowlen (f:=cloF jobs.length E) hin2
   have hat:=tbl_at (f:=cloF jobs.length E) hin2 hjn
   have hlen:=tbl_length jobs.length (cloF jobs.length E)
   have cont:Ev (fun k=>impl_isPlan.j3 k jobs r (tbl jobs.length (cloF jobs.length E)) (i:Int) (j:Int) (decide (tS r i + tmI jobs (i:Int)<=(rd_T40 r (j:Int)).f2)) r (r.length:Int) (i:Int) r (r.length:Int) (j:Int) false (rd_T40 r (i:Int)).f0 (rd_T40 r (i:Int)).f1 (rd_T40 r (i:Int)).f2 (rd_T40 r (j:Int)).f0 (rd_T40 r (j:Int)).f1 (rd_T40 r (j:Int)).f2) true:=by
    by_cases e:i=j
    ·refine ev_go _ (fun k=>?_) ihj
     simp only [impl_isPlan.j3];rw [if_neg (by decide),if_pos (by omega),wr1 (by omega)]
    ·by_cases eM:(rd_T40 r (i:Int)).f1=(rd_T40 r (j:Int)).f1
     ·have hap:=hls.apart i j hin2 hjn e eM
      by_cases ea:tS r i + tmI jobs (i:Int)<=(rd_T40 r (j:Int)).f2
      ·refine ev_go _ (fun k=>?_) ihj
       simp only [impl_isPlan.j3];rw [if_neg (by decide),if_neg (by omega),if_pos eM,if_pos (decide_eq_true ea),wr1 (by omega)]
      ·refine ev_go _ (fun k=>?_) ihj
       have hap2:tS r j + tmI jobs (j:Int)<=(rd_T40 r (i:Int)).f2:=by
        unfold tS at hap ea ⊢;omega
       simp only [impl_isPlan.j3];rw [if_neg (by decide),if_neg (by omega),if_pos eM,if_neg (by rw [decide_eq_false ea];decide),if_pos (by omega),if_pos (by omega),w2,if_neg (by omega),wr1 (by omega)]
     ·refine ev_go _ (fun k=>?_) ihj
      simp only [impl_isPlan.j3];rw [if_neg (by decide),if_neg (by omega),if_neg eM,wr1 (by omega)]
   by_cases hf:cloF jobs.length E i j=true
   ·have hp:=hls.prec i j hin2 hjn hf
    have ea:tS r i + tmI jobs (i:Int)<=(rd_T40 r (j:Int)).f2:=hp
    refine ev_go _ (fun k=>?_) cont
    simp only [impl_isPlan.l2]
    rw [if_pos (by omega),if_pos (by omega),if_pos (by omega),if_pos (by omega),if_pos (by omega),if_pos (by omega),if_pos (by omega),hat,if_pos hf,w1,decide_eq_true ea];rfl
   ·refine ev_go _ (fun k=>?_) cont
    simp only [impl_isPlan.l2]
    rw [if_pos (by omega),if_pos (by omega),if_pos (by omega),if_pos (by omega),if_pos (by omega),if_pos (by omega),if_pos (by omega),hat,if_neg hf,w1]
theorem planLength_ls {jobs:List J} {m:Nat} {E:List A2} (h:ParOk jobs (m:Int) E) {l:List Int} {r:List PTask} (hin:PlanIn jobs r) (hls:LSd jobs (cloF jobs.length E) l m r):Ev (fun k=>impl_PlanLength.f k jobs (m:Int) E r) (lenQ jobs r 0 0,true):=by
 have h8:=h.1.1.1
 have h28:=h.2.2.1.2.1
 unfold impl_PlanLength.f
 refine ev_guard' (impl_isParallel.ev jobs (m:Int) E (by omega) (by omega)) (fun _=>?_) (fun hn=>absurd h hn)
 refine ev_bind _ (impl_isPlan.ok h hin hls) ?_
 simp only [if_true]
 exact ev_bind _ (impl_planLength.ev jobs r h.1.1 hin) (Ev.now _)
theorem lenQ_le_iff (jobs:List J) (L:Int):∀ (l:List PTask) (i:Nat) (o:Int),lenQ jobs l i o<=L ↔ o<=L/\∀ j (hj:j<l.length),(l[j]).f2 + tmI jobs ((i + j:Nat):Int)<=L
 | [],i,o=>by simp [lenQ]
 | t::l,i,o=>by
  rw [lenQ,lenQ_le_iff jobs L l (i + 1)]
  have e:=mx_ge2 o (t.f2 + tmI jobs (i:Int))
  constructor
  ·rintro ⟨h1,h2⟩
   refine ⟨by omega,fun j hj=>?_⟩
   cases j with
   | zero=>simpa using (show t.f2 + tmI jobs (i:Int)<=L by omega)
   | succ j=>have:=h2 j (by simpa using hj);rw [show i + 1 + j=i + (j + 1) by omega] at this;simpa using this
  ·rintro ⟨h1,h2⟩
   have h3:=h2 0 (by simp)
   simp only [List.getElem_cons_zero,Nat.add_zero] at h3
   refine ⟨by rcases e.2.2 with e|e <;> omega,fun j hj=>?_⟩
   have:=h2 (j + 1) (by simpa using hj)
   rw [show i + (j + 1)=i + 1 + j by omega] at this
   simpa using this
theorem len_le {jobs:List J} {r:List PTask} (hin:PlanIn jobs r) (L:Int):lenQ jobs r 0 0<=L ↔ 0<=L/\∀ j,j<jobs.length->tS r j + tmI jobs (j:Int)<=L:=by
 rw [lenQ_le_iff]
 have hl:=hin.1
 constructor
 ·rintro ⟨h1,h2⟩
  refine ⟨h1,fun j hj=>?_⟩
  have:=h2 j (by omega)
  rw [Nat.zero_add] at this
  unfold tS
  rw [rdPTask (by omega)];exact this
 ·rintro ⟨h1,h2⟩
  refine ⟨h1,fun j hj=>?_⟩
  have:=h2 j (by omega)
  unfold tS at this
  rw [rdPTask (by omega)] at this
  rw [Nat.zero_add];exact this
def nS (r:List PTask) (j:Nat):Nat:=(tS r j).toNat
def nM (r:List PTask) (j:Nat):Nat:=(tM r j).toNat
def nP (jobs:List J) (j:Nat):Nat:=(tmI jobs (j:Int)).toNat
theorem nP_eq {jobs:List J} (hj:JobsOk jobs) {j:Nat} (h:j<jobs.length):((nP jobs j:Nat):Int)=tmI jobs (j:Int)/\1<=nP jobs j/\nP jobs j<=50:=by
 have:=tmI_in hj (i:=(j:Int)) (by omega) (by omega)
 unfold nP;omega
theorem nS_eq {jobs:List J} {r:List PTask} (h:PlanIn jobs r) {j:Nat} (hj:j<jobs.length):((nS r j:Nat):Int)=tS r j:=by
 have:=(h.2 j hj).2.1
 unfold nS tS;omega
theorem posN_pair {R:Int->Int->Prop} : ∀ {l:List Int},l.Pairwise R->∀ {x y:Int},x ∈ l->y ∈ l->posN l x<posN l y->R x y
 | [],_,_,_,h,_,_=>by cases h
 | a::l,hp,x,y,hx,hy,h=>by
  have hp':=List.pairwise_cons.1 hp
  rw [posN,posN] at h
  by_cases e2:a=y
  ·rw [if_pos e2] at h;omega
  ·have hy':=(List.mem_cons.1 hy).resolve_left (fun e=>e2 e.symm)
   by_cases e1:a=x
   ·subst e1;exact hp'.1 y hy'
   ·rw [if_neg e1,if_neg e2] at h
    exact posN_pair hp'.2 ((List.mem_cons.1 hx).resolve_left (fun e=>e1 e.symm)) hy' (by omega)
theorem perm_mem {n:Nat} {o:List Int} (ho:IsPerm n o) {i:Nat} (hi:i<n):(i:Int) ∈ o:=ho.all (i:Int) (by omega) (by omega)
/-- The best list plan, by the program. -/
theorem best_fold {jobs:List J} {m:Int} {E:List A2} (h:ParOk jobs m E):∃ b,IsPerm jobs.length b/\(∀ l,IsPerm jobs.length l->lenC jobs m E b<=lenC jobs m E l)/\(jobs.length<=6->Ev (fun k=>impl_BestListPlan.f k jobs m E) (planC jobs m E b,true)):=by
 have hj:=h.1.1
 have h8:=hj.1
 let u:List Int->List PTask × Int->List PTask × Int:=fun l s=>if s.2<0\/lenC jobs m E l<s.2 then (planC jobs m E l,lenC jobs m E l) else s
 have fold:∀ (P:List (List Int)) (b:List Int),(∀ l ∈ P,IsPerm jobs.length l)->IsPerm jobs.length b->∃ b',IsPerm jobs.length b'/\lenC jobs m E b'<=lenC jobs m E b/\(∀ l ∈ P,lenC jobs m E b'<=lenC jobs m E l)/\P.foldl (fun s l=>u l s) (planC jobs m E b,lenC jobs m E b)=(planC jobs m E b',lenC jobs m E b'):=by
  intro P
  induction P with
  | nil=>intro b _ hb;exact ⟨b,hb,Int.le_refl _,(fun l hl=>by cases hl),rfl⟩
  | cons l P ih=>
   intro b hP hb
   have hge:0<=lenC jobs m E b:=lenQ_ge jobs _ 0 0
   rw [List.foldl_cons]
   by_cases c:lenC jobs m E l<lenC jobs m E b
   ·have e:u l (planC jobs m E b,lenC jobs m E b)=(planC jobs m E l,lenC jobs m E l):=if_pos (.inr c)
    rw [e]
    obtain ⟨b',h1,h2,h3,h4⟩:=ih l (fun x hx=>hP x (List.mem_cons_of_mem _ hx)) (hP l List.mem_cons_self)
    exact ⟨b',h1,by omega,fun x hx=>by
     rcases List.mem_cons.1 hx with rfl|hx
     ·exact h2
     ·exact h3 x hx,h4⟩
   ·have e:u l (planC jobs m E b,lenC jobs m E b)=(planC jobs m E b,lenC jobs m E b):=if_neg (by
     intro hq
     rcases hq with hq|hq
     ·have hq:lenC jobs m E b<0:=hq
      omega
     ·exact c hq)
    rw [e]
    obtain ⟨b',h1,h2,h3,h4⟩:=ih b (fun x hx=>hP x (List.mem_cons_of_mem _ hx)) hb
    exact ⟨b',h1,h2,fun x hx=>by
     rcases List.mem_cons.1 hx with rfl|hx
     ·omega
     ·exact h3 x hx,h4⟩
 have hne:=perms_any jobs.length
 have hall:∀ l ∈ perms jobs.length (nums_to jobs.length),IsPerm jobs.length l:=fun l hl=>perms_isPerm hl
 have run:∃ b,IsPerm jobs.length b/\(∀ l ∈ perms jobs.length (nums_to jobs.length),lenC jobs m E b<=lenC jobs m E l)/\(perms jobs.length (nums_to jobs.length)).foldl (fun s l=>u l s) ([], -1)=(planC jobs m E b,lenC jobs m E b):=by
  generalize perms jobs.length (nums_to jobs.length)=P at hne hall
  cases P with
  | nil=>exact absurd rfl hne
  | cons l P=>
   rw [List.foldl_cons]
   have e:u l ([], -1)=(planC jobs m E l,lenC jobs m E l):=if_pos (.inl (by decide))
   rw [e]
   obtain ⟨b',h1,h2,h3,h4⟩:=fold P l (fun x hx=>hall x (List.mem_cons_of_mem _ hx)) (hall l List.mem_cons_self)
   exact ⟨b',h1,fun x hx=>by
    rcases List.mem_cons.1 hx with rfl|hx
    ·exact h2
    ·exact h3 x hx,h4⟩
 obtain ⟨b,h1,h2,h3⟩:=run
 refine ⟨b,h1,fun l hl=>h2 l (isPerm_perms hl),fun h6=>?_⟩
 have eI:=impl_eachOrder.ev (impl_BestListPlan.step jobs m E) u (fun _=>True) jobs.length (by omega) ([], -1) (fun l hl s _=>⟨by
  obtain ⟨q1,q2,q3⟩:=planC_spec h hl
  unfold impl_BestListPlan.step
  exact ev_bind _ q2 (ev_bind _ (impl_planLength.ev jobs _ hj q1) (Ev.now _)),trivial⟩) trivial
 rw [h3] at eI
 unfold impl_BestListPlan.f
 refine ev_guard' (impl_isParallel.ev jobs m E (by omega) (by have:=h.2.2.1.2.1;omega)) (fun _=>?_) (fun hn=>absurd h hn)
 simp only [if_neg (show ¬ (jobs.length:Int)>6 by omega)]
 exact ev_bind _ eI (Ev.now _)
theorem best_none {jobs:List J} {m:Int} {E:List A2} (h:ParOk jobs m E) (h6:¬ jobs.length<=6):Ev (fun k=>impl_BestListPlan.f k jobs m E) ([],false):=by
 have h8:=h.1.1.1
 unfold impl_BestListPlan.f
 refine ev_guard' (impl_isParallel.ev jobs m E (by omega) (by have:=h.2.2.1.2.1;omega)) (fun _=>?_) (fun hn=>absurd h hn)
 simp only [if_pos (show (jobs.length:Int)>6 by omega)]
 exact Ev.now _
theorem clo_nil (n:Nat) (i j:Nat):cloF n [] i j=false:=by
 have e:cloF n []=ffF:=fwK_ff n _
 rw [e];rfl
/-- a list plan without precedence, in whole numbers -/
theorem lpl_of {jobs:List J} (hj:JobsOk jobs) {m:Nat} {o:List Int} {r:List PTask} (hin:PlanIn jobs r) (h:LSd jobs (cloF jobs.length []) o m r):LPl jobs.length m (nP jobs) (nS r) (nM r) fun i k=>posN o (i:Int)<posN o (k:Int):=by
 have hm:∀ j,j<jobs.length->((nM r j:Nat):Int)=tM r j:=fun j hj2=>by have:=h.mach j hj2;unfold nM;omega
 have vac:∀ (j:Nat) (t:Int) (k:Nat),k<jobs.length->cloF jobs.length [] k j=true->tS r k + tmI jobs (k:Int)<=t:=fun j t k _ hf=>by rw [clo_nil] at hf;cases hf
 refine ⟨fun i hi=>?_,fun i k hi hk hne hM=>?_,fun j t k hj2 ht hk=>?_,fun i j hi hj2 hS=>?_⟩
 ·have:=h.mach i hi
  have:=hm i hi
  omega
 ·have e1:=hm i hi
  have e2:=hm k hk
  have:=h.apart i k hi hk hne (by omega)
  have a1:=nS_eq hin hi
  have a2:=nS_eq hin hk
  have b1:=nP_eq hj hi
  have b2:=nP_eq hj hk
  omega
 ·have a1:=nS_eq hin hj2
  obtain ⟨i,hi,h1,h2,h3⟩:=h.busy j hj2 (t:Int) (by omega) (by omega) (vac j _) k hk
  have a2:=nS_eq hin hi
  have b2:=nP_eq hj hi
  have e1:=hm i hi
  have hne:i≠j:=fun e=>by subst e;omega
  exact ⟨i,hi,h.prio i j hi hj2 hne (.inl (by omega)) (vac j _),by omega,by omega,by omega⟩
 ·have a1:=nS_eq hin hi
  have a2:=nS_eq hin hj2
  have hne:i≠j:=fun e=>by subst e;omega
  exact h.prio i j hi hj2 hne (.inl (by omega)) (vac j _)
theorem asg_sum (jobs:List J) (hj:JobsOk jobs) (A:Nat->Nat) (q:Nat):∀ (c i:Nat),i + c<=jobs.length->asgI jobs A q c i=((sumN c (fun x=>if A (i + x)=q then nP jobs (i + x) else 0):Nat):Int)
 | 0,_,_=>rfl
 | c + 1,i,h=>by
  have e:=(nP_eq hj (show i<jobs.length by omega)).1
  rw [asgI,asg_sum jobs hj A q c (i + 1) (by omega),sumN_shift]
  have e2:sumN c (fun x=>if A (i + 1 + x)=q then nP jobs (i + 1 + x) else 0)=sumN c (fun k=>if A (i + (k + 1))=q then nP jobs (i + (k + 1)) else 0):=sumN_congr c fun x _=>by rw [show i + 1 + x=i + (x + 1) by omega]
  rw [e2,Nat.add_zero,Int.natCast_add]
  congr 1
  split
  ·exact e.symm
  ·rfl
theorem fin_sum {jobs:List J} (hj:JobsOk jobs) {m:Nat} (A:Nat->Nat) {q:Nat} (hq:q<m):finI jobs (List.replicate m 0) A jobs.length 0 q=((sumN jobs.length (fun x=>if A x=q then nP jobs x else 0):Nat):Int):=by
 unfold finI
 rw [asg_sum jobs hj A q jobs.length 0 (by omega),rd_nat (by simpa using hq),List.getElem_replicate,Int.zero_add]
 congr 1
 exact sumN_congr _ fun x _=>by rw [Nat.zero_add]
/-- No plan is shorter than the least load. -/
theorem load_le {jobs:List J} (hj:JobsOk jobs) {m:Nat} (hm:0<m) {V:Int} (hV:LdV jobs m (List.replicate m 0) jobs.length 0 V) {o:List Int} {r:List PTask} (hin:PlanIn jobs r) (h:LSd jobs (cloF jobs.length []) o m r):V<=lenQ jobs r 0 0:=by
 have hl:=lpl_of hj hin h
 have h0:=lenQ_ge jobs r 0 0
 obtain ⟨T,hT⟩:=Int.eq_ofNat_of_zero_le h0
 have hle:=((len_le hin (lenQ jobs r 0 0)).1 (Int.le_refl _)).2
 rw [hT] at hle ⊢
 refine hV.le (fun j=>if j<jobs.length then nM r j else 0) (T:Int) (fun j=>?_) (fun q hq=>?_)
 ·show (if j<jobs.length then nM r j else 0)<m
  split
  ·exact hl.mach j (by assumption)
  ·exact hm
 ·rw [fin_sum hj _ hq]
  have:=packed_le (n:=jobs.length) (fun i=>decide (nM r i=q)) (nS r) (nP jobs) T (fun i k hi hk hne h1 h2=>by
   simp only [decide_eq_true_eq] at h1 h2
   exact hl.apart i k hi hk hne (by omega)) (fun i hi _=>by
   have:=hle i hi
   have a:=nS_eq hin hi
   have b:=nP_eq hj hi
   omega)
  have e:sumN jobs.length (fun x=>if (if x<jobs.length then nM r x else 0)=q then nP jobs x else 0)=sumN jobs.length (fun i=>if decide (nM r i=q)=true then nP jobs i else 0):=sumN_congr _ fun x hx=>by rw [if_pos hx];simp
  rw [e];omega
/-- Some order has a list plan as short as the least load. -/
theorem load_best {jobs:List J} {m:Nat} (hP:ParOk jobs (m:Int) []) {V:Int} (hV0:0<=V) (hV:LdV jobs m (List.replicate m 0) jobs.length 0 V):∃ o,IsPerm jobs.length o/\lenC jobs (m:Int) [] o<=V:=by
 have hj:=hP.1.1
 have hm:=hP.2.1
 obtain ⟨A,a1,a2⟩:=hV.ex
 let s:Nat->Nat:=fun i=>sumN i (fun x=>if A x=A i then nP jobs x else 0)
 have smono:∀ (w:Nat->Nat) (i d:Nat),sumN i w<=sumN (i + d) w:=fun w i d=>by
  induction d with
  | zero=>exact Nat.le_refl _
  | succ d ih=>rw [<-Nat.add_assoc];simp only [sumN];omega
 have sle:∀ (w:Nat->Nat) {i k:Nat},i<=k->sumN i w<=sumN k w:=fun w i k h=>by
  have:=smono w i (k - i)
  rwa [show i + (k - i)=k by omega] at this
 have send:∀ i,s i + nP jobs i=sumN (i + 1) (fun x=>if A x=A i then nP jobs x else 0):=fun i=>by
  show sumN i _ + nP jobs i=sumN i _ + (if A i=A i then nP jobs i else 0)
  rw [if_pos rfl]
 let key:Int->Int:=fun x=>((s x.toNat:Nat):Int)
 let lt:Int->Int->Bool:=fun a b=>decide (key a<key b)
 have hpre:=pre_key key (fun _=>True)
 have ho:=sortN_isPerm lt jobs.length
 have hs:SortedLt lt (sortN lt jobs.length):=insAll_sorted hpre _ [] (fun _ _=>trivial) (fun _ _=>trivial) List.Pairwise.nil
 refine ⟨sortN lt jobs.length,ho,?_⟩
 generalize sortN lt jobs.length=o at ho hs
 obtain ⟨p1,_,_⟩:=planC_spec hP ho
 have hls:=planC_ls hP ho
 have hl:=lpl_of hj p1 hls
 have ahead:=lpl_ahead (A:=A) (s:=s) (pos:=fun i=>posN o (i:Int)) hl (fun i hi=>(nP_eq hj hi).2.1) (fun i _=>a1 i) (fun i k hi hk hne hA=>by
  have h1:=send i
  have h2:=send k
  by_cases hik:i<k
  ·left
   have:sumN (i + 1) (fun x=>if A x=A i then nP jobs x else 0)<=s k:=by
    rw [hA];exact sle _ (by omega)
   omega
  ·right
   have:sumN (k + 1) (fun x=>if A x=A k then nP jobs x else 0)<=s i:=by
    rw [<-hA];exact sle _ (by omega)
   omega) (fun i k hi hk hik=>by
  have:=posN_pair hs (perm_mem ho hi) (perm_mem ho hk) hik
  have:=of_decide_eq_false this
  simp only [key,Int.toNat_natCast] at this
  omega)
 show lenQ jobs (planC jobs (m:Int) [] o) 0 0<=V
 rw [len_le p1]
 refine ⟨hV0,fun j hj2=>?_⟩
 have h1:=ahead _ j hj2 (Nat.le_refl _)
 have h2:=send j
 have h3:sumN (j + 1) (fun x=>if A x=A j then nP jobs x else 0)<=sumN jobs.length (fun x=>if A x=A j then nP jobs x else 0):=sle _ (by omega)
 have h4:=a2 (A j) (a1 j)
 rw [fin_sum hj A (a1 j)] at h4
 have h5:=nS_eq p1 hj2
 have h6:=nP_eq hj hj2
 omega
/-- the sum of all ends -/
def endT (jobs:List J) (r:List PTask):Nat->Nat->Int
 | 0,_=>0
 | c + 1,i=>(tS r i + tmI jobs (i:Int)) + endT jobs r c (i + 1)
theorem endT_sum {jobs:List J} (hj:JobsOk jobs) {r:List PTask} (hin:PlanIn jobs r):∀ (c i:Nat),i + c<=jobs.length->endT jobs r c i=((sumN c (fun x=>nS r (i + x) + nP jobs (i + x)):Nat):Int)
 | 0,_,_=>rfl
 | c + 1,i,h=>by
  have e:=(nP_eq hj (show i<jobs.length by omega)).1
  have e1:=nS_eq hin (show i<jobs.length by omega)
  rw [endT,endT_sum hj hin c (i + 1) (by omega),sumN_shift]
  have e2:sumN c (fun x=>nS r (i + 1 + x) + nP jobs (i + 1 + x))=sumN c (fun k=>nS r (i + (k + 1)) + nP jobs (i + (k + 1))):=sumN_congr c fun x _=>by rw [show i + 1 + x=i + (x + 1) by omega]
  rw [e2,Nat.add_zero];omega
theorem endT_bd {jobs:List J} (hj:JobsOk jobs) {r:List PTask} (hin:PlanIn jobs r):∀ (c i:Nat),i + c<=jobs.length->0<=endT jobs r c i/\endT jobs r c i<=400 * (c:Int)
 | 0,_,_=>by simp [endT]
 | c + 1,i,h=>by
  have h1:=endT_bd hj hin c (i + 1) (by omega)
  have h2:=hin.2 i (by omega)
  have h3:=tmI_in hj (i:=(i:Int)) (by omega) (by omega)
  have h8:=hj.1
  rw [endT];unfold tS;omega
theorem posN_rd:∀ {l:List Int} {x:Int},x ∈ l->l.getD (posN l x) 0=x
 | [],_,h=>by cases h
 | a::l,x,h=>by
  rw [posN]
  by_cases e:a=x
  ·rw [if_pos e];exact e
  ·rw [if_neg e]
   exact posN_rd (l:=l) ((List.mem_cons.1 h).resolve_left (fun h=>e h.symm))
theorem getD_mem {l:List Int} {i:Nat} (h:i<l.length):l.getD i 0 ∈ l:=by
 rw [List.getD_eq_getElem?_getD,List.getElem?_eq_getElem h]
 exact List.getElem_mem h
theorem posN_at:∀ {l:List Int},l.Nodup->∀ i,i<l.length->posN l (l.getD i 0)=i
 | [],_,_,h=>by simp at h
 | a::l,_,0,_=>if_pos rfl
 | a::l,hn,i + 1,h=>by
  have h1:=List.nodup_cons.1 hn
  have h2:i<l.length:=by simpa using h
  have h3:a≠l.getD i 0:=fun e=>h1.1 (by rw [e];exact getD_mem h2)
  show (if a=l.getD i 0 then 0 else posN l (l.getD i 0) + 1)=i + 1
  rw [if_neg h3,posN_at h1.2 i h2]
theorem rk_perm {n:Nat} {w:List Int} (h:IsPerm n w):(∀ r,r<n->(w.getD r 0).toNat<n/\posN w (((w.getD r 0).toNat:Nat):Int)=r)/\∀ i,i<n->posN w (i:Int)<n/\(w.getD (posN w (i:Int)) 0).toNat=i:=by
 have hl:=h.1
 refine ⟨fun r hr=>?_,fun i hi=>?_⟩
 ·have hx:=h.2.2 _ (getD_mem (l:=w) (i:=r) (by omega))
  refine ⟨by omega,?_⟩
  rw [Int.toNat_of_nonneg hx.1]
  exact posN_at h.2.1 r (by omega)
 ·have hm:=perm_mem h hi
  refine ⟨by rw [<-hl];exact posN_lt w _ hm,?_⟩
  rw [posN_rd hm];rfl
theorem LPl.relab {n m:Nat} {p S M pos o:Nat->Nat} (h:LPl n m p S M fun i k=>pos i<pos k) (ho:∀ r,r<n->o r<n/\pos (o r)=r) (hp:∀ i,i<n->pos i<n/\o (pos i)=i):LPl n m (fun r=>p (o r)) (fun r=>S (o r)) (fun r=>M (o r)) fun i k=>i<k:=by
 refine ⟨fun i hi=>h.mach _ (ho i hi).1,fun i k hi hk hne hM=>h.apart _ _ (ho i hi).1 (ho k hk).1 (fun e=>hne (by rw [<-(ho i hi).2,e,(ho k hk).2])) hM,fun j t k hj ht hk=>?_,fun i j hi hj hS=>?_⟩
 ·obtain ⟨i,h1,h2,h3,h4,h5⟩:=h.busy (o j) t k (ho j hj).1 ht hk
  have e:=(hp i h1).2
  have h2:pos i<pos (o j):=h2
  rw [(ho j hj).2] at h2
  exact ⟨pos i,(hp i h1).1,h2,by rw [e];exact h3,by rw [e];exact h4,by rw [e];exact h5⟩
 ·have h2:pos (o i)<pos (o j):=h.first (o i) (o j) (ho i hi).1 (ho j hj).1 hS
  rwa [(ho i hi).2,(ho j hj).2] at h2
/-- No list plan has a less sum of ends than the one that begins with the shortest. -/
theorem tot_best {jobs:List J} {m:Nat} (hP:ParOk jobs (m:Int) []) {o:List Int} (ho:IsPerm jobs.length o):endT jobs (planC jobs (m:Int) [] (sortN (gapLt jobs 2) jobs.length)) jobs.length 0<=endT jobs (planC jobs (m:Int) [] o) jobs.length 0:=by
 have hj:=hP.1.1
 have hm:=hP.2.1
 have hw:=sortN_isPerm (gapLt jobs 2) jobs.length
 have hs:SortedLt (gapLt jobs 2) (sortN (gapLt jobs 2) jobs.length):=insAll_sorted (gap_pre hj 2) _ [] (fun y hy=>mem_nums_to.1 hy) (fun y hy=>by cases hy) List.Pairwise.nil
 generalize sortN (gapLt jobs 2) jobs.length=w at hw hs
 obtain ⟨p1,_,_⟩:=planC_spec hP hw
 obtain ⟨q1,_,_⟩:=planC_spec hP ho
 have l1:=lpl_of hj p1 (planC_ls hP hw)
 have l2:=lpl_of hj q1 (planC_ls hP ho)
 obtain ⟨k1,k2⟩:=rk_perm hw
 rw [endT_sum hj p1 _ 0 (by omega),endT_sum hj q1 _ 0 (by omega)]
 generalize planC jobs (m:Int) [] w=r at *
 generalize planC jobs (m:Int) [] o=r2 at *
 have e0:∀ r:List PTask,sumN jobs.length (fun x=>nS r (0 + x) + nP jobs (0 + x))=sumN jobs.length (fun x=>nS r x + nP jobs x):=fun r=>sumN_congr _ fun x _=>by rw [Nat.zero_add]
 rw [e0,e0]
 let rk:Nat->Nat:=fun r=>(w.getD r 0).toNat
 have k1:∀ r,r<jobs.length->rk r<jobs.length/\posN w ((rk r:Nat):Int)=r:=k1
 have k2:∀ i,i<jobs.length->posN w (i:Int)<jobs.length/\rk (posN w (i:Int))=i:=k2
 have asc:∀ i k,i<=k->k<jobs.length->nP jobs (rk i)<=nP jobs (rk k):=fun i k hik hk=>by
  by_cases e:i=k
  ·rw [e];exact Nat.le_refl _
  ·have a1:=k1 i (by omega)
   have a2:=k1 k hk
   have hg:=posN_pair hs (perm_mem hw a1.1) (perm_mem hw a2.1) (by omega)
   have hg:=of_decide_eq_false hg
   unfold gapF at hg
   rw [if_neg (by omega),if_pos rfl] at hg
   have b1:=(nP_eq hj a1.1).1
   have b2:=(nP_eq hj a2.1).1
   unfold tmI at b1 b2
   omega
 have u:=tot_upper (p:=fun r=>nP jobs (rk r)) asc (by omega) (l1.relab (pos:=fun i=>posN w (i:Int)) (o:=rk) k1 k2) jobs.length (Nat.le_refl _)
 have v:=tot_lower (n:=jobs.length) (m:=m) (p:=fun r=>nP jobs (rk r)) (S:=fun r=>nS r2 (rk r)) (M:=fun r=>nM r2 (rk r)) asc (fun i hi=>(nP_eq hj (k1 i hi).1).2.1) (fun i hi=>l2.mach _ (k1 i hi).1) (fun i k hi hk hne hM=>l2.apart _ _ (k1 i hi).1 (k1 k hk).1 (fun e=>hne (by rw [<-(k1 i hi).2,e,(k1 k hk).2])) hM) jobs.length
 have x1:=sumN_perm (pos:=fun i=>posN w (i:Int)) k1 k2 (fun x=>nS r x + nP jobs x)
 have x2:=sumN_perm (pos:=fun i=>posN w (i:Int)) k1 k2 (fun x=>nS r2 x + nP jobs x)
 omega
theorem impl_TotalEnd.ev {jobs:List J} {m:Int} (h:ParOk jobs m []):Ev (fun k=>impl_TotalEnd.f k jobs m) (endT jobs (planC jobs m [] (sortN (gapLt jobs 2) jobs.length)) jobs.length 0,true):=by
 have hj:=h.1.1
 have h8:=hj.1
 obtain ⟨p1,p2,_⟩:=planC_spec h (sortN_isPerm (gapLt jobs 2) jobs.length)
 unfold impl_TotalEnd.f
 refine ev_guard' (impl_isParallel.ev jobs m [] (by omega) (by simp)) (fun _=>ev_bind _ (impl_ruledOrder.gap hj 2) (ev_bind _ p2 ?_)) (fun hn=>absurd h hn)
 generalize planC jobs m [] (sortN (gapLt jobs 2) jobs.length)=r at p1
 have hrl:=p1.1
 have key:∀ (c i:Nat) (s:Int),i + c=jobs.length->0<=s->s<=400 * (i:Int)->Ev (fun k=>impl_TotalEnd.l0 k jobs s r (r.length:Int) (i:Int)) (s + endT jobs r c i,true):=by
  intro c
  induction c with
  | zero=>
   intro i s hi _ _
   refine ev_stop fun k=>?_
   simp only [impl_TotalEnd.l0];rw [if_neg (by omega),endT,Int.add_zero]
  | succ c ih=>
   intro i s hi h0 h1
   have a1:=p1.2 i (by omega)
   have a2:=tmI_in hj (i:=(i:Int)) (by omega) (by omega)
   have w1:wrap64 ((rd_T40 r (i:Int)).f2 + (rd_T31 jobs (i:Int)).f0)=tS r i + tmI jobs (i:Int):=by unfold tmI at a1 a2 ⊢;unfold tS;exact wr (by omega) (by omega)
   have ht:0<=tS r i + tmI jobs (i:Int)/\tS r i + tmI jobs (i:Int)<=400:=by unfold tS;omega
   refine ev_go _ (fun k=>?_) (by rw [endT,<-Int.add_assoc];exact ih (i + 1) (s + (tS r i + tmI jobs (i:Int))) (by omega) (by omega) (by omega))
   simp only [impl_TotalEnd.l0]
   rw [if_pos (by omega),if_pos (by omega),if_pos (by omega),a1.1,if_pos (by omega),if_pos (by omega),w1,wr (x:=s + (tS r i + tmI jobs (i:Int))) (by omega) (by omega),wr1 (by omega)]
 have:=key jobs.length 0 0 (by omega) (by omega) (by omega)
 rw [Int.zero_add] at this
 exact this
theorem spec_TotalEnd.ev {jobs:List J} {m:Int} (h:ParOk jobs m []):Ev (fun k=>spec_TotalEnd.f k jobs m) (endT jobs (planC jobs m [] (sortN (gapLt jobs 2) jobs.length)) jobs.length 0,true):=by
 have hj:=h.1.1
 have h8:=hj.1
 obtain ⟨p1,_,p2⟩:=planC_spec h (sortN_isPerm (gapLt jobs 2) jobs.length)
 unfold spec_TotalEnd.f
 simp only [Option.bind_some]
 refine ev_guard' (spec_l7Good.ev jobs m [] (by omega) (by simp)) (fun _=>ev_bind _ (spec_l3Order.ev jobs 2 hj (gap_pre hj 2)) (ev_bind _ p2 ?_)) (fun hn=>absurd h hn)
 generalize planC jobs m [] (sortN (gapLt jobs 2) jobs.length)=r at p1
 have hrl:=p1.1
 have key:∀ (c i:Nat) (s:Int),i + c=jobs.length->0<=s->s<=400 * (i:Int)->Ev (fun k=>spec_TotalEnd.l0 k jobs r s (i:Int)) (s + endT jobs r c i,true):=by
  intro c
  induction c with
  | zero=>
   intro i s hi _ _
   refine ev_stop fun k=>?_
   simp only [spec_TotalEnd.l0];rw [if_neg (by omega),endT,Int.add_zero]
  | succ c ih=>
   intro i s hi h0 h1
   have a1:=p1.2 i (by omega)
   have a2:=tmI_in hj (i:=(i:Int)) (by omega) (by omega)
   have w1:wrap64 (s + (rd_T40 r (i:Int)).f2)=s + tS r i:=by unfold tS;exact wr (by omega) (by omega)
   have ht:0<=tS r i/\tS r i + tmI jobs (i:Int)<=400:=by unfold tS;omega
   have w2:wrap64 (s + tS r i + (rd_T31 jobs (i:Int)).f0)=s + (tS r i + tmI jobs (i:Int)):=by unfold tmI at a2 ht ⊢;rw [wr (by omega) (by omega)];omega
   refine ev_go _ (fun k=>?_) (by rw [endT,<-Int.add_assoc];exact ih (i + 1) (s + (tS r i + tmI jobs (i:Int))) (by omega) (by omega) (by omega))
   simp only [spec_TotalEnd.l0]
   rw [if_pos (by omega),if_pos (by omega),if_pos (by omega),w1,w2,wr1 (by omega)]
 have:=key jobs.length 0 0 (by omega) (by omega) (by omega)
 rw [Int.zero_add] at this
 exact this
theorem sumD_sum {jobs:List J} (hj:JobsOk jobs):∀ (c i:Nat),i + c=jobs.length->sumD (jobs.drop i)=((sumN c (fun x=>nP jobs (i + x)):Nat):Int)
 | 0,i,h=>by rw [List.drop_of_length_le (by omega)];rfl
 | c + 1,i,h=>by
  have e:=(nP_eq hj (show i<jobs.length by omega)).1
  unfold tmI at e
  rw [rdJ (by omega)] at e
  have e2:sumN c (fun x=>nP jobs (i + 1 + x))=sumN c (fun k=>nP jobs (i + (k + 1))):=sumN_congr c fun x _=>by rw [show i + 1 + x=i + (x + 1) by omega]
  rw [drop_cons (by omega),sumD,sumD_sum hj c (i + 1) (by omega),sumN_shift,e2,Nat.add_zero]
  omega
theorem fin_le {jobs:List J} (hj:JobsOk jobs) {m T:Nat} {A:Nat->Nat} (h:∀ q,q<m->finI jobs (List.replicate m 0) A jobs.length 0 q<=(T:Int)):∀ q,q<m->sumN jobs.length (fun x=>if A x=q then nP jobs x else 0)<=T:=fun q hq=>by
 have:=h q hq
 rw [fin_sum hj A hq] at this;omega
theorem lenF_load {jobs:List J} {m:Nat} (hj:JobsOk jobs) (hm:1<=(m:Int)/\(m:Int)<=4) {V:Int} (h0:0<=V) (hV:LdV jobs m (List.replicate m 0) jobs.length 0 V):lenF jobs (m:Int) []<=V:=by
 obtain ⟨A,a1,a2⟩:=hV.ex
 obtain ⟨T,rfl⟩:=Int.eq_ofNat_of_zero_le h0
 have a3:=fin_le hj a2
 refine lenF_max (fun i hi=>?_) (ceil_le2 _ _ _ hm ?_) h0
 ·have h1:=sumN_ge (w:=fun x=>if A x=A i then nP jobs x else 0) _ hi
  simp only [if_true] at h1
  have h2:=a3 (A i) (a1 i)
  have h3:=(nP_eq hj hi).1
  unfold tmI at h3
  unfold tmS
  omega
 ·have e:sumD jobs=((sumN jobs.length (fun x=>nP jobs (0 + x)):Nat):Int):=sumD_sum hj jobs.length 0 (by omega)
  have e2:sumN jobs.length (fun x=>nP jobs (0 + x))=sumN m (fun q=>sumN jobs.length (fun x=>if A x=q then nP jobs x else 0)):=by
   rw [<-sumN_swap (fun x q=>if A x=q then nP jobs x else 0) m jobs.length]
   exact sumN_congr _ fun x hx=>by rw [sumN_one,if_pos (a1 x),Nat.zero_add]
  have h3:sumN m (fun q=>sumN jobs.length (fun x=>if A x=q then nP jobs x else 0))<=sumN m (fun _=>T):=sumN_le m fun q hq=>a3 q hq
  rw [sumN_const] at h3
  rw [e,e2]
  have:=Int.ofNat_le.2 h3
  rw [Int.natCast_mul] at this
  exact this
/-- How much longer than the least load the longest first are. -/
theorem lpt_len {jobs:List J} {m:Nat} (hP:ParOk jobs (m:Int) []) {V:Int} (h0:0<=V) (hV:LdV jobs m (List.replicate m 0) jobs.length 0 V):3 * (m:Int) * lenQ jobs (planC jobs (m:Int) [] (sortN (fallLt (restsL jobs)) jobs.length)) 0 0<=(4 * (m:Int) - 1) * V:=by
 have hj:=hP.1.1
 have hm:=hP.2.1
 obtain ⟨A,a1,a2⟩:=hV.ex
 obtain ⟨T,rfl⟩:=Int.eq_ofNat_of_zero_le h0
 have a3:=fin_le hj a2
 have hw:=sortN_isPerm (fallLt (restsL jobs)) jobs.length
 have hs:SortedLt (fallLt (restsL jobs)) (sortN (fallLt (restsL jobs)) jobs.length):=insAll_sorted (fallLt_pre _ (fun _=>True)) _ [] (fun _ _=>trivial) (fun _ _=>trivial) List.Pairwise.nil
 generalize sortN (fallLt (restsL jobs)) jobs.length=w at hw hs
 obtain ⟨p1,_,_⟩:=planC_spec hP hw
 have l1:=lpl_of hj p1 (planC_ls hP hw)
 generalize planC jobs (m:Int) [] w=r at p1 l1
 have b:=lpt_bound (A:=A) (L:=T) l1 (fun i k _ _ h1 h2=>by omega) (fun i k j _ _ _ h1 h2=>by omega) (fun i k hi hk hik=>by
  have hg:=posN_pair hs (perm_mem hw hi) (perm_mem hw hk) hik
  rw [<-fall_rests jobs (by omega) (by omega)] at hg
  have hg:=of_decide_eq_false hg
  have b1:=(nP_eq hj hi).1
  have b2:=(nP_eq hj hk).1
  unfold tmI at b1 b2
  omega) (by omega) (fun i _=>a1 i) a3
 have key:∀ L:Int,0<=L->(∀ j,j<jobs.length->tS r j + tmI jobs (j:Int)<=L)->lenQ jobs r 0 0<=L:=fun L h1 h2=>(len_le p1 L).2 ⟨h1,h2⟩
 generalize lenQ jobs r 0 0=X at key
 have b':∀ j,j<jobs.length->3 * m * (nS r j + nP jobs j)<=(4 * m - 1) * T/\tS r j + tmI jobs (j:Int)=((nS r j + nP jobs j:Nat):Int):=fun j hj2=>⟨b j hj2,by have:=nS_eq p1 hj2;have:=nP_eq hj hj2;omega⟩
 have hc:m=1\/m=2\/m=3\/m=4:=by omega
 clear b l1 a3 a2 a1 hV h0 hm hP p1
 rcases hc with rfl|rfl|rfl|rfl <;> exact Classical.byContradiction fun hcc=>by
  have:=key (X - 1) (by omega) (fun j hj2=>by have:=b' j hj2;omega)
  omega
theorem laws_vTasks.same (r:List PTask) (h:r.length<=1000000):Ev (fun k=>laws_vTasks.f k r r) true:=by
 unfold laws_vTasks.f
 simp only [if_true]
 refine rev_ind (P:=fun i=>Ev (fun k=>laws_vTasks.l0 k r r (i:Int)) true) r.length ?_ ?_ 0 (Nat.zero_le _)
 ·refine ev_stop fun k=>?_
  simp only [laws_vTasks.l0];rw [if_neg (by omega)]
 ·intro i hi ih
  refine ev_go _ (fun k=>?_) ih
  simp only [laws_vTasks.l0];rw [if_pos (by omega),if_pos (by omega),if_pos (by omega),beq_self_eq_true,beq_self_eq_true,beq_self_eq_true,if_neg (by decide),wr1 (by omega)]
