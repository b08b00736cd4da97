/- Proved here: what functions that the law FnExactLabelPlan reaches answer (listP, evGoBind, spec_l7Next, spec_l7Soon, spec_l7List, impl_listPlan, listBoth, spec_l7Falling, laws_markTaskS). Conditions: those that each theorem names. -/
import Derived.Test.YtbcfmegepkhlpaaQFnExactLabelPlana
set_option linter.unusedVariables false
set_option linter.unusedSimpArgs false
namespace Go.Proofs.Ytbcfmegepkhlpaa.Pure
open Go.RowKit Go.Proofs.Ytbcfmegepkhlpaa.XFnExactLabelPlan Go.Proofs.YtbcfmegepkhlpaaW.PrintWords Go.Proofs.YtbcfmegepkhlpaaW.PrintLast

structure SpS where
 plan:List PTask
 ends:List Int
 free:List Int
 left:Int
def tmI (jobs:List J) (i:Int):Int:=(rd_T76 jobs i).f0
def spRdy (n:Nat) (f:BF) (ends:List Int) (now:Int) (i:Int):Bool:=decide (rd ends i<0) && (List.range n).all fun k=> !(f k i.toNat) || (decide (0≤rd ends (k:Int)) && decide (rd ends (k:Int)≤now))
def spNx (n:Nat) (f:BF) (order ends:List Int) (now:Int):Int:=(order.find? (spRdy n f ends now)).getD (-1)
def spStep (jobs:List J) (f:BF) (order:List Int) (now:Int) (s:SpS) (mm:Nat):SpS:=
 if rd s.free (mm:Int)≤now then (match order.find? (spRdy jobs.length f s.ends now) with
  | none=>s
  | some i=>⟨s.plan.set i.toNat ⟨i,(mm:Int),now⟩,s.ends.set i.toNat (now + tmI jobs i),s.free.set mm (now + tmI jobs i),s.left - 1⟩) else s
def spRun (jobs:List J) (f:BF) (order:List Int) (now:Int):Nat→Nat→SpS→SpS
 | 0,_,s=>s
 | c + 1,mm,s=>spRun jobs f order now c (mm + 1) (spStep jobs f order now s mm)
def cntU (ends:List Int):Nat:=(ends.filter fun e=>decide (e<0)).length
theorem cntU_set:∀ (l:List Int) (i:Nat) (h:i<l.length) (v:Int),l[i]<0→0≤v→cntU (l.set i v) + 1=cntU l
 | [],_,h,_,_,_=>absurd h (by simp)
 | a::l,0,_,v,h0,hv=>by
  have h0':a<0:=h0
  simp [cntU,List.filter_cons,h0',show ¬ v<0 by omega]
 | a::l,i + 1,h,v,h0,hv=>by
  have ih:=cntU_set l i (by simpa using h) v (by simpa using h0) hv
  unfold cntU at ih ⊢
  simp only [List.set_cons_succ,List.filter_cons]
  split <;> (try simp only [List.length_cons]) <;> omega
theorem cntU_pos:∀ {l:List Int},0<cntU l→∃ i,i<l.length∧rd l (i:Int)<0
 | [],h=>absurd h (by simp [cntU])
 | a::l,h=>by
  by_cases ha:a<0
  ·exact ⟨0,by simp,by rw [rd_nat (by simp)];exact ha⟩
  ·have h2:0<cntU l:=by unfold cntU at h ⊢;simpa [List.filter_cons,ha] using h
   obtain ⟨i,hi,h3⟩:=cntU_pos h2
   refine ⟨i + 1,by simpa using hi,?_⟩
   rw [rd_nat (show i + 1<(a::l).length by simp;omega)]
   rw [rd_nat hi] at h3
   exact h3
theorem rd_setI {l:List Int} {i j:Nat} (hi:i<l.length) (hj:j<l.length) (v:Int):rd (l.set i v) (j:Int)=if i=j then v else rd l (j:Int):=by
 rw [rd_nat (by simpa using hj),rd_nat hj,List.getElem_set]
theorem rdT_set {l:List PTask} {i j:Nat} (hi:i<l.length) (hj:j<l.length) (v:PTask):rd_T92 (l.set i v) (j:Int)=if i=j then v else rd_T92 l (j:Int):=by
 rw [rdPTask (by simpa using hj),rdPTask hj,List.getElem_set]
theorem tmI_in {jobs:List J} (hj:JobsOk jobs) {i:Int} (h0:0≤i) (h1:i<(jobs.length:Int)):1≤tmI jobs i∧tmI jobs i≤50:=by
 obtain ⟨k,rfl⟩:=Int.eq_ofNat_of_zero_le h0
 have hk:k<jobs.length:=by omega
 unfold tmI
 rw [rdJ hk]
 exact (hj.2 _ (List.getElem_mem hk)).1
structure SpInv (jobs:List J) (m:Nat) (now:Int) (s:SpS):Prop where
 lens:s.plan.length=jobs.length∧s.ends.length=jobs.length∧s.free.length=m
 left:s.left=(cntU s.ends:Int)
 ends:∀ j:Nat,j<jobs.length→ -1≤rd s.ends (j:Int)∧rd s.ends (j:Int)≤50 * ((jobs.length:Int) - s.left)∧(0≤rd s.ends (j:Int)→rd s.ends (j:Int)=(rd_T92 s.plan (j:Int)).f2 + tmI jobs (j:Int)∧(rd_T92 s.plan (j:Int)).f0=(j:Int)∧0≤(rd_T92 s.plan (j:Int)).f2)
 free:∀ k:Nat,k<m→rd s.free (k:Int)=0∨∃ j:Nat,j<jobs.length∧0≤rd s.ends (j:Int)∧rd s.free (k:Int)=rd s.ends (j:Int)
 now0:0≤now
 now1:now≤50 * ((jobs.length:Int) - s.left)
theorem SpInv.step {jobs:List J} (hj:JobsOk jobs) {f:BF} {order:List Int} (ho:∀ x ∈ order,0≤x∧x<(jobs.length:Int)) {m:Nat} {now:Int} {s:SpS} (h:SpInv jobs m now s) {mm:Nat} (hm:mm<m):SpInv jobs m now (spStep jobs f order now s mm):=by
 unfold spStep
 split
 ·cases hf:order.find? (spRdy jobs.length f s.ends now) with
  | none=>exact h
  | some i=>
   have hi:=ho i (List.mem_of_find?_eq_some hf)
   have hr:=List.find?_some hf
   simp only [spRdy,Bool.and_eq_true,decide_eq_true_eq] at hr
   obtain ⟨i,rfl⟩:=Int.eq_ofNat_of_zero_le hi.1
   have hin:i<jobs.length:=by omega
   have htm:=tmI_in hj hi.1 hi.2
   have h0:=h.now0
   have h1:=h.now1
   have hE:i<s.ends.length:=by rw [h.lens.2.1];exact hin
   have hcu:=cntU_set s.ends i hE (now + tmI jobs (i:Int)) (by rw [←rd_nat hE];exact hr.1) (by omega)
   have hleft:=h.left
   simp only [Int.toNat_natCast]
   refine ⟨⟨by simp [h.lens.1],by simp [h.lens.2.1],by simp [h.lens.2.2]⟩,by show s.left - 1=(cntU (s.ends.set i (now + tmI jobs (i:Int))):Int);omega,?_,?_,h0,by show now≤50 * ((jobs.length:Int) - (s.left - 1));omega⟩
   ·intro j hjn
    show -1≤rd (s.ends.set i _) (j:Int)∧rd (s.ends.set i _) (j:Int)≤50 * ((jobs.length:Int) - (s.left - 1))∧(0≤rd (s.ends.set i _) (j:Int)→rd (s.ends.set i _) (j:Int)=(rd_T92 (s.plan.set i _) (j:Int)).f2 + tmI jobs (j:Int)∧(rd_T92 (s.plan.set i _) (j:Int)).f0=(j:Int)∧0≤(rd_T92 (s.plan.set i _) (j:Int)).f2)
    rw [rd_setI hE (by rw [h.lens.2.1];exact hjn),rdT_set (by rw [h.lens.1];exact hin) (by rw [h.lens.1];exact hjn)]
    by_cases e:i=j
    ·subst e
     simp only [if_true]
     exact ⟨by omega,by omega,fun _=>by first|exact ⟨rfl,rfl,h0⟩|exact ⟨trivial,trivial,h0⟩|simpa using h0⟩
    ·simp only [if_neg e]
     have:=h.ends j hjn
     exact ⟨by omega,by omega,this.2.2⟩
   ·intro k hk
    show rd (s.free.set mm _) (k:Int)=0∨∃ j:Nat,j<jobs.length∧0≤rd (s.ends.set i _) (j:Int)∧rd (s.free.set mm _) (k:Int)=rd (s.ends.set i _) (j:Int)
    rw [rd_setI (by rw [h.lens.2.2];exact hm) (by rw [h.lens.2.2];exact hk)]
    by_cases e:mm=k
    ·rw [if_pos e]
     exact .inr ⟨i,hin,by rw [rd_setI hE hE,if_pos rfl];omega,by rw [rd_setI hE hE,if_pos rfl]⟩
    ·rw [if_neg e]
     rcases h.free k hk with h2 | ⟨j,hjn,h2,h3⟩
     ·exact .inl h2
     ·have hne:i≠j:=fun e2=>by subst e2;omega
      exact .inr ⟨j,hjn,by rw [rd_setI hE (by rw [h.lens.2.1];exact hjn),if_neg hne];exact h2,by rw [rd_setI hE (by rw [h.lens.2.1];exact hjn),if_neg hne];exact h3⟩
 ·exact h
def StuckTo (n:Nat) (f:BF) (order:List Int) (now:Int) (c:Nat) (s:SpS):Prop:=∀ k:Nat,k<c→now<rd s.free (k:Int)∨order.find? (spRdy n f s.ends now)=none
theorem stuck_step {jobs:List J} (hj:JobsOk jobs) {f:BF} {order:List Int} (ho:∀ x ∈ order,0≤x∧x<(jobs.length:Int)) {m:Nat} {now:Int} {s:SpS} (h:s.free.length=m) {mm:Nat} (hm:mm<m) (hs:StuckTo jobs.length f order now mm s):StuckTo jobs.length f order now (mm + 1) (spStep jobs f order now s mm):=by
 unfold spStep
 split
 ·rename_i hle
  cases hf:order.find? (spRdy jobs.length f s.ends now) with
  | none=>exact fun k _=>.inr hf
  | some i=>
   have hi:=ho i (List.mem_of_find?_eq_some hf)
   have htm:=tmI_in hj hi.1 hi.2
   intro k hk
   left
   show now<rd (s.free.set mm _) (k:Int)
   rw [rd_setI (by omega) (by omega)]
   by_cases e:mm=k
   ·rw [if_pos e];omega
   ·rw [if_neg e]
    rcases hs k (by omega) with h2|h2
    ·exact h2
    ·rw [hf] at h2;cases h2
 ·rename_i hle
  intro k hk
  by_cases e:k=mm
  ·subst e;left;omega
  ·exact hs k (by omega)
theorem spRun_all {jobs:List J} (hj:JobsOk jobs) {f:BF} {order:List Int} (ho:∀ x ∈ order,0≤x∧x<(jobs.length:Int)) {m:Nat} {now:Int} : ∀ (c mm:Nat) (s:SpS),mm + c=m→SpInv jobs m now s→StuckTo jobs.length f order now mm s→SpInv jobs m now (spRun jobs f order now c mm s)∧StuckTo jobs.length f order now m (spRun jobs f order now c mm s)
 | 0,mm,s,hc,h,hs=>by obtain rfl:mm=m:=(by omega);exact ⟨h,hs⟩
 | c + 1,mm,s,hc,h,hs=>spRun_all hj ho c (mm + 1) _ (by omega) (h.step hj ho (by omega)) (stuck_step hj ho h.lens.2.2 (by omega) hs)
theorem spRun_noop {jobs:List J} {f:BF} {order:List Int} {m:Nat} {now:Int} {s:SpS} (hs:StuckTo jobs.length f order now m s):∀ (c mm:Nat),mm + c≤m→spRun jobs f order now c mm s=s
 | 0,_,_=>rfl
 | c + 1,mm,hc=>by
  have e:spStep jobs f order now s mm=s:=by
   unfold spStep
   rcases hs mm (by omega) with h|h
   ·rw [if_neg (by omega)]
   ·rw [h];split <;> rfl
  rw [spRun,e]
  exact spRun_noop hs c (mm + 1) (by omega)
/-- The least of the ends behind a time. -/
def soonL (now:Int):List Int→Int→Int
 | [],o=>o
 | e::l,o=>soonL now l (if e>now then (if o<0 then e else if e<o then e else o) else o)
theorem soonL_spec (now:Int) (h0:0≤now):∀ (l:List Int) (o:Int),(o<0∨now<o)→(soonL now l o=o∨soonL now l o ∈ l)∧(soonL now l o<0∨now<soonL now l o)∧(∀ e ∈ l,now<e→0≤soonL now l o∧soonL now l o≤e)∧(0≤o→0≤soonL now l o∧soonL now l o≤o)
 | [],o,h=>⟨.inl rfl,h,fun e he=>(by cases he),fun h=>⟨h,Int.le_refl _⟩⟩
 | e::l,o,h=>by
  unfold soonL
  obtain ⟨o2,ho2⟩:∃ o2,o2=(if e>now then (if o<0 then e else if e<o then e else o) else o):=⟨_,rfl⟩
  rw [←ho2]
  have hc:(o2=o∨o2=e)∧(o2<0∨now<o2)∧(now<e→0≤o2∧o2≤e)∧(0≤o→0≤o2∧o2≤o):=by
   rw [ho2];split
   ·split
    ·omega
    ·split <;> omega
   ·omega
  obtain ⟨a1,a2,a3,a4⟩:=soonL_spec now h0 l o2 hc.2.1
  refine ⟨?_,a2,?_,?_⟩
  ·rcases a1 with a1|a1
   ·rcases hc.1 with h1|h1
    ·exact .inl (a1.trans h1)
    ·exact .inr (by rw [a1,h1];exact List.mem_cons_self)
   ·exact .inr (List.mem_cons_of_mem _ a1)
  ·intro x hx hlt
   rcases List.mem_cons.1 hx with rfl|hx
   ·have h1:=hc.2.2.1 hlt
    have h2:=a4 h1.1
    omega
   ·exact a3 x hx hlt
  ·intro ho
   have h1:=hc.2.2.2 ho
   have h2:=a4 h1.1
   omega
theorem min_un {n:Nat} {f:BF} (hp:PreF n f) (ends:List Int):∀ (d i:Nat),i<n→rd ends (i:Int)<0→n - cntF n f i≤d→∃ i':Nat,i'<n∧rd ends (i':Int)<0∧∀ k:Nat,k<n→f k i'=true→0≤rd ends (k:Int)
 | 0,i,hi,_,hd=>by have:=cnt_le hp hi;omega
 | d + 1,i,hi,hu,hd=>by
  by_cases h:∃ k:Nat,k<n∧f k i=true∧rd ends (k:Int)<0
  ·obtain ⟨k,hk,hf,hu2⟩:=h
   have:=cnt_lt hp hk hi hf
   have:=cnt_le hp hk
   exact min_un hp ends d k hk hu2 (by omega)
  ·exact ⟨i,hi,hu,fun k hk hf=>by
    by_cases h2:rd ends (k:Int)<0
    ·exact absurd ⟨k,hk,hf,h2⟩ h
    ·omega⟩
/-- Behind a pass, while jobs are left, some job runs. -/
theorem soon_there {jobs:List J} {f:BF} (hp:PreF jobs.length f) {order:List Int} (ho:IsPerm jobs.length order) {m:Nat} (hm:0<m) {now:Int} {s:SpS} (h:SpInv jobs m now s) (hs:StuckTo jobs.length f order now m s) (hl:0<s.left):∃ e ∈ s.ends,now<e:=by
 apply Classical.byContradiction
 intro hno
 have hall:∀ j:Nat,j<jobs.length→rd s.ends (j:Int)≤now:=fun j hj=>by
  have hjl:j<s.ends.length:=by rw [h.lens.2.1];exact hj
  rw [rd_nat hjl]
  have:=List.getElem_mem hjl
  apply Classical.byContradiction
  intro h2
  exact hno ⟨_,this,by omega⟩
 obtain ⟨i,hi,hu⟩:=cntU_pos (l:=s.ends) (by have:=h.left;omega)
 rw [h.lens.2.1] at hi
 obtain ⟨i',hi',hu',hpre⟩:=min_un hp s.ends _ i hi hu (Nat.le_refl _)
 have hr:spRdy jobs.length f s.ends now (i':Int)=true:=by
  simp only [spRdy,Bool.and_eq_true,decide_eq_true_eq,List.all_eq_true,Int.toNat_natCast]
  refine ⟨hu',fun k hk=>?_⟩
  have hk':k<jobs.length:=by simpa using hk
  by_cases hf:f k i'=true
  ·have h1:=hpre k hk' hf
   have h2:=hall k hk'
   simp [h1,h2]
  ·simp [hf]
 have hmem:=ho.all (i':Int) (by omega) (by omega)
 rcases hs 0 hm with h1|h1
 ·rcases h.free 0 hm with h2 | ⟨j,hj,h2,h3⟩
  ·have:=h.now0;omega
  ·have:=hall j hj;omega
 ·exact absurd hr (by have:=List.find?_eq_none.1 h1 _ hmem;simpa using this)
theorem find_none_mono {n:Nat} {f:BF} {order ends:List Int} {now t:Int} (hle:∀ k:Nat,k<n→rd ends (k:Int)≤t→rd ends (k:Int)≤now) (h:order.find? (spRdy n f ends now)=none):order.find? (spRdy n f ends t)=none:=by
 rw [List.find?_eq_none] at h ⊢
 intro x hx
 have h2:=h x hx
 intro h3
 apply h2
 simp only [spRdy,Bool.and_eq_true,decide_eq_true_eq,List.all_eq_true] at h3 ⊢
 refine ⟨h3.1,fun k hk=>?_⟩
 have h4:=h3.2 k hk
 have hk':k<n:=by simpa using hk
 simp only [Bool.or_eq_true,Bool.not_eq_true',Bool.and_eq_true,decide_eq_true_eq] at h4 ⊢
 rcases h4 with h4|h4
 ·exact .inl h4
 ·exact .inr ⟨h4.1,hle k hk' h4.2⟩
/-- Between two ends nothing begins. -/
theorem stuck_between {jobs:List J} {f:BF} {order:List Int} {m:Nat} {now t:Int} {s:SpS} (h:SpInv jobs m now s) (hs:StuckTo jobs.length f order now m s) (ht:now≤t) (hb:∀ e ∈ s.ends,now<e→t<e):StuckTo jobs.length f order t m s:=by
 have hb2:∀ k:Nat,k<jobs.length→now<rd s.ends (k:Int)→t<rd s.ends (k:Int):=fun k hk h1=>by
  have hjl:k<s.ends.length:=by rw [h.lens.2.1];exact hk
  rw [rd_nat hjl] at h1 ⊢
  exact hb _ (List.getElem_mem hjl) h1
 intro k hk
 rcases hs k hk with h1|h1
 ·rcases h.free k hk with h2 | ⟨j,hj,h2,h3⟩
  ·have:=h.now0;omega
  ·left;rw [h3] at h1 ⊢;exact hb2 j hj h1
 ·right
  refine find_none_mono (fun k hk h2=>?_) h1
  by_cases h3:now<rd s.ends (k:Int)
  ·have:=hb2 k hk h3;omega
  ·omega

theorem ev_go_bind {α β:Type} {g:Nat→Option α} {h:Nat→Option β} {F:Nat→β→Option α} {a:β} {r:α} (e:∀ k,g (k + 1)=(h k).bind (F k)) (ha:Ev h a) (hr:Ev (fun k=>F k a) r):Ev g r:=ev_go _ e (ev_bind a ha hr)

theorem spec_l7Next.ev (n:Nat) (f:BF) (order ends:List Int) (now:Int) (hn:n≤8) (hl:ends.length=n) (hq:order.length≤1000000) (ho:∀ x ∈ order,0≤x∧x<(n:Int)):Ev (fun k=>spec_l7Next.f k (tbl n f) order ends now) (spNx n f order ends now):=by
 unfold spec_l7Next.f
 have key:=rev_ind (P:=fun i=>Ev (fun k=>spec_l7Next.l0 k (tbl n f) order ends now (i:Int)) (((order.drop i).find? (spRdy n f ends now)).getD (-1))) order.length ?_ ?_ 0 (Nat.zero_le _)
 ·simpa [spNx] using key
 ·refine ev_stop fun k=>?_
  simp only [spec_l7Next.l0];rw [if_neg (by omega),List.drop_of_length_le (Nat.le_refl _)];rfl
 ·intro i hi ih
  have hx:=ho _ (List.getElem_mem hi)
  have hrd:rd order (i:Int)=order[i]:=rd_nat hi
  obtain ⟨x,hxe⟩:=Int.eq_ofNat_of_zero_le hx.1
  have hxn:x<n:=by omega
  rw [drop_cons hi]
  by_cases hs:rd ends (x:Int)≥0
  ·have hr:spRdy n f ends now order[i]=false:=by simp only [spRdy,hxe];rw [show decide (rd ends (x:Int)<0)=false from decide_eq_false (by omega)];rfl
   rw [List.find?_cons_of_neg (by rw [hr];simp)]
   refine ev_go _ (fun k=>?_) ih
   simp only [spec_l7Next.l0];rw [if_pos (by omega),if_pos (by omega),hrd,if_pos (by omega),if_pos (by omega),hxe,if_pos hs,wr1 (by omega)]
  ·obtain ⟨R,hR⟩:∃ R,R=(((order.drop (i + 1)).find? (spRdy n f ends now)).getD (-1)):=⟨_,rfl⟩
   rw [←hR] at ih
   have inner:=rev_ind (P:=fun j=>∀ b:Bool,Ev (fun k=>spec_l7Next.l1 k (tbl n f) order ends now (i:Int) b (j:Int)) (if (b && ((List.range n).drop j).all fun k=> !(f k x) || (decide (0≤rd ends (k:Int)) && decide (rd ends (k:Int)≤now)))=true then (x:Int) else R)) n ?_ ?_ 0 (Nat.zero_le _) true
   ·rw [Bool.true_and,List.drop_zero] at inner
    have e:(if ((List.range n).all fun k=> !(f k x) || (decide (0≤rd ends (k:Int)) && decide (rd ends (k:Int)≤now)))=true then (x:Int) else R)=((order[i]::order.drop (i + 1)).find? (spRdy n f ends now)).getD (-1):=by
     by_cases hr:spRdy n f ends now order[i]=true
     ·rw [List.find?_cons_of_pos hr]
      simp only [spRdy,hxe,Bool.and_eq_true,Int.toNat_natCast] at hr
      rw [if_pos hr.2,hxe];rfl
     ·rw [List.find?_cons_of_neg hr,←hR]
      simp only [spRdy,hxe,Bool.and_eq_true,Int.toNat_natCast,decide_eq_true_eq] at hr
      rw [if_neg (fun h=>hr ⟨by omega,h⟩)]
    rw [e] at inner
    refine ev_go _ (fun k=>?_) inner
    simp only [spec_l7Next.l0];rw [if_pos (by omega),if_pos (by omega),hrd,if_pos (by omega),if_pos (by omega),hxe,if_neg hs];rfl
   ·intro b
    cases b with
    | true=>
     rw [List.drop_of_length_le (by simp)]
     refine ev_stop fun k=>?_
     simp only [spec_l7Next.l1];rw [if_neg (by omega)];simp only [if_true];rw [if_pos (by omega),if_pos (by omega),hrd,hxe];rfl
    | false=>
     refine ev_go _ (fun k=>?_) ih
     simp only [spec_l7Next.l1];rw [if_neg (by omega),if_neg (by simp),wr1 (by omega)]
   ·intro j hj ihj b
    rw [range_drop hj,List.all_cons]
    have base:∀ (b2:Bool),(∀ k,spec_l7Next.l1 (k + 1) (tbl n f) order ends now (i:Int) b (j:Int)=spec_l7Next.l1 k (tbl n f) order ends now (i:Int) b2 ((j + 1:Nat):Int))→(b2=(b && (!(f j x) || (decide (0≤rd ends (j:Int)) && decide (rd ends (j:Int)≤now)))))→Ev (fun k=>spec_l7Next.l1 k (tbl n f) order ends now (i:Int) b (j:Int)) (if (b && ((!(f j x) || (decide (0≤rd ends (j:Int)) && decide (rd ends (j:Int)≤now))) && ((List.range n).drop (j + 1)).all fun k=> !(f k x) || (decide (0≤rd ends (k:Int)) && decide (rd ends (k:Int)≤now))))=true then (x:Int) else R):=by
     intro b2 h1 h2
     rw [←Bool.and_assoc,←h2]
     exact ev_go _ h1 (ihj b2)
    by_cases hf:f j x=true
    ·by_cases h1:rd ends (j:Int)<0
     ·refine base false (fun k=>?_) (by rw [hf,show decide (0≤rd ends (j:Int))=false from decide_eq_false (by omega)];simp)
      simp only [spec_l7Next.l1];rw [if_pos (by omega),if_pos (by omega),if_pos (by rw [tbl_length];omega),if_pos (by omega),if_pos (by omega),hrd,if_pos (by omega),if_pos (by rw [tbl_rowlen hj];omega),hxe,tbl_at hj hxn,if_pos hf,if_pos h1,wr1 (by omega)]
     ·by_cases h2:rd ends (j:Int)>now
      ·refine base false (fun k=>?_) (by rw [hf,show decide (rd ends (j:Int)≤now)=false from decide_eq_false (by omega)];simp)
       simp only [spec_l7Next.l1];rw [if_pos (by omega),if_pos (by omega),if_pos (by rw [tbl_length];omega),if_pos (by omega),if_pos (by omega),hrd,if_pos (by omega),if_pos (by rw [tbl_rowlen hj];omega),hxe,tbl_at hj hxn,if_pos hf,if_neg h1,if_pos h2,wr1 (by omega)]
      ·refine base b (fun k=>?_) (by rw [hf,show decide (rd ends (j:Int)≤now)=true from decide_eq_true (by omega),show decide (0≤rd ends (j:Int))=true from decide_eq_true (by omega)];simp)
       simp only [spec_l7Next.l1];rw [if_pos (by omega),if_pos (by omega),if_pos (by rw [tbl_length];omega),if_pos (by omega),if_pos (by omega),hrd,if_pos (by omega),if_pos (by rw [tbl_rowlen hj];omega),hxe,tbl_at hj hxn,if_pos hf,if_neg h1,if_neg h2,wr1 (by omega)]
    ·refine base b (fun k=>?_) (by rw [show f j x=false by simpa using hf];simp)
     simp only [spec_l7Next.l1];rw [if_pos (by omega),if_pos (by omega),if_pos (by rw [tbl_length];omega),if_pos (by omega),if_pos (by omega),hrd,if_pos (by omega),if_pos (by rw [tbl_rowlen hj];omega),hxe,tbl_at hj hxn,if_neg hf,wr1 (by omega)]

theorem spec_l7Soon.ev (ends:List Int) (now:Int) (hl:ends.length≤1000000):Ev (fun k=>spec_l7Soon.f k ends now) (soonL now ends (-1)):=by
 unfold spec_l7Soon.f
 have key:=rev_ind (P:=fun i=>∀ o,Ev (fun k=>spec_l7Soon.l0 k ends now o (i:Int)) (soonL now (ends.drop i) o)) ends.length ?_ ?_ 0 (Nat.zero_le _) (-1)
 ·simpa using key
 ·intro o
  refine ev_stop fun k=>?_
  simp only [spec_l7Soon.l0];rw [if_neg (by omega),List.drop_of_length_le (Nat.le_refl _)];rfl
 ·intro i hi ih o
  rw [drop_cons hi,soonL]
  refine ev_go _ (fun k=>?_) (ih _)
  simp only [spec_l7Soon.l0];rw [if_pos (by omega),if_pos (by omega),rd_nat hi,wr1 (by omega)]
  split
  ·split
   ·rfl
   ·split <;> rfl
  ·rfl

theorem spec_l7List.pass {jobs:List J} (hj:JobsOk jobs) {f:BF} {order:List Int} (hq:order.length≤1000000) (ho:∀ x ∈ order,0≤x∧x<(jobs.length:Int)) {m:Nat} (hm:m≤1000) {now:Int} {r:List PTask} : ∀ (c mm:Nat) (s:SpS),mm + c=m→SpInv jobs m now s→(Ev (fun k=>spec_l7List.l1 k jobs (m:Int) order (tbl jobs.length f) (spRun jobs f order now c mm s).plan (spRun jobs f order now c mm s).ends (spRun jobs f order now c mm s).free (soonL now (spRun jobs f order now c mm s).ends (-1)) (spRun jobs f order now c mm s).left) r)→Ev (fun k=>spec_l7List.l2 k jobs (m:Int) order (tbl jobs.length f) s.plan s.ends s.free now s.left (mm:Int)) r
 | 0,mm,s,hc,h,hr=>by
  have h8:=hj.1
  refine ev_go (fun k=>(spec_l7Soon.f k s.ends now).bind fun t=>spec_l7List.l1 k jobs (m:Int) order (tbl jobs.length f) s.plan s.ends s.free t s.left) (fun k=>?_) (ev_bind _ (spec_l7Soon.ev s.ends now (by rw [h.lens.2.1];omega)) hr)
  simp only [spec_l7List.l2];rw [if_neg (by omega)]
 | c + 1,mm,s,hc,h,hr=>by
  have h8:=hj.1
  have hmm:mm<m:=by omega
  rw [spRun] at hr
  have ih:=spec_l7List.pass hj hq ho hm c (mm + 1) _ (by omega) (h.step hj ho hmm) hr
  have hfl:=h.lens.2.2
  by_cases hle:rd s.free (mm:Int)≤now
  ·cases hf:order.find? (spRdy jobs.length f s.ends now) with
   | none=>
    have e:spStep jobs f order now s mm=s:=by unfold spStep;rw [if_pos hle,hf]
    rw [e] at ih
    refine ev_go_bind (F:=?F) (fun k=>?h1) (spec_l7Next.ev jobs.length f order s.ends now h8 h.lens.2.1 hq ho) ?h2
    case h1=>
     simp only [spec_l7List.l2];rw [if_pos (by omega),if_pos (by omega),if_pos (by omega),if_pos hle,wr1 (by omega)]
    case h2=>
     have e1:spNx jobs.length f order s.ends now= -1:=by simp [spNx,hf]
     have e2:((-1:Int)≥0)=False:=eq_false (by omega)
     simp only [e1,e2,if_false]
     exact ih
   | some i=>
    have hi:=ho i (List.mem_of_find?_eq_some hf)
    have e:spStep jobs f order now s mm=⟨s.plan.set i.toNat ⟨i,(mm:Int),now⟩,s.ends.set i.toNat (now + tmI jobs i),s.free.set mm (now + tmI jobs i),s.left - 1⟩:=by unfold spStep;rw [if_pos hle,hf]
    rw [e] at ih
    have htm:=tmI_in hj hi.1 hi.2
    have hn0:=h.now0
    have hn1:=h.now1
    have hl:=h.left
    have hl1:=h.lens.1
    have hl2:=h.lens.2.1
    have w1:wrap64 (now + (rd_T76 jobs i).f0)=now + tmI jobs i:=by unfold tmI at htm ⊢;exact wr (by omega) (by omega)
    have w2:wrap64 (s.left - 1)=s.left - 1:=wr (by omega) (by omega)
    have w3:rd (s.ends.set i.toNat (now + tmI jobs i)) i=now + tmI jobs i:=by
     obtain ⟨x,rfl⟩:=Int.eq_ofNat_of_zero_le hi.1
     rw [Int.toNat_natCast,rd_setI (by omega) (by omega),if_pos rfl]
    refine ev_go_bind (F:=?F) (fun k=>?h1) (spec_l7Next.ev jobs.length f order s.ends now h8 h.lens.2.1 hq ho) ?h2
    case h1=>
     simp only [spec_l7List.l2];rw [if_pos (by omega),if_pos (by omega),if_pos (by omega),if_pos hle,wr1 (by omega)]
    case h2=>
     have e1:spNx jobs.length f order s.ends now=i:=by simp [spNx,hf]
     have e2:(i≥0)=True:=eq_true hi.1
     have e3:(0≤i)=True:=eq_true hi.1
     have e4:(i<(s.plan.length:Int))=True:=eq_true (by omega)
     have e5:(i<(jobs.length:Int))=True:=eq_true hi.2
     have e6:(i<(s.ends.length:Int))=True:=eq_true (by omega)
     simp only [e1,e2,e3,e4,e5,e6,if_true,Option.bind_some,w1,w2,w3,Int.toNat_natCast]
     exact ih
  ·have e:spStep jobs f order now s mm=s:=by unfold spStep;rw [if_neg hle]
   rw [e] at ih
   refine ev_go _ (fun k=>?_) ih
   simp only [spec_l7List.l2];rw [if_pos (by omega),if_pos (by omega),if_pos (by omega),if_neg hle,if_neg (by omega),wr1 (by omega)]

def imgS (s:SpS):LpS:=⟨s.plan,s.ends.map fun e=>decide (0≤e),s.free,s.left⟩
theorem rdOf_map (l:List Int) (i:Nat) (h:i<l.length):rdOf false (l.map fun e=>decide (0≤e)) (i:Int)=decide (0≤rd l (i:Int)):=by
 rw [rd_nat h];simp [rdOf,h]
theorem all_range {n:Nat} {p q:Nat→Bool} (h:∀ j,j<n→p j=q j):(List.range n).all p=(List.range n).all q:=by
 rw [Bool.eq_iff_iff,List.all_eq_true,List.all_eq_true]
 constructor
 ·intro H x hx;rw [←h x (List.mem_range.1 hx)];exact H x hx
 ·intro H x hx;rw [h x (List.mem_range.1 hx)];exact H x hx
theorem find_congr {p q:Int→Bool} : ∀ (l:List Int),(∀ x ∈ l,p x=q x)→l.find? p=l.find? q
 | [],_=>rfl
 | a::l,h=>by
  rw [List.find?_cons,List.find?_cons,h a List.mem_cons_self,find_congr l fun x hx=>h x (List.mem_cons_of_mem _ hx)]
theorem lpReady_img {jobs:List J} (hj:JobsOk jobs) {f:BF} {m:Nat} {now:Int} {s:SpS} (h:SpInv jobs m now s) {i:Int} (h0:0≤i) (h1:i<(jobs.length:Int)):lpReady jobs (tbl jobs.length f) s.plan (s.ends.map fun e=>decide (0≤e)) i now=spRdy jobs.length f s.ends now i:=by
 obtain ⟨x,rfl⟩:=Int.eq_ofNat_of_zero_le h0
 have hx:x<jobs.length:=by omega
 have hl2:=h.lens.2.1
 have h8:=hj.1
 unfold lpReady spRdy
 rw [rdOf_map _ _ (by omega)]
 congr 1
 ·by_cases c:0≤rd s.ends (x:Int)
  ·rw [decide_eq_true c,decide_eq_false (by omega)];rfl
  ·rw [decide_eq_false c,decide_eq_true (by omega)];rfl
 ·refine all_range fun j hj2=>?_
  have he:=h.ends j hj2
  have hn1:=h.left
  have e:rdOf false (lpRow (tbl jobs.length f) (j:Int)) (x:Int)=f j x:=tbl_at hj2 hx
  unfold lpBusy
  rw [e,rdOf_map _ _ (by omega),Int.toNat_natCast]
  by_cases hf:f j x=true
  ·by_cases c:0≤rd s.ends (j:Int)
   ·have w:wrap64 ((rd_T92 s.plan (j:Int)).f2 + (rd_T76 jobs (j:Int)).f0)=rd s.ends (j:Int):=by
     have:=(he.2.2 c).1
     unfold tmI at this
     rw [wr (by omega) (by omega)];omega
    rw [w,hf,decide_eq_true c]
    by_cases c2:now<rd s.ends (j:Int)
    ·rw [decide_eq_true c2,decide_eq_false (by omega)];rfl
    ·rw [decide_eq_false c2,decide_eq_true (by omega)];rfl
   ·rw [hf,decide_eq_false c];rfl
  ·rw [show f j x=false by simpa using hf];rfl
theorem lpStep_img {jobs:List J} (hj:JobsOk jobs) {f:BF} {order:List Int} (ho:∀ x ∈ order,0≤x∧x<(jobs.length:Int)) {m:Nat} {now:Int} {s:SpS} (h:SpInv jobs m now s) (mm:Nat):lpStep jobs (tbl jobs.length f) order now (imgS s) mm=imgS (spStep jobs f order now s mm):=by
 have e:order.find? (fun i=>lpReady jobs (tbl jobs.length f) (imgS s).out (imgS s).st i now)=order.find? (spRdy jobs.length f s.ends now):=find_congr order fun x hx=>lpReady_img hj h (ho x hx).1 (ho x hx).2
 unfold lpStep spStep
 rw [e]
 by_cases c:rd s.free (mm:Int)≤now
 ·rw [if_neg (show ¬ rd (imgS s).free (mm:Int)>now from fun h2=>by have h3:rd s.free (mm:Int)>now:=h2;omega),if_pos c]
  cases hf:order.find? (spRdy jobs.length f s.ends now) with
  | none=>rfl
  | some i=>
   have hi:=ho i (List.mem_of_find?_eq_some hf)
   have htm:=tmI_in hj hi.1 hi.2
   have hn0:=h.now0
   have hn1:=h.now1
   have hl:=h.left
   have h8:=hj.1
   have w1:wrap64 (now + (rd_T76 jobs i).f0)=now + tmI jobs i:=by unfold tmI at htm ⊢;exact wr (by omega) (by omega)
   have w2:wrap64 ((imgS s).left - 1)=s.left - 1:=wr (by show -9223372036854775808≤s.left - 1;omega) (by show s.left - 1≤9223372036854775807;omega)
   simp only [w1,w2]
   simp only [imgS,List.map_set,show decide (0≤now + tmI jobs i)=true from decide_eq_true (by omega)]
 ·rw [if_pos (show rd (imgS s).free (mm:Int)>now by show rd s.free (mm:Int)>now;omega),if_neg c]
theorem lpRun_img {jobs:List J} (hj:JobsOk jobs) {f:BF} {order:List Int} (ho:∀ x ∈ order,0≤x∧x<(jobs.length:Int)) {m:Nat} {now:Int} : ∀ (c mm:Nat) (s:SpS),mm + c=m→SpInv jobs m now s→lpRun jobs (tbl jobs.length f) order now c mm (imgS s)=imgS (spRun jobs f order now c mm s)
 | 0,_,_,_,_=>rfl
 | c + 1,mm,s,hc,h=>by
  rw [lpRun,lpStep_img hj ho h,spRun]
  exact lpRun_img hj ho c (mm + 1) _ (by omega) (h.step hj ho (by omega))
theorem SpInv.at {jobs:List J} {m:Nat} {now t:Int} {s:SpS} (h:SpInv jobs m now s) (h0:0≤t) (h1:t≤50 * ((jobs.length:Int) - s.left)):SpInv jobs m t s:=⟨h.lens,h.left,h.ends,h.free,h0,h1⟩
/-- Rounds in which nothing begins. -/
theorem impl_listPlan.skip {jobs:List J} (hj:JobsOk jobs) {f:BF} {order:List Int} (ho:∀ x ∈ order,0≤x∧x<(jobs.length:Int)) {m:Nat} {r:List PTask} {s:SpS} (hl:0<s.left):∀ (c:Nat) (t:Int),(∀ u:Int,t≤u→u<t + c→SpInv jobs m u s∧StuckTo jobs.length f order u m s)→Ev (fun k=>impl_listPlan.l0 jobs (tbl jobs.length f) order m k (imgS s) (t + c)) r→Ev (fun k=>impl_listPlan.l0 jobs (tbl jobs.length f) order m k (imgS s) t) r
 | 0,t,_,h=>by simpa using h
 | c + 1,t,hs,h=>by
  have h1:=hs t (by omega) (by omega)
  have ih:=impl_listPlan.skip hj ho hl c (t + 1) (fun u h2 h3=>hs u (by omega) (by omega)) (by rw [show t + 1 + (c:Int)=t + ((c + 1:Nat):Int) by omega];exact h)
  refine ev_go _ (fun k=>?_) ih
  have hn0:=h1.1.now0
  have hn1:=h1.1.now1
  have hlf:=h1.1.left
  have h8:=hj.1
  rw [impl_listPlan.l0,if_pos (show 0<(imgS s).left from hl),lpRun_img hj ho m 0 s (by omega) h1.1,spRun_noop h1.2 m 0 (by omega),wr (by omega) (by omega)]

def PlanIn (jobs:List J) (r:List PTask):Prop:=r.length=jobs.length∧∀ j:Nat,j<jobs.length→(rd_T92 r (j:Int)).f0=(j:Int)∧0≤(rd_T92 r (j:Int)).f2∧(rd_T92 r (j:Int)).f2 + tmI jobs (j:Int)≤50 * (jobs.length:Int)
theorem cntU_zero:∀ {l:List Int},cntU l=0→∀ j:Nat,j<l.length→0≤rd l (j:Int):=by
 intro l h j hj
 apply Classical.byContradiction
 intro h2
 rw [rd_nat hj] at h2
 have:l[j] ∈ l.filter fun e=>decide (e<0):=List.mem_filter.2 ⟨List.getElem_mem hj,by simp;omega⟩
 have h3:=List.length_pos_of_mem this
 unfold cntU at h
 omega
theorem SpInv.plan {jobs:List J} {m:Nat} {now:Int} {s:SpS} (h:SpInv jobs m now s) (hz:s.left=0):PlanIn jobs s.plan:=by
 refine ⟨h.lens.1,fun j hj=>?_⟩
 have h1:=h.ends j hj
 have h2:=cntU_zero (l:=s.ends) (by have:=h.left;omega) j (by rw [h.lens.2.1];exact hj)
 have h3:=h1.2.2 h2
 exact ⟨h3.2.1,h3.2.2,by rw [←h3.1];have:=h1.2.1;omega⟩
theorem list_both {jobs:List J} (hj:JobsOk jobs) {f:BF} (hp:PreF jobs.length f) {order:List Int} (ho:IsPerm jobs.length order) {m:Nat} (hm:1≤m∧m≤4):∀ (d:Nat) (now:Int) (s:SpS),SpInv jobs m now s→(50 * (jobs.length:Int) - now).toNat≤d→∃ r:List PTask,PlanIn jobs r∧Ev (fun k=>impl_listPlan.l0 jobs (tbl jobs.length f) order m k (imgS s) now) r∧Ev (fun k=>spec_l7List.l1 k jobs (m:Int) order (tbl jobs.length f) s.plan s.ends s.free now s.left) r:=by
 intro d
 induction d with
 | zero=>
  intro now s h hd
  have h1:=h.now1
  have h2:=h.left
  have hz:s.left=0:=by omega
  refine ⟨s.plan,h.plan hz,ev_stop fun k=>?_,ev_stop fun k=>?_⟩
  ·rw [impl_listPlan.l0,if_neg (show ¬ 0<(imgS s).left by show ¬ 0<s.left;omega)];rfl
  ·simp only [spec_l7List.l1];rw [if_neg (by omega)]
 | succ d ih=>
  intro now s h hd
  have h8:=hj.1
  have hor:=ho.2.2
  have hol:=ho.1
  have h0:=h.now0
  have h1:=h.now1
  have h2:=h.left
  by_cases hl:0<s.left
  ·obtain ⟨hI,hS⟩:=spRun_all hj hor (f:=f) m 0 s (by omega) h (fun k hk=>absurd hk (by omega))
   have hpass:=fun r hr=>spec_l7List.pass (r:=r) hj (f:=f) (order:=order) (by omega) hor (by omega) m 0 s (by omega) h hr
   have himp:∀ r,Ev (fun k=>impl_listPlan.l0 jobs (tbl jobs.length f) order m k (imgS (spRun jobs f order now m 0 s)) (now + 1)) r→Ev (fun k=>impl_listPlan.l0 jobs (tbl jobs.length f) order m k (imgS s) now) r:=fun r hr=>by
    refine ev_go _ (fun k=>?_) hr
    rw [impl_listPlan.l0,if_pos (show 0<(imgS s).left from hl),lpRun_img hj hor m 0 s (by omega) h,wr (by omega) (by omega)]
   have hspc:∀ r,Ev (fun k=>spec_l7List.l2 k jobs (m:Int) order (tbl jobs.length f) s.plan s.ends s.free now s.left ((0:Nat):Int)) r→Ev (fun k=>spec_l7List.l1 k jobs (m:Int) order (tbl jobs.length f) s.plan s.ends s.free now s.left) r:=fun r hr=>by
    refine ev_go _ (fun k=>?_) hr
    simp only [spec_l7List.l1];rw [if_pos hl];rfl
   generalize spRun jobs f order now m 0 s=s1 at hI hS hpass himp
   by_cases hl1:0<s1.left
   ·obtain ⟨e,he,hlt⟩:=soon_there hp ho (by omega) hI hS hl1
    obtain ⟨a1,a2,a3,a4⟩:=soonL_spec now h0 s1.ends (-1) (by omega)
    have a5:=a3 e he hlt
    obtain ⟨S,hSe⟩:∃ S,S=soonL now s1.ends (-1):=⟨_,rfl⟩
    rw [←hSe] at a1 a2 a3 a4 a5 hpass
    have hmem:S ∈ s1.ends:=by
     rcases a1 with a1|a1
     ·omega
     ·exact a1
    obtain ⟨j,hjl,hje⟩:=List.getElem_of_mem hmem
    have hb:=hI.ends j (by rw [←hI.lens.2.1];exact hjl)
    rw [rd_nat hjl,hje] at hb
    obtain ⟨r,r1,r2,r3⟩:=ih S s1 (hI.at (by omega) hb.2.1) (by omega)
    refine ⟨r,r1,himp r ?_,hspc r (hpass r r3)⟩
    refine impl_listPlan.skip hj hor (f:=f) (m:=m) hl1 (S - (now + 1)).toNat (now + 1) (fun u hu1 hu2=>?_) ?_
    ·exact ⟨hI.at (by omega) (by omega),stuck_between hI hS (by omega) (fun x hx hx2=>by have:=a3 x hx hx2;omega)⟩
    ·rw [show now + 1 + ((S - (now + 1)).toNat:Int)=S by omega];exact r2
   ·refine ⟨s1.plan,hI.plan (by have:=hI.left;omega),himp _ (ev_stop fun k=>?_),hspc _ (hpass _ (ev_stop fun k=>?_))⟩
    ·rw [impl_listPlan.l0,if_neg (show ¬ 0<(imgS s1).left from hl1)];rfl
    ·simp only [spec_l7List.l1];rw [if_neg (by omega)]
  ·refine ⟨s.plan,h.plan (by omega),ev_stop fun k=>?_,ev_stop fun k=>?_⟩
   ·rw [impl_listPlan.l0,if_neg (show ¬ 0<(imgS s).left from hl)];rfl
   ·simp only [spec_l7List.l1];rw [if_neg (by omega)]
theorem rd_rep (n:Nat) (v:Int) (j:Nat) (h:j<n):rd (List.replicate n v) (j:Int)=v:=by rw [rd_nat (by simpa using h)];simp
theorem cntU_rep (n:Nat):cntU (List.replicate n (-1))=n:=by
 unfold cntU
 rw [List.filter_eq_self.2 (fun a ha=>by rw [List.eq_of_mem_replicate ha];rfl),List.length_replicate]
/-- The list plan of an order. -/
theorem listBoth {jobs:List J} (hj:JobsOk jobs) {E:List A2} (hE:PrecOk (jobs.length:Int) E) {order:List Int} (ho:IsPerm jobs.length order) {m:Int} (hm:1≤m∧m≤4):∃ r:List PTask,PlanIn jobs r∧Ev (fun k=>impl_listPlan.f k jobs m E order) r∧Ev (fun k=>spec_l7List.f k jobs m E order) r:=by
 obtain ⟨m,rfl⟩:=Int.eq_ofNat_of_zero_le (show 0≤m by omega)
 have h8:=hj.1
 have h28:=hE.1.2.1
 have hp:PreF jobs.length (cloF jobs.length E):=preF_of (by have:=hE.2;rwa [Int.toNat_natCast] at this)
 have hs:SpInv jobs m 0 ⟨List.replicate jobs.length z92,List.replicate jobs.length (-1),List.replicate m 0,(jobs.length:Int)⟩:=by
  refine ⟨by simp,?_,fun j hj2=>?_,fun k hk=>.inl (rd_rep m 0 k hk),by omega,?_⟩
  ·show (jobs.length:Int)=(cntU (List.replicate jobs.length (-1)):Int);rw [cntU_rep]
  ·show -1≤rd (List.replicate jobs.length (-1)) (j:Int)∧rd (List.replicate jobs.length (-1)) (j:Int)≤50 * ((jobs.length:Int) - (jobs.length:Int))∧(0≤rd (List.replicate jobs.length (-1)) (j:Int)→_)
   rw [rd_rep _ _ _ hj2]
   exact ⟨by omega,by omega,fun h=>absurd h (by omega)⟩
  ·show (0:Int)≤50 * ((jobs.length:Int) - (jobs.length:Int));omega
 obtain ⟨r,r1,r2,r3⟩:=list_both hj hp ho (by omega) _ 0 _ hs (Nat.le_refl _)
 refine ⟨r,r1,?_,?_⟩
 ·unfold impl_listPlan.f
  refine ev_bind _ (impl_closure.ev jobs.length E (by omega) (by omega) (PairsOk.edg hE.1.2.2)) ?_
  have hg:lpGood jobs (m:Int) (tbl jobs.length (cloF jobs.length E)) order:=by
   refine ⟨by omega,by omega,⟨tbl_length _ _,fun r hr=>?_⟩,by have:=ho.1;omega,ho.2.2⟩
   obtain ⟨i,hi,rfl⟩:=List.mem_map.1 hr
   simp
  simp only [if_pos hg]
  have e:lpStart jobs (m:Int)=imgS ⟨List.replicate jobs.length z92,List.replicate jobs.length (-1),List.replicate m 0,(jobs.length:Int)⟩:=by
   simp [lpStart,imgS]
  rw [e]
  exact r2
 ·unfold spec_l7List.f
  refine ev_bind _ (spec_l4Table.ev jobs.length E (by omega) (by omega) (PairsOk.edg hE.1.2.2)) ?_
  rw [show (fun k=>if 0≤(jobs.length:Int) then (if ((jobs.length:Int):Int).toNat≤11728124029610 then (if ((jobs.length:Int):Int).toNat≤35184372088832 then (spec_l7List.l0 k jobs (m:Int) order (jobs.length:Int) (tbl jobs.length (cloF jobs.length E)) (List.replicate ((jobs.length:Int):Int).toNat z92) (List.replicate ((jobs.length:Int):Int).toNat 0) 0) else (none)) else (none)) else (none))=fun k=>spec_l7List.l0 k jobs (m:Int) order (jobs.length:Int) (tbl jobs.length (cloF jobs.length E)) (List.replicate jobs.length z92) (List.replicate jobs.length 0) ((0:Nat):Int) from funext fun k=>by rw [if_pos (by omega),if_pos (by omega),if_pos (by omega)];rfl]
  have key:=rev_ind (P:=fun i=>Ev (fun k=>spec_l7List.l0 k jobs (m:Int) order (jobs.length:Int) (tbl jobs.length (cloF jobs.length E)) (List.replicate jobs.length z92) ((List.replicate jobs.length (-1)).take i++(List.replicate jobs.length (0:Int)).drop i) (i:Int)) r) jobs.length ?_ ?_ 0 (Nat.zero_le _)
  ·simpa using key
  ·refine ev_go _ (fun k=>?_) r3
   simp only [spec_l7List.l0];rw [if_neg (by omega),if_pos (by omega),if_pos (by omega),List.take_of_length_le (by simp),List.drop_of_length_le (by simp)]
   simp
  ·intro i hi ih
   refine ev_go _ (fun k=>?_) ih
   simp only [spec_l7List.l0];rw [if_pos (by omega),if_pos (by omega),if_pos (by simp;omega),wr1 (by omega)]
   have:=set_copy (l:=List.replicate jobs.length (-1:Int)) (z:=List.replicate jobs.length (0:Int)) (i:=i) (by simpa using hi) (by simpa using hi)
   rw [show ((i:Int)).toNat=i by omega,←this]
   simp

def fallLt (nums:List Int):Int→Int→Bool:=fun a b=>decide (rd nums b<rd nums a)
theorem fallLt_pre (nums:List Int) (P:Int→Prop):Pre (fallLt nums) P:=by
 rw [show fallLt nums=fun a b=>decide (-(rd nums a) < -(rd nums b)) from funext fun a=>funext fun b=>by unfold fallLt;exact decide_eq_decide.2 (by omega)]
 exact pre_key (fun a=> -(rd nums a)) P
theorem spec_l7Falling.ev (nums:List Int) (h:nums.length≤1048576):Ev (fun k=>spec_l7Falling.f k nums) (sortN (fallLt nums) nums.length):=by
 have key:=rev_ind (P:=fun i=>∀ out:List Int,out.length=i→(∀ y ∈ out,0≤y∧y<nums.length)→SortedLt (fallLt nums) out→Ev (fun k=>spec_l7Falling.l0 k nums out (i:Int)) (insAll (fallLt nums) ((nums_to nums.length).drop i) out)) nums.length ?_ ?_ 0 (Nat.zero_le _) [] rfl (by simp) List.Pairwise.nil
 ·simpa [spec_l7Falling.f,sortN] using key
 ·intro out ho _ _
  refine ev_stop fun k=>?_
  simp only [spec_l7Falling.l0];rw [if_neg (by omega),List.drop_of_length_le (by rw [nums_to_length];omega),insAll]
 ·intro i hi ih out ho hm hs
  refine ev_go (fun k=>spec_l7Falling.l1 k nums out (i:Int) 0) (fun k=>?h) ?e
  case e=>
   have hi2:(nums_to nums.length)[i]'(by rw [nums_to_length];exact hi)=(i:Int):=by simp [nums_to]
   rw [drop_cons (by rw [nums_to_length];exact hi),hi2,insAll]
   have hP:Pre (fallLt nums) (fun y=>0≤y∧y<(nums.length:Int)):=fallLt_pre _ _
   have hxi:0≤(i:Int)∧(i:Int)<(nums.length:Int):=by omega
   have inner:=rev_ind (P:=fun j=>(∀ y ∈ out.take j,fallLt nums (i:Int) y=false)→Ev (fun k=>spec_l7Falling.l1 k nums out (i:Int) (j:Int)) (insAll (fallLt nums) ((nums_to nums.length).drop (i + 1)) (insAt (fallLt nums) (i:Int) out))) out.length ?_ ?_ 0 (Nat.zero_le _) (by simp)
   ·exact inner
   ·intro ht
    have ha:=insAt_at hP hxi hm hs out.length (Nat.le_refl _) ht (fun h=>absurd h (by omega))
    have hn:=ih (insAt (fallLt nums) (i:Int) out) (by rw [insAt_len];omega) (insAt_mem hxi hm) (insAt_sorted hP hxi hm hs)
    rw [ha] at hn ⊢
    refine ev_go _ (fun k=>?_) hn
    simp only [spec_l7Falling.l1];rw [if_neg (by omega),if_pos (by omega),if_pos (by omega),spec_l1Own.eq _ (by simp;omega)]
    simp only [Option.bind_some]
    rw [if_pos (by simp;omega),if_pos (by simp;omega),wr1 (by omega)]
    simp
   ·intro j hj ihj ht
    have hy:=hm _ (List.getElem_mem hj)
    by_cases q:rd nums out[j]≥rd nums (i:Int)
    ·refine ev_go _ (fun k=>?_) (ihj ?_)
     ·simp only [spec_l7Falling.l1];rw [rd_nat hj,if_pos (by omega),if_pos (by omega),if_pos (by omega),if_pos (by omega),if_pos (by omega),if_pos (by omega),if_pos q,wr1 (by omega)]
     ·intro y hy
      rw [List.take_succ_eq_append_getElem hj] at hy
      rcases List.mem_append.1 hy with hy|hy
      ·exact ht y hy
      ·rw [List.mem_singleton] at hy;subst hy;unfold fallLt;simp;omega
    ·have ha:=insAt_at hP hxi hm hs j (by omega) ht (fun _=>by unfold fallLt;simp;omega)
     have hn:=ih (insAt (fallLt nums) (i:Int) out) (by rw [insAt_len];omega) (insAt_mem hxi hm) (insAt_sorted hP hxi hm hs)
     rw [ha] at hn ⊢
     refine ev_go _ (fun k=>?_) hn
     simp only [spec_l7Falling.l1];rw [rd_nat hj,if_pos (by omega),if_pos (by omega),if_pos (by omega),if_pos (by omega),if_pos (by omega),if_pos (by omega),if_neg q,if_pos (by omega),spec_l1Own.eq _ (by simp;omega)]
     simp only [Option.bind_some]
     rw [if_pos (by simp;omega),if_pos (by simp;omega),wr1 (by omega)]
     simp
  case h=>simp only [spec_l7Falling.l0];rw [if_pos (by omega)]

def tkM (a:Int):Nat→List PTask
 | 0=>[]
 | n + 1=>⟨a,a + 1,a + 2⟩::tkM (a + 3) n
theorem tkM_len:∀ (n:Nat) (a:Int),(tkM a n).length=n
 | 0,_=>rfl
 | n + 1,a=>by rw [tkM,List.length_cons,tkM_len n]
theorem tk_ext {a b c a' b' c':Int} (h:a=a') (h2:b=b') (h3:c=c'):(⟨a,b,c⟩:PTask)=⟨a',b',c'⟩:=by rw [h,h2,h3]
theorem tkM_snoc:∀ (n:Nat) (a:Int),tkM a (n + 1)=tkM a n++[⟨a + 3 * n,a + 3 * n + 1,a + 3 * n + 2⟩]
 | 0,a=>by simp [tkM]
 | n + 1,a=>by
  rw [tkM,tkM_snoc n,tkM,List.cons_append]
  have e:a + 3 + 3 * (n:Int)=a + 3 * ((n + 1:Nat):Int):=by omega
  rw [e]
theorem tkM_get:∀ (n:Nat) (a:Int) (i:Nat) (h:i<(tkM a n).length),(tkM a n)[i]=⟨a + 3 * i,a + 3 * i + 1,a + 3 * i + 2⟩
 | 0,_,i,h=>by simp [tkM] at h
 | n + 1,a,0,h=>by simp [tkM]
 | n + 1,a,i + 1,h=>by
  simp only [tkM,List.getElem_cons_succ]
  rw [tkM_get n]
  congr 1
  ·simp;omega
  ·simp;omega
  ·simp;omega
theorem laws_markTaskS.ev (l:List PTask) (a:Int) (h0:0≤a) (h1:a≤1000000000000000) (hl:l.length≤1048576):Ev (fun k=>laws_markTaskS.f k l a) (a + 3 * l.length,tkM a l.length):=by
 have key:=rev_ind (P:=fun i=>Ev (fun k=>laws_markTaskS.l0 k (tkM a i++l.drop i) (a + 3 * i) (i:Int)) (a + 3 * l.length,tkM a l.length)) l.length ?_ ?_ 0 (Nat.zero_le _)
 ·simpa [laws_markTaskS.f,tkM] using key
 ·refine ev_stop fun k=>?_
  have hlen:(tkM a l.length++l.drop l.length).length=l.length:=by simp [tkM_len]
  simp only [laws_markTaskS.l0];rw [if_neg (by rw [hlen];omega)];simp
 ·intro i hi ih
  have hlen:(tkM a i++l.drop i).length=l.length:=by simp [tkM_len];omega
  have w1:wrap64 (a + 3 * i + 1)=a + 3 * i + 1:=wr (by omega) (by omega)
  have w2:wrap64 (a + 3 * i + 1 + 1)=a + 3 * i + 2:=by rw [wr (by omega) (by omega)];omega
  have w3:wrap64 (a + 3 * i + 2 + 1)=a + 3 * ((i + 1:Nat):Int):=by rw [wr (by omega) (by omega)];omega
  refine ev_go _ (fun k=>?_) ih
  simp only [laws_markTaskS.l0,Option.bind_some];rw [if_pos (by rw [hlen];omega),if_pos (by omega),w1,w2,w3,wr1 (by omega)]
  congr 1
  have hset:∀ (z:PTask),(tkM a i++l.drop i).set (i:Int).toNat z=tkM a i++z::l.drop (i + 1):=fun z=>by
   rw [Int.toNat_natCast,drop_cons hi,List.set_append_right _ _ (by rw [tkM_len];exact Nat.le_refl _),tkM_len,Nat.sub_self,List.set_cons_zero]
  have hset2:∀ (y z:PTask),(tkM a i++y::l.drop (i + 1)).set (i:Int).toNat z=tkM a i++z::l.drop (i + 1):=fun y z=>by
   rw [Int.toNat_natCast,List.set_append_right _ _ (by rw [tkM_len];exact Nat.le_refl _),tkM_len,Nat.sub_self,List.set_cons_zero]
  have hrd:∀ (y:PTask),rd_T92 (tkM a i++y::l.drop (i + 1)) (i:Int)=y:=fun y=>by
   rw [rdPTask (by simp [tkM_len]),List.getElem_append_right (by rw [tkM_len];exact Nat.le_refl _)]
   simp [tkM_len]
  rw [hset,hrd,hset2,hrd,hset2,tkM_snoc,List.append_assoc]
  rfl
theorem laws_heldTaskS.ev (n:Nat) (a:Int) (h0:0≤a) (h1:a≤1000000000000000) (hl:n≤1048576):Ev (fun k=>laws_heldTaskS.f k (tkM a n) a) (a + 3 * n):=by
 have key:=rev_ind (P:=fun i=>Ev (fun k=>laws_heldTaskS.l0 k (tkM a n) (a + 3 * i) (i:Int)) (a + 3 * n)) n ?_ ?_ 0 (Nat.zero_le _)
 ·simpa [laws_heldTaskS.f] using key
 ·refine ev_stop fun k=>?_
  simp only [laws_heldTaskS.l0];rw [if_neg (by rw [tkM_len];omega)]
 ·intro i hi ih
  have hi':i<(tkM a n).length:=by rw [tkM_len];exact hi
  have w1:wrap64 (a + 3 * i + 1)=a + 3 * i + 1:=wr (by omega) (by omega)
  have w2:wrap64 (a + 3 * i + 1 + 1)=a + 3 * i + 2:=by rw [wr (by omega) (by omega)];omega
  have w3:wrap64 (a + 3 * i + 2 + 1)=a + 3 * ((i + 1:Nat):Int):=by rw [wr (by omega) (by omega)];omega
  refine ev_go _ (fun k=>?_) ih
  simp only [laws_heldTaskS.l0];rw [if_pos (by rw [tkM_len];omega),if_pos (by omega),rdPTask hi',tkM_get,if_pos rfl,w1,if_pos rfl,w2,if_pos rfl,w3,wr1 (by omega)]
theorem laws_markTaskS.held (l:List PTask) (hl:l.length≤1048576):∃ n l',Ev (fun k=>laws_markTaskS.f k l 1) (n,l')∧Ev (fun k=>laws_heldTaskS.f k l' 1) n∧((n<0)=False):=
 ⟨_,_,laws_markTaskS.ev l 1 (by omega) (by omega) hl,laws_heldTaskS.ev l.length 1 (by omega) (by omega) hl,eq_false (by omega)⟩

end Go.Proofs.Ytbcfmegepkhlpaa.Pure
-- minified
