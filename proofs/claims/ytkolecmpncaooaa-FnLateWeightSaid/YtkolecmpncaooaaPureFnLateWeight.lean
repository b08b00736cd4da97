/- Proved here: the statement over numbers and lists alone of the law FnLateWeight, for all its arguments within the bounds that it names. Conditions: those that each theorem names. -/
import Derived.Test.YtkolecmpncaooaaQFnLateWeightxe
set_option linter.unusedVariables false
set_option linter.unusedSimpArgs false
namespace Go.Proofs.Ytkolecmpncaooaa.Pure
open Go.RowKit Go.Proofs.Ytkolecmpncaooaa.XFnLateWeight Go.Proofs.YtkolecmpncaooaaW.PrintWords Go.Proofs.YtkolecmpncaooaaW.PrintLast

theorem BestW.congr {n:Nat} {p d w p' d' w':Int→Int} (hp:∀ x,0≤x∧x<(n:Int)→p x=p' x) (hd:∀ x,0≤x∧x<(n:Int)→d x=d' x) (hw:∀ x,0≤x∧x<(n:Int)→w x=w' x) {M:Int} (h:BestW n p d w M):BestW n p' d' w' M:=by
 have ft:∀ (E:List Int),(∀ x ∈ E,0≤x∧x<(n:Int))→∀ t,(feasF p d 0 E t ↔ feasF p' d' 0 E t):=by
  intro E
  induction E with
  | nil=>intro _ t;exact Iff.rfl
  | cons x E ih=>
   intro hE t
   have hx:=hE x List.mem_cons_self
   rw [feasF,feasF,hp x hx,hd x hx,ih (fun y hy=>hE y (List.mem_cons_of_mem _ hy))]
 have tt:∀ (E:List Int),(∀ x ∈ E,0≤x∧x<(n:Int))→totL w E=totL w' E:=by
  intro E
  induction E with
  | nil=>intro _;rfl
  | cons x E ih=>
   intro hE
   rw [totL,totL,hw x (hE x List.mem_cons_self),ih (fun y hy=>hE y (List.mem_cons_of_mem _ hy))]
 refine ⟨?_,fun E e1 e2 e3=>?_⟩
 ·obtain ⟨E,e1,e2,e3,e4⟩:=h.ex
  exact ⟨E,e1,e2,(ft E e2 0).1 e3,by rw [←tt E e2];exact e4⟩
 ·rw [←tt E e2];exact h.le E e1 e2 ((ft E e2 0).2 e3)
theorem rBest_late {jobs:List J} (hj:PlainOk jobs) {f:Int} (hf:f=7∨f=8) {M:Int} (hM:BestW jobs.length (pT jobs) (dT jobs) (lwT jobs f) M):Ev (fun k=>laws_rBest.f k jobs f) (totL (lwT jobs f) (nums_to jobs.length) - M,true):=by
 have h8:=hj.1.1
 have hf8:Obj8 f:=by unfold Obj8;omega
 have hb:(bestF jobs f).2.1=totL (lwT jobs f) (nums_to jobs.length) - M:=late_best hj hf hM
 have ei:Ev (fun k=>impl_BestValue.f k jobs f) (totL (lwT jobs f) (nums_to jobs.length) - M,true):=by
  unfold impl_BestValue.f
  refine ev_guard' (impl_IsJobs.ev jobs) (fun _=>?_) (fun hn=>absurd hj.1 hn)
  simp only [impl_isObjective.ev,Option.bind_some,decide_eq_true (show 1≤f∧f≤8 from hf8),if_true]
  exact ev_bind _ (impl_best.ev jobs f hj.1) (by rw [hb];exact Ev.now _)
 have es:Ev (fun k=>spec_BestValue.f k jobs f) (totL (lwT jobs f) (nums_to jobs.length) - M,true):=by
  unfold spec_BestValue.f
  refine ev_guard' (spec_l2Good.ev jobs (by omega)) (fun _=>?_) (fun hn=>absurd hj.1 hn)
  simp only [spec_l2Objective.ev,Option.bind_some,decide_eq_true (show 1≤f∧f≤8 from hf8),if_true]
  exact ev_bind _ (spec_l2Best.ev jobs f hj.1 hf8) (by simp only [hb];exact Ev.now _)
 unfold laws_rBest.f
 refine ev_bind _ ei (ev_bind _ es ?_)
 simp only [beq_self_eq_true,if_true]
 exact Ev.now _
theorem spec_l1Cur_plainJobs.tot {s:List Int} (hs:ByteL s) (p q a:Int) (ha:a≤100) (hp:0≤p) (hb:p≤1000000):∃ r p' q',Ev (fun k=>spec_l1Cur_plainJobs.f k s p q a) (r,p',q')∧r.length≤100∧p≤p'∧p'≤p + 1000:=by
 unfold spec_l1Cur_plainJobs.f
 obtain ⟨b,p1,q1,e,h1,h2⟩:=on hs p q 16 hp (by omega)
 simp only [e,Option.bind_some]
 obtain ⟨r,p2,q2,hr,h3,h4,h5⟩:=spec_l1Cur_someJobs.tot hs b a p1 q1 ha (by omega) (by omega)
 exact ⟨r,p2,q2,ev_bind _ hr (Ev.now _),h3,by omega,by omega⟩
def smJ (jobs:List J):List J:=jobs.map fun j=>(⟨j.f0,1,0,j.f3⟩:J)
theorem smJ_len (jobs:List J):(smJ jobs).length=jobs.length:=by simp [smJ]
theorem smJ_at {jobs:List J} {x:Int} (hx:0≤x∧x<(jobs.length:Int)):rd_T31 (smJ jobs) x=⟨(rd_T31 jobs x).f0,1,0,(rd_T31 jobs x).f3⟩:=by
 obtain ⟨i,rfl⟩:=Int.eq_ofNat_of_zero_le hx.1
 have hi:i<jobs.length:=by omega
 rw [rdJ (by rw [smJ_len];exact hi),rdJ hi]
 simp [smJ]
theorem smJ_ok {jobs:List J} (hj:PlainOk jobs):PlainOk (smJ jobs):=by
 refine ⟨⟨by rw [smJ_len];exact hj.1.1,fun j hm=>?_⟩,fun j hm=>?_⟩
 ·obtain ⟨k,hk,rfl⟩:=List.mem_map.1 hm
  have:=hj.1.2 k hk
  unfold JobOk at this ⊢
  simp only
  omega
 ·obtain ⟨k,hk,rfl⟩:=List.mem_map.1 hm
  rfl
theorem FnLateWeight (l0:List Int) (h0:l0.length≤maxLen∧∀ x ∈ l0,(Lit.int .u8 x).wf=true):∃ k,laws_FnLateWeight.f k l0=some true:=by
 refine Ev.rounds (g:=fun k=>laws_FnLateWeight.f k l0) ?_
 unfold laws_FnLateWeight.f laws_rBig.f
 simp only [Option.bind_some]
 by_cases hb:decide ((l0.length:Int)>65536)=true
 ·simp only [if_pos hb];exact Ev.now _
 simp only [if_neg hb]
 obtain ⟨jobs,a,hd,hjl⟩:∃ (jobs:List J) (a:Int),Ev (fun k=>spec_DrawSetValues.f k l0) (jobs,a)∧jobs.length≤100:=by
  have hs:ByteL l0:=h0.2
  obtain ⟨r,p1,q1,e1,h1,h2,h3⟩:=spec_l1Cur_plainJobs.tot hs 0 0 6 (by omega) (by omega) (by omega)
  obtain ⟨v,p2,q2,e2⟩:∃ v p2 q2,spec_l1Cur_sums.f l0 p1 q1=some (v,p2,q2):=by
   unfold spec_l1Cur_sums.f
   obtain ⟨b,p2,q2,e,h4,h5⟩:=on hs p1 q1 8 (by omega) (by omega)
   simp only [e,Option.bind_some]
   by_cases hb:b=true
   ·simp only [if_pos hb]
    unfold spec_l1Cur_objective.f
    obtain ⟨b2,p3,q3,e3,h6,h7⟩:=on hs p2 q2 24 (by omega) (by omega)
    simp only [e3,Option.bind_some]
    by_cases hb2:b2=true
    ·obtain ⟨v,p4,q4,e4,_,_,_⟩:=am hs p3 q3 [0,9, -1] (by simp) (by omega) (by omega)
     simp only [if_pos hb2,e4,Option.bind_some]
     exact ⟨_,_,_,rfl⟩
    ·obtain ⟨v,p4,q4,e4,_,_,_,_⟩:=pk hs p3 q3 8 (by omega) (by omega)
     simp only [if_neg hb2,e4,Option.bind_some]
     exact ⟨_,_,_,rfl⟩
   ·obtain ⟨v,p3,q3,e3,_,_,_⟩:=am hs p2 q2 [2,3,5,6,7,8] (by simp) (by omega) (by omega)
    simp only [if_neg hb,e3,Option.bind_some]
    exact ⟨_,_,_,rfl⟩
  refine ⟨r,v,?_,h1⟩
  unfold spec_DrawSetValues.f
  exact ev_bind _ e1 (by simp only [e2,Option.bind_some];exact Ev.now _)
 refine ev_bind _ hd ?_
 by_cases hj:PlainOk jobs
 ·have h8:=hj.1.1
  obtain ⟨t,M,hM,_,_,_,_⟩:=spec_late hj
  refine ev_bind _ (impl_LeastLateWeight.ev hj hM) (ev_bind _ (spec_LeastLateWeight.ev hj hM) ?_)
  simp only [if_true,bne_self_eq_false]
  generalize hV:totL (lwT jobs 8) (nums_to jobs.length) - M=V
  have hr8:=rBest_late hj (.inr rfl) hM
  rw [hV] at hr8
  refine ev_go (fun k=>(laws_rBest.f k jobs 8).bind fun b=>if b.2=true then laws_FnLateWeight.j1 k jobs (b.1 != V) else laws_FnLateWeight.j1 k jobs true) (fun k=>by simp only [laws_FnLateWeight.j0];rw [if_neg (by decide),if_pos trivial]) (ev_bind _ hr8 ?_)
  simp only [if_true,bne_self_eq_false]
  refine ev_go (fun k=>laws_FnLateWeight.l0 k jobs [] 0) (fun k=>by simp only [laws_FnLateWeight.j1];rw [if_neg (by decide)]) ?_
    -- the jobs with the weight 1
  have hs:=smJ_ok hj
  obtain ⟨t2,M2,hM2,_,_,_,_⟩:=spec_late hs
  have hM7:BestW jobs.length (pT jobs) (dT jobs) (lwT jobs 7) M2:=by
   rw [smJ_len] at hM2
   refine hM2.congr (fun x hx=>?_) (fun x hx=>?_) (fun x hx=>?_)
   ·unfold pT;rw [smJ_at hx]
   ·unfold dT;rw [smJ_at hx]
   ·unfold lwT;rw [smJ_at hx,if_neg (by omega),if_pos rfl]
  have e1:=impl_LeastLateWeight.ev hs hM2
  have e2:=rBest_late hj (.inl rfl) hM7
  have e3:totL (lwT (smJ jobs) 8) (nums_to (smJ jobs).length)=totL (lwT jobs 7) (nums_to jobs.length):=by
   rw [smJ_len]
   have:∀ E:List Int,(∀ x ∈ E,0≤x∧x<(jobs.length:Int))→totL (lwT (smJ jobs) 8) E=totL (lwT jobs 7) E:=by
    intro E
    induction E with
    | nil=>intro _;rfl
    | cons x E ih=>
     intro hE
     have h1:lwT (smJ jobs) 8 x=lwT jobs 7 x:=by unfold lwT;rw [smJ_at (hE x List.mem_cons_self),if_neg (by omega),if_pos rfl]
     rw [totL,totL,h1,ih (fun y hy=>hE y (List.mem_cons_of_mem _ hy))]
   exact this _ (fun x hx=>mem_nums_to.1 hx)
  rw [e3] at e1
  have hsl:=smJ_len jobs
  refine rev_ind (P:=fun i=>Ev (fun k=>laws_FnLateWeight.l0 k jobs ((smJ jobs).take i) (i:Int)) true) jobs.length ?_ ?_ 0 (Nat.zero_le _)
  ·rw [List.take_of_length_le (by rw [hsl];exact Nat.le_refl _)]
   refine ev_go (fun k=>(impl_LeastLateWeight.f k (smJ jobs)).bind fun b=>(laws_rBest.f k jobs 7).bind fun c=>if b.2=true then (if c.2=true then some (b.1 == c.1) else some false) else some false) (fun k=>by simp only [laws_FnLateWeight.l0];rw [if_neg (by omega)]) (ev_bind _ e1 (ev_bind _ e2 ?_))
   simp only [if_true,beq_self_eq_true]
   exact Ev.now _
  ·intro i hi ih
   refine ev_go _ (fun k=>?_) ih
   simp only [laws_FnLateWeight.l0]
   rw [if_pos (by omega),if_pos (by omega),if_pos (by rw [List.length_take];omega),wr1 (by omega),List.take_succ_eq_append_getElem (show i<(smJ jobs).length by omega),rdJ hi]
   simp [smJ]
 ·have ei:Ev (fun k=>impl_LeastLateWeight.f k jobs) (0,false):=by
   unfold impl_LeastLateWeight.f
   exact ev_guard' (impl_IsPlain.ev jobs (by omega)) (fun h=>absurd h hj) (fun _=>Ev.now _)
  have es:Ev (fun k=>spec_LeastLateWeight.f k jobs) (0,false):=by
   unfold spec_LeastLateWeight.f
   exact ev_guard' (spec_l6Good.ev jobs (by omega)) (fun h=>absurd h hj) (fun _=>Ev.now _)
  refine ev_bind _ ei (ev_bind _ es ?_)
  simp only [if_true,bne_self_eq_false]
  exact ev_stop fun k=>by simp only [laws_FnLateWeight.j0];rw [if_neg (by decide),if_neg (by decide)]

end Go.Proofs.Ytkolecmpncaooaa.Pure
-- minified
