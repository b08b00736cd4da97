/- Proved here: the statement over numbers and lists alone of the law FnLongestFirst, for all its arguments within the bounds that it names. Conditions: those that each theorem names. -/
import Derived.Test.YtkolecmpncaooaaQFnLongestFirstxk
set_option linter.unusedVariables false
set_option linter.unusedSimpArgs false
namespace Go.Proofs.Ytkolecmpncaooaa.Pure
open Go.RowKit Go.Proofs.Ytkolecmpncaooaa.XFnLongestFirst Go.Proofs.YtkolecmpncaooaaW.PrintWords Go.Proofs.YtkolecmpncaooaaW.PrintLast
theorem spec_DrawLongestFirst.tot {s:List Int} (hs:ByteL s):∃ (jobs:List J) (m:Int),Ev (fun k=>spec_DrawLongestFirst.f k s) (jobs,m)/\jobs.length<=100:=by
 unfold spec_DrawLongestFirst.f
 obtain ⟨r,p1,q1,hr,h1,h2,h3⟩:=spec_l1Cur_work7.tot hs 0 0 (by omega) (by omega)
 obtain ⟨m,p2,q2,e2,_⟩:=spec_l1Cur_machines.tot hs p1 q1 (by omega) (by omega)
 refine ⟨r,m,ev_bind _ hr ?_,h1⟩
 simp only [e2,Option.bind_some]
 exact Ev.now _
theorem FnLongestFirst (l0:List Int) (h0:l0.length<=maxLen/\∀ x ∈ l0,(Lit.int .u8 x).wf=true):∃ k,laws_FnLongestFirst.f k l0=some true:=by
 refine Ev.rounds (g:=fun k=>laws_FnLongestFirst.f k l0) ?_
 unfold laws_FnLongestFirst.f laws_vBig.f
 simp only [Option.bind_some]
 by_cases hb:decide ((l0.length:Int)>65536)=true
 ·simp only [if_pos hb];exact Ev.now _
 simp only [if_neg hb]
 obtain ⟨jobs,m,hd,hjl⟩:=spec_DrawLongestFirst.tot (s:=l0) h0.2
 refine ev_bind _ hd ?_
 by_cases hr:ParOk jobs m []
 ·have hj:=hr.1.1
  have h8:=hj.1
  obtain ⟨m,rfl⟩:=Int.eq_ofNat_of_zero_le (show 0<=m by have:=hr.2.1;omega)
  have hm:=hr.2.1
  obtain ⟨V,v1,v2,v3,v4⟩:=loadBoth hr
  have hw:=sortN_isPerm (fallLt (restsL jobs)) jobs.length
  obtain ⟨p1,p2,p3⟩:=planC_spec hr hw
  have hls:=planC_ls hr hw
  obtain ⟨q1,q2⟩:=LF_ok hr p2 p3
  have hlen:=lpt_len hr v3 v4
  have htot:=tot_best hr hw
  have hbd:=lenF_load hj hm v3 v4
  have hle:=load_le hj (by omega) v4 p1 hls
  have eb:Ev (fun k=>impl_LengthBound.f k jobs (m:Int) []) (lenF jobs (m:Int) [],true):=by
   unfold impl_LengthBound.f
   exact ev_guard' (impl_isParallel.ev jobs (m:Int) [] (by omega) (by simp)) (fun _=>ev_bind _ (impl_lengthBound.ev jobs (m:Int) [] hj hr.2.2 hm) (Ev.now _)) (fun hn=>absurd hr hn)
  obtain ⟨b,b1,b2,b3⟩:=best_fold hr
  obtain ⟨o,o1,o2⟩:=load_best hr v3 v4
  obtain ⟨c1,_,_⟩:=planC_spec hr b1
  have hcl:=planC_ls hr b1
  have hle2:=load_le hj (by omega) v4 c1 hcl
  have hle3:=b2 o o1
  have hle4:lenQ jobs (planC jobs (m:Int) [] b) 0 0=V:=by
   have:lenQ jobs (planC jobs (m:Int) [] b) 0 0=lenC jobs (m:Int) [] b:=rfl
   omega
  refine ev_bind _ q2 (ev_bind _ q1 (ev_bind _ v1 (ev_bind _ v2 (ev_bind _ (impl_TotalEnd.ev hr) (ev_bind _ (spec_TotalEnd.ev hr) ?_)))))
  generalize endT jobs (planC jobs (m:Int) [] (sortN (gapLt jobs 2) jobs.length)) jobs.length 0=sum at htot ⊢
  generalize planC jobs (m:Int) [] (sortN (fallLt (restsL jobs)) jobs.length)=r at p1 hls hlen htot hle ⊢
  have hrl:=p1.1
  have hl4:lenQ jobs r 0 0<=400:=(len_le p1 400).2 ⟨by omega,fun j hj2=>by have:=(p1.2 j hj2).2.2;unfold tS;omega⟩
  simp only [bne_self_eq_false,Bool.false_eq_true,if_false]
  refine ev_bind _ (laws_vTasks.same r (by omega)) ?_
  simp only [if_true]
  have fin:Ev (fun k=>(impl_BestListPlan.f k jobs (m:Int) []).bind fun bt709=>if bt709.2=true then ((impl_PlanLength.f k jobs (m:Int) [] bt709.1).bind fun bt713=>(some (bt713.1 == V))) else (some (decide ((jobs.length:Int)>6)))) true:=by
   by_cases h6:jobs.length<=6
   ·refine ev_bind _ (b3 h6) ?_
    simp only [if_true]
    refine ev_bind _ (planLength_ls hr c1 hcl) ?_
    simp only [hle4,beq_self_eq_true]
    exact Ev.now _
   ·refine ev_bind _ (best_none hr h6) ?_
    simp only [Bool.false_eq_true,if_false,decide_eq_true (show (jobs.length:Int)>6 by omega)]
    exact Ev.now _
  have loop:∀ (c i:Nat) (s:Int),i + c=jobs.length->0<=s->s<=400 * (i:Int)->s + endT jobs r c i=endT jobs r jobs.length 0->Ev (fun k=>laws_FnLongestFirst.l0 k jobs (m:Int) r V sum [] s (i:Int)) true:=by
   intro c
   induction c with
   | zero=>
    intro i s hi _ _ he
    rw [endT] at he
    refine ev_go _ (fun k=>?_) fin
    simp only [laws_FnLongestFirst.l0];rw [if_neg (by omega),if_neg (by omega)]
   | succ c ih=>
    intro i s hi h0 h1 he
    have a1:=p1.2 i (by omega)
    have a2:=tmI_in hj (i:=(i:Int)) (by omega) (by omega)
    have w1:wrap64 (s + (rd_T40 r (i:Int)).f2)=s + tS r i:=by unfold tS;exact wr (by omega) (by omega)
    have ht:0<=tS r i/\tS r i + tmI jobs (i:Int)<=400:=by unfold tS;omega
    have w2:wrap64 (s + tS r i + (rd_T31 jobs (i:Int)).f0)=s + (tS r i + tmI jobs (i:Int)):=by unfold tmI at a2 ht ⊢;rw [wr (by omega) (by omega)];omega
    rw [endT,<-Int.add_assoc] at he
    refine ev_go _ (fun k=>?_) (ih (i + 1) (s + (tS r i + tmI jobs (i:Int))) (by omega) (by omega) (by omega) he)
    simp only [laws_FnLongestFirst.l0]
    rw [if_pos (by omega),if_pos (by omega),if_pos (by omega),w1,w2,wr1 (by omega)]
  refine ev_go (fun k=>laws_FnLongestFirst.j0 (k + 1) jobs (m:Int) r true V sum false) (fun _=>rfl) ?_
  simp only [laws_FnLongestFirst.j0,Bool.false_eq_true,if_false,if_true,Option.bind_some]
  refine ev_bind _ (planLength_ls hr p1 hls) (ev_bind _ eb ?_)
  have w1:wrap64 (3 * (m:Int))=3 * (m:Int):=wr (by omega) (by omega)
  have w3:wrap64 (wrap64 (4 * (m:Int)) - 1)=4 * (m:Int) - 1:=by rw [wr (x:=4 * (m:Int)) (by omega) (by omega),wr (by omega) (by omega)]
  have w2:wrap64 (3 * (m:Int) * lenQ jobs r 0 0)=3 * (m:Int) * lenQ jobs r 0 0/\wrap64 ((4 * (m:Int) - 1) * V)=(4 * (m:Int) - 1) * V:=by
   have hc:m=1\/m=2\/m=3\/m=4:=by omega
   clear v1 v2 v4 eb b3 fin loop hlen
   generalize lenQ jobs r 0 0=X at *
   rcases hc with rfl|rfl|rfl|rfl <;> exact ⟨wr (by omega) (by omega),wr (by omega) (by omega)⟩
  simp only [if_neg (show ¬ lenQ jobs r 0 0<V by omega),if_neg (show ¬ V<lenF jobs (m:Int) [] by omega),w1,w3,w2.1,w2.2,decide_eq_false (show ¬ 3 * (m:Int) * lenQ jobs r 0 0>(4 * (m:Int) - 1) * V by omega)]
  refine ev_go _ (fun k=>by simp only [laws_FnLongestFirst.j1];rw [if_neg (by decide)];rfl) (loop jobs.length 0 0 (by omega) (by omega) (by omega) (by omega))
 ·obtain ⟨q1,q2⟩:=LF_no (show jobs.length<=1048576 by omega) hr
  have ei:=impl_isParallel.ev jobs m [] (by omega) (by simp)
  have es:=spec_l7Good.ev jobs m [] (by omega) (by simp)
  have v1:Ev (fun k=>impl_LeastLoad.f k jobs m) (0,false):=by
   unfold impl_LeastLoad.f
   exact ev_guard' ei (fun h=>absurd h hr) (fun _=>Ev.now _)
  have v2:Ev (fun k=>spec_LeastLoad.f k jobs m) (0,false):=by
   unfold spec_LeastLoad.f
   exact ev_guard' es (fun h=>absurd h hr) (fun _=>Ev.now _)
  have u1:Ev (fun k=>impl_TotalEnd.f k jobs m) (0,false):=by
   unfold impl_TotalEnd.f
   exact ev_guard' ei (fun h=>absurd h hr) (fun _=>Ev.now _)
  have u2:Ev (fun k=>spec_TotalEnd.f k jobs m) (0,false):=by
   unfold spec_TotalEnd.f
   simp only [Option.bind_some]
   exact ev_guard' es (fun h=>absurd h hr) (fun _=>Ev.now _)
  refine ev_bind _ q2 (ev_bind _ q1 (ev_bind _ v1 (ev_bind _ v2 (ev_bind _ u1 (ev_bind _ u2 ?_)))))
  simp only [bne_self_eq_false,Bool.false_eq_true,if_false]
  refine ev_bind _ (laws_vTasks.same [] (by simp)) ?_
  simp only [if_true]
  exact ev_stop fun k=>by simp only [laws_FnLongestFirst.j0];rw [if_neg (by decide),if_neg (by decide)]
