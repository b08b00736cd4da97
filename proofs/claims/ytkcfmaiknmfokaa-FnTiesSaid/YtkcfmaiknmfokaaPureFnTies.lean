/- Proved here: the statement over numbers and lists alone of the law FnTies, for all its arguments within the bounds that it names. Conditions: those that each theorem names. -/
import Derived.Test.YtkcfmaiknmfokaaQFnTiesxm
set_option linter.unusedVariables false
set_option linter.unusedSimpArgs false
namespace Go.Proofs.Ytkcfmaiknmfokaa.Pure
open Go.RowKit Go.Proofs.Ytkcfmaiknmfokaa.XFnTies Go.Proofs.YtkcfmaiknmfokaaW.PrintWords Go.Proofs.YtkcfmaiknmfokaaW.PrintLast

theorem laws_vInts.same (l:List Int) (hl:l.length≤1000000):Ev (fun k=>laws_vInts.f k l l) true:=by
 unfold laws_vInts.f
 simp only [if_true]
 refine rev_ind (P:=fun i=>Ev (fun k=>laws_vInts.l0 k l l (i:Int)) true) l.length ?_ ?_ 0 (Nat.zero_le _)
 ·refine ev_stop fun k=>?_
  simp only [laws_vInts.l0];rw [if_neg (by omega)]
 ·intro i hi ih
  refine ev_go _ (fun k=>?_) ih
  simp only [laws_vInts.l0];rw [if_pos (by omega),if_pos (by omega),if_pos (by omega),if_pos trivial,wr1 (by omega)]
theorem laws_vTable.same (G:List (List Int)) (hl:G.length≤1000000) (hr:∀ g ∈ G,g.length≤1000000):Ev (fun k=>laws_vTable.f k G G) true:=by
 unfold laws_vTable.f
 simp only [if_true]
 refine rev_ind (P:=fun i=>Ev (fun k=>laws_vTable.l0 k G G (i:Int)) true) G.length ?_ ?_ 0 (Nat.zero_le _)
 ·refine ev_stop fun k=>?_
  simp only [laws_vTable.l0];rw [if_neg (by omega)]
 ·intro i hi ih
  refine ev_go (fun k=>(laws_vInts.f k G[i] G[i]).bind fun t=>if t=true then laws_vTable.l0 k G G ((i + 1:Nat):Int) else some false) (fun k=>?_) (ev_bind _ (laws_vInts.same _ (hr _ (List.getElem_mem hi))) (by simp only [if_true];exact ih))
  simp only [laws_vTable.l0];rw [if_pos (by omega),if_pos (by omega),if_pos (by omega),rdL_nat hi,wr1 (by omega)]
theorem ruled3_j0 {s:List Int} (hs:ByteL s) (a p q:Int) (hp:0≤p) (hb:p≤1000000):∃ r p' q',Ev (fun k=>spec_l1Cur_ruled3.j0 k a s p q) (r,a,p',q')∧r.length≤100:=by
 by_cases h:a=1
 ·obtain ⟨r,p1,q1,e,h1,_,_⟩:=spec_l1Cur_jobs.tot hs p q hp (by omega)
  refine ⟨r,p1,q1,ev_go (fun k=>(spec_l1Cur_jobs.f k s p q).bind fun b=>some (b.1,a,b.2.1,b.2.2)) (fun k=>?_) (ev_bind _ e (Ev.now _)),h1⟩
  simp only [spec_l1Cur_ruled3.j0];rw [if_pos h]
 ·obtain ⟨r,p1,q1,e,h1,_,_⟩:=spec_l1Cur_plain3.tot hs p q hp (by omega)
  refine ⟨r,p1,q1,ev_go (fun k=>(spec_l1Cur_plain3.f k s p q).bind fun b=>some (b.1,a,b.2.1,b.2.2)) (fun k=>?_) (ev_bind _ e (Ev.now _)),h1⟩
  simp only [spec_l1Cur_ruled3.j0];rw [if_neg h]
theorem spec_DrawTieGroups.tot {s:List Int} (hs:ByteL s):∃ (jobs:List J) (a:Int),Ev (fun k=>spec_DrawTieGroups.f k s) (jobs,a)∧jobs.length≤100:=by
 obtain ⟨v,p1,q1,e1,_,_,h1,h2⟩:=pk hs 0 0 4 (by omega) (by omega)
 obtain ⟨b,p2,q2,e2,h3,h4⟩:=on hs p1 q1 24 (by omega) (by omega)
 by_cases hb:b=true
 ·obtain ⟨x,p3,q3,e3,_,h5,h6⟩:=am hs p2 q2 [0,5,8, -1] (by simp) (by omega) (by omega)
  obtain ⟨r,p4,q4,e4,h7⟩:=ruled3_j0 hs x p3 q3 (by omega) (by omega)
  refine ⟨r,x,?_,h7⟩
  unfold spec_DrawTieGroups.f spec_DrawRuledOrder.f spec_l1Cur_ruled3.f
  simp only [e1,e2,Option.bind_some,if_pos hb,e3]
  exact ev_bind _ (ev_bind _ e4 (Ev.now _)) (Ev.now _)
 ·obtain ⟨r,p4,q4,e4,h7⟩:=ruled3_j0 hs (wrap64 (1 + v)) p2 q2 (by omega) (by omega)
  refine ⟨r,wrap64 (1 + v),?_,h7⟩
  unfold spec_DrawTieGroups.f spec_DrawRuledOrder.f spec_l1Cur_ruled3.f
  simp only [e1,e2,Option.bind_some,if_neg hb]
  exact ev_bind _ (ev_bind _ e4 (Ev.now _)) (Ev.now _)
theorem impl_RuleDifference.ev {jobs:List J} {a:Int} (hr:RuledOk jobs a) {x y:Int} (hx:0≤x∧x<(jobs.length:Int)) (hy:0≤y∧y<(jobs.length:Int)):Ev (fun k=>impl_RuleDifference.f k jobs a x y) (gapF a (rd_T44 jobs x) (rd_T44 jobs y),true):=by
 have h8:=hr.1.1
 unfold impl_RuleDifference.f
 refine ev_guard' (impl_isRuled.ev jobs a (by omega)) (fun _=>?_) (fun hn=>absurd hr hn)
 have hg:=diff_gap hr.1 a hx hy
 unfold diffO at hg
 simp only [impl_isNumber.eq x (jobs.length:Int) (by omega) (by omega),impl_isNumber.eq y (jobs.length:Int) (by omega) (by omega),Option.bind_some,decide_eq_true hx,decide_eq_true hy,if_true,if_pos hx.1,if_pos hx.2,if_pos hy.1,if_pos hy.2,hg]
 exact Ev.now _
theorem take_flat (G:List (List Int)) (i:Nat) (hi:i<G.length):(G.take (i + 1)).flatten=(G.take i).flatten++G[i]:=by
 rw [List.take_succ_eq_append_getElem hi,List.flatten_append];simp
theorem FnTies (l0:List Int) (h0:l0.length≤maxLen∧∀ x ∈ l0,(Lit.int .u8 x).wf=true):∃ k,laws_FnTies.f k l0=some true:=by
 refine Ev.rounds (g:=fun k=>laws_FnTies.f k l0) ?_
 unfold laws_FnTies.f laws_vBig.f
 simp only [Option.bind_some]
 by_cases hb:decide ((l0.length:Int)>65536)=true
 ·simp only [if_pos hb];exact Ev.now _
 simp only [if_neg hb]
 obtain ⟨jobs,a,hd,hjl⟩:=spec_DrawTieGroups.tot (s:=l0) h0.2
 refine ev_bind _ hd ?_
 by_cases hr:RuledOk jobs a
 ·have hj:=hr.1
  have h8:=hj.1
  have ei:Ev (fun k=>impl_TieGroups.f k jobs a) (groupsL (tieE jobs a) (sortN (gapLt jobs a) jobs.length),true):=by
   unfold impl_TieGroups.f
   exact ev_guard' (impl_isRuled.ev jobs a (by omega)) (fun _=>ev_bind _ (impl_tieGroups.ev hj a) (Ev.now _)) (fun hn=>absurd hr hn)
  have es:Ev (fun k=>spec_TieGroups.f k jobs a) (groupsL (tieE jobs a) (sortN (gapLt jobs a) jobs.length),true):=by
   unfold spec_TieGroups.f
   exact ev_guard' (spec_l3Ruled.ev jobs a (by omega)) (fun _=>ev_bind _ (spec_l3Groups.ev hj a) (Ev.now _)) (fun hn=>absurd hr hn)
  have eo:Ev (fun k=>impl_RuledOrder.f k jobs a) (sortN (gapLt jobs a) jobs.length,true):=by
   unfold impl_RuledOrder.f
   exact ev_guard' (impl_isRuled.ev jobs a (by omega)) (fun _=>ev_bind _ (impl_ruledOrder.gap hj a) (Ev.now _)) (fun hn=>absurd hr hn)
  have hp:=sortN_isPerm (gapLt jobs a) jobs.length
  have hs:=groups_sizes hj a
  have hmb:=many_best hr
  have hok:=groupsL_ok (tieE jobs a) (fun x=>0≤x∧x<(jobs.length:Int)) (fun x _=>by unfold tieE;refine decide_eq_true ?_;unfold gapF;split;omega;split;omega;split <;> omega) (sortN (gapLt jobs a) jobs.length) hp.2.2
  have hfl:=groupsL_flat (tieE jobs a) (sortN (gapLt jobs a) jobs.length)
  refine ev_bind _ ei (ev_bind _ es (ev_bind _ (impl_CountRuled.ok hr) (ev_bind _ (spec_CountRuled.ok hr) ?_)))
  simp only [bne_self_eq_false,Bool.false_eq_true,if_false]
  generalize groupsL (tieE jobs a) (sortN (gapLt jobs a) jobs.length)=G at *
  generalize sortN (gapLt jobs a) jobs.length=o at *
  have hol:=hp.1
  refine ev_bind _ (laws_vTable.same G (by omega) (fun g hg=>by have:=hs.2.1 g hg;omega)) ?_
  simp only [if_true]
  refine ev_go (fun k=>(impl_RuledOrder.f k jobs a).bind fun b=>laws_FnTies.l0 k jobs a G (manyF jobs a:Int) b.1 [] 0) (fun k=>by simp only [laws_FnTies.j0];rw [if_neg (by decide),if_pos trivial]) (ev_bind _ eo ?_)
  refine rev_ind (P:=fun i=>Ev (fun k=>laws_FnTies.l0 k jobs a G (manyF jobs a:Int) o (G.take i).flatten (i:Int)) true) G.length ?_ ?_ 0 (Nat.zero_le _)
  ·rw [List.take_of_length_le (Nat.le_refl _),hfl]
   refine ev_go (fun k=>(laws_vInts.f k o o).bind fun t=>if t=true then laws_FnTies.j3 k jobs a (manyF jobs a:Int) o o (decide ((jobs.length:Int)>6)) else laws_FnTies.j3 k jobs a (manyF jobs a:Int) o o true) (fun k=>by simp only [laws_FnTies.l0];rw [if_neg (by omega)]) (ev_bind _ (laws_vInts.same o (by omega)) ?_)
   simp only [if_true]
   by_cases c:decide ((jobs.length:Int)>6)=true
   ·rw [c]
    refine ev_go (fun k=>(laws_vInts.f k o o).bind fun t=>some t) (fun k=>by simp only [laws_FnTies.j3];rw [if_pos trivial]) (ev_bind _ (laws_vInts.same o (by omega)) (Ev.now _))
   ·have c':decide ((jobs.length:Int)>6)=false:=by simpa using c
    rw [c']
    refine ev_go (fun k=>(impl_CountBest.f k jobs a).bind fun b=>if b.2=true then (if (manyF jobs a:Int)≤b.1 then (if a=2 then some ((manyF jobs a:Int) == b.1) else (if a=3 then some ((manyF jobs a:Int) == b.1) else some true)) else some false) else some false) (fun k=>by simp only [laws_FnTies.j3];rw [if_neg (by decide)]) (ev_bind _ (impl_CountBest.ev hj (by have:=hr.2.1;omega)) ?_)
    simp only [if_true,if_pos hmb.1]
    by_cases a2:a=2
    ·simp only [if_pos a2,hmb.2 (.inl a2),beq_self_eq_true];exact Ev.now _
    ·by_cases a3:a=3
     ·simp only [if_neg a2,if_pos a3,hmb.2 (.inr a3),beq_self_eq_true];exact Ev.now _
     ·simp only [if_neg a2,if_neg a3];exact Ev.now _
  ·intro i hi ih
   have hlen:(G.take i).flatten.length≤8:=by
    have h1:G.flatten=(G.take i).flatten++(G.drop i).flatten:=by rw [←List.flatten_append,List.take_append_drop]
    have h2:=congrArg List.length h1
    rw [List.length_append,hfl,hol] at h2;omega
   have hrow:=hs.2.1 _ (List.getElem_mem hi)
   obtain ⟨c,r,hcr,hct⟩:=hok _ (List.getElem_mem hi)
   have inn:∀ y ∈ G[i],0≤y∧y<(jobs.length:Int):=fun y hy=>hp.2.2 y (by rw [←hfl];exact List.mem_flatten.2 ⟨_,List.getElem_mem hi,hy⟩)
   have hpos:0<G[i].length:=by rw [hcr];simp
   have h00:rd G[i] 0=c:=by rw [rd_zero hpos];simp [hcr]
   have inner:=rev_ind (P:=fun j=>Ev (fun k=>laws_FnTies.l1 k jobs a G (manyF jobs a:Int) o (G.take (i + 1)).flatten (i:Int) (j:Int)) true) G[i].length ?_ ?_ 0 (Nat.zero_le _)
   ·refine ev_go _ (fun k=>?_) inner
    simp only [laws_FnTies.l0];rw [if_pos (by omega),if_pos (by omega),rdL_nat hi,if_pos (by omega),take_flat G i hi];rfl
   ·refine ev_go _ (fun k=>?_) ih
    simp only [laws_FnTies.l1];rw [if_pos (by omega),if_pos (by omega),rdL_nat hi,if_neg (by omega),wr1 (by omega)]
   ·intro j hj ihj
    have hy:=inn _ (List.getElem_mem hj)
    have hc:=inn c (by rw [hcr];exact List.mem_cons_self)
    have h0:gapF a (rd_T44 jobs c) (rd_T44 jobs (G[i])[j])=0:=of_decide_eq_true (hct _ (List.getElem_mem hj))
    refine ev_go (fun k=>(impl_RuleDifference.f k jobs a c (G[i])[j]).bind fun b=>if b.1=0 then laws_FnTies.l1 k jobs a G (manyF jobs a:Int) o (G.take (i + 1)).flatten (i:Int) ((j + 1:Nat):Int) else some false) (fun k=>?_) (ev_bind _ (impl_RuleDifference.ev hr hc hy) (by simp only [if_pos h0];exact ihj))
    simp only [laws_FnTies.l1];rw [if_pos (by omega),if_pos (by omega),rdL_nat hi,if_pos (by omega),if_pos (by omega),if_pos (by omega),h00,rd_nat hj,wr1 (by omega)]
 ·have ei:Ev (fun k=>impl_TieGroups.f k jobs a) ([],false):=by
   unfold impl_TieGroups.f
   exact ev_guard' (impl_isRuled.ev jobs a (by omega)) (fun h=>absurd h hr) (fun _=>Ev.now _)
  have es:Ev (fun k=>spec_TieGroups.f k jobs a) ([],false):=by
   unfold spec_TieGroups.f
   exact ev_guard' (spec_l3Ruled.ev jobs a (by omega)) (fun h=>absurd h hr) (fun _=>Ev.now _)
  refine ev_bind _ ei (ev_bind _ es (ev_bind _ (impl_CountRuled.no (show jobs.length≤1000 by omega) hr) (ev_bind _ (spec_CountRuled.no (show jobs.length≤1000 by omega) hr) ?_)))
  simp only [bne_self_eq_false,Bool.false_eq_true,if_false]
  refine ev_bind _ (laws_vTable.same [] (by simp) (fun g hg=>by cases hg)) ?_
  simp only [if_true]
  exact ev_stop fun k=>by simp only [laws_FnTies.j0];rw [if_neg (by decide),if_neg (by decide)]

end Go.Proofs.Ytkcfmaiknmfokaa.Pure
-- minified
