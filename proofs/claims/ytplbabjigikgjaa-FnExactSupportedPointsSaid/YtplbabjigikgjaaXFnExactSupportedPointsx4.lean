-- Written by a program of this session (the kit's print, widened). Proved here: what each function answers, for the arguments that its contract names.
import Derived.Test.YtplbabjigikgjaaXFnExactSupportedPointsx0
import Derived.Test.YtplbabjigikgjaaXFnExactSupportedPointsx1
import Derived.Test.YtplbabjigikgjaaXFnExactSupportedPointsx3
namespace Go.Proofs.Ytplbabjigikgjaa.XFnExactSupportedPoints
open Go.RowKit Go.Proofs.YtplbabjigikgjaaW.PrintWords Go.Proofs.YtplbabjigikgjaaW.PrintLast Go.Proofs.YtplbabjigikgjaaW.PrintMore
attribute [local go_sem] max2_int min2_int max_two min_two max_three min_three max_four min_four   -- for this text's walks alone
attribute [local go_sem] idxA_45_0 idxA_45_1 fldS_94_0 fldS_94_1 fldS_94_2 fldS_125_0 fldS_125_1 fldS_125_2
set_option linter.unusedVariables false
set_option linter.unusedSimpArgs false

attribute [local go_sem] eqA45
/-! ### spec_l11Put: function 152 -/
mutual
def spec_l11Put.l0:Nat→List (S45)→List (S45)→Int→Int→Int→Option ((List (S45)))
 | 0,_,_,_,_,_=>none
 | k + 1,x0,x5,x6,x142000,x142001=>if x6<(x0.length:Int) then (if 0≤x6 then (if (((rd_T45 x0 x6).f0) == x142000 && (((rd_T45 x0 x6).f1) == x142001))=true then (some x0) else ((spec_l11Dominates.f ((rd_T45 x0 x6).f0) ((rd_T45 x0 x6).f1) x142000 x142001).bind fun t147=>(if t147=true then (some x0) else (spec_l11Put.l0 k x0 x5 (wrap64 (x6 + 1)) x142000 x142001)))) else (none)) else (spec_l11Put.l1 k x0 x5 false 0 x142000 x142001)
def spec_l11Put.l1:Nat→List (S45)→List (S45)→Bool→Int→Int→Int→Option ((List (S45)))
 | 0,_,_,_,_,_,_=>none
 | k + 1,x0,x5,x7,x8,x142000,x142001=>if x8<(x0.length:Int) then (if 0≤x8 then ((spec_l11Dominates.f x142000 x142001 ((rd_T45 x0 x8).f0) ((rd_T45 x0 x8).f1)).bind fun t152=>(if t152=true then (spec_l11Put.l1 k x0 x5 x7 (wrap64 (x8 + 1)) x142000 x142001) else (if x7=true then (if x5.length<8796093022208 then (spec_l11Put.l1 k x0 (x5++[(⟨(rd_T45 x0 x8).f0,(rd_T45 x0 x8).f1⟩:S45)]) x7 (wrap64 (x8 + 1)) x142000 x142001) else (none)) else (if ((rd_T45 x0 x8).f0)>x142000 then (if x5.length<8796093022208 then ((some (x5++[(⟨x142000,x142001⟩:S45)]:List (S45))).bind fun y158=>(if y158.length<8796093022208 then (spec_l11Put.l1 k x0 (y158++[(⟨(rd_T45 x0 x8).f0,(rd_T45 x0 x8).f1⟩:S45)]) true (wrap64 (x8 + 1)) x142000 x142001) else (none))) else (none)) else (if x5.length<8796093022208 then (spec_l11Put.l1 k x0 (x5++[(⟨(rd_T45 x0 x8).f0,(rd_T45 x0 x8).f1⟩:S45)]) x7 (wrap64 (x8 + 1)) x142000 x142001) else (none)))))) else (none)) else (if x7=true then (some x5) else (if x5.length<8796093022208 then (some (x5++[(⟨x142000,x142001⟩:S45)])) else (none)))
end
def spec_l11Put.f (k:Nat) (l0:List (S45)) (a1_0:Int) (a1_1:Int):Option ((List (S45))):=spec_l11Put.l0 k l0 (([]:List (S45))) 0 a1_0 a1_1
theorem spec_l11Put.mono_l:∀ k,(∀ y0 y1 y2 y3 y4,LeO (spec_l11Put.l0 k y0 y1 y2 y3 y4) (spec_l11Put.l0 (k + 1) y0 y1 y2 y3 y4))∧(∀ y0 y1 y2 y3 y4 y5,LeO (spec_l11Put.l1 k y0 y1 y2 y3 y4 y5) (spec_l11Put.l1 (k + 1) y0 y1 y2 y3 y4 y5))
 | 0=>⟨fun _ _ _ _ _ r h=>by simp [spec_l11Put.l0] at h,fun _ _ _ _ _ _ r h=>by simp [spec_l11Put.l1] at h⟩
 | k + 1=>by
  obtain ⟨ih0,ih1⟩:=spec_l11Put.mono_l k
  refine ⟨?_,?_⟩
  ·intro y0 y1 y2 y3 y4
   unfold spec_l11Put.l0
   repeat' first
   | (with_reducible exact ih0 _ _ _ _ _)
   | (with_reducible exact ih1 _ _ _ _ _ _)
   | (with_reducible exact LeO.refl _)
   | (with_reducible exact LeO.none _)
   | (with_reducible refine LeO.ite ?_ ?_)
   | (with_reducible refine LeO.bind ?_ (fun _=>?_))
   | exact ih0 _ _ _ _ _
   | exact ih1 _ _ _ _ _ _
   | exact LeO.none _
   | refine LeO.ite ?_ ?_
   | refine LeO.bind ?_ (fun _=>?_)
  ·intro y0 y1 y2 y3 y4 y5
   unfold spec_l11Put.l1
   repeat' first
   | (with_reducible exact ih0 _ _ _ _ _)
   | (with_reducible exact ih1 _ _ _ _ _ _)
   | (with_reducible exact LeO.refl _)
   | (with_reducible exact LeO.none _)
   | (with_reducible refine LeO.ite ?_ ?_)
   | (with_reducible refine LeO.bind ?_ (fun _=>?_))
   | exact ih0 _ _ _ _ _
   | exact ih1 _ _ _ _ _ _
   | exact LeO.none _
   | refine LeO.ite ?_ ?_
   | refine LeO.bind ?_ (fun _=>?_)
theorem spec_l11Put.mono:∀ a0 a1 a2 k,LeO (spec_l11Put.f k a0 a1 a2) (spec_l11Put.f (k + 1) a0 a1 a2):=by
 intro a0 a1 a2 k
 obtain ⟨ih0,ih1⟩:=spec_l11Put.mono_l k
 unfold spec_l11Put.f
 repeat' first
   | (with_reducible exact ih0 _ _ _ _ _)
   | (with_reducible exact ih1 _ _ _ _ _ _)
   | (with_reducible exact LeO.refl _)
   | (with_reducible exact LeO.none _)
   | (with_reducible refine LeO.ite ?_ ?_)
   | (with_reducible refine LeO.bind ?_ (fun _=>?_))
   | exact ih0 _ _ _ _ _
   | exact ih1 _ _ _ _ _ _
   | exact LeO.none _
   | refine LeO.ite ?_ ?_
   | refine LeO.bind ?_ (fun _=>?_)
def spec_l11Put.T5:Bool × List (List Nat × List Nat):=(true,[([],[]),([],[]),([0,1],[0,1]),([2],[2]),([],[]),([3,4],[3,4]),([5],[5]),([6],[6]),([6],[6]),([7,8,6],[6,7,8]),([9,6],[6,9]),([6],[6]),([10,11,6,6],[6,10,11]),([6,12],[6,12])])
def spec_l11Put.B5:List Nat:=[0,0,3,7,0,31,63,127,127,511,1023,127,4095,8191]
theorem spec_l11Put.tab5:rtab .any (opsOf Try.f152 5)=spec_l11Put.T5:=by kernel_rfl
theorem spec_l11Put.bits5:waitsOk spec_l11Put.T5.2 spec_l11Put.B5=true:=by kernel_rfl
def spec_l11Put.T12:Bool × List (List Nat × List Nat):=(true,[([],[]),([0],[0]),([1],[1]),([2],[2]),([2],[2]),([3,4,2],[2,3,4]),([5,2],[2,5]),([6,2],[2,6]),([2],[2]),([8,2],[2,8]),([7,9,2],[2,7,9]),([2,10],[2,10])])
def spec_l11Put.B12:List Nat:=[0,1,3,7,7,31,63,127,7,263,1023,2047]
theorem spec_l11Put.tab12:rtab .any (opsOf Try.f152 12)=spec_l11Put.T12:=by kernel_rfl
theorem spec_l11Put.bits12:waitsOk spec_l11Put.T12.2 spec_l11Put.B12=true:=by kernel_rfl
set_option maxHeartbeats 8000000 in
set_option maxRecDepth 100000 in
theorem spec_l11Put.calls (k:Nat) (P0_:Nat→Prop) (u9000_:Value) (l0:List (S45)) (a1_0:Int) (a1_1:Int) (r:List (S45)) (w0 w:World) (hB:Below w0.heap.size w0 w) (ho0:Kd.R k45 45 w w0.heap.size P0_ u9000_ l0) (h:spec_l11Put.f k l0 a1_0 a1_1=some r) :
  Calls Try.prog 152 #[u9000_,.agg #[.int .i64 a1_0,.int .i64 a1_1]] w fun e w'=>∃ v0_:Value,e=.returned (v0_)∧Kd.R k45 45 w' w0.heap.size (fun k_=>(P0_ k_∨w.heap.size≤k_)) v0_ r∧Below w0.heap.size w0 w'∧Kept w w' (fun k_=>P0_ k_):=by
 have hu45:=Try.underlying45
 have HO0:=Aside0.mk (show Kd.R k45 45 w w0.heap.size (fun k_=>(P0_ k_∨w.heap.size≤k_)) u9000_ l0 from Kd.R_mono ho0 (fun k_ hk=>(.inl hk)))
 have HK:=Aside0.mk (Kept.refl w (fun k_=>P0_ k_))
 have HW0:=Aside0.mk hB.size
 have HB:=Aside0.mk hB
 clear hB
 have H:(spec_l11Put.l0 k l0 (([]:List (S45))) 0 a1_0 a1_1)=some r:=h
 clear h
 obtain ⟨y142,hy142⟩:∃ y_:List (S45),y_=(([]:List (S45))):=⟨_,rfl⟩
 replace H:(spec_l11Put.l0 k l0 y142 0 a1_0 a1_1)=some r:=by first|(rw [hy142];with_reducible exact H)|(have H2_:=(Option.bind_some _ _).symm.trans H;rw [hy142];with_reducible exact H2_)|(have H2_:=(Option.bind_some _ _).symm.trans H;with_reducible exact H2_)|with_reducible exact H|(rw [hy142];exact H)|exact H
 have Ny142:=Aside0.mk hy142
 clear hy142
 have H':=Aside0.mk H
 clear H
 go_enter Try.func152,Try.ntmps152
 go_wp2_with (first|((with_reducible refine gate_dst (N:=3) rfl ?_);refine box_event ?hg (N:=3) ?hd (cs:=#[.int .i64 a1_0,.int .i64 a1_1]) (t:=45) ?hr ?_;(case hd=>rfl);(case hg=>rfl);(case hr=>first|(go_simp;done)|(go_simp;rfl));intro gb141 hg w3 hbox hb;have n0_:=Aside0.mk (Kd.R_below (Kd.R_elderB (by (with_reducible repeat (first|apply Kd.R_alloc|apply Kd.R_drewN|apply Kd.R_drew));exact HO0.out) gb141 (Nat.le_of_eq hg.symm)) hb);have n1_:=Aside0.mk (Kept.below (S:=(fun k_=>P0_ k_)) (by repeat (first|(with_reducible first|exact HK.out|apply Kept.alloc|apply Kept.drewN|apply Kept.drew)|exact HK.out)) hb);have n2_:=Aside0.mk (below_step (by repeat (first|(with_reducible first|exact HB.out|apply below_alloc|apply pw_below_drewN|apply below_drew1)|exact HB.out)) hb);have n3_:=Aside0.mk (hbox);have n4_:=Aside0.mk ((by rw [hg];exact (by first|exact HK.out.1|exact (show Kept w _ (fun k_=>P0_ k_) from by repeat (first|(with_reducible first|exact HK.out|apply Kept.alloc|apply Kept.drewN|apply Kept.drew)|exact HK.out)).1):w.heap.size≤gb141));have n5_:=Aside0.mk ((by rw [hg];exact (below_size (by repeat (first|(with_reducible first|exact HB.out|apply below_alloc|apply pw_below_drewN|apply below_drew1)|exact HB.out))):w0.heap.size≤gb141));clear HO0;clear HK;clear HB;have HO0:=n0_;have HK:=n1_;have HB:=n2_;have BK141:=n3_;have GW141:=n4_;have GE141:=n5_;clear n0_ n1_ n2_ n3_ n4_ n5_;clear hb hbox hg)|((with_reducible refine gate_dst (N:=9) rfl ?_);refine Kd.R_lit k45 _ 45 ?hg (N:=9) ?hd (xs:=([]:List (S45))) (inner:=[]) (ok:=fun _=>True) (okp:=fun _=>True) ?hr ?hp (fun _ hk=>hk) trivial (Below.refl _ _) (Nat.le_refl _) (by simp) ?_;(case hd=>rfl);(case hg=>rfl);(case hr=>first|(go_simp;done)|(go_simp;rfl));(case hp=>exact (Reps.none _ _));intro v143 w4 ho5 hb hg_ hnew_;clear hg_ hnew_;(first|rw [←Ny142.out] at ho5|(simp only [Int.reduceToNat] at ho5;rw [←Ny142.out] at ho5));have n0_:=Aside0.mk (Kd.R_elder' (by (with_reducible repeat (first|apply Kd.R_alloc|apply Kd.R_drewN|apply Kd.R_drew));exact HO0.out) (Kd.R_base ho5) hb);have n1_:=Aside0.mk (Kd.R_lower (Kd.R_newB (Kd.R_new' (Kd.R_newM (M:=fun k_=>(P0_ k_∨w.heap.size≤k_)) ho5 (by first|exact HK.out.1|exact (show Kept w _ (fun k_=>P0_ k_) from by repeat (first|(with_reducible first|exact HK.out|apply Kept.alloc|apply Kept.drewN|apply Kept.drew|refine Kept.setCell ?_ (.inr GW141.out) _)|exact HK.out)).1) (fun k_ h_=>.inr h_)) (Kd.R_lt (by (with_reducible repeat (first|apply Kd.R_alloc|apply Kd.R_drewN|apply Kd.R_drew));exact HO0.out))) (g:=gb141) (o:=.cells #[.int .i64 a1_0,.int .i64 a1_1] 45 (0,0)) (by (with_reducible repeat (first|refine blk_drewN ?_ _|refine blk_drew ?_|refine blk_alloc ?_ _));exact BK141.out)) (below_size (by repeat (first|(with_reducible first|exact HB.out|apply below_alloc|apply pw_below_drewN|apply below_drew1|refine below_set ?_ GE141.out)|exact HB.out))));have n2_:=Aside0.mk (blk_below (g:=gb141) (o:=.cells #[.int .i64 a1_0,.int .i64 a1_1] 45 (0,0)) (by (with_reducible repeat (first|refine blk_drewN ?_ _|refine blk_drew ?_|refine blk_alloc ?_ _));exact BK141.out) hb);have n3_:=Aside0.mk (Kept.below (S:=(fun k_=>P0_ k_)) (by repeat (first|(with_reducible first|exact HK.out|apply Kept.alloc|apply Kept.drewN|apply Kept.drew|refine Kept.setCell ?_ (.inr GW141.out) _)|exact HK.out)) hb);have n4_:=Aside0.mk (below_step (by repeat (first|(with_reducible first|exact HB.out|apply below_alloc|apply pw_below_drewN|apply below_drew1|refine below_set ?_ GE141.out)|exact HB.out)) hb);clear HO0;clear BK141;clear HK;clear HB;have HO0:=n0_;have HO144:=n1_;have BK141:=n2_;have HK:=n3_;have HB:=n4_;clear n0_ n1_ n2_ n3_ n4_;clear hb ho5))
 go_loopg [6] k (fun kq v6 w'=>∃ (x6_1:Int),v6=.int .i64 x6_1∧Aside0 (spec_l11Put.l0 kq l0 y142 x6_1 a1_0 a1_1=some r)∧Aside0 (kq≤k)∧Aside0 (Kd.R k45 45 w' w0.heap.size (fun k_=>(P0_ k_∨w.heap.size≤k_)∧some k_≠(v143:Value).ownBlock∧k_≠gb141) u9000_ l0)∧Aside0 (Kd.R k45 45 w' w0.heap.size (fun k_=>(P0_ k_∨w.heap.size≤k_)∧some k_≠(u9000_:Value).ownBlock∧k_≠gb141) v143 y142)∧Aside0 (w'.heap[gb141]?=some (.cells #[.int .i64 a1_0,.int .i64 a1_1] 45 (0,0)))∧Aside0 (Kept w w' (fun k_=>P0_ k_))∧Aside0 (Below w0.heap.size w0 w'))
 case atStart=>exact ⟨(0),(by first|rfl|(simp;done)|(simp [*];done)),H',⟨Nat.le_refl _⟩,⟨by (with_reducible repeat (first|apply Kd.R_alloc|apply Kd.R_drewN|apply Kd.R_drew));exact Kd.R_mono HO0.out (fun _ hk=>⟨hk.1.1,⟨hk.2,hk.1.2⟩⟩)⟩,⟨by (with_reducible repeat (first|apply Kd.R_alloc|apply Kd.R_drewN|apply Kd.R_drew));exact Kd.R_mono HO144.out (fun _ hk=>⟨hk.1.1.1,⟨hk.1.2,hk.2⟩⟩)⟩,⟨by (with_reducible repeat (first|refine blk_drewN ?_ _|refine blk_drew ?_|refine blk_alloc ?_ _));exact BK141.out⟩,⟨by repeat (first|(with_reducible first|exact HK.out|apply Kept.alloc|apply Kept.drewN|apply Kept.drew|refine Kept.setCell ?_ (.inr GW141.out) _)|exact HK.out)⟩,⟨by repeat (first|(with_reducible first|exact HB.out|apply below_alloc|apply pw_below_drewN|apply below_drew1|refine below_set ?_ GE141.out)|exact HB.out)⟩⟩
 case round=>
  clear H'
  try clear c1
  try clear p2
  obtain ⟨x6_1,rfl,HA,HK1,HO_0,HO_5,BK141,HK,HB⟩:=hrel
  cases gk with
  | zero=>exact absurd HA.out (by simp [spec_l11Put.l0])
  | succ k1=>
   have H:=HA.out
   clear HA
   simp only [spec_l11Put.l0] at H
   by_cases c6:x6_1<(l0.length:Int)
   ·rw [if_pos c6] at H
    have c6b0:decide (x6_1<(l0.length:Int))=true:=decide_eq_true c6
    clear c6
    by_cases c7:0≤x6_1
    ·rw [if_pos c7] at H
     have c7b0:decide (0≤x6_1)=true:=decide_eq_true c7
     clear c7
     by_cases c8:(((rd_T45 l0 x6_1).f0) == a1_0 && (((rd_T45 l0 x6_1).f1) == a1_1))=true
     ·rw [if_pos c8] at H
      have c8b0:(((rd_T45 l0 x6_1).f0) == a1_0 && (((rd_T45 l0 x6_1).f1) == a1_1))=true:=c8
      (try (have c8b1:decide (((rd_T45 l0 x6_1).f0)=a1_0 && (((rd_T45 l0 x6_1).f1) == a1_1))=true:=by simpa using c8))
      (try (have c8b2:(((rd_T45 l0 x6_1).f0) == a1_0 && (((rd_T45 l0 x6_1).f1) == a1_1))=true:=by simpa using c8))
      clear c8
      obtain rfl:=Option.some.inj H
      obtain ⟨Ao9,co9,eo9⟩:=Kd.R_slice HO_0.out
      subst eo9
      try go_wp2
      have n0_:=Aside0.mk (Kd.R_drew HO_0.out)
      have n1_:=Aside0.mk (Kd.R_drew HO_5.out)
      have n2_:=Aside0.mk (blk_drew BK141.out)
      have n3_:=Aside0.mk (Kept.drew HK.out)
      have n4_:=Aside0.mk (below_drew1 HB.out)
      clear HO_0
      clear HO_5
      clear BK141
      clear HK
      clear HB
      have HO_0:=n0_
      have HO_5:=n1_
      have BK141:=n2_
      have HK:=n3_
      have HB:=n4_
      clear n0_ n1_ n2_ n3_ n4_
      have p145:0≤(x6_1:Int):=of_decide_eq_true (by first|(with_reducible assumption)|assumption)
      have q145:x6_1<(l0.length:Int):=of_decide_eq_true (by first|(with_reducible assumption)|assumption)
      obtain ⟨ad145,e145,hx145_0,hx145_1⟩:=at_T45 (Kd.R_reads' HO_0.out).2.2 x6_1 p145 q145
      cases e145
      replace p145:=eq_true p145
      replace q145:=eq_true q145
      refine start_ (n:=14) (S:=fun w'=>w'.cell? ⟨gb141,0,none⟩=some (.int .i64 a1_0)∧w'.cell? ⟨gb141,1,none⟩=some (.int .i64 a1_1)∧w'.cell? (ad145.add ((x6_1).toNat * 2))=some (.int .i64 ((rd_T45 l0 x6_1).f0))∧w'.cell? ⟨(ad145.add ((x6_1).toNat * 2)).block,(ad145.add ((x6_1).toNat * 2)).off + 1,none⟩=some (.int .i64 ((rd_T45 l0 x6_1).f1))) (ds:=[]) #[false,false,false,false,false,false,false,false,false,false,false,false,false,false] (by kernel_rfl) rfl rfl ⟨(blk_cell BK141.out 0).trans rfl,(blk_cell BK141.out 1).trans rfl,hx145_0,hx145_1⟩ (fun hHeld=>?_);refine with_tabW spec_l11Put.tab5 spec_l11Put.bits5 (fun HT_ HW_=>?_)
      generalize wr.drew=w10 at HO_0 HO_5 BK141 HK HB hx145_0 hx145_1 hHeld ⊢
      refine pure_ (i:=0) (N:=some 16) (v:=?_) (a':=?_) #[true,false,false,false,false,false,false,false,false,false,false,false,false,false] rfl rfl (any_of HT_.out (by kernel_rfl)) (fun _ _ _ h=>h) (Or.inl ⟨by rfl,?_⟩) ?_ ?_
      rotate_left
      ·intro w'
       go_simp
       with_reducible rfl
      rotate_left
      ·simp only [Act.put,List.setIfInBounds_toArray,List.set_cons_zero,List.set_cons_succ,i64_w,i32_w]
       rfl
      refine pure_ (i:=1) (N:=some 17) (v:=?_) (a':=?_) #[true,true,false,false,false,false,false,false,false,false,false,false,false,false] rfl rfl (any_of HT_.out (by kernel_rfl)) (fun _ _ _ h=>h) (Or.inl ⟨by rfl,?_⟩) ?_ ?_
      rotate_left
      ·intro w'
       go_simp
       with_reducible rfl
      rotate_left
      ·simp only [Act.put,List.setIfInBounds_toArray,List.set_cons_zero,List.set_cons_succ,i64_w,i32_w]
       rfl
      refine pure_ (i:=2) (N:=some 18) (v:=?_) (a':=?_) #[true,true,true,false,false,false,false,false,false,false,false,false,false,false] rfl rfl (any_of HT_.out (by kernel_rfl)) (fun _ _ _ h=>h) (Or.inl ⟨by rfl,?_⟩) ?_ ?_
      rotate_left
      ·intro w'
       go_simp
       with_reducible rfl
      rotate_left
      ·simp only [Act.put,List.setIfInBounds_toArray,List.set_cons_zero,List.set_cons_succ,i64_w,i32_w]
       rfl
      refine take_ (i:=3) (N:=some 19) (v:=?_) (a':=?_) #[true,true,true,true,false,false,false,false,false,false,false,false,false,false] rfl rfl (take_ofW HT_.out HW_.out (by kernel_rfl)) (fun _ _ _ h=>h) (Or.inl ⟨by rfl,?_⟩) hHeld ?_ ?_
      rotate_left
      ·rintro w' ⟨s0,s1,s2,s3⟩
       go_simp
       with_reducible rfl
      rotate_left
      ·simp only [Act.put,List.setIfInBounds_toArray,List.set_cons_zero,List.set_cons_succ,i64_w,i32_w]
       rfl
      refine take_ (i:=4) (N:=some 20) (v:=?_) (a':=?_) #[true,true,true,true,true,false,false,false,false,false,false,false,false,false] rfl rfl (take_ofW HT_.out HW_.out (by kernel_rfl)) (fun _ _ _ h=>h) (Or.inl ⟨by rfl,?_⟩) hHeld ?_ ?_
      rotate_left
      ·rintro w' ⟨s0,s1,s2,s3⟩
       go_simp
       with_reducible rfl
      rotate_left
      ·simp only [Act.put,List.setIfInBounds_toArray,List.set_cons_zero,List.set_cons_succ,i64_w,i32_w]
       rfl
      refine pure_ (i:=5) (N:=some 21) (v:=?_) (a':=?_) #[true,true,true,true,true,true,false,false,false,false,false,false,false,false] rfl rfl (any_of HT_.out (by kernel_rfl)) (fun _ _ _ h=>h) (Or.inl ⟨by rfl,?_⟩) ?_ ?_
      rotate_left
      ·intro w'
       go_simp
       with_reducible rfl
      rotate_left
      ·simp only [Act.put,List.setIfInBounds_toArray,List.set_cons_zero,List.set_cons_succ,i64_w,i32_w]
       rfl
      refine pure_ (i:=6) (N:=some 22) (v:=?_) (a':=?_) #[true,true,true,true,true,true,true,false,false,false,false,false,false,false] rfl rfl (any_of HT_.out (by kernel_rfl)) (fun _ _ _ h=>h) (Or.inl ⟨by rfl,?_⟩) ?_ ?_
      rotate_left
      ·intro w'
       go_simp
       with_reducible rfl
      rotate_left
      ·simp only [Act.put,List.setIfInBounds_toArray,List.set_cons_zero,List.set_cons_succ,i64_w,i32_w]
       rfl
      refine pure_ (i:=7) (N:=some 23) (v:=undef) (a':=?_) #[true,true,true,true,true,true,true,true,false,false,false,false,false,false] rfl rfl (any_of HT_.out (by kernel_rfl)) (fun _ _ _ h=>h) (Or.inr ⟨by rfl,rfl⟩) ?_ ?_
      rotate_left
      ·simp only [Act.put,List.setIfInBounds_toArray,List.set_cons_zero,List.set_cons_succ,i64_w,i32_w]
       rfl
      refine pure_ (i:=8) (N:=some 24) (v:=undef) (a':=?_) #[true,true,true,true,true,true,true,true,true,false,false,false,false,false] rfl rfl (any_of HT_.out (by kernel_rfl)) (fun _ _ _ h=>h) (Or.inr ⟨by rfl,rfl⟩) ?_ ?_
      rotate_left
      ·simp only [Act.put,List.setIfInBounds_toArray,List.set_cons_zero,List.set_cons_succ,i64_w,i32_w]
       rfl
      refine pure_ (i:=9) (N:=some 25) (v:=undef) (a':=?_) #[true,true,true,true,true,true,true,true,true,true,false,false,false,false] rfl rfl (any_of HT_.out (by kernel_rfl)) (fun _ _ _ h=>h) (Or.inr ⟨by rfl,rfl⟩) ?_ ?_
      rotate_left
      ·simp only [Act.put,List.setIfInBounds_toArray,List.set_cons_zero,List.set_cons_succ,i64_w,i32_w]
       rfl
      refine pure_ (i:=10) (N:=some 26) (v:=undef) (a':=?_) #[true,true,true,true,true,true,true,true,true,true,true,false,false,false] rfl rfl (any_of HT_.out (by kernel_rfl)) (fun _ _ _ h=>h) (Or.inr ⟨by rfl,rfl⟩) ?_ ?_
      rotate_left
      ·simp only [Act.put,List.setIfInBounds_toArray,List.set_cons_zero,List.set_cons_succ,i64_w,i32_w]
       rfl
      refine pure_ (i:=11) (N:=some 27) (v:=undef) (a':=?_) #[true,true,true,true,true,true,true,true,true,true,true,true,false,false] rfl rfl (any_of HT_.out (by kernel_rfl)) (fun _ _ _ h=>h) (Or.inr ⟨by rfl,rfl⟩) ?_ ?_
      rotate_left
      ·simp only [Act.put,List.setIfInBounds_toArray,List.set_cons_zero,List.set_cons_succ,i64_w,i32_w]
       rfl
      refine pure_ (i:=12) (N:=some 28) (v:=undef) (a':=?_) #[true,true,true,true,true,true,true,true,true,true,true,true,true,false] rfl rfl (any_of HT_.out (by kernel_rfl)) (fun _ _ _ h=>h) (Or.inr ⟨by rfl,rfl⟩) ?_ ?_
      rotate_left
      ·simp only [Act.put,List.setIfInBounds_toArray,List.set_cons_zero,List.set_cons_succ,i64_w,i32_w]
       rfl
      refine pure_ (i:=13) (N:=some 29) (v:=?_) (a':=?_) #[true,true,true,true,true,true,true,true,true,true,true,true,true,true] rfl rfl (any_of HT_.out (by kernel_rfl)) (fun _ _ _ h=>h) (Or.inl ⟨by rfl,?_⟩) ?_ ?_
      rotate_left
      ·intro w'
       go_simp
       with_reducible rfl
      rotate_left
      ·simp only [Act.put,List.setIfInBounds_toArray,List.set_cons_zero,List.set_cons_succ,i64_w,i32_w]
       rfl
      refine done_ (done_of HT_.out (by kernel_rfl)) ?_
      try go_wp2
      go_ret
      exact ⟨_,by first|rfl|(simp [errW_none,errW_some] <;> rfl)|(simp [*,errW_none,errW_some] <;> rfl),by (with_reducible repeat (first|apply Kd.R_alloc|apply Kd.R_drewN|apply Kd.R_drew));exact Kd.R_mono HO_0.out (fun _ hk=>hk.1),by repeat (first|(with_reducible first|exact HB.out|apply below_alloc|apply pw_below_drewN|apply below_drew1|refine below_set ?_ GE141.out)|exact HB.out),by repeat (first|(with_reducible first|exact HK.out|apply Kept.alloc|apply Kept.drewN|apply Kept.drew|refine Kept.setCell ?_ (.inr GW141.out) _)|exact HK.out)⟩
     ·rw [if_neg c8] at H
      have c8b0:(((rd_T45 l0 x6_1).f0) == a1_0 && (((rd_T45 l0 x6_1).f1) == a1_1))=false:=by simpa using c8
      (try (have c8b1:decide (((rd_T45 l0 x6_1).f0)=a1_0 && (((rd_T45 l0 x6_1).f1) == a1_1))=false:=by simpa using c8))
      (try (have c8b2:(((rd_T45 l0 x6_1).f0) == a1_0 && (((rd_T45 l0 x6_1).f1) == a1_1))=false:=by simpa using c8))
      (try (have c8b3:¬ (((rd_T45 l0 x6_1).f0)=a1_0 && (((rd_T45 l0 x6_1).f1) == a1_1)):=by simpa using c8))
      clear c8
      replace H:=Option.bind_eq_some_iff.mp H
      obtain ⟨t147,A110,H⟩:=H
      replace H:(if t147=true then (some l0) else (spec_l11Put.l0 k1 l0 y142 (wrap64 (x6_1 + 1)) a1_0 a1_1))=some r:=H
      have A11:=Aside0.mk A110
      clear A110
      by_cases c12:t147=true
      ·subst c12
       have H1:(some l0)=some r:=by rw [if_pos rfl] at H;exact H
       clear H
       have H:=H1
       clear H1
       obtain rfl:=Option.some.inj H
       obtain ⟨Ao13,co13,eo13⟩:=Kd.R_slice HO_0.out
       subst eo13
       try go_wp2
       have n0_:=Aside0.mk (Kd.R_drew HO_0.out)
       have n1_:=Aside0.mk (Kd.R_drew HO_5.out)
       have n2_:=Aside0.mk (blk_drew BK141.out)
       have n3_:=Aside0.mk (Kept.drew HK.out)
       have n4_:=Aside0.mk (below_drew1 HB.out)
       clear HO_0
       clear HO_5
       clear BK141
       clear HK
       clear HB
       have HO_0:=n0_
       have HO_5:=n1_
       have BK141:=n2_
       have HK:=n3_
       have HB:=n4_
       clear n0_ n1_ n2_ n3_ n4_
       have p145:0≤(x6_1:Int):=of_decide_eq_true (by first|(with_reducible assumption)|assumption)
       have q145:x6_1<(l0.length:Int):=of_decide_eq_true (by first|(with_reducible assumption)|assumption)
       obtain ⟨ad145,e145,hx145_0,hx145_1⟩:=at_T45 (Kd.R_reads' HO_0.out).2.2 x6_1 p145 q145
       cases e145
       replace p145:=eq_true p145
       replace q145:=eq_true q145
       have p146:0≤(x6_1:Int):=of_decide_eq_true (by first|(with_reducible assumption)|assumption)
       have q146:x6_1<(l0.length:Int):=of_decide_eq_true (by first|(with_reducible assumption)|assumption)
       obtain ⟨ad146,e146,hx146_0,hx146_1⟩:=at_T45 (Kd.R_reads' HO_0.out).2.2 x6_1 p146 q146
       obtain rfl:ad145=ad146:=(by injection e146)
       replace p146:=eq_true p146
       replace q146:=eq_true q146
       refine start_ (n:=14) (S:=fun w'=>w'.cell? ⟨gb141,0,none⟩=some (.int .i64 a1_0)∧w'.cell? ⟨gb141,1,none⟩=some (.int .i64 a1_1)∧w'.cell? (ad145.add ((x6_1).toNat * 2))=some (.int .i64 ((rd_T45 l0 x6_1).f0))∧w'.cell? ⟨(ad145.add ((x6_1).toNat * 2)).block,(ad145.add ((x6_1).toNat * 2)).off + 1,none⟩=some (.int .i64 ((rd_T45 l0 x6_1).f1))∧w'.cell? (ad145.add ((x6_1).toNat * 2))=some (.int .i64 ((rd_T45 l0 x6_1).f0))∧w'.cell? ⟨(ad145.add ((x6_1).toNat * 2)).block,(ad145.add ((x6_1).toNat * 2)).off + 1,none⟩=some (.int .i64 ((rd_T45 l0 x6_1).f1))) (ds:=[]) #[false,false,false,false,false,false,false,false,false,false,false,false,false,false] (by kernel_rfl) rfl rfl ⟨(blk_cell BK141.out 0).trans rfl,(blk_cell BK141.out 1).trans rfl,hx145_0,hx145_1,hx146_0,hx146_1⟩ (fun hHeld=>?_);refine with_tabW spec_l11Put.tab5 spec_l11Put.bits5 (fun HT_ HW_=>?_)
       generalize wr.drew=w14 at HO_0 HO_5 BK141 HK HB hx145_0 hx145_1 hx146_0 hx146_1 hHeld ⊢
       refine pure_ (i:=0) (N:=some 16) (v:=?_) (a':=?_) #[true,false,false,false,false,false,false,false,false,false,false,false,false,false] rfl rfl (any_of HT_.out (by kernel_rfl)) (fun _ _ _ h=>h) (Or.inl ⟨by rfl,?_⟩) ?_ ?_
       rotate_left
       ·intro w'
        go_simp
        with_reducible rfl
       rotate_left
       ·simp only [Act.put,List.setIfInBounds_toArray,List.set_cons_zero,List.set_cons_succ,i64_w,i32_w]
        rfl
       refine pure_ (i:=1) (N:=some 17) (v:=?_) (a':=?_) #[true,true,false,false,false,false,false,false,false,false,false,false,false,false] rfl rfl (any_of HT_.out (by kernel_rfl)) (fun _ _ _ h=>h) (Or.inl ⟨by rfl,?_⟩) ?_ ?_
       rotate_left
       ·intro w'
        go_simp
        with_reducible rfl
       rotate_left
       ·simp only [Act.put,List.setIfInBounds_toArray,List.set_cons_zero,List.set_cons_succ,i64_w,i32_w]
        rfl
       refine pure_ (i:=2) (N:=some 18) (v:=?_) (a':=?_) #[true,true,true,false,false,false,false,false,false,false,false,false,false,false] rfl rfl (any_of HT_.out (by kernel_rfl)) (fun _ _ _ h=>h) (Or.inl ⟨by rfl,?_⟩) ?_ ?_
       rotate_left
       ·intro w'
        go_simp
        with_reducible rfl
       rotate_left
       ·simp only [Act.put,List.setIfInBounds_toArray,List.set_cons_zero,List.set_cons_succ,i64_w,i32_w]
        rfl
       refine take_ (i:=3) (N:=some 19) (v:=?_) (a':=?_) #[true,true,true,true,false,false,false,false,false,false,false,false,false,false] rfl rfl (take_ofW HT_.out HW_.out (by kernel_rfl)) (fun _ _ _ h=>h) (Or.inl ⟨by rfl,?_⟩) hHeld ?_ ?_
       rotate_left
       ·rintro w' ⟨s0,s1,s2,s3,s4,s5⟩
        go_simp
        with_reducible rfl
       rotate_left
       ·simp only [Act.put,List.setIfInBounds_toArray,List.set_cons_zero,List.set_cons_succ,i64_w,i32_w]
        rfl
       refine take_ (i:=4) (N:=some 20) (v:=?_) (a':=?_) #[true,true,true,true,true,false,false,false,false,false,false,false,false,false] rfl rfl (take_ofW HT_.out HW_.out (by kernel_rfl)) (fun _ _ _ h=>h) (Or.inl ⟨by rfl,?_⟩) hHeld ?_ ?_
       rotate_left
       ·rintro w' ⟨s0,s1,s2,s3,s4,s5⟩
        go_simp
        with_reducible rfl
       rotate_left
       ·simp only [Act.put,List.setIfInBounds_toArray,List.set_cons_zero,List.set_cons_succ,i64_w,i32_w]
        rfl
       refine pure_ (i:=5) (N:=some 21) (v:=?_) (a':=?_) #[true,true,true,true,true,true,false,false,false,false,false,false,false,false] rfl rfl (any_of HT_.out (by kernel_rfl)) (fun _ _ _ h=>h) (Or.inl ⟨by rfl,?_⟩) ?_ ?_
       rotate_left
       ·intro w'
        go_simp
        with_reducible rfl
       rotate_left
       ·simp only [Act.put,List.setIfInBounds_toArray,List.set_cons_zero,List.set_cons_succ,i64_w,i32_w]
        rfl
       refine pure_ (i:=6) (N:=some 22) (v:=?_) (a':=?_) #[true,true,true,true,true,true,true,false,false,false,false,false,false,false] rfl rfl (any_of HT_.out (by kernel_rfl)) (fun _ _ _ h=>h) (Or.inl ⟨by rfl,?_⟩) ?_ ?_
       rotate_left
       ·intro w'
        go_simp
        with_reducible rfl
       rotate_left
       ·simp only [Act.put,List.setIfInBounds_toArray,List.set_cons_zero,List.set_cons_succ,i64_w,i32_w]
        rfl
       refine pure_ (i:=7) (N:=some 23) (v:=?_) (a':=?_) #[true,true,true,true,true,true,true,true,false,false,false,false,false,false] rfl rfl (any_of HT_.out (by kernel_rfl)) (fun _ _ _ h=>h) (Or.inl ⟨by rfl,?_⟩) ?_ ?_
       rotate_left
       ·intro w'
        go_simp
        with_reducible rfl
       rotate_left
       ·simp only [Act.put,List.setIfInBounds_toArray,List.set_cons_zero,List.set_cons_succ,i64_w,i32_w]
        rfl
       refine pure_ (i:=8) (N:=some 24) (v:=?_) (a':=?_) #[true,true,true,true,true,true,true,true,true,false,false,false,false,false] rfl rfl (any_of HT_.out (by kernel_rfl)) (fun _ _ _ h=>h) (Or.inl ⟨by rfl,?_⟩) ?_ ?_
       rotate_left
       ·intro w'
        go_simp
        with_reducible rfl
       rotate_left
       ·simp only [Act.put,List.setIfInBounds_toArray,List.set_cons_zero,List.set_cons_succ,i64_w,i32_w]
        rfl
       refine pure_ (i:=9) (N:=some 25) (v:=?_) (a':=?_) #[true,true,true,true,true,true,true,true,true,true,false,false,false,false] rfl rfl (any_of HT_.out (by kernel_rfl)) (fun _ _ _ h=>h) (Or.inl ⟨by rfl,?_⟩) ?_ ?_
       rotate_left
       ·intro w'
        go_simp
        with_reducible rfl
       rotate_left
       ·simp only [Act.put,List.setIfInBounds_toArray,List.set_cons_zero,List.set_cons_succ,i64_w,i32_w]
        rfl
       refine take_ (i:=10) (N:=some 26) (v:=?_) (a':=?_) #[true,true,true,true,true,true,true,true,true,true,true,false,false,false] rfl rfl (take_ofW HT_.out HW_.out (by kernel_rfl)) (fun _ _ _ h=>h) (Or.inl ⟨by rfl,?_⟩) hHeld ?_ ?_
       rotate_left
       ·rintro w' ⟨s0,s1,s2,s3,s4,s5⟩
        go_simp
        with_reducible rfl
       rotate_left
       ·simp only [Act.put,List.setIfInBounds_toArray,List.set_cons_zero,List.set_cons_succ,i64_w,i32_w]
        rfl
       refine take_ (i:=11) (N:=some 27) (v:=?_) (a':=?_) #[true,true,true,true,true,true,true,true,true,true,true,true,false,false] rfl rfl (take_ofW HT_.out HW_.out (by kernel_rfl)) (fun _ _ _ h=>h) (Or.inl ⟨by rfl,?_⟩) hHeld ?_ ?_
       rotate_left
       ·rintro w' ⟨s0,s1,s2,s3,s4,s5⟩
        go_simp
        with_reducible rfl
       rotate_left
       ·simp only [Act.put,List.setIfInBounds_toArray,List.set_cons_zero,List.set_cons_succ,i64_w,i32_w]
        rfl
       refine one_ (i:=12) (N:=some 28) #[true,true,true,true,true,true,true,true,true,true,true,true,true,false] rfl rfl (one_of HT_.out (by kernel_rfl)) (by decide) (fun K hK=>?_)
       refine goes_ Try.func161 (by kernel_rfl) rfl #[.agg #[.int .i64 ((rd_T45 l0 x6_1).f0),.int .i64 ((rd_T45 l0 x6_1).f1)],.agg #[.int .i64 a1_0,.int .i64 a1_1]] (by rfl) rfl rfl (by (try simp only [List.map_toArray,List.map_cons,List.map_nil]);first|done|rfl|(simp only [List.length_drop,List.length_take];rfl)) ?_
       with_reducible refine (spec_l11Dominates.calls ((rd_T45 l0 x6_1).f0) ((rd_T45 l0 x6_1).f1) a1_0 a1_1 true _ A11.out).mono ?_
       rintro e w15 ⟨rfl,hb⟩
       have HS2_:=(hb.cell (World.block_lt_of_cell? _ _ (hHeld.2.2.1))).trans (hHeld.2.2.1)
       have HS3_:=(hb.cell (World.block_lt_of_cell? _ _ (hHeld.2.2.2.1))).trans (hHeld.2.2.2.1)
       have HS4_:=(hb.cell (World.block_lt_of_cell? _ _ (hHeld.2.2.2.2.1))).trans (hHeld.2.2.2.2.1)
       have HS5_:=(hb.cell (World.block_lt_of_cell? _ _ (hHeld.2.2.2.2.2))).trans (hHeld.2.2.2.2.2)
       refine ⟨_,rfl,?_⟩
       have n0_:=Aside0.mk (Kd.R_below (by (with_reducible repeat (first|apply Kd.R_alloc|apply Kd.R_drewN|apply Kd.R_drew));exact HO_0.out) hb)
       have n1_:=Aside0.mk (Kd.R_below (by (with_reducible repeat (first|apply Kd.R_alloc|apply Kd.R_drewN|apply Kd.R_drew));exact HO_5.out) hb)
       have n2_:=Aside0.mk (blk_below (g:=gb141) (o:=.cells #[.int .i64 a1_0,.int .i64 a1_1] 45 (0,0)) (by (with_reducible repeat (first|refine blk_drewN ?_ _|refine blk_drew ?_|refine blk_alloc ?_ _));exact BK141.out) hb)
       have n3_:=Aside0.mk (Kept.below (S:=(fun k_=>P0_ k_)) (by repeat (first|(with_reducible first|exact HK.out|apply Kept.alloc|apply Kept.drewN|apply Kept.drew|refine Kept.setCell ?_ (.inr GW141.out) _)|exact HK.out)) hb)
       have n4_:=Aside0.mk (below_step (by repeat (first|(with_reducible first|exact HB.out|apply below_alloc|apply pw_below_drewN|apply below_drew1|refine below_set ?_ GE141.out)|exact HB.out)) hb)
       clear HO_0
       clear HO_5
       clear BK141
       clear HK
       clear HB
       have HO_0:=n0_
       have HO_5:=n1_
       have BK141:=n2_
       have HK:=n3_
       have HB:=n4_
       clear n0_ n1_ n2_ n3_ n4_
       (try clear hb)
       (try clear hb2)
       (try clear hk)
       (try clear hi)
       refine hK.out _ _ ⟨(blk_cell BK141.out 0).trans rfl,(blk_cell BK141.out 1).trans rfl,HS2_,HS3_,HS4_,HS5_⟩ (fun hHeld=>?_)
       clear hK K
       refine norm_ (a':=?_) ?_ ?_
       rotate_left
       ·show Act.put _ (some 28) _=_
        simp only [Act.put,List.setIfInBounds_toArray,List.set_cons_zero,List.set_cons_succ,i64_w,i32_w]
        rfl
       refine pure_ (i:=13) (N:=some 29) (v:=?_) (a':=?_) #[true,true,true,true,true,true,true,true,true,true,true,true,true,true] rfl rfl (any_of HT_.out (by kernel_rfl)) (fun _ _ _ h=>h) (Or.inl ⟨by rfl,?_⟩) ?_ ?_
       rotate_left
       ·intro w'
        go_simp
        with_reducible rfl
       rotate_left
       ·simp only [Act.put,List.setIfInBounds_toArray,List.set_cons_zero,List.set_cons_succ,i64_w,i32_w]
        rfl
       refine done_ (done_of HT_.out (by kernel_rfl)) ?_
       try go_wp2
       go_ret
       exact ⟨_,by first|rfl|(simp [errW_none,errW_some] <;> rfl)|(simp [*,errW_none,errW_some] <;> rfl),by (with_reducible repeat (first|apply Kd.R_alloc|apply Kd.R_drewN|apply Kd.R_drew));exact Kd.R_mono HO_0.out (fun _ hk=>hk.1),by repeat (first|(with_reducible first|exact HB.out|apply below_alloc|apply pw_below_drewN|apply below_drew1|refine below_set ?_ GE141.out)|exact HB.out),by repeat (first|(with_reducible first|exact HK.out|apply Kept.alloc|apply Kept.drewN|apply Kept.drew|refine Kept.setCell ?_ (.inr GW141.out) _)|exact HK.out)⟩
      ·replace c12:=Bool.eq_false_iff.mpr c12
       subst c12
       have H1:(spec_l11Put.l0 k1 l0 y142 (wrap64 (x6_1 + 1)) a1_0 a1_1)=some r:=by rw [if_neg (show ¬ (false=true) by decide)] at H;exact H
       clear H
       have H:=H1
       clear H1
       have H':=Aside0.mk H
       clear H
       obtain ⟨Ao16,co16,eo16⟩:=Kd.R_slice HO_0.out
       subst eo16
       try go_wp2
       have n0_:=Aside0.mk (Kd.R_drew HO_0.out)
       have n1_:=Aside0.mk (Kd.R_drew HO_5.out)
       have n2_:=Aside0.mk (blk_drew BK141.out)
       have n3_:=Aside0.mk (Kept.drew HK.out)
       have n4_:=Aside0.mk (below_drew1 HB.out)
       clear HO_0
       clear HO_5
       clear BK141
       clear HK
       clear HB
       have HO_0:=n0_
       have HO_5:=n1_
       have BK141:=n2_
       have HK:=n3_
       have HB:=n4_
       clear n0_ n1_ n2_ n3_ n4_
       have p145:0≤(x6_1:Int):=of_decide_eq_true (by first|(with_reducible assumption)|assumption)
       have q145:x6_1<(l0.length:Int):=of_decide_eq_true (by first|(with_reducible assumption)|assumption)
       obtain ⟨ad145,e145,hx145_0,hx145_1⟩:=at_T45 (Kd.R_reads' HO_0.out).2.2 x6_1 p145 q145
       cases e145
       replace p145:=eq_true p145
       replace q145:=eq_true q145
       have p146:0≤(x6_1:Int):=of_decide_eq_true (by first|(with_reducible assumption)|assumption)
       have q146:x6_1<(l0.length:Int):=of_decide_eq_true (by first|(with_reducible assumption)|assumption)
       obtain ⟨ad146,e146,hx146_0,hx146_1⟩:=at_T45 (Kd.R_reads' HO_0.out).2.2 x6_1 p146 q146
       obtain rfl:ad145=ad146:=(by injection e146)
       replace p146:=eq_true p146
       replace q146:=eq_true q146
       refine start_ (n:=14) (S:=fun w'=>w'.cell? ⟨gb141,0,none⟩=some (.int .i64 a1_0)∧w'.cell? ⟨gb141,1,none⟩=some (.int .i64 a1_1)∧w'.cell? (ad145.add ((x6_1).toNat * 2))=some (.int .i64 ((rd_T45 l0 x6_1).f0))∧w'.cell? ⟨(ad145.add ((x6_1).toNat * 2)).block,(ad145.add ((x6_1).toNat * 2)).off + 1,none⟩=some (.int .i64 ((rd_T45 l0 x6_1).f1))∧w'.cell? (ad145.add ((x6_1).toNat * 2))=some (.int .i64 ((rd_T45 l0 x6_1).f0))∧w'.cell? ⟨(ad145.add ((x6_1).toNat * 2)).block,(ad145.add ((x6_1).toNat * 2)).off + 1,none⟩=some (.int .i64 ((rd_T45 l0 x6_1).f1))) (ds:=[]) #[false,false,false,false,false,false,false,false,false,false,false,false,false,false] (by kernel_rfl) rfl rfl ⟨(blk_cell BK141.out 0).trans rfl,(blk_cell BK141.out 1).trans rfl,hx145_0,hx145_1,hx146_0,hx146_1⟩ (fun hHeld=>?_);refine with_tabW spec_l11Put.tab5 spec_l11Put.bits5 (fun HT_ HW_=>?_)
       generalize wr.drew=w17 at HO_0 HO_5 BK141 HK HB hx145_0 hx145_1 hx146_0 hx146_1 hHeld ⊢
       refine pure_ (i:=0) (N:=some 16) (v:=?_) (a':=?_) #[true,false,false,false,false,false,false,false,false,false,false,false,false,false] rfl rfl (any_of HT_.out (by kernel_rfl)) (fun _ _ _ h=>h) (Or.inl ⟨by rfl,?_⟩) ?_ ?_
       rotate_left
       ·intro w'
        go_simp
        with_reducible rfl
       rotate_left
       ·simp only [Act.put,List.setIfInBounds_toArray,List.set_cons_zero,List.set_cons_succ,i64_w,i32_w]
        rfl
       refine pure_ (i:=1) (N:=some 17) (v:=?_) (a':=?_) #[true,true,false,false,false,false,false,false,false,false,false,false,false,false] rfl rfl (any_of HT_.out (by kernel_rfl)) (fun _ _ _ h=>h) (Or.inl ⟨by rfl,?_⟩) ?_ ?_
       rotate_left
       ·intro w'
        go_simp
        with_reducible rfl
       rotate_left
       ·simp only [Act.put,List.setIfInBounds_toArray,List.set_cons_zero,List.set_cons_succ,i64_w,i32_w]
        rfl
       refine pure_ (i:=2) (N:=some 18) (v:=?_) (a':=?_) #[true,true,true,false,false,false,false,false,false,false,false,false,false,false] rfl rfl (any_of HT_.out (by kernel_rfl)) (fun _ _ _ h=>h) (Or.inl ⟨by rfl,?_⟩) ?_ ?_
       rotate_left
       ·intro w'
        go_simp
        with_reducible rfl
       rotate_left
       ·simp only [Act.put,List.setIfInBounds_toArray,List.set_cons_zero,List.set_cons_succ,i64_w,i32_w]
        rfl
       refine take_ (i:=3) (N:=some 19) (v:=?_) (a':=?_) #[true,true,true,true,false,false,false,false,false,false,false,false,false,false] rfl rfl (take_ofW HT_.out HW_.out (by kernel_rfl)) (fun _ _ _ h=>h) (Or.inl ⟨by rfl,?_⟩) hHeld ?_ ?_
       rotate_left
       ·rintro w' ⟨s0,s1,s2,s3,s4,s5⟩
        go_simp
        with_reducible rfl
       rotate_left
       ·simp only [Act.put,List.setIfInBounds_toArray,List.set_cons_zero,List.set_cons_succ,i64_w,i32_w]
        rfl
       refine take_ (i:=4) (N:=some 20) (v:=?_) (a':=?_) #[true,true,true,true,true,false,false,false,false,false,false,false,false,false] rfl rfl (take_ofW HT_.out HW_.out (by kernel_rfl)) (fun _ _ _ h=>h) (Or.inl ⟨by rfl,?_⟩) hHeld ?_ ?_
       rotate_left
       ·rintro w' ⟨s0,s1,s2,s3,s4,s5⟩
        go_simp
        with_reducible rfl
       rotate_left
       ·simp only [Act.put,List.setIfInBounds_toArray,List.set_cons_zero,List.set_cons_succ,i64_w,i32_w]
        rfl
       refine pure_ (i:=5) (N:=some 21) (v:=?_) (a':=?_) #[true,true,true,true,true,true,false,false,false,false,false,false,false,false] rfl rfl (any_of HT_.out (by kernel_rfl)) (fun _ _ _ h=>h) (Or.inl ⟨by rfl,?_⟩) ?_ ?_
       rotate_left
       ·intro w'
        go_simp
        with_reducible rfl
       rotate_left
       ·simp only [Act.put,List.setIfInBounds_toArray,List.set_cons_zero,List.set_cons_succ,i64_w,i32_w]
        rfl
       refine pure_ (i:=6) (N:=some 22) (v:=?_) (a':=?_) #[true,true,true,true,true,true,true,false,false,false,false,false,false,false] rfl rfl (any_of HT_.out (by kernel_rfl)) (fun _ _ _ h=>h) (Or.inl ⟨by rfl,?_⟩) ?_ ?_
       rotate_left
       ·intro w'
        go_simp
        with_reducible rfl
       rotate_left
       ·simp only [Act.put,List.setIfInBounds_toArray,List.set_cons_zero,List.set_cons_succ,i64_w,i32_w]
        rfl
       refine pure_ (i:=7) (N:=some 23) (v:=?_) (a':=?_) #[true,true,true,true,true,true,true,true,false,false,false,false,false,false] rfl rfl (any_of HT_.out (by kernel_rfl)) (fun _ _ _ h=>h) (Or.inl ⟨by rfl,?_⟩) ?_ ?_
       rotate_left
       ·intro w'
        go_simp
        with_reducible rfl
       rotate_left
       ·simp only [Act.put,List.setIfInBounds_toArray,List.set_cons_zero,List.set_cons_succ,i64_w,i32_w]
        rfl
       refine pure_ (i:=8) (N:=some 24) (v:=?_) (a':=?_) #[true,true,true,true,true,true,true,true,true,false,false,false,false,false] rfl rfl (any_of HT_.out (by kernel_rfl)) (fun _ _ _ h=>h) (Or.inl ⟨by rfl,?_⟩) ?_ ?_
       rotate_left
       ·intro w'
        go_simp
        with_reducible rfl
       rotate_left
       ·simp only [Act.put,List.setIfInBounds_toArray,List.set_cons_zero,List.set_cons_succ,i64_w,i32_w]
        rfl
       refine pure_ (i:=9) (N:=some 25) (v:=?_) (a':=?_) #[true,true,true,true,true,true,true,true,true,true,false,false,false,false] rfl rfl (any_of HT_.out (by kernel_rfl)) (fun _ _ _ h=>h) (Or.inl ⟨by rfl,?_⟩) ?_ ?_
       rotate_left
       ·intro w'
        go_simp
        with_reducible rfl
       rotate_left
       ·simp only [Act.put,List.setIfInBounds_toArray,List.set_cons_zero,List.set_cons_succ,i64_w,i32_w]
        rfl
       refine take_ (i:=10) (N:=some 26) (v:=?_) (a':=?_) #[true,true,true,true,true,true,true,true,true,true,true,false,false,false] rfl rfl (take_ofW HT_.out HW_.out (by kernel_rfl)) (fun _ _ _ h=>h) (Or.inl ⟨by rfl,?_⟩) hHeld ?_ ?_
       rotate_left
       ·rintro w' ⟨s0,s1,s2,s3,s4,s5⟩
        go_simp
        with_reducible rfl
       rotate_left
       ·simp only [Act.put,List.setIfInBounds_toArray,List.set_cons_zero,List.set_cons_succ,i64_w,i32_w]
        rfl
       refine take_ (i:=11) (N:=some 27) (v:=?_) (a':=?_) #[true,true,true,true,true,true,true,true,true,true,true,true,false,false] rfl rfl (take_ofW HT_.out HW_.out (by kernel_rfl)) (fun _ _ _ h=>h) (Or.inl ⟨by rfl,?_⟩) hHeld ?_ ?_
       rotate_left
       ·rintro w' ⟨s0,s1,s2,s3,s4,s5⟩
        go_simp
        with_reducible rfl
       rotate_left
       ·simp only [Act.put,List.setIfInBounds_toArray,List.set_cons_zero,List.set_cons_succ,i64_w,i32_w]
        rfl
       refine one_ (i:=12) (N:=some 28) #[true,true,true,true,true,true,true,true,true,true,true,true,true,false] rfl rfl (one_of HT_.out (by kernel_rfl)) (by decide) (fun K hK=>?_)
       refine goes_ Try.func161 (by kernel_rfl) rfl #[.agg #[.int .i64 ((rd_T45 l0 x6_1).f0),.int .i64 ((rd_T45 l0 x6_1).f1)],.agg #[.int .i64 a1_0,.int .i64 a1_1]] (by rfl) rfl rfl (by (try simp only [List.map_toArray,List.map_cons,List.map_nil]);first|done|rfl|(simp only [List.length_drop,List.length_take];rfl)) ?_
       with_reducible refine (spec_l11Dominates.calls ((rd_T45 l0 x6_1).f0) ((rd_T45 l0 x6_1).f1) a1_0 a1_1 false _ A11.out).mono ?_
       rintro e w18 ⟨rfl,hb⟩
       have HS2_:=(hb.cell (World.block_lt_of_cell? _ _ (hHeld.2.2.1))).trans (hHeld.2.2.1)
       have HS3_:=(hb.cell (World.block_lt_of_cell? _ _ (hHeld.2.2.2.1))).trans (hHeld.2.2.2.1)
       have HS4_:=(hb.cell (World.block_lt_of_cell? _ _ (hHeld.2.2.2.2.1))).trans (hHeld.2.2.2.2.1)
       have HS5_:=(hb.cell (World.block_lt_of_cell? _ _ (hHeld.2.2.2.2.2))).trans (hHeld.2.2.2.2.2)
       refine ⟨_,rfl,?_⟩
       have n0_:=Aside0.mk (Kd.R_below (by (with_reducible repeat (first|apply Kd.R_alloc|apply Kd.R_drewN|apply Kd.R_drew));exact HO_0.out) hb)
       have n1_:=Aside0.mk (Kd.R_below (by (with_reducible repeat (first|apply Kd.R_alloc|apply Kd.R_drewN|apply Kd.R_drew));exact HO_5.out) hb)
       have n2_:=Aside0.mk (blk_below (g:=gb141) (o:=.cells #[.int .i64 a1_0,.int .i64 a1_1] 45 (0,0)) (by (with_reducible repeat (first|refine blk_drewN ?_ _|refine blk_drew ?_|refine blk_alloc ?_ _));exact BK141.out) hb)
       have n3_:=Aside0.mk (Kept.below (S:=(fun k_=>P0_ k_)) (by repeat (first|(with_reducible first|exact HK.out|apply Kept.alloc|apply Kept.drewN|apply Kept.drew|refine Kept.setCell ?_ (.inr GW141.out) _)|exact HK.out)) hb)
       have n4_:=Aside0.mk (below_step (by repeat (first|(with_reducible first|exact HB.out|apply below_alloc|apply pw_below_drewN|apply below_drew1|refine below_set ?_ GE141.out)|exact HB.out)) hb)
       clear HO_0
       clear HO_5
       clear BK141
       clear HK
       clear HB
       have HO_0:=n0_
       have HO_5:=n1_
       have BK141:=n2_
       have HK:=n3_
       have HB:=n4_
       clear n0_ n1_ n2_ n3_ n4_
       (try clear hb)
       (try clear hb2)
       (try clear hk)
       (try clear hi)
       refine hK.out _ _ ⟨(blk_cell BK141.out 0).trans rfl,(blk_cell BK141.out 1).trans rfl,HS2_,HS3_,HS4_,HS5_⟩ (fun hHeld=>?_)
       clear hK K
       refine norm_ (a':=?_) ?_ ?_
       rotate_left
       ·show Act.put _ (some 28) _=_
        simp only [Act.put,List.setIfInBounds_toArray,List.set_cons_zero,List.set_cons_succ,i64_w,i32_w]
        rfl
       refine pure_ (i:=13) (N:=some 29) (v:=?_) (a':=?_) #[true,true,true,true,true,true,true,true,true,true,true,true,true,true] rfl rfl (any_of HT_.out (by kernel_rfl)) (fun _ _ _ h=>h) (Or.inl ⟨by rfl,?_⟩) ?_ ?_
       rotate_left
       ·intro w'
        go_simp
        with_reducible rfl
       rotate_left
       ·simp only [Act.put,List.setIfInBounds_toArray,List.set_cons_zero,List.set_cons_succ,i64_w,i32_w]
        rfl
       refine done_ (done_of HT_.out (by kernel_rfl)) ?_
       try go_wp2
       go_roundg k1
       case measure=>have:=HK1.out;omega
       case rel=>exact ⟨(wrap64 (x6_1 + 1)),(by first|rfl|(simp;done)|(simp [*];done)),H',⟨by have:=HK1.out;omega⟩,⟨by (with_reducible repeat (first|apply Kd.R_alloc|apply Kd.R_drewN|apply Kd.R_drew));exact HO_0.out⟩,⟨by (with_reducible repeat (first|apply Kd.R_alloc|apply Kd.R_drewN|apply Kd.R_drew));exact HO_5.out⟩,⟨by (with_reducible repeat (first|refine blk_drewN ?_ _|refine blk_drew ?_|refine blk_alloc ?_ _));exact BK141.out⟩,⟨by repeat (first|(with_reducible first|exact HK.out|apply Kept.alloc|apply Kept.drewN|apply Kept.drew|refine Kept.setCell ?_ (.inr GW141.out) _)|exact HK.out)⟩,⟨by repeat (first|(with_reducible first|exact HB.out|apply below_alloc|apply pw_below_drewN|apply below_drew1|refine below_set ?_ GE141.out)|exact HB.out)⟩⟩
    ·rw [if_neg c7] at H
     exact absurd H (by simp)
   ·rw [if_neg c6] at H
    have c6b0:decide (x6_1<(l0.length:Int))=false:=decide_eq_false c6
    clear c6
    have H':=Aside0.mk H
    clear H
    obtain ⟨Ao19,co19,eo19⟩:=Kd.R_slice HO_0.out
    subst eo19
    go_wp2
    go_loopg [5,7,8] k1 (fun kq v5 v7 v8 w'=>∃ (x5_2:List (S45)) (x7_2:Bool) (x8_2:Int),v7=.bool x7_2∧v8=.int .i64 x8_2∧Aside0 (spec_l11Put.l1 kq l0 x5_2 x7_2 x8_2 a1_0 a1_1=some r)∧Aside0 (kq≤k1)∧Aside0 (Kd.R k45 45 w' w0.heap.size (fun k_=>(P0_ k_∨w.heap.size≤k_)∧some k_≠(v5:Value).ownBlock∧k_≠gb141) (.slice Ao19 l0.length co19) l0)∧Aside0 (Kd.R k45 45 w' w0.heap.size (fun k_=>(P0_ k_∨w.heap.size≤k_)∧some k_≠((.slice Ao19 l0.length co19):Value).ownBlock∧k_≠gb141) v5 x5_2)∧Aside0 (w'.heap[gb141]?=some (.cells #[.int .i64 a1_0,.int .i64 a1_1] 45 (0,0)))∧Aside0 (Kept w w' (fun k_=>P0_ k_))∧Aside0 (Below w0.heap.size w0 w'))
    case atStart=>exact ⟨(y142),(false),(0),(by first|rfl|(simp;done)|(simp [*];done)),(by first|rfl|(simp;done)|(simp [*];done)),H',⟨Nat.le_refl _⟩,⟨by (with_reducible repeat (first|apply Kd.R_alloc|apply Kd.R_drewN|apply Kd.R_drew));exact HO_0.out⟩,⟨by (with_reducible repeat (first|apply Kd.R_alloc|apply Kd.R_drewN|apply Kd.R_drew));exact HO_5.out⟩,⟨by (with_reducible repeat (first|refine blk_drewN ?_ _|refine blk_drew ?_|refine blk_alloc ?_ _));exact BK141.out⟩,⟨by repeat (first|(with_reducible first|exact HK.out|apply Kept.alloc|apply Kept.drewN|apply Kept.drew|refine Kept.setCell ?_ (.inr GW141.out) _)|exact HK.out)⟩,⟨by repeat (first|(with_reducible first|exact HB.out|apply below_alloc|apply pw_below_drewN|apply below_drew1|refine below_set ?_ GE141.out)|exact HB.out)⟩⟩
    case round=>
     clear H'
     try clear c1
     try clear p1
     try clear q1
     try clear hx1
     try clear p2
     try clear c6
     try clear c6b0
     try clear p6
     try clear c7
     try clear c7b0
     try clear c8
     try clear c8b0
     try clear c8b1
     try clear c8b2
     try clear c12
     try clear p14
     try clear q14
     try clear hx14
     try clear c15
     try clear c16
     try clear hx145_0
     try clear hx145_1
     try clear hx146_0
     try clear hx146_1
     try clear p145
     try clear p146
     try clear p2
     try clear q145
     try clear q146
     obtain ⟨x5_2,x7_2,x8_2,rfl,rfl,HA,HK2,HO_0,HO_5,BK141,HK,HB⟩:=hrel
     cases gk with
     | zero=>exact absurd HA.out (by simp [spec_l11Put.l1])
     | succ k2=>
      have H:=HA.out
      clear HA
      simp only [spec_l11Put.l1] at H
      by_cases c20:x8_2<(l0.length:Int)
      ·rw [if_pos c20] at H
       have c20b0:decide (x8_2<(l0.length:Int))=true:=decide_eq_true c20
       clear c20
       by_cases c21:0≤x8_2
       ·rw [if_pos c21] at H
        have c21b0:decide (0≤x8_2)=true:=decide_eq_true c21
        clear c21
        replace H:=Option.bind_eq_some_iff.mp H
        obtain ⟨t152,A220,H⟩:=H
        replace H:(if t152=true then (spec_l11Put.l1 k2 l0 x5_2 x7_2 (wrap64 (x8_2 + 1)) a1_0 a1_1) else (if x7_2=true then (if x5_2.length<8796093022208 then (spec_l11Put.l1 k2 l0 (x5_2++[(⟨(rd_T45 l0 x8_2).f0,(rd_T45 l0 x8_2).f1⟩:S45)]) x7_2 (wrap64 (x8_2 + 1)) a1_0 a1_1) else (none)) else (if ((rd_T45 l0 x8_2).f0)>a1_0 then (if x5_2.length<8796093022208 then ((some (x5_2++[(⟨a1_0,a1_1⟩:S45)]:List (S45))).bind fun y158=>(if y158.length<8796093022208 then (spec_l11Put.l1 k2 l0 (y158++[(⟨(rd_T45 l0 x8_2).f0,(rd_T45 l0 x8_2).f1⟩:S45)]) true (wrap64 (x8_2 + 1)) a1_0 a1_1) else (none))) else (none)) else (if x5_2.length<8796093022208 then (spec_l11Put.l1 k2 l0 (x5_2++[(⟨(rd_T45 l0 x8_2).f0,(rd_T45 l0 x8_2).f1⟩:S45)]) x7_2 (wrap64 (x8_2 + 1)) a1_0 a1_1) else (none)))))=some r:=H
        have A22:=Aside0.mk A220
        clear A220
        by_cases c23:t152=true
        ·subst c23
         have H1:(spec_l11Put.l1 k2 l0 x5_2 x7_2 (wrap64 (x8_2 + 1)) a1_0 a1_1)=some r:=by rw [if_pos rfl] at H;exact H
         clear H
         have H:=H1
         clear H1
         have H':=Aside0.mk H
         clear H
         try go_wp2
         have n0_:=Aside0.mk (Kd.R_drew HO_0.out)
         have n1_:=Aside0.mk (Kd.R_drew HO_5.out)
         have n2_:=Aside0.mk (blk_drew BK141.out)
         have n3_:=Aside0.mk (Kept.drew HK.out)
         have n4_:=Aside0.mk (below_drew1 HB.out)
         clear HO_0
         clear HO_5
         clear BK141
         clear HK
         clear HB
         have HO_0:=n0_
         have HO_5:=n1_
         have BK141:=n2_
         have HK:=n3_
         have HB:=n4_
         clear n0_ n1_ n2_ n3_ n4_
         have p151:0≤(x8_2:Int):=of_decide_eq_true (by first|(with_reducible assumption)|assumption)
         have q151:x8_2<(l0.length:Int):=of_decide_eq_true (by first|(with_reducible assumption)|assumption)
         obtain ⟨ad151,e151,hx151_0,hx151_1⟩:=at_T45 (Kd.R_reads' HO_0.out).2.2 x8_2 p151 q151
         cases e151
         replace p151:=eq_true p151
         replace q151:=eq_true q151
         refine start_ (n:=6) (S:=fun w'=>w'.cell? ⟨gb141,0,none⟩=some (.int .i64 a1_0)∧w'.cell? ⟨gb141,1,none⟩=some (.int .i64 a1_1)∧w'.cell? (ad151.add ((x8_2).toNat * 2))=some (.int .i64 ((rd_T45 l0 x8_2).f0))∧w'.cell? ⟨(ad151.add ((x8_2).toNat * 2)).block,(ad151.add ((x8_2).toNat * 2)).off + 1,none⟩=some (.int .i64 ((rd_T45 l0 x8_2).f1))) (ds:=[]) #[false,false,false,false,false,false] (by kernel_rfl) rfl rfl ⟨(blk_cell BK141.out 0).trans rfl,(blk_cell BK141.out 1).trans rfl,hx151_0,hx151_1⟩ (fun hHeld=>?_)
         generalize wr.drew=w24 at HO_0 HO_5 BK141 HK HB hx151_0 hx151_1 hHeld ⊢
         refine pure_ (i:=1) (N:=some 38) (v:=?_) (a':=?_) #[false,true,false,false,false,false] rfl rfl (by kernel_rfl) (fun _ _ _ h=>h) (Or.inl ⟨by rfl,?_⟩) ?_ ?_
         rotate_left
         ·intro w'
          go_simp
          with_reducible rfl
         rotate_left
         ·simp only [Act.put,List.setIfInBounds_toArray,List.set_cons_zero,List.set_cons_succ,i64_w,i32_w]
          rfl
         refine pure_ (i:=2) (N:=some 39) (v:=?_) (a':=?_) #[false,true,true,false,false,false] rfl rfl (by kernel_rfl) (fun _ _ _ h=>h) (Or.inl ⟨by rfl,?_⟩) ?_ ?_
         rotate_left
         ·intro w'
          go_simp
          with_reducible rfl
         rotate_left
         ·simp only [Act.put,List.setIfInBounds_toArray,List.set_cons_zero,List.set_cons_succ,i64_w,i32_w]
          rfl
         refine pure_ (i:=3) (N:=some 40) (v:=?_) (a':=?_) #[false,true,true,true,false,false] rfl rfl (by kernel_rfl) (fun _ _ _ h=>h) (Or.inl ⟨by rfl,?_⟩) ?_ ?_
         rotate_left
         ·intro w'
          go_simp
          with_reducible rfl
         rotate_left
         ·simp only [Act.put,List.setIfInBounds_toArray,List.set_cons_zero,List.set_cons_succ,i64_w,i32_w]
          rfl
         refine take_ (i:=0) (N:=some 37) (v:=?_) (a':=?_) #[true,true,true,true,false,false] rfl rfl (by kernel_rfl) (fun _ _ _ h=>h) (Or.inl ⟨by rfl,?_⟩) hHeld ?_ ?_
         rotate_left
         ·rintro w' ⟨s0,s1,s2,s3⟩
          go_simp
          with_reducible rfl
         rotate_left
         ·simp only [Act.put,List.setIfInBounds_toArray,List.set_cons_zero,List.set_cons_succ,i64_w,i32_w]
          rfl
         refine take_ (i:=4) (N:=some 41) (v:=?_) (a':=?_) #[true,true,true,true,true,false] rfl rfl (by kernel_rfl) (fun _ _ _ h=>h) (Or.inl ⟨by rfl,?_⟩) hHeld ?_ ?_
         rotate_left
         ·rintro w' ⟨s0,s1,s2,s3⟩
          go_simp
          with_reducible rfl
         rotate_left
         ·simp only [Act.put,List.setIfInBounds_toArray,List.set_cons_zero,List.set_cons_succ,i64_w,i32_w]
          rfl
         refine one_ (i:=5) (N:=some 42) #[true,true,true,true,true,true] rfl rfl (by kernel_rfl) (by decide) (fun K hK=>?_)
         refine goes_ Try.func161 (by kernel_rfl) rfl #[.agg #[.int .i64 a1_0,.int .i64 a1_1],.agg #[.int .i64 ((rd_T45 l0 x8_2).f0),.int .i64 ((rd_T45 l0 x8_2).f1)]] (by rfl) rfl rfl (by (try simp only [List.map_toArray,List.map_cons,List.map_nil]);first|done|rfl|(simp only [List.length_drop,List.length_take];rfl)) ?_
         with_reducible refine (spec_l11Dominates.calls a1_0 a1_1 ((rd_T45 l0 x8_2).f0) ((rd_T45 l0 x8_2).f1) true _ A22.out).mono ?_
         rintro e w25 ⟨rfl,hb⟩
         have HS2_:=(hb.cell (World.block_lt_of_cell? _ _ (hHeld.2.2.1))).trans (hHeld.2.2.1)
         have HS3_:=(hb.cell (World.block_lt_of_cell? _ _ (hHeld.2.2.2))).trans (hHeld.2.2.2)
         refine ⟨_,rfl,?_⟩
         have n0_:=Aside0.mk (Kd.R_below (by (with_reducible repeat (first|apply Kd.R_alloc|apply Kd.R_drewN|apply Kd.R_drew));exact HO_0.out) hb)
         have n1_:=Aside0.mk (Kd.R_below (by (with_reducible repeat (first|apply Kd.R_alloc|apply Kd.R_drewN|apply Kd.R_drew));exact HO_5.out) hb)
         have n2_:=Aside0.mk (blk_below (g:=gb141) (o:=.cells #[.int .i64 a1_0,.int .i64 a1_1] 45 (0,0)) (by (with_reducible repeat (first|refine blk_drewN ?_ _|refine blk_drew ?_|refine blk_alloc ?_ _));exact BK141.out) hb)
         have n3_:=Aside0.mk (Kept.below (S:=(fun k_=>P0_ k_)) (by repeat (first|(with_reducible first|exact HK.out|apply Kept.alloc|apply Kept.drewN|apply Kept.drew|refine Kept.setCell ?_ (.inr GW141.out) _)|exact HK.out)) hb)
         have n4_:=Aside0.mk (below_step (by repeat (first|(with_reducible first|exact HB.out|apply below_alloc|apply pw_below_drewN|apply below_drew1|refine below_set ?_ GE141.out)|exact HB.out)) hb)
         clear HO_0
         clear HO_5
         clear BK141
         clear HK
         clear HB
         have HO_0:=n0_
         have HO_5:=n1_
         have BK141:=n2_
         have HK:=n3_
         have HB:=n4_
         clear n0_ n1_ n2_ n3_ n4_
         (try clear hb)
         (try clear hb2)
         (try clear hk)
         (try clear hi)
         refine hK.out _ _ ⟨(blk_cell BK141.out 0).trans rfl,(blk_cell BK141.out 1).trans rfl,HS2_,HS3_⟩ (fun hHeld=>?_)
         clear hK K
         refine norm_ (a':=?_) ?_ ?_
         rotate_left
         ·show Act.put _ (some 42) _=_
          simp only [Act.put,List.setIfInBounds_toArray,List.set_cons_zero,List.set_cons_succ,i64_w,i32_w]
          rfl
         refine done_ (by kernel_rfl) ?_
         try go_wp2
         go_roundg k2
         case measure=>have:=HK1.out;have:=HK2.out;omega
         case rel=>exact ⟨(x5_2),(x7_2),(wrap64 (x8_2 + 1)),(by first|rfl|(simp;done)|(simp [*];done)),(by first|rfl|(simp;done)|(simp [*];done)),H',⟨by have:=HK1.out;have:=HK2.out;omega⟩,⟨by (with_reducible repeat (first|apply Kd.R_alloc|apply Kd.R_drewN|apply Kd.R_drew));exact HO_0.out⟩,⟨by (with_reducible repeat (first|apply Kd.R_alloc|apply Kd.R_drewN|apply Kd.R_drew));exact HO_5.out⟩,⟨by (with_reducible repeat (first|refine blk_drewN ?_ _|refine blk_drew ?_|refine blk_alloc ?_ _));exact BK141.out⟩,⟨by repeat (first|(with_reducible first|exact HK.out|apply Kept.alloc|apply Kept.drewN|apply Kept.drew|refine Kept.setCell ?_ (.inr GW141.out) _)|exact HK.out)⟩,⟨by repeat (first|(with_reducible first|exact HB.out|apply below_alloc|apply pw_below_drewN|apply below_drew1|refine below_set ?_ GE141.out)|exact HB.out)⟩⟩
        ·replace c23:=Bool.eq_false_iff.mpr c23
         subst c23
         have H1:(if x7_2=true then (if x5_2.length<8796093022208 then (spec_l11Put.l1 k2 l0 (x5_2++[(⟨(rd_T45 l0 x8_2).f0,(rd_T45 l0 x8_2).f1⟩:S45)]) x7_2 (wrap64 (x8_2 + 1)) a1_0 a1_1) else (none)) else (if ((rd_T45 l0 x8_2).f0)>a1_0 then (if x5_2.length<8796093022208 then ((some (x5_2++[(⟨a1_0,a1_1⟩:S45)]:List (S45))).bind fun y158=>(if y158.length<8796093022208 then (spec_l11Put.l1 k2 l0 (y158++[(⟨(rd_T45 l0 x8_2).f0,(rd_T45 l0 x8_2).f1⟩:S45)]) true (wrap64 (x8_2 + 1)) a1_0 a1_1) else (none))) else (none)) else (if x5_2.length<8796093022208 then (spec_l11Put.l1 k2 l0 (x5_2++[(⟨(rd_T45 l0 x8_2).f0,(rd_T45 l0 x8_2).f1⟩:S45)]) x7_2 (wrap64 (x8_2 + 1)) a1_0 a1_1) else (none))))=some r:=by rw [if_neg (show ¬ (false=true) by decide)] at H;exact H
         clear H
         have H:=H1
         clear H1
         by_cases c26:x7_2=true
         ·subst c26
          have H1:(if x5_2.length<8796093022208 then (spec_l11Put.l1 k2 l0 (x5_2++[(⟨(rd_T45 l0 x8_2).f0,(rd_T45 l0 x8_2).f1⟩:S45)]) true (wrap64 (x8_2 + 1)) a1_0 a1_1) else (none))=some r:=by rw [if_pos rfl] at H;exact H
          clear H
          have H:=H1
          clear H1
          by_cases c27:x5_2.length<8796093022208
          ·rw [if_pos c27] at H
           have LMc27:=Aside0.mk c27
           clear c27
           obtain ⟨y154,hy154⟩:∃ y_:List (S45),y_=(x5_2++[(⟨(rd_T45 l0 x8_2).f0,(rd_T45 l0 x8_2).f1⟩:S45)]):=⟨_,rfl⟩
           replace H:(spec_l11Put.l1 k2 l0 y154 true (wrap64 (x8_2 + 1)) a1_0 a1_1)=some r:=by first|(rw [hy154];with_reducible exact H)|(have H2_:=(Option.bind_some _ _).symm.trans H;rw [hy154];with_reducible exact H2_)|(have H2_:=(Option.bind_some _ _).symm.trans H;with_reducible exact H2_)|with_reducible exact H|(rw [hy154];exact H)|exact H
           have Ny154:=Aside0.mk hy154
           clear hy154
           have H':=Aside0.mk H
           clear H
           try go_wp2
           have n0_:=Aside0.mk (Kd.R_drew HO_0.out)
           have n1_:=Aside0.mk (Kd.R_drew HO_5.out)
           have n2_:=Aside0.mk (blk_drew BK141.out)
           have n3_:=Aside0.mk (Kept.drew HK.out)
           have n4_:=Aside0.mk (below_drew1 HB.out)
           clear HO_0
           clear HO_5
           clear BK141
           clear HK
           clear HB
           have HO_0:=n0_
           have HO_5:=n1_
           have BK141:=n2_
           have HK:=n3_
           have HB:=n4_
           clear n0_ n1_ n2_ n3_ n4_
           have p151:0≤(x8_2:Int):=of_decide_eq_true (by first|(with_reducible assumption)|assumption)
           have q151:x8_2<(l0.length:Int):=of_decide_eq_true (by first|(with_reducible assumption)|assumption)
           obtain ⟨ad151,e151,hx151_0,hx151_1⟩:=at_T45 (Kd.R_reads' HO_0.out).2.2 x8_2 p151 q151
           cases e151
           replace p151:=eq_true p151
           replace q151:=eq_true q151
           refine start_ (n:=6) (S:=fun w'=>w'.cell? ⟨gb141,0,none⟩=some (.int .i64 a1_0)∧w'.cell? ⟨gb141,1,none⟩=some (.int .i64 a1_1)∧w'.cell? (ad151.add ((x8_2).toNat * 2))=some (.int .i64 ((rd_T45 l0 x8_2).f0))∧w'.cell? ⟨(ad151.add ((x8_2).toNat * 2)).block,(ad151.add ((x8_2).toNat * 2)).off + 1,none⟩=some (.int .i64 ((rd_T45 l0 x8_2).f1))) (ds:=[]) #[false,false,false,false,false,false] (by kernel_rfl) rfl rfl ⟨(blk_cell BK141.out 0).trans rfl,(blk_cell BK141.out 1).trans rfl,hx151_0,hx151_1⟩ (fun hHeld=>?_)
           generalize wr.drew=w28 at HO_0 HO_5 BK141 HK HB hx151_0 hx151_1 hHeld ⊢
           refine pure_ (i:=1) (N:=some 38) (v:=?_) (a':=?_) #[false,true,false,false,false,false] rfl rfl (by kernel_rfl) (fun _ _ _ h=>h) (Or.inl ⟨by rfl,?_⟩) ?_ ?_
           rotate_left
           ·intro w'
            go_simp
            with_reducible rfl
           rotate_left
           ·simp only [Act.put,List.setIfInBounds_toArray,List.set_cons_zero,List.set_cons_succ,i64_w,i32_w]
            rfl
           refine pure_ (i:=2) (N:=some 39) (v:=?_) (a':=?_) #[false,true,true,false,false,false] rfl rfl (by kernel_rfl) (fun _ _ _ h=>h) (Or.inl ⟨by rfl,?_⟩) ?_ ?_
           rotate_left
           ·intro w'
            go_simp
            with_reducible rfl
           rotate_left
           ·simp only [Act.put,List.setIfInBounds_toArray,List.set_cons_zero,List.set_cons_succ,i64_w,i32_w]
            rfl
           refine pure_ (i:=3) (N:=some 40) (v:=?_) (a':=?_) #[false,true,true,true,false,false] rfl rfl (by kernel_rfl) (fun _ _ _ h=>h) (Or.inl ⟨by rfl,?_⟩) ?_ ?_
           rotate_left
           ·intro w'
            go_simp
            with_reducible rfl
           rotate_left
           ·simp only [Act.put,List.setIfInBounds_toArray,List.set_cons_zero,List.set_cons_succ,i64_w,i32_w]
            rfl
           refine take_ (i:=0) (N:=some 37) (v:=?_) (a':=?_) #[true,true,true,true,false,false] rfl rfl (by kernel_rfl) (fun _ _ _ h=>h) (Or.inl ⟨by rfl,?_⟩) hHeld ?_ ?_
           rotate_left
           ·rintro w' ⟨s0,s1,s2,s3⟩
            go_simp
            with_reducible rfl
           rotate_left
           ·simp only [Act.put,List.setIfInBounds_toArray,List.set_cons_zero,List.set_cons_succ,i64_w,i32_w]
            rfl
           refine take_ (i:=4) (N:=some 41) (v:=?_) (a':=?_) #[true,true,true,true,true,false] rfl rfl (by kernel_rfl) (fun _ _ _ h=>h) (Or.inl ⟨by rfl,?_⟩) hHeld ?_ ?_
           rotate_left
           ·rintro w' ⟨s0,s1,s2,s3⟩
            go_simp
            with_reducible rfl
           rotate_left
           ·simp only [Act.put,List.setIfInBounds_toArray,List.set_cons_zero,List.set_cons_succ,i64_w,i32_w]
            rfl
           refine one_ (i:=5) (N:=some 42) #[true,true,true,true,true,true] rfl rfl (by kernel_rfl) (by decide) (fun K hK=>?_)
           refine goes_ Try.func161 (by kernel_rfl) rfl #[.agg #[.int .i64 a1_0,.int .i64 a1_1],.agg #[.int .i64 ((rd_T45 l0 x8_2).f0),.int .i64 ((rd_T45 l0 x8_2).f1)]] (by rfl) rfl rfl (by (try simp only [List.map_toArray,List.map_cons,List.map_nil]);first|done|rfl|(simp only [List.length_drop,List.length_take];rfl)) ?_
           with_reducible refine (spec_l11Dominates.calls a1_0 a1_1 ((rd_T45 l0 x8_2).f0) ((rd_T45 l0 x8_2).f1) false _ A22.out).mono ?_
           rintro e w29 ⟨rfl,hb⟩
           have HS2_:=(hb.cell (World.block_lt_of_cell? _ _ (hHeld.2.2.1))).trans (hHeld.2.2.1)
           have HS3_:=(hb.cell (World.block_lt_of_cell? _ _ (hHeld.2.2.2))).trans (hHeld.2.2.2)
           refine ⟨_,rfl,?_⟩
           have n0_:=Aside0.mk (Kd.R_below (by (with_reducible repeat (first|apply Kd.R_alloc|apply Kd.R_drewN|apply Kd.R_drew));exact HO_0.out) hb)
           have n1_:=Aside0.mk (Kd.R_below (by (with_reducible repeat (first|apply Kd.R_alloc|apply Kd.R_drewN|apply Kd.R_drew));exact HO_5.out) hb)
           have n2_:=Aside0.mk (blk_below (g:=gb141) (o:=.cells #[.int .i64 a1_0,.int .i64 a1_1] 45 (0,0)) (by (with_reducible repeat (first|refine blk_drewN ?_ _|refine blk_drew ?_|refine blk_alloc ?_ _));exact BK141.out) hb)
           have n3_:=Aside0.mk (Kept.below (S:=(fun k_=>P0_ k_)) (by repeat (first|(with_reducible first|exact HK.out|apply Kept.alloc|apply Kept.drewN|apply Kept.drew|refine Kept.setCell ?_ (.inr GW141.out) _)|exact HK.out)) hb)
           have n4_:=Aside0.mk (below_step (by repeat (first|(with_reducible first|exact HB.out|apply below_alloc|apply pw_below_drewN|apply below_drew1|refine below_set ?_ GE141.out)|exact HB.out)) hb)
           clear HO_0
           clear HO_5
           clear BK141
           clear HK
           clear HB
           have HO_0:=n0_
           have HO_5:=n1_
           have BK141:=n2_
           have HK:=n3_
           have HB:=n4_
           clear n0_ n1_ n2_ n3_ n4_
           (try clear hb)
           (try clear hb2)
           (try clear hk)
           (try clear hi)
           refine hK.out _ _ ⟨(blk_cell BK141.out 0).trans rfl,(blk_cell BK141.out 1).trans rfl,HS2_,HS3_⟩ (fun hHeld=>?_)
           clear hK K
           refine norm_ (a':=?_) ?_ ?_
           rotate_left
           ·show Act.put _ (some 42) _=_
            simp only [Act.put,List.setIfInBounds_toArray,List.set_cons_zero,List.set_cons_succ,i64_w,i32_w]
            rfl
           refine done_ (by kernel_rfl) ?_
           try go_wp2
           have n0_:=Aside0.mk (Kd.R_drew HO_0.out)
           have n1_:=Aside0.mk (Kd.R_drew HO_5.out)
           have n2_:=Aside0.mk (blk_drew BK141.out)
           have n3_:=Aside0.mk (Kept.drew HK.out)
           have n4_:=Aside0.mk (below_drew1 HB.out)
           clear HO_0
           clear HO_5
           clear BK141
           clear HK
           clear HB
           have HO_0:=n0_
           have HO_5:=n1_
           have BK141:=n2_
           have HK:=n3_
           have HB:=n4_
           clear n0_ n1_ n2_ n3_ n4_
           refine start_ (n:=12) (S:=fun w'=>True) (ds:=[]) #[false,false,false,false,false,false,false,false,false,false,false,false] (by kernel_rfl) rfl rfl trivial (fun hHeld=>?_);refine with_tabW spec_l11Put.tab12 spec_l11Put.bits12 (fun HT_ HW_=>?_)
           generalize w29.drew=w30 at HO_0 HO_5 BK141 HK HB hHeld ⊢
           refine pure_ (i:=0) (N:=some 43) (v:=?_) (a':=?_) #[true,false,false,false,false,false,false,false,false,false,false,false] rfl rfl (any_of HT_.out (by kernel_rfl)) (fun _ _ _ h=>h) (Or.inl ⟨by rfl,?_⟩) ?_ ?_
           rotate_left
           ·intro w'
            go_simp
            with_reducible rfl
           rotate_left
           ·simp only [Act.put,List.setIfInBounds_toArray,List.set_cons_zero,List.set_cons_succ,i64_w,i32_w]
            rfl
           refine pure_ (i:=1) (N:=some 44) (v:=?_) (a':=?_) #[true,true,false,false,false,false,false,false,false,false,false,false] rfl rfl (any_of HT_.out (by kernel_rfl)) (fun _ _ _ h=>h) (Or.inl ⟨by rfl,?_⟩) ?_ ?_
           rotate_left
           ·intro w'
            go_simp
            with_reducible rfl
           rotate_left
           ·simp only [Act.put,List.setIfInBounds_toArray,List.set_cons_zero,List.set_cons_succ,i64_w,i32_w]
            rfl
           refine pure_ (i:=2) (N:=some 45) (v:=?_) (a':=?_) #[true,true,true,false,false,false,false,false,false,false,false,false] rfl rfl (any_of HT_.out (by kernel_rfl)) (fun _ _ _ h=>h) (Or.inl ⟨by rfl,?_⟩) ?_ ?_
           rotate_left
           ·intro w'
            go_simp
            with_reducible rfl
           rotate_left
           ·simp only [Act.put,List.setIfInBounds_toArray,List.set_cons_zero,List.set_cons_succ,i64_w,i32_w]
            rfl
           refine pure_ (i:=3) (N:=some 46) (v:=undef) (a':=?_) #[true,true,true,true,false,false,false,false,false,false,false,false] rfl rfl (any_of HT_.out (by kernel_rfl)) (fun _ _ _ h=>h) (Or.inr ⟨by rfl,rfl⟩) ?_ ?_
           rotate_left
           ·simp only [Act.put,List.setIfInBounds_toArray,List.set_cons_zero,List.set_cons_succ,i64_w,i32_w]
            rfl
           refine pure_ (i:=4) (N:=some 47) (v:=undef) (a':=?_) #[true,true,true,true,true,false,false,false,false,false,false,false] rfl rfl (any_of HT_.out (by kernel_rfl)) (fun _ _ _ h=>h) (Or.inr ⟨by rfl,rfl⟩) ?_ ?_
           rotate_left
           ·simp only [Act.put,List.setIfInBounds_toArray,List.set_cons_zero,List.set_cons_succ,i64_w,i32_w]
            rfl
           refine pure_ (i:=5) (N:=some 48) (v:=undef) (a':=?_) #[true,true,true,true,true,true,false,false,false,false,false,false] rfl rfl (any_of HT_.out (by kernel_rfl)) (fun _ _ _ h=>h) (Or.inr ⟨by rfl,rfl⟩) ?_ ?_
           rotate_left
           ·simp only [Act.put,List.setIfInBounds_toArray,List.set_cons_zero,List.set_cons_succ,i64_w,i32_w]
            rfl
           refine pure_ (i:=6) (N:=some 49) (v:=undef) (a':=?_) #[true,true,true,true,true,true,true,false,false,false,false,false] rfl rfl (any_of HT_.out (by kernel_rfl)) (fun _ _ _ h=>h) (Or.inr ⟨by rfl,rfl⟩) ?_ ?_
           rotate_left
           ·simp only [Act.put,List.setIfInBounds_toArray,List.set_cons_zero,List.set_cons_succ,i64_w,i32_w]
            rfl
           refine pure_ (i:=7) (N:=some 50) (v:=undef) (a':=?_) #[true,true,true,true,true,true,true,true,false,false,false,false] rfl rfl (any_of HT_.out (by kernel_rfl)) (fun _ _ _ h=>h) (Or.inr ⟨by rfl,rfl⟩) ?_ ?_
           rotate_left
           ·simp only [Act.put,List.setIfInBounds_toArray,List.set_cons_zero,List.set_cons_succ,i64_w,i32_w]
            rfl
           refine pure_ (i:=8) (N:=some 51) (v:=undef) (a':=?_) #[true,true,true,true,true,true,true,true,true,false,false,false] rfl rfl (any_of HT_.out (by kernel_rfl)) (fun _ _ _ h=>h) (Or.inr ⟨by rfl,rfl⟩) ?_ ?_
           rotate_left
           ·simp only [Act.put,List.setIfInBounds_toArray,List.set_cons_zero,List.set_cons_succ,i64_w,i32_w]
            rfl
           refine pure_ (i:=9) (N:=some 52) (v:=undef) (a':=?_) #[true,true,true,true,true,true,true,true,true,true,false,false] rfl rfl (any_of HT_.out (by kernel_rfl)) (fun _ _ _ h=>h) (Or.inr ⟨by rfl,rfl⟩) ?_ ?_
           rotate_left
           ·simp only [Act.put,List.setIfInBounds_toArray,List.set_cons_zero,List.set_cons_succ,i64_w,i32_w]
            rfl
           refine pure_ (i:=10) (N:=some 53) (v:=undef) (a':=?_) #[true,true,true,true,true,true,true,true,true,true,true,false] rfl rfl (any_of HT_.out (by kernel_rfl)) (fun _ _ _ h=>h) (Or.inr ⟨by rfl,rfl⟩) ?_ ?_
           rotate_left
           ·simp only [Act.put,List.setIfInBounds_toArray,List.set_cons_zero,List.set_cons_succ,i64_w,i32_w]
            rfl
           refine pure_ (i:=11) (N:=some 54) (v:=?_) (a':=?_) #[true,true,true,true,true,true,true,true,true,true,true,true] rfl rfl (any_of HT_.out (by kernel_rfl)) (fun _ _ _ h=>h) (Or.inl ⟨by rfl,?_⟩) ?_ ?_
           rotate_left
           ·intro w'
            go_simp
            with_reducible rfl
           rotate_left
           ·simp only [Act.put,List.setIfInBounds_toArray,List.set_cons_zero,List.set_cons_succ,i64_w,i32_w]
            rfl
           refine done_ (done_of HT_.out (by kernel_rfl)) ?_
           have p153:0≤(x8_2:Int):=of_decide_eq_true (by first|(with_reducible assumption)|assumption)
           have q153:x8_2<(l0.length:Int):=of_decide_eq_true (by first|(with_reducible assumption)|assumption)
           obtain ⟨ad153,e153,hx153_0,hx153_1⟩:=at_T45 (Kd.R_reads' HO_0.out).2.2 x8_2 p153 q153
           obtain rfl:ad151=ad153:=(by injection e153)
           replace p153:=eq_true p153
           replace q153:=eq_true q153
           try go_wp2_with (first|((with_reducible refine gate_builtin (b:=.append) (xs:=#[.tmp 59,.tmp 64]) rfl ?_);at_builtin;refine Kd.R_append k45 (w0:=w0) w0.heap.size rfl (.tmp 59) (.tmp 64) 36 45 (.agg #[(.int .i64 0),(.int .i64 0)]) 16 rfl Try.underlying36 info45 rfl (by decide) (by omega) u5 x5_2 (⟨(rd_T45 l0 x8_2).f0,(rd_T45 l0 x8_2).f1⟩:S45) [.int .i64 ((rd_T45 l0 x8_2).f0),.int .i64 ((rd_T45 l0 x8_2).f1)] (fun k_=>(P0_ k_∨w.heap.size≤k_)∧some k_≠(.slice (some ad151) l0.length co19:Value).ownBlock∧k_≠gb141) (fun _=>False) rfl rfl ?aP (fun _ hk=>hk.elim) ?aF ?aO ?aB ?aS ?aL ?_;(case aP=>exact k45_mkM _ _ _ (⟨(rd_T45 l0 x8_2).f0,(rd_T45 l0 x8_2).f1⟩:S45));(case aB=>exact (by repeat (first|(with_reducible first|exact HB.out|apply below_alloc|apply pw_below_drewN|apply below_drew1|refine below_set ?_ GE141.out)|exact HB.out)));(case aF=>exact (fun k_ hk=>⟨(.inr (Nat.le_trans (by first|exact HK.out.1|exact (show Kept w _ (fun k_=>P0_ k_) from by repeat (first|(with_reducible first|exact HK.out|apply Kept.alloc|apply Kept.drewN|apply Kept.drew|refine Kept.setCell ?_ (.inr GW141.out) _)|exact HK.out)).1) hk)),Kd.fresh' (Kd.R_lt (by (with_reducible repeat (first|apply Kd.R_alloc|apply Kd.R_drewN|apply Kd.R_drew));exact HO_0.out)) k_ hk,Kd.freshB (g:=gb141) (o:=.cells #[.int .i64 a1_0,.int .i64 a1_1] 45 (0,0)) (by (with_reducible repeat (first|refine blk_drewN ?_ _|refine blk_drew ?_|refine blk_alloc ?_ _));exact BK141.out) k_ hk⟩));(case aO=>exact (by (with_reducible repeat (first|apply Kd.R_alloc|apply Kd.R_drewN|apply Kd.R_drew));exact HO_5.out));(case aS=>exact (below_size (by repeat (first|(with_reducible first|exact HB.out|apply below_alloc|apply pw_below_drewN|apply below_drew1|refine below_set ?_ GE141.out)|exact HB.out))));(case aL=>have:=LMc27.out;omega);intro v155 w31 ho hb hg hat;rw [←Ny154.out] at ho;have n0_:=Aside0.mk (Kd.R_after (ok:=(fun k_=>(P0_ k_∨w.heap.size≤k_)∧k_≠gb141)) (by (with_reducible repeat (first|apply Kd.R_alloc|apply Kd.R_drewN|apply Kd.R_drew));exact Kd.R_mono HO_0.out (fun _ hk=>⟨⟨hk.1,hk.2.2⟩,hk.2.1⟩)) hg hat);have n1_:=Aside0.mk (blk_grown (g:=gb141) (o:=.cells #[.int .i64 a1_0,.int .i64 a1_1] 45 (0,0)) (by (with_reducible repeat (first|refine blk_drewN ?_ _|refine blk_drew ?_|refine blk_alloc ?_ _));exact BK141.out) hg (Kd.R_away HO_5.out (fun _ hk=>hk.2.2)));have n2_:=Aside0.mk (hb);have n3_:=Aside0.mk (Kept.of_grown (S:=(fun k_=>P0_ k_)) hg (by repeat (first|(with_reducible first|exact HK.out|apply Kept.alloc|apply Kept.drewN|apply Kept.drew|refine Kept.setCell ?_ (.inr GW141.out) _)|exact HK.out)) (fun k_ e_=>(HO_5.out.1 k_ e_).1));have n4_:=Aside0.mk (ho);clear HO_0;clear BK141;clear HB;clear HK;clear HO_5;have HO_0:=n0_;have BK141:=n1_;have HB:=n2_;have HK:=n3_;have HO156:=n4_;clear n0_ n1_ n2_ n3_ n4_;clear ho hb hg hat))
           go_roundg k2
           case measure=>have:=HK1.out;have:=HK2.out;omega
           case rel=>exact ⟨(y154),(true),(wrap64 (x8_2 + 1)),(by first|rfl|(simp;done)|(simp [*];done)),(by first|rfl|(simp;done)|(simp [*];done)),H',⟨by have:=HK1.out;have:=HK2.out;omega⟩,⟨by (with_reducible repeat (first|apply Kd.R_alloc|apply Kd.R_drewN|apply Kd.R_drew));exact Kd.R_mono HO_0.out (fun _ hk=>⟨hk.1.1,⟨hk.2,hk.1.2⟩⟩)⟩,⟨by (with_reducible repeat (first|apply Kd.R_alloc|apply Kd.R_drewN|apply Kd.R_drew));exact HO156.out⟩,⟨by (with_reducible repeat (first|refine blk_drewN ?_ _|refine blk_drew ?_|refine blk_alloc ?_ _));exact BK141.out⟩,⟨by repeat (first|(with_reducible first|exact HK.out|apply Kept.alloc|apply Kept.drewN|apply Kept.drew|refine Kept.setCell ?_ (.inr GW141.out) _)|exact HK.out)⟩,⟨by repeat (first|(with_reducible first|exact HB.out|apply below_alloc|apply pw_below_drewN|apply below_drew1|refine below_set ?_ GE141.out)|exact HB.out)⟩⟩
          ·rw [if_neg c27] at H
           exact absurd H (by simp)
         ·replace c26:=Bool.eq_false_iff.mpr c26
          subst c26
          have H1:(if ((rd_T45 l0 x8_2).f0)>a1_0 then (if x5_2.length<8796093022208 then ((some (x5_2++[(⟨a1_0,a1_1⟩:S45)]:List (S45))).bind fun y158=>(if y158.length<8796093022208 then (spec_l11Put.l1 k2 l0 (y158++[(⟨(rd_T45 l0 x8_2).f0,(rd_T45 l0 x8_2).f1⟩:S45)]) true (wrap64 (x8_2 + 1)) a1_0 a1_1) else (none))) else (none)) else (if x5_2.length<8796093022208 then (spec_l11Put.l1 k2 l0 (x5_2++[(⟨(rd_T45 l0 x8_2).f0,(rd_T45 l0 x8_2).f1⟩:S45)]) false (wrap64 (x8_2 + 1)) a1_0 a1_1) else (none)))=some r:=by rw [if_neg (show ¬ (false=true) by decide)] at H;exact H
          clear H
          have H:=H1
          clear H1
          by_cases c32:((rd_T45 l0 x8_2).f0)>a1_0
          ·rw [if_pos c32] at H
           have c32b0:decide (a1_0<((rd_T45 l0 x8_2).f0))=true:=decide_eq_true c32
           clear c32
           by_cases c33:x5_2.length<8796093022208
           ·rw [if_pos c33] at H
            have LMc33:=Aside0.mk c33
            clear c33
            obtain ⟨y158,hy158⟩:∃ y_:List (S45),y_=(x5_2++[(⟨a1_0,a1_1⟩:S45)]):=⟨_,rfl⟩
            replace H:(if y158.length<8796093022208 then (spec_l11Put.l1 k2 l0 (y158++[(⟨(rd_T45 l0 x8_2).f0,(rd_T45 l0 x8_2).f1⟩:S45)]) true (wrap64 (x8_2 + 1)) a1_0 a1_1) else (none))=some r:=by first|(rw [hy158];with_reducible exact H)|(have H2_:=(Option.bind_some _ _).symm.trans H;rw [hy158];with_reducible exact H2_)|(have H2_:=(Option.bind_some _ _).symm.trans H;with_reducible exact H2_)|with_reducible exact H|(rw [hy158];exact H)|exact H
            have Ny158:=Aside0.mk hy158
            clear hy158
            by_cases c34:y158.length<8796093022208
            ·rw [if_pos c34] at H
             have LMc34:=Aside0.mk c34
             clear c34
             obtain ⟨y162,hy162⟩:∃ y_:List (S45),y_=(y158++[(⟨(rd_T45 l0 x8_2).f0,(rd_T45 l0 x8_2).f1⟩:S45)]):=⟨_,rfl⟩
             replace H:(spec_l11Put.l1 k2 l0 y162 true (wrap64 (x8_2 + 1)) a1_0 a1_1)=some r:=by first|(rw [hy162];with_reducible exact H)|(have H2_:=(Option.bind_some _ _).symm.trans H;rw [hy162];with_reducible exact H2_)|(have H2_:=(Option.bind_some _ _).symm.trans H;with_reducible exact H2_)|with_reducible exact H|(rw [hy162];exact H)|exact H
             have Ny162:=Aside0.mk hy162
             clear hy162
             have H':=Aside0.mk H
             clear H
             try go_wp2
             have n0_:=Aside0.mk (Kd.R_drew HO_0.out)
             have n1_:=Aside0.mk (Kd.R_drew HO_5.out)
             have n2_:=Aside0.mk (blk_drew BK141.out)
             have n3_:=Aside0.mk (Kept.drew HK.out)
             have n4_:=Aside0.mk (below_drew1 HB.out)
             clear HO_0
             clear HO_5
             clear BK141
             clear HK
             clear HB
             have HO_0:=n0_
             have HO_5:=n1_
             have BK141:=n2_
             have HK:=n3_
             have HB:=n4_
             clear n0_ n1_ n2_ n3_ n4_
             have p151:0≤(x8_2:Int):=of_decide_eq_true (by first|(with_reducible assumption)|assumption)
             have q151:x8_2<(l0.length:Int):=of_decide_eq_true (by first|(with_reducible assumption)|assumption)
             obtain ⟨ad151,e151,hx151_0,hx151_1⟩:=at_T45 (Kd.R_reads' HO_0.out).2.2 x8_2 p151 q151
             cases e151
             replace p151:=eq_true p151
             replace q151:=eq_true q151
             refine start_ (n:=6) (S:=fun w'=>w'.cell? ⟨gb141,0,none⟩=some (.int .i64 a1_0)∧w'.cell? ⟨gb141,1,none⟩=some (.int .i64 a1_1)∧w'.cell? (ad151.add ((x8_2).toNat * 2))=some (.int .i64 ((rd_T45 l0 x8_2).f0))∧w'.cell? ⟨(ad151.add ((x8_2).toNat * 2)).block,(ad151.add ((x8_2).toNat * 2)).off + 1,none⟩=some (.int .i64 ((rd_T45 l0 x8_2).f1))) (ds:=[]) #[false,false,false,false,false,false] (by kernel_rfl) rfl rfl ⟨(blk_cell BK141.out 0).trans rfl,(blk_cell BK141.out 1).trans rfl,hx151_0,hx151_1⟩ (fun hHeld=>?_)
             generalize wr.drew=w35 at HO_0 HO_5 BK141 HK HB hx151_0 hx151_1 hHeld ⊢
             refine pure_ (i:=1) (N:=some 38) (v:=?_) (a':=?_) #[false,true,false,false,false,false] rfl rfl (by kernel_rfl) (fun _ _ _ h=>h) (Or.inl ⟨by rfl,?_⟩) ?_ ?_
             rotate_left
             ·intro w'
              go_simp
              with_reducible rfl
             rotate_left
             ·simp only [Act.put,List.setIfInBounds_toArray,List.set_cons_zero,List.set_cons_succ,i64_w,i32_w]
              rfl
             refine pure_ (i:=2) (N:=some 39) (v:=?_) (a':=?_) #[false,true,true,false,false,false] rfl rfl (by kernel_rfl) (fun _ _ _ h=>h) (Or.inl ⟨by rfl,?_⟩) ?_ ?_
             rotate_left
             ·intro w'
              go_simp
              with_reducible rfl
             rotate_left
             ·simp only [Act.put,List.setIfInBounds_toArray,List.set_cons_zero,List.set_cons_succ,i64_w,i32_w]
              rfl
             refine pure_ (i:=3) (N:=some 40) (v:=?_) (a':=?_) #[false,true,true,true,false,false] rfl rfl (by kernel_rfl) (fun _ _ _ h=>h) (Or.inl ⟨by rfl,?_⟩) ?_ ?_
             rotate_left
             ·intro w'
              go_simp
              with_reducible rfl
             rotate_left
             ·simp only [Act.put,List.setIfInBounds_toArray,List.set_cons_zero,List.set_cons_succ,i64_w,i32_w]
              rfl
             refine take_ (i:=0) (N:=some 37) (v:=?_) (a':=?_) #[true,true,true,true,false,false] rfl rfl (by kernel_rfl) (fun _ _ _ h=>h) (Or.inl ⟨by rfl,?_⟩) hHeld ?_ ?_
             rotate_left
             ·rintro w' ⟨s0,s1,s2,s3⟩
              go_simp
              with_reducible rfl
             rotate_left
             ·simp only [Act.put,List.setIfInBounds_toArray,List.set_cons_zero,List.set_cons_succ,i64_w,i32_w]
              rfl
             refine take_ (i:=4) (N:=some 41) (v:=?_) (a':=?_) #[true,true,true,true,true,false] rfl rfl (by kernel_rfl) (fun _ _ _ h=>h) (Or.inl ⟨by rfl,?_⟩) hHeld ?_ ?_
             rotate_left
             ·rintro w' ⟨s0,s1,s2,s3⟩
              go_simp
              with_reducible rfl
             rotate_left
             ·simp only [Act.put,List.setIfInBounds_toArray,List.set_cons_zero,List.set_cons_succ,i64_w,i32_w]
              rfl
             refine one_ (i:=5) (N:=some 42) #[true,true,true,true,true,true] rfl rfl (by kernel_rfl) (by decide) (fun K hK=>?_)
             refine goes_ Try.func161 (by kernel_rfl) rfl #[.agg #[.int .i64 a1_0,.int .i64 a1_1],.agg #[.int .i64 ((rd_T45 l0 x8_2).f0),.int .i64 ((rd_T45 l0 x8_2).f1)]] (by rfl) rfl rfl (by (try simp only [List.map_toArray,List.map_cons,List.map_nil]);first|done|rfl|(simp only [List.length_drop,List.length_take];rfl)) ?_
             with_reducible refine (spec_l11Dominates.calls a1_0 a1_1 ((rd_T45 l0 x8_2).f0) ((rd_T45 l0 x8_2).f1) false _ A22.out).mono ?_
             rintro e w36 ⟨rfl,hb⟩
             have HS2_:=(hb.cell (World.block_lt_of_cell? _ _ (hHeld.2.2.1))).trans (hHeld.2.2.1)
             have HS3_:=(hb.cell (World.block_lt_of_cell? _ _ (hHeld.2.2.2))).trans (hHeld.2.2.2)
             refine ⟨_,rfl,?_⟩
             have n0_:=Aside0.mk (Kd.R_below (by (with_reducible repeat (first|apply Kd.R_alloc|apply Kd.R_drewN|apply Kd.R_drew));exact HO_0.out) hb)
             have n1_:=Aside0.mk (Kd.R_below (by (with_reducible repeat (first|apply Kd.R_alloc|apply Kd.R_drewN|apply Kd.R_drew));exact HO_5.out) hb)
             have n2_:=Aside0.mk (blk_below (g:=gb141) (o:=.cells #[.int .i64 a1_0,.int .i64 a1_1] 45 (0,0)) (by (with_reducible repeat (first|refine blk_drewN ?_ _|refine blk_drew ?_|refine blk_alloc ?_ _));exact BK141.out) hb)
             have n3_:=Aside0.mk (Kept.below (S:=(fun k_=>P0_ k_)) (by repeat (first|(with_reducible first|exact HK.out|apply Kept.alloc|apply Kept.drewN|apply Kept.drew|refine Kept.setCell ?_ (.inr GW141.out) _)|exact HK.out)) hb)
             have n4_:=Aside0.mk (below_step (by repeat (first|(with_reducible first|exact HB.out|apply below_alloc|apply pw_below_drewN|apply below_drew1|refine below_set ?_ GE141.out)|exact HB.out)) hb)
             clear HO_0
             clear HO_5
             clear BK141
             clear HK
             clear HB
             have HO_0:=n0_
             have HO_5:=n1_
             have BK141:=n2_
             have HK:=n3_
             have HB:=n4_
             clear n0_ n1_ n2_ n3_ n4_
             (try clear hb)
             (try clear hb2)
             (try clear hk)
             (try clear hi)
             refine hK.out _ _ ⟨(blk_cell BK141.out 0).trans rfl,(blk_cell BK141.out 1).trans rfl,HS2_,HS3_⟩ (fun hHeld=>?_)
             clear hK K
             refine norm_ (a':=?_) ?_ ?_
             rotate_left
             ·show Act.put _ (some 42) _=_
              simp only [Act.put,List.setIfInBounds_toArray,List.set_cons_zero,List.set_cons_succ,i64_w,i32_w]
              rfl
             refine done_ (by kernel_rfl) ?_
             try go_wp2
             have n0_:=Aside0.mk (Kd.R_drew HO_0.out)
             have n1_:=Aside0.mk (Kd.R_drew HO_5.out)
             have n2_:=Aside0.mk (blk_drew BK141.out)
             have n3_:=Aside0.mk (Kept.drew HK.out)
             have n4_:=Aside0.mk (below_drew1 HB.out)
             clear HO_0
             clear HO_5
             clear BK141
             clear HK
             clear HB
             have HO_0:=n0_
             have HO_5:=n1_
             have BK141:=n2_
             have HK:=n3_
             have HB:=n4_
             clear n0_ n1_ n2_ n3_ n4_
             have p157:0≤(x8_2:Int):=of_decide_eq_true (by first|(with_reducible assumption)|assumption)
             have q157:x8_2<(l0.length:Int):=of_decide_eq_true (by first|(with_reducible assumption)|assumption)
             obtain ⟨ad157,e157,hx157_0,hx157_1⟩:=at_T45 (Kd.R_reads' HO_0.out).2.2 x8_2 p157 q157
             obtain rfl:ad151=ad157:=(by injection e157)
             replace p157:=eq_true p157
             replace q157:=eq_true q157
             refine start_ (n:=12) (S:=fun w'=>w'.cell? ⟨gb141,0,none⟩=some (.int .i64 a1_0)∧w'.cell? ⟨gb141,1,none⟩=some (.int .i64 a1_1)∧w'.cell? (ad151.add ((x8_2).toNat * 2))=some (.int .i64 ((rd_T45 l0 x8_2).f0))∧w'.cell? ⟨(ad151.add ((x8_2).toNat * 2)).block,(ad151.add ((x8_2).toNat * 2)).off + 1,none⟩=some (.int .i64 ((rd_T45 l0 x8_2).f1))) (ds:=[]) #[false,false,false,false,false,false,false,false,false,false,false,false] (by kernel_rfl) rfl rfl ⟨(blk_cell BK141.out 0).trans rfl,(blk_cell BK141.out 1).trans rfl,hx157_0,hx157_1⟩ (fun hHeld=>?_);refine with_tabW spec_l11Put.tab12 spec_l11Put.bits12 (fun HT_ HW_=>?_)
             generalize w36.drew=w37 at HO_0 HO_5 BK141 HK HB hx157_0 hx157_1 hHeld ⊢
             refine pure_ (i:=0) (N:=some 43) (v:=?_) (a':=?_) #[true,false,false,false,false,false,false,false,false,false,false,false] rfl rfl (any_of HT_.out (by kernel_rfl)) (fun _ _ _ h=>h) (Or.inl ⟨by rfl,?_⟩) ?_ ?_
             rotate_left
             ·intro w'
              go_simp
              with_reducible rfl
             rotate_left
             ·simp only [Act.put,List.setIfInBounds_toArray,List.set_cons_zero,List.set_cons_succ,i64_w,i32_w]
              rfl
             refine pure_ (i:=1) (N:=some 44) (v:=?_) (a':=?_) #[true,true,false,false,false,false,false,false,false,false,false,false] rfl rfl (any_of HT_.out (by kernel_rfl)) (fun _ _ _ h=>h) (Or.inl ⟨by rfl,?_⟩) ?_ ?_
             rotate_left
             ·intro w'
              go_simp
              with_reducible rfl
             rotate_left
             ·simp only [Act.put,List.setIfInBounds_toArray,List.set_cons_zero,List.set_cons_succ,i64_w,i32_w]
              rfl
             refine pure_ (i:=2) (N:=some 45) (v:=?_) (a':=?_) #[true,true,true,false,false,false,false,false,false,false,false,false] rfl rfl (any_of HT_.out (by kernel_rfl)) (fun _ _ _ h=>h) (Or.inl ⟨by rfl,?_⟩) ?_ ?_
             rotate_left
             ·intro w'
              go_simp
              with_reducible rfl
             rotate_left
             ·simp only [Act.put,List.setIfInBounds_toArray,List.set_cons_zero,List.set_cons_succ,i64_w,i32_w]
              rfl
             refine pure_ (i:=3) (N:=some 46) (v:=?_) (a':=?_) #[true,true,true,true,false,false,false,false,false,false,false,false] rfl rfl (any_of HT_.out (by kernel_rfl)) (fun _ _ _ h=>h) (Or.inl ⟨by rfl,?_⟩) ?_ ?_
             rotate_left
             ·intro w'
              go_simp
              with_reducible rfl
             rotate_left
             ·simp only [Act.put,List.setIfInBounds_toArray,List.set_cons_zero,List.set_cons_succ,i64_w,i32_w]
              rfl
             refine pure_ (i:=4) (N:=some 47) (v:=?_) (a':=?_) #[true,true,true,true,true,false,false,false,false,false,false,false] rfl rfl (any_of HT_.out (by kernel_rfl)) (fun _ _ _ h=>h) (Or.inl ⟨by rfl,?_⟩) ?_ ?_
             rotate_left
             ·intro w'
              go_simp
              with_reducible rfl
             rotate_left
             ·simp only [Act.put,List.setIfInBounds_toArray,List.set_cons_zero,List.set_cons_succ,i64_w,i32_w]
              rfl
             refine pure_ (i:=5) (N:=some 48) (v:=?_) (a':=?_) #[true,true,true,true,true,true,false,false,false,false,false,false] rfl rfl (any_of HT_.out (by kernel_rfl)) (fun _ _ _ h=>h) (Or.inl ⟨by rfl,?_⟩) ?_ ?_
             rotate_left
             ·intro w'
              go_simp
              with_reducible rfl
             rotate_left
             ·simp only [Act.put,List.setIfInBounds_toArray,List.set_cons_zero,List.set_cons_succ,i64_w,i32_w]
              rfl
             refine pure_ (i:=6) (N:=some 49) (v:=?_) (a':=?_) #[true,true,true,true,true,true,true,false,false,false,false,false] rfl rfl (any_of HT_.out (by kernel_rfl)) (fun _ _ _ h=>h) (Or.inl ⟨by rfl,?_⟩) ?_ ?_
             rotate_left
             ·intro w'
              go_simp
              with_reducible rfl
             rotate_left
             ·simp only [Act.put,List.setIfInBounds_toArray,List.set_cons_zero,List.set_cons_succ,i64_w,i32_w]
              rfl
             refine pure_ (i:=8) (N:=some 51) (v:=?_) (a':=?_) #[true,true,true,true,true,true,true,false,true,false,false,false] rfl rfl (any_of HT_.out (by kernel_rfl)) (fun _ _ _ h=>h) (Or.inl ⟨by rfl,?_⟩) ?_ ?_
             rotate_left
             ·intro w'
              go_simp
              with_reducible rfl
             rotate_left
             ·simp only [Act.put,List.setIfInBounds_toArray,List.set_cons_zero,List.set_cons_succ,i64_w,i32_w]
              rfl
             refine take_ (i:=7) (N:=some 50) (v:=?_) (a':=?_) #[true,true,true,true,true,true,true,true,true,false,false,false] rfl rfl (take_ofW HT_.out HW_.out (by kernel_rfl)) (fun _ _ _ h=>h) (Or.inl ⟨by rfl,?_⟩) hHeld ?_ ?_
             rotate_left
             ·rintro w' ⟨s0,s1,s2,s3⟩
              go_simp
              with_reducible rfl
             rotate_left
             ·simp only [Act.put,List.setIfInBounds_toArray,List.set_cons_zero,List.set_cons_succ,i64_w,i32_w]
              rfl
             refine take_ (i:=9) (N:=some 52) (v:=?_) (a':=?_) #[true,true,true,true,true,true,true,true,true,true,false,false] rfl rfl (take_ofW HT_.out HW_.out (by kernel_rfl)) (fun _ _ _ h=>h) (Or.inl ⟨by rfl,?_⟩) hHeld ?_ ?_
             rotate_left
             ·rintro w' ⟨s0,s1,s2,s3⟩
              go_simp
              with_reducible rfl
             rotate_left
             ·simp only [Act.put,List.setIfInBounds_toArray,List.set_cons_zero,List.set_cons_succ,i64_w,i32_w]
              rfl
             refine pure_ (i:=10) (N:=some 53) (v:=?_) (a':=?_) #[true,true,true,true,true,true,true,true,true,true,true,false] rfl rfl (any_of HT_.out (by kernel_rfl)) (fun _ _ _ h=>h) (Or.inl ⟨by rfl,?_⟩) ?_ ?_
             rotate_left
             ·intro w'
              go_simp
              with_reducible rfl
             rotate_left
             ·simp only [Act.put,List.setIfInBounds_toArray,List.set_cons_zero,List.set_cons_succ,i64_w,i32_w]
              rfl
             refine pure_ (i:=11) (N:=some 54) (v:=?_) (a':=?_) #[true,true,true,true,true,true,true,true,true,true,true,true] rfl rfl (any_of HT_.out (by kernel_rfl)) (fun _ _ _ h=>h) (Or.inl ⟨by rfl,?_⟩) ?_ ?_
             rotate_left
             ·intro w'
              go_simp
              with_reducible rfl
             rotate_left
             ·simp only [Act.put,List.setIfInBounds_toArray,List.set_cons_zero,List.set_cons_succ,i64_w,i32_w]
              rfl
             refine done_ (done_of HT_.out (by kernel_rfl)) ?_
             have hcz38_0:w37.cell? ⟨gb141,0,none⟩=some (.int .i64 a1_0):=(blk_cell BK141.out 0).trans rfl
             have hcz38_1:w37.cell? ⟨gb141,1,none⟩=some (.int .i64 a1_1):=(blk_cell BK141.out 1).trans rfl
             have hfz38_0:=blk_frozen BK141.out 0
             have hfz38_1:=blk_frozen BK141.out 1
             try go_wp2_with (first|((with_reducible refine gate_builtin (b:=.append) (xs:=#[.tmp 55,.tmp 57]) rfl ?_);at_builtin;refine Kd.R_append k45 (w0:=w0) w0.heap.size rfl (.tmp 55) (.tmp 57) 36 45 (.agg #[(.int .i64 0),(.int .i64 0)]) 16 rfl Try.underlying36 info45 rfl (by decide) (by omega) u5 x5_2 (⟨a1_0,a1_1⟩:S45) [.int .i64 a1_0,.int .i64 a1_1] (fun k_=>(P0_ k_∨w.heap.size≤k_)∧some k_≠(.slice (some ad151) l0.length co19:Value).ownBlock∧k_≠gb141) (fun _=>False) rfl rfl ?aP (fun _ hk=>hk.elim) ?aF ?aO ?aB ?aS ?aL ?_;(case aP=>exact k45_mkM _ _ _ (⟨a1_0,a1_1⟩:S45));(case aB=>exact (by repeat (first|(with_reducible first|exact HB.out|apply below_alloc|apply pw_below_drewN|apply below_drew1|refine below_set ?_ GE141.out)|exact HB.out)));(case aF=>exact (fun k_ hk=>⟨(.inr (Nat.le_trans (by first|exact HK.out.1|exact (show Kept w _ (fun k_=>P0_ k_) from by repeat (first|(with_reducible first|exact HK.out|apply Kept.alloc|apply Kept.drewN|apply Kept.drew|refine Kept.setCell ?_ (.inr GW141.out) _)|exact HK.out)).1) hk)),Kd.fresh' (Kd.R_lt (by (with_reducible repeat (first|apply Kd.R_alloc|apply Kd.R_drewN|apply Kd.R_drew));exact HO_0.out)) k_ hk,Kd.freshB (g:=gb141) (o:=.cells #[.int .i64 a1_0,.int .i64 a1_1] 45 (0,0)) (by (with_reducible repeat (first|refine blk_drewN ?_ _|refine blk_drew ?_|refine blk_alloc ?_ _));exact BK141.out) k_ hk⟩));(case aO=>exact (by (with_reducible repeat (first|apply Kd.R_alloc|apply Kd.R_drewN|apply Kd.R_drew));exact HO_5.out));(case aS=>exact (below_size (by repeat (first|(with_reducible first|exact HB.out|apply below_alloc|apply pw_below_drewN|apply below_drew1|refine below_set ?_ GE141.out)|exact HB.out))));(case aL=>have:=LMc33.out;omega);intro v159 w39 ho hb hg hat;rw [←Ny158.out] at ho;have n0_:=Aside0.mk (Kd.R_after (ok:=(fun k_=>(P0_ k_∨w.heap.size≤k_)∧k_≠gb141)) (by (with_reducible repeat (first|apply Kd.R_alloc|apply Kd.R_drewN|apply Kd.R_drew));exact Kd.R_mono HO_0.out (fun _ hk=>⟨⟨hk.1,hk.2.2⟩,hk.2.1⟩)) hg hat);have n1_:=Aside0.mk (blk_grown (g:=gb141) (o:=.cells #[.int .i64 a1_0,.int .i64 a1_1] 45 (0,0)) (by (with_reducible repeat (first|refine blk_drewN ?_ _|refine blk_drew ?_|refine blk_alloc ?_ _));exact BK141.out) hg (Kd.R_away HO_5.out (fun _ hk=>hk.2.2)));have n2_:=Aside0.mk (hb);have n3_:=Aside0.mk (Kept.of_grown (S:=(fun k_=>P0_ k_)) hg (by repeat (first|(with_reducible first|exact HK.out|apply Kept.alloc|apply Kept.drewN|apply Kept.drew|refine Kept.setCell ?_ (.inr GW141.out) _)|exact HK.out)) (fun k_ e_=>(HO_5.out.1 k_ e_).1));have n4_:=Aside0.mk (ho);clear HO_0;clear BK141;clear HB;clear HK;clear HO_5;have HO_0:=n0_;have BK141:=n1_;have HB:=n2_;have HK:=n3_;have HO160:=n4_;clear n0_ n1_ n2_ n3_ n4_;clear ho hb hg hat;have p161:0≤(x8_2:Int):=of_decide_eq_true (by first|(with_reducible assumption)|assumption);have q161:x8_2<(l0.length:Int):=of_decide_eq_true (by first|(with_reducible assumption)|assumption);obtain ⟨ad161,e161,hx161_0,hx161_1⟩:=at_T45 (Kd.R_reads' HO_0.out).2.2 x8_2 p161 q161;obtain rfl:ad151=ad161:=(by injection e161);replace p161:=eq_true p161;replace q161:=eq_true q161)|((with_reducible refine gate_builtin (b:=.append) (xs:=#[.tmp 59,.tmp 64]) rfl ?_);at_builtin;refine Kd.R_append k45 (w0:=w0) w0.heap.size rfl (.tmp 59) (.tmp 64) 36 45 (.agg #[(.int .i64 0),(.int .i64 0)]) 16 rfl Try.underlying36 info45 rfl (by decide) (by omega) v159 y158 (⟨(rd_T45 l0 x8_2).f0,(rd_T45 l0 x8_2).f1⟩:S45) [.int .i64 ((rd_T45 l0 x8_2).f0),.int .i64 ((rd_T45 l0 x8_2).f1)] (fun k_=>(P0_ k_∨w.heap.size≤k_)∧some k_≠(.slice (some ad151) l0.length co19:Value).ownBlock∧k_≠gb141) (fun _=>False) rfl rfl ?aP (fun _ hk=>hk.elim) ?aF ?aO ?aB ?aS ?aL ?_;(case aP=>exact k45_mkM _ _ _ (⟨(rd_T45 l0 x8_2).f0,(rd_T45 l0 x8_2).f1⟩:S45));(case aB=>exact (by repeat (first|(with_reducible first|exact HB.out|apply below_alloc|apply pw_below_drewN|apply below_drew1|refine below_set ?_ GE141.out)|exact HB.out)));(case aF=>exact (fun k_ hk=>⟨(.inr (Nat.le_trans (by first|exact HK.out.1|exact (show Kept w _ (fun k_=>P0_ k_) from by repeat (first|(with_reducible first|exact HK.out|apply Kept.alloc|apply Kept.drewN|apply Kept.drew|refine Kept.setCell ?_ (.inr GW141.out) _)|exact HK.out)).1) hk)),Kd.fresh' (Kd.R_lt (by (with_reducible repeat (first|apply Kd.R_alloc|apply Kd.R_drewN|apply Kd.R_drew));exact HO_0.out)) k_ hk,Kd.freshB (g:=gb141) (o:=.cells #[.int .i64 a1_0,.int .i64 a1_1] 45 (0,0)) (by (with_reducible repeat (first|refine blk_drewN ?_ _|refine blk_drew ?_|refine blk_alloc ?_ _));exact BK141.out) k_ hk⟩));(case aO=>exact (by (with_reducible repeat (first|apply Kd.R_alloc|apply Kd.R_drewN|apply Kd.R_drew));exact HO160.out));(case aS=>exact (below_size (by repeat (first|(with_reducible first|exact HB.out|apply below_alloc|apply pw_below_drewN|apply below_drew1|refine below_set ?_ GE141.out)|exact HB.out))));(case aL=>have:=LMc34.out;omega);intro v163 w40 ho hb hg hat;rw [←Ny162.out] at ho;have n0_:=Aside0.mk (Kd.R_after (ok:=(fun k_=>(P0_ k_∨w.heap.size≤k_)∧k_≠gb141)) (by (with_reducible repeat (first|apply Kd.R_alloc|apply Kd.R_drewN|apply Kd.R_drew));exact HO_0.out) hg hat);have n1_:=Aside0.mk (blk_grown (g:=gb141) (o:=.cells #[.int .i64 a1_0,.int .i64 a1_1] 45 (0,0)) (by (with_reducible repeat (first|refine blk_drewN ?_ _|refine blk_drew ?_|refine blk_alloc ?_ _));exact BK141.out) hg (Kd.R_away HO160.out (fun _ hk=>hk.2.2)));have n2_:=Aside0.mk (hb);have n3_:=Aside0.mk (Kept.of_grown (S:=(fun k_=>P0_ k_)) hg (by repeat (first|(with_reducible first|exact HK.out|apply Kept.alloc|apply Kept.drewN|apply Kept.drew|refine Kept.setCell ?_ (.inr GW141.out) _)|exact HK.out)) (fun k_ e_=>(HO160.out.1 k_ e_).1));have n4_:=Aside0.mk (ho);clear HO_0;clear BK141;clear HB;clear HK;clear HO160;have HO_0:=n0_;have BK141:=n1_;have HB:=n2_;have HK:=n3_;have HO164:=n4_;clear n0_ n1_ n2_ n3_ n4_;clear ho hb hg hat))
             go_roundg k2
             case measure=>have:=HK1.out;have:=HK2.out;omega
             case rel=>exact ⟨(y162),(true),(wrap64 (x8_2 + 1)),(by first|rfl|(simp;done)|(simp [*];done)),(by first|rfl|(simp;done)|(simp [*];done)),H',⟨by have:=HK1.out;have:=HK2.out;omega⟩,⟨by (with_reducible repeat (first|apply Kd.R_alloc|apply Kd.R_drewN|apply Kd.R_drew));exact Kd.R_mono HO_0.out (fun _ hk=>⟨hk.1.1,⟨hk.2,hk.1.2⟩⟩)⟩,⟨by (with_reducible repeat (first|apply Kd.R_alloc|apply Kd.R_drewN|apply Kd.R_drew));exact HO164.out⟩,⟨by (with_reducible repeat (first|refine blk_drewN ?_ _|refine blk_drew ?_|refine blk_alloc ?_ _));exact BK141.out⟩,⟨by repeat (first|(with_reducible first|exact HK.out|apply Kept.alloc|apply Kept.drewN|apply Kept.drew|refine Kept.setCell ?_ (.inr GW141.out) _)|exact HK.out)⟩,⟨by repeat (first|(with_reducible first|exact HB.out|apply below_alloc|apply pw_below_drewN|apply below_drew1|refine below_set ?_ GE141.out)|exact HB.out)⟩⟩
            ·rw [if_neg c34] at H
             exact absurd H (by simp)
           ·rw [if_neg c33] at H
            exact absurd H (by simp)
          ·rw [if_neg c32] at H
           have c32b0:decide (a1_0<((rd_T45 l0 x8_2).f0))=false:=decide_eq_false c32
           clear c32
           by_cases c41:x5_2.length<8796093022208
           ·rw [if_pos c41] at H
            have LMc41:=Aside0.mk c41
            clear c41
            obtain ⟨y166,hy166⟩:∃ y_:List (S45),y_=(x5_2++[(⟨(rd_T45 l0 x8_2).f0,(rd_T45 l0 x8_2).f1⟩:S45)]):=⟨_,rfl⟩
            replace H:(spec_l11Put.l1 k2 l0 y166 false (wrap64 (x8_2 + 1)) a1_0 a1_1)=some r:=by first|(rw [hy166];with_reducible exact H)|(have H2_:=(Option.bind_some _ _).symm.trans H;rw [hy166];with_reducible exact H2_)|(have H2_:=(Option.bind_some _ _).symm.trans H;with_reducible exact H2_)|with_reducible exact H|(rw [hy166];exact H)|exact H
            have Ny166:=Aside0.mk hy166
            clear hy166
            have H':=Aside0.mk H
            clear H
            try go_wp2
            have n0_:=Aside0.mk (Kd.R_drew HO_0.out)
            have n1_:=Aside0.mk (Kd.R_drew HO_5.out)
            have n2_:=Aside0.mk (blk_drew BK141.out)
            have n3_:=Aside0.mk (Kept.drew HK.out)
            have n4_:=Aside0.mk (below_drew1 HB.out)
            clear HO_0
            clear HO_5
            clear BK141
            clear HK
            clear HB
            have HO_0:=n0_
            have HO_5:=n1_
            have BK141:=n2_
            have HK:=n3_
            have HB:=n4_
            clear n0_ n1_ n2_ n3_ n4_
            have p151:0≤(x8_2:Int):=of_decide_eq_true (by first|(with_reducible assumption)|assumption)
            have q151:x8_2<(l0.length:Int):=of_decide_eq_true (by first|(with_reducible assumption)|assumption)
            obtain ⟨ad151,e151,hx151_0,hx151_1⟩:=at_T45 (Kd.R_reads' HO_0.out).2.2 x8_2 p151 q151
            cases e151
            replace p151:=eq_true p151
            replace q151:=eq_true q151
            refine start_ (n:=6) (S:=fun w'=>w'.cell? ⟨gb141,0,none⟩=some (.int .i64 a1_0)∧w'.cell? ⟨gb141,1,none⟩=some (.int .i64 a1_1)∧w'.cell? (ad151.add ((x8_2).toNat * 2))=some (.int .i64 ((rd_T45 l0 x8_2).f0))∧w'.cell? ⟨(ad151.add ((x8_2).toNat * 2)).block,(ad151.add ((x8_2).toNat * 2)).off + 1,none⟩=some (.int .i64 ((rd_T45 l0 x8_2).f1))) (ds:=[]) #[false,false,false,false,false,false] (by kernel_rfl) rfl rfl ⟨(blk_cell BK141.out 0).trans rfl,(blk_cell BK141.out 1).trans rfl,hx151_0,hx151_1⟩ (fun hHeld=>?_)
            generalize wr.drew=w42 at HO_0 HO_5 BK141 HK HB hx151_0 hx151_1 hHeld ⊢
            refine pure_ (i:=1) (N:=some 38) (v:=?_) (a':=?_) #[false,true,false,false,false,false] rfl rfl (by kernel_rfl) (fun _ _ _ h=>h) (Or.inl ⟨by rfl,?_⟩) ?_ ?_
            rotate_left
            ·intro w'
             go_simp
             with_reducible rfl
            rotate_left
            ·simp only [Act.put,List.setIfInBounds_toArray,List.set_cons_zero,List.set_cons_succ,i64_w,i32_w]
             rfl
            refine pure_ (i:=2) (N:=some 39) (v:=?_) (a':=?_) #[false,true,true,false,false,false] rfl rfl (by kernel_rfl) (fun _ _ _ h=>h) (Or.inl ⟨by rfl,?_⟩) ?_ ?_
            rotate_left
            ·intro w'
             go_simp
             with_reducible rfl
            rotate_left
            ·simp only [Act.put,List.setIfInBounds_toArray,List.set_cons_zero,List.set_cons_succ,i64_w,i32_w]
             rfl
            refine pure_ (i:=3) (N:=some 40) (v:=?_) (a':=?_) #[false,true,true,true,false,false] rfl rfl (by kernel_rfl) (fun _ _ _ h=>h) (Or.inl ⟨by rfl,?_⟩) ?_ ?_
            rotate_left
            ·intro w'
             go_simp
             with_reducible rfl
            rotate_left
            ·simp only [Act.put,List.setIfInBounds_toArray,List.set_cons_zero,List.set_cons_succ,i64_w,i32_w]
             rfl
            refine take_ (i:=0) (N:=some 37) (v:=?_) (a':=?_) #[true,true,true,true,false,false] rfl rfl (by kernel_rfl) (fun _ _ _ h=>h) (Or.inl ⟨by rfl,?_⟩) hHeld ?_ ?_
            rotate_left
            ·rintro w' ⟨s0,s1,s2,s3⟩
             go_simp
             with_reducible rfl
            rotate_left
            ·simp only [Act.put,List.setIfInBounds_toArray,List.set_cons_zero,List.set_cons_succ,i64_w,i32_w]
             rfl
            refine take_ (i:=4) (N:=some 41) (v:=?_) (a':=?_) #[true,true,true,true,true,false] rfl rfl (by kernel_rfl) (fun _ _ _ h=>h) (Or.inl ⟨by rfl,?_⟩) hHeld ?_ ?_
            rotate_left
            ·rintro w' ⟨s0,s1,s2,s3⟩
             go_simp
             with_reducible rfl
            rotate_left
            ·simp only [Act.put,List.setIfInBounds_toArray,List.set_cons_zero,List.set_cons_succ,i64_w,i32_w]
             rfl
            refine one_ (i:=5) (N:=some 42) #[true,true,true,true,true,true] rfl rfl (by kernel_rfl) (by decide) (fun K hK=>?_)
            refine goes_ Try.func161 (by kernel_rfl) rfl #[.agg #[.int .i64 a1_0,.int .i64 a1_1],.agg #[.int .i64 ((rd_T45 l0 x8_2).f0),.int .i64 ((rd_T45 l0 x8_2).f1)]] (by rfl) rfl rfl (by (try simp only [List.map_toArray,List.map_cons,List.map_nil]);first|done|rfl|(simp only [List.length_drop,List.length_take];rfl)) ?_
            with_reducible refine (spec_l11Dominates.calls a1_0 a1_1 ((rd_T45 l0 x8_2).f0) ((rd_T45 l0 x8_2).f1) false _ A22.out).mono ?_
            rintro e w43 ⟨rfl,hb⟩
            have HS2_:=(hb.cell (World.block_lt_of_cell? _ _ (hHeld.2.2.1))).trans (hHeld.2.2.1)
            have HS3_:=(hb.cell (World.block_lt_of_cell? _ _ (hHeld.2.2.2))).trans (hHeld.2.2.2)
            refine ⟨_,rfl,?_⟩
            have n0_:=Aside0.mk (Kd.R_below (by (with_reducible repeat (first|apply Kd.R_alloc|apply Kd.R_drewN|apply Kd.R_drew));exact HO_0.out) hb)
            have n1_:=Aside0.mk (Kd.R_below (by (with_reducible repeat (first|apply Kd.R_alloc|apply Kd.R_drewN|apply Kd.R_drew));exact HO_5.out) hb)
            have n2_:=Aside0.mk (blk_below (g:=gb141) (o:=.cells #[.int .i64 a1_0,.int .i64 a1_1] 45 (0,0)) (by (with_reducible repeat (first|refine blk_drewN ?_ _|refine blk_drew ?_|refine blk_alloc ?_ _));exact BK141.out) hb)
            have n3_:=Aside0.mk (Kept.below (S:=(fun k_=>P0_ k_)) (by repeat (first|(with_reducible first|exact HK.out|apply Kept.alloc|apply Kept.drewN|apply Kept.drew|refine Kept.setCell ?_ (.inr GW141.out) _)|exact HK.out)) hb)
            have n4_:=Aside0.mk (below_step (by repeat (first|(with_reducible first|exact HB.out|apply below_alloc|apply pw_below_drewN|apply below_drew1|refine below_set ?_ GE141.out)|exact HB.out)) hb)
            clear HO_0
            clear HO_5
            clear BK141
            clear HK
            clear HB
            have HO_0:=n0_
            have HO_5:=n1_
            have BK141:=n2_
            have HK:=n3_
            have HB:=n4_
            clear n0_ n1_ n2_ n3_ n4_
            (try clear hb)
            (try clear hb2)
            (try clear hk)
            (try clear hi)
            refine hK.out _ _ ⟨(blk_cell BK141.out 0).trans rfl,(blk_cell BK141.out 1).trans rfl,HS2_,HS3_⟩ (fun hHeld=>?_)
            clear hK K
            refine norm_ (a':=?_) ?_ ?_
            rotate_left
            ·show Act.put _ (some 42) _=_
             simp only [Act.put,List.setIfInBounds_toArray,List.set_cons_zero,List.set_cons_succ,i64_w,i32_w]
             rfl
            refine done_ (by kernel_rfl) ?_
            try go_wp2
            have n0_:=Aside0.mk (Kd.R_drew HO_0.out)
            have n1_:=Aside0.mk (Kd.R_drew HO_5.out)
            have n2_:=Aside0.mk (blk_drew BK141.out)
            have n3_:=Aside0.mk (Kept.drew HK.out)
            have n4_:=Aside0.mk (below_drew1 HB.out)
            clear HO_0
            clear HO_5
            clear BK141
            clear HK
            clear HB
            have HO_0:=n0_
            have HO_5:=n1_
            have BK141:=n2_
            have HK:=n3_
            have HB:=n4_
            clear n0_ n1_ n2_ n3_ n4_
            have p157:0≤(x8_2:Int):=of_decide_eq_true (by first|(with_reducible assumption)|assumption)
            have q157:x8_2<(l0.length:Int):=of_decide_eq_true (by first|(with_reducible assumption)|assumption)
            obtain ⟨ad157,e157,hx157_0,hx157_1⟩:=at_T45 (Kd.R_reads' HO_0.out).2.2 x8_2 p157 q157
            obtain rfl:ad151=ad157:=(by injection e157)
            replace p157:=eq_true p157
            replace q157:=eq_true q157
            refine start_ (n:=12) (S:=fun w'=>w'.cell? ⟨gb141,0,none⟩=some (.int .i64 a1_0)∧w'.cell? ⟨gb141,1,none⟩=some (.int .i64 a1_1)∧w'.cell? (ad151.add ((x8_2).toNat * 2))=some (.int .i64 ((rd_T45 l0 x8_2).f0))∧w'.cell? ⟨(ad151.add ((x8_2).toNat * 2)).block,(ad151.add ((x8_2).toNat * 2)).off + 1,none⟩=some (.int .i64 ((rd_T45 l0 x8_2).f1))) (ds:=[]) #[false,false,false,false,false,false,false,false,false,false,false,false] (by kernel_rfl) rfl rfl ⟨(blk_cell BK141.out 0).trans rfl,(blk_cell BK141.out 1).trans rfl,hx157_0,hx157_1⟩ (fun hHeld=>?_);refine with_tabW spec_l11Put.tab12 spec_l11Put.bits12 (fun HT_ HW_=>?_)
            generalize w43.drew=w44 at HO_0 HO_5 BK141 HK HB hx157_0 hx157_1 hHeld ⊢
            refine pure_ (i:=0) (N:=some 43) (v:=?_) (a':=?_) #[true,false,false,false,false,false,false,false,false,false,false,false] rfl rfl (any_of HT_.out (by kernel_rfl)) (fun _ _ _ h=>h) (Or.inl ⟨by rfl,?_⟩) ?_ ?_
            rotate_left
            ·intro w'
             go_simp
             with_reducible rfl
            rotate_left
            ·simp only [Act.put,List.setIfInBounds_toArray,List.set_cons_zero,List.set_cons_succ,i64_w,i32_w]
             rfl
            refine pure_ (i:=1) (N:=some 44) (v:=?_) (a':=?_) #[true,true,false,false,false,false,false,false,false,false,false,false] rfl rfl (any_of HT_.out (by kernel_rfl)) (fun _ _ _ h=>h) (Or.inl ⟨by rfl,?_⟩) ?_ ?_
            rotate_left
            ·intro w'
             go_simp
             with_reducible rfl
            rotate_left
            ·simp only [Act.put,List.setIfInBounds_toArray,List.set_cons_zero,List.set_cons_succ,i64_w,i32_w]
             rfl
            refine pure_ (i:=2) (N:=some 45) (v:=?_) (a':=?_) #[true,true,true,false,false,false,false,false,false,false,false,false] rfl rfl (any_of HT_.out (by kernel_rfl)) (fun _ _ _ h=>h) (Or.inl ⟨by rfl,?_⟩) ?_ ?_
            rotate_left
            ·intro w'
             go_simp
             with_reducible rfl
            rotate_left
            ·simp only [Act.put,List.setIfInBounds_toArray,List.set_cons_zero,List.set_cons_succ,i64_w,i32_w]
             rfl
            refine pure_ (i:=3) (N:=some 46) (v:=?_) (a':=?_) #[true,true,true,true,false,false,false,false,false,false,false,false] rfl rfl (any_of HT_.out (by kernel_rfl)) (fun _ _ _ h=>h) (Or.inl ⟨by rfl,?_⟩) ?_ ?_
            rotate_left
            ·intro w'
             go_simp
             with_reducible rfl
            rotate_left
            ·simp only [Act.put,List.setIfInBounds_toArray,List.set_cons_zero,List.set_cons_succ,i64_w,i32_w]
             rfl
            refine pure_ (i:=4) (N:=some 47) (v:=?_) (a':=?_) #[true,true,true,true,true,false,false,false,false,false,false,false] rfl rfl (any_of HT_.out (by kernel_rfl)) (fun _ _ _ h=>h) (Or.inl ⟨by rfl,?_⟩) ?_ ?_
            rotate_left
            ·intro w'
             go_simp
             with_reducible rfl
            rotate_left
            ·simp only [Act.put,List.setIfInBounds_toArray,List.set_cons_zero,List.set_cons_succ,i64_w,i32_w]
             rfl
            refine pure_ (i:=5) (N:=some 48) (v:=?_) (a':=?_) #[true,true,true,true,true,true,false,false,false,false,false,false] rfl rfl (any_of HT_.out (by kernel_rfl)) (fun _ _ _ h=>h) (Or.inl ⟨by rfl,?_⟩) ?_ ?_
            rotate_left
            ·intro w'
             go_simp
             with_reducible rfl
            rotate_left
            ·simp only [Act.put,List.setIfInBounds_toArray,List.set_cons_zero,List.set_cons_succ,i64_w,i32_w]
             rfl
            refine pure_ (i:=6) (N:=some 49) (v:=?_) (a':=?_) #[true,true,true,true,true,true,true,false,false,false,false,false] rfl rfl (any_of HT_.out (by kernel_rfl)) (fun _ _ _ h=>h) (Or.inl ⟨by rfl,?_⟩) ?_ ?_
            rotate_left
            ·intro w'
             go_simp
             with_reducible rfl
            rotate_left
            ·simp only [Act.put,List.setIfInBounds_toArray,List.set_cons_zero,List.set_cons_succ,i64_w,i32_w]
             rfl
            refine pure_ (i:=8) (N:=some 51) (v:=?_) (a':=?_) #[true,true,true,true,true,true,true,false,true,false,false,false] rfl rfl (any_of HT_.out (by kernel_rfl)) (fun _ _ _ h=>h) (Or.inl ⟨by rfl,?_⟩) ?_ ?_
            rotate_left
            ·intro w'
             go_simp
             with_reducible rfl
            rotate_left
            ·simp only [Act.put,List.setIfInBounds_toArray,List.set_cons_zero,List.set_cons_succ,i64_w,i32_w]
             rfl
            refine take_ (i:=7) (N:=some 50) (v:=?_) (a':=?_) #[true,true,true,true,true,true,true,true,true,false,false,false] rfl rfl (take_ofW HT_.out HW_.out (by kernel_rfl)) (fun _ _ _ h=>h) (Or.inl ⟨by rfl,?_⟩) hHeld ?_ ?_
            rotate_left
            ·rintro w' ⟨s0,s1,s2,s3⟩
             go_simp
             with_reducible rfl
            rotate_left
            ·simp only [Act.put,List.setIfInBounds_toArray,List.set_cons_zero,List.set_cons_succ,i64_w,i32_w]
             rfl
            refine take_ (i:=9) (N:=some 52) (v:=?_) (a':=?_) #[true,true,true,true,true,true,true,true,true,true,false,false] rfl rfl (take_ofW HT_.out HW_.out (by kernel_rfl)) (fun _ _ _ h=>h) (Or.inl ⟨by rfl,?_⟩) hHeld ?_ ?_
            rotate_left
            ·rintro w' ⟨s0,s1,s2,s3⟩
             go_simp
             with_reducible rfl
            rotate_left
            ·simp only [Act.put,List.setIfInBounds_toArray,List.set_cons_zero,List.set_cons_succ,i64_w,i32_w]
             rfl
            refine pure_ (i:=10) (N:=some 53) (v:=?_) (a':=?_) #[true,true,true,true,true,true,true,true,true,true,true,false] rfl rfl (any_of HT_.out (by kernel_rfl)) (fun _ _ _ h=>h) (Or.inl ⟨by rfl,?_⟩) ?_ ?_
            rotate_left
            ·intro w'
             go_simp
             with_reducible rfl
            rotate_left
            ·simp only [Act.put,List.setIfInBounds_toArray,List.set_cons_zero,List.set_cons_succ,i64_w,i32_w]
             rfl
            refine pure_ (i:=11) (N:=some 54) (v:=?_) (a':=?_) #[true,true,true,true,true,true,true,true,true,true,true,true] rfl rfl (any_of HT_.out (by kernel_rfl)) (fun _ _ _ h=>h) (Or.inl ⟨by rfl,?_⟩) ?_ ?_
            rotate_left
            ·intro w'
             go_simp
             with_reducible rfl
            rotate_left
            ·simp only [Act.put,List.setIfInBounds_toArray,List.set_cons_zero,List.set_cons_succ,i64_w,i32_w]
             rfl
            refine done_ (done_of HT_.out (by kernel_rfl)) ?_
            have p165:0≤(x8_2:Int):=of_decide_eq_true (by first|(with_reducible assumption)|assumption)
            have q165:x8_2<(l0.length:Int):=of_decide_eq_true (by first|(with_reducible assumption)|assumption)
            obtain ⟨ad165,e165,hx165_0,hx165_1⟩:=at_T45 (Kd.R_reads' HO_0.out).2.2 x8_2 p165 q165
            obtain rfl:ad151=ad165:=(by injection e165)
            replace p165:=eq_true p165
            replace q165:=eq_true q165
            try go_wp2_with (first|((with_reducible refine gate_builtin (b:=.append) (xs:=#[.tmp 59,.tmp 64]) rfl ?_);at_builtin;refine Kd.R_append k45 (w0:=w0) w0.heap.size rfl (.tmp 59) (.tmp 64) 36 45 (.agg #[(.int .i64 0),(.int .i64 0)]) 16 rfl Try.underlying36 info45 rfl (by decide) (by omega) u5 x5_2 (⟨(rd_T45 l0 x8_2).f0,(rd_T45 l0 x8_2).f1⟩:S45) [.int .i64 ((rd_T45 l0 x8_2).f0),.int .i64 ((rd_T45 l0 x8_2).f1)] (fun k_=>(P0_ k_∨w.heap.size≤k_)∧some k_≠(.slice (some ad151) l0.length co19:Value).ownBlock∧k_≠gb141) (fun _=>False) rfl rfl ?aP (fun _ hk=>hk.elim) ?aF ?aO ?aB ?aS ?aL ?_;(case aP=>exact k45_mkM _ _ _ (⟨(rd_T45 l0 x8_2).f0,(rd_T45 l0 x8_2).f1⟩:S45));(case aB=>exact (by repeat (first|(with_reducible first|exact HB.out|apply below_alloc|apply pw_below_drewN|apply below_drew1|refine below_set ?_ GE141.out)|exact HB.out)));(case aF=>exact (fun k_ hk=>⟨(.inr (Nat.le_trans (by first|exact HK.out.1|exact (show Kept w _ (fun k_=>P0_ k_) from by repeat (first|(with_reducible first|exact HK.out|apply Kept.alloc|apply Kept.drewN|apply Kept.drew|refine Kept.setCell ?_ (.inr GW141.out) _)|exact HK.out)).1) hk)),Kd.fresh' (Kd.R_lt (by (with_reducible repeat (first|apply Kd.R_alloc|apply Kd.R_drewN|apply Kd.R_drew));exact HO_0.out)) k_ hk,Kd.freshB (g:=gb141) (o:=.cells #[.int .i64 a1_0,.int .i64 a1_1] 45 (0,0)) (by (with_reducible repeat (first|refine blk_drewN ?_ _|refine blk_drew ?_|refine blk_alloc ?_ _));exact BK141.out) k_ hk⟩));(case aO=>exact (by (with_reducible repeat (first|apply Kd.R_alloc|apply Kd.R_drewN|apply Kd.R_drew));exact HO_5.out));(case aS=>exact (below_size (by repeat (first|(with_reducible first|exact HB.out|apply below_alloc|apply pw_below_drewN|apply below_drew1|refine below_set ?_ GE141.out)|exact HB.out))));(case aL=>have:=LMc41.out;omega);intro v167 w45 ho hb hg hat;rw [←Ny166.out] at ho;have n0_:=Aside0.mk (Kd.R_after (ok:=(fun k_=>(P0_ k_∨w.heap.size≤k_)∧k_≠gb141)) (by (with_reducible repeat (first|apply Kd.R_alloc|apply Kd.R_drewN|apply Kd.R_drew));exact Kd.R_mono HO_0.out (fun _ hk=>⟨⟨hk.1,hk.2.2⟩,hk.2.1⟩)) hg hat);have n1_:=Aside0.mk (blk_grown (g:=gb141) (o:=.cells #[.int .i64 a1_0,.int .i64 a1_1] 45 (0,0)) (by (with_reducible repeat (first|refine blk_drewN ?_ _|refine blk_drew ?_|refine blk_alloc ?_ _));exact BK141.out) hg (Kd.R_away HO_5.out (fun _ hk=>hk.2.2)));have n2_:=Aside0.mk (hb);have n3_:=Aside0.mk (Kept.of_grown (S:=(fun k_=>P0_ k_)) hg (by repeat (first|(with_reducible first|exact HK.out|apply Kept.alloc|apply Kept.drewN|apply Kept.drew|refine Kept.setCell ?_ (.inr GW141.out) _)|exact HK.out)) (fun k_ e_=>(HO_5.out.1 k_ e_).1));have n4_:=Aside0.mk (ho);clear HO_0;clear BK141;clear HB;clear HK;clear HO_5;have HO_0:=n0_;have BK141:=n1_;have HB:=n2_;have HK:=n3_;have HO168:=n4_;clear n0_ n1_ n2_ n3_ n4_;clear ho hb hg hat))
            go_roundg k2
            case measure=>have:=HK1.out;have:=HK2.out;omega
            case rel=>exact ⟨(y166),(false),(wrap64 (x8_2 + 1)),(by first|rfl|(simp;done)|(simp [*];done)),(by first|rfl|(simp;done)|(simp [*];done)),H',⟨by have:=HK1.out;have:=HK2.out;omega⟩,⟨by (with_reducible repeat (first|apply Kd.R_alloc|apply Kd.R_drewN|apply Kd.R_drew));exact Kd.R_mono HO_0.out (fun _ hk=>⟨hk.1.1,⟨hk.2,hk.1.2⟩⟩)⟩,⟨by (with_reducible repeat (first|apply Kd.R_alloc|apply Kd.R_drewN|apply Kd.R_drew));exact HO168.out⟩,⟨by (with_reducible repeat (first|refine blk_drewN ?_ _|refine blk_drew ?_|refine blk_alloc ?_ _));exact BK141.out⟩,⟨by repeat (first|(with_reducible first|exact HK.out|apply Kept.alloc|apply Kept.drewN|apply Kept.drew|refine Kept.setCell ?_ (.inr GW141.out) _)|exact HK.out)⟩,⟨by repeat (first|(with_reducible first|exact HB.out|apply below_alloc|apply pw_below_drewN|apply below_drew1|refine below_set ?_ GE141.out)|exact HB.out)⟩⟩
           ·rw [if_neg c41] at H
            exact absurd H (by simp)
       ·rw [if_neg c21] at H
        exact absurd H (by simp)
      ·rw [if_neg c20] at H
       have c20b0:decide (x8_2<(l0.length:Int))=false:=decide_eq_false c20
       clear c20
       by_cases c46:x7_2=true
       ·subst c46
        have H1:(some x5_2)=some r:=by rw [if_pos rfl] at H;exact H
        clear H
        have H:=H1
        clear H1
        obtain rfl:=Option.some.inj H
        go_wp2
        go_ret
        exact ⟨_,by first|rfl|(simp [errW_none,errW_some] <;> rfl)|(simp [*,errW_none,errW_some] <;> rfl),by (with_reducible repeat (first|apply Kd.R_alloc|apply Kd.R_drewN|apply Kd.R_drew));exact Kd.R_mono HO_5.out (fun _ hk=>hk.1),by repeat (first|(with_reducible first|exact HB.out|apply below_alloc|apply pw_below_drewN|apply below_drew1|refine below_set ?_ GE141.out)|exact HB.out),by repeat (first|(with_reducible first|exact HK.out|apply Kept.alloc|apply Kept.drewN|apply Kept.drew|refine Kept.setCell ?_ (.inr GW141.out) _)|exact HK.out)⟩
       ·replace c46:=Bool.eq_false_iff.mpr c46
        subst c46
        have H1:(if x5_2.length<8796093022208 then (some (x5_2++[(⟨a1_0,a1_1⟩:S45)])) else (none))=some r:=by rw [if_neg (show ¬ (false=true) by decide)] at H;exact H
        clear H
        have H:=H1
        clear H1
        by_cases c47:x5_2.length<8796093022208
        ·rw [if_pos c47] at H
         have LMc47:=Aside0.mk c47
         clear c47
         obtain ⟨y148,hy148⟩:∃ y_:List (S45),y_=(x5_2++[(⟨a1_0,a1_1⟩:S45)]):=⟨_,rfl⟩
         replace H:(some y148)=some r:=by first|(rw [hy148];with_reducible exact H)|(have H2_:=(Option.bind_some _ _).symm.trans H;rw [hy148];with_reducible exact H2_)|(have H2_:=(Option.bind_some _ _).symm.trans H;with_reducible exact H2_)|with_reducible exact H|(rw [hy148];exact H)|exact H
         have Ny148:=Aside0.mk hy148
         clear hy148
         obtain rfl:=Option.some.inj H
         have hcz48_0:wr.cell? ⟨gb141,0,none⟩=some (.int .i64 a1_0):=(blk_cell BK141.out 0).trans rfl
         have hcz48_1:wr.cell? ⟨gb141,1,none⟩=some (.int .i64 a1_1):=(blk_cell BK141.out 1).trans rfl
         have hfz48_0:=blk_frozen BK141.out 0
         have hfz48_1:=blk_frozen BK141.out 1
         go_wp2_with (first|((with_reducible refine gate_builtin (b:=.append) (xs:=#[.tmp 68,.tmp 70]) rfl ?_);at_builtin;refine Kd.R_append k45 (w0:=w0) w0.heap.size rfl (.tmp 68) (.tmp 70) 36 45 (.agg #[(.int .i64 0),(.int .i64 0)]) 16 rfl Try.underlying36 info45 rfl (by decide) (by omega) u5 x5_2 (⟨a1_0,a1_1⟩:S45) [.int .i64 a1_0,.int .i64 a1_1] (fun k_=>(P0_ k_∨w.heap.size≤k_)∧some k_≠(.slice Ao19 l0.length co19:Value).ownBlock∧k_≠gb141) (fun _=>False) rfl rfl ?aP (fun _ hk=>hk.elim) ?aF ?aO ?aB ?aS ?aL ?_;(case aP=>exact k45_mkM _ _ _ (⟨a1_0,a1_1⟩:S45));(case aB=>exact (by repeat (first|(with_reducible first|exact HB.out|apply below_alloc|apply pw_below_drewN|apply below_drew1|refine below_set ?_ GE141.out)|exact HB.out)));(case aF=>exact (fun k_ hk=>⟨(.inr (Nat.le_trans (by first|exact HK.out.1|exact (show Kept w _ (fun k_=>P0_ k_) from by repeat (first|(with_reducible first|exact HK.out|apply Kept.alloc|apply Kept.drewN|apply Kept.drew|refine Kept.setCell ?_ (.inr GW141.out) _)|exact HK.out)).1) hk)),Kd.fresh' (Kd.R_lt (by (with_reducible repeat (first|apply Kd.R_alloc|apply Kd.R_drewN|apply Kd.R_drew));exact HO_0.out)) k_ hk,Kd.freshB (g:=gb141) (o:=.cells #[.int .i64 a1_0,.int .i64 a1_1] 45 (0,0)) (by (with_reducible repeat (first|refine blk_drewN ?_ _|refine blk_drew ?_|refine blk_alloc ?_ _));exact BK141.out) k_ hk⟩));(case aO=>exact (by (with_reducible repeat (first|apply Kd.R_alloc|apply Kd.R_drewN|apply Kd.R_drew));exact HO_5.out));(case aS=>exact (below_size (by repeat (first|(with_reducible first|exact HB.out|apply below_alloc|apply pw_below_drewN|apply below_drew1|refine below_set ?_ GE141.out)|exact HB.out))));(case aL=>have:=LMc47.out;omega);intro v149 w49 ho hb hg hat;rw [←Ny148.out] at ho;have n0_:=Aside0.mk (Kd.R_after (ok:=(fun k_=>(P0_ k_∨w.heap.size≤k_)∧k_≠gb141)) (by (with_reducible repeat (first|apply Kd.R_alloc|apply Kd.R_drewN|apply Kd.R_drew));exact Kd.R_mono HO_0.out (fun _ hk=>⟨⟨hk.1,hk.2.2⟩,hk.2.1⟩)) hg hat);have n1_:=Aside0.mk (blk_grown (g:=gb141) (o:=.cells #[.int .i64 a1_0,.int .i64 a1_1] 45 (0,0)) (by (with_reducible repeat (first|refine blk_drewN ?_ _|refine blk_drew ?_|refine blk_alloc ?_ _));exact BK141.out) hg (Kd.R_away HO_5.out (fun _ hk=>hk.2.2)));have n2_:=Aside0.mk (hb);have n3_:=Aside0.mk (Kept.of_grown (S:=(fun k_=>P0_ k_)) hg (by repeat (first|(with_reducible first|exact HK.out|apply Kept.alloc|apply Kept.drewN|apply Kept.drew|refine Kept.setCell ?_ (.inr GW141.out) _)|exact HK.out)) (fun k_ e_=>(HO_5.out.1 k_ e_).1));have n4_:=Aside0.mk (ho);clear HO_0;clear BK141;clear HB;clear HK;clear HO_5;have HO_0:=n0_;have BK141:=n1_;have HB:=n2_;have HK:=n3_;have HO150:=n4_;clear n0_ n1_ n2_ n3_ n4_;clear ho hb hg hat))
         go_ret
         exact ⟨_,by first|rfl|(simp [errW_none,errW_some] <;> rfl)|(simp [*,errW_none,errW_some] <;> rfl),by (with_reducible repeat (first|apply Kd.R_alloc|apply Kd.R_drewN|apply Kd.R_drew));exact Kd.R_mono HO150.out (fun _ hk=>hk.1),by repeat (first|(with_reducible first|exact HB.out|apply below_alloc|apply pw_below_drewN|apply below_drew1|refine below_set ?_ GE141.out)|exact HB.out),by repeat (first|(with_reducible first|exact HK.out|apply Kept.alloc|apply Kept.drewN|apply Kept.drew|refine Kept.setCell ?_ (.inr GW141.out) _)|exact HK.out)⟩
        ·rw [if_neg c47] at H
         exact absurd H (by simp)

end Go.Proofs.Ytplbabjigikgjaa.XFnExactSupportedPoints
-- minified
