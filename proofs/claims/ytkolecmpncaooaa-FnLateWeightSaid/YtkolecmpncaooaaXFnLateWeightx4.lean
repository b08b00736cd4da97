-- Written by a program of this session (the kit's print, widened). Proved here: what each function answers, for the arguments that its contract names.
import Derived.Test.YtkolecmpncaooaaXFnLateWeightx0
namespace Go.Proofs.Ytkolecmpncaooaa.XFnLateWeight
open Go.RowKit Go.Proofs.YtkolecmpncaooaaW.PrintWords Go.Proofs.YtkolecmpncaooaaW.PrintLast Go.Proofs.YtkolecmpncaooaaW.PrintMore
attribute [local go_sem] max2_int min2_int max_two min_two max_three min_three max_four min_four   -- for this text's walks alone
attribute [local go_sem] idxA_51_0 idxA_51_1 fldS_45_0 fldS_45_1 fldS_45_2 fldS_96_0 fldS_96_1 fldS_96_2
set_option linter.unusedVariables false
set_option linter.unusedSimpArgs false

/-! ### impl_ratioOf: function 26 -/
def impl_ratioOf.l0:Nat→List (S31)→List Int→Int→Int→Int→Int→Option (Int × Int)
 | 0,_,_,_,_,_,_=>none
 | k + 1,x0,x8,x9,x10,x268000,x268001=>if x10<x9 then (if 0≤x10 then (if x10<(x8.length:Int) then (if 0≤(rd x8 x10) then (if (rd x8 x10)<(x0.length:Int) then (impl_ratioOf.l0 k x0 x8 x9 (wrap64 (x10 + 1)) (wrap64 (x268000 + ((rd_T31 x0 (rd x8 x10)).f1))) (wrap64 (x268001 + ((rd_T31 x0 (rd x8 x10)).f0)))) else (none)) else (none)) else (none)) else (none)) else (some (x268000,x268001))
def impl_ratioOf.f (k:Nat) (l0:List (S31)) (l1:List Int):Option (Int × Int):=impl_ratioOf.l0 k l0 l1 (l1.length:Int) 0 0 0
theorem impl_ratioOf.mono_l:∀ k,(∀ y0 y1 y2 y3 y4 y5,LeO (impl_ratioOf.l0 k y0 y1 y2 y3 y4 y5) (impl_ratioOf.l0 (k + 1) y0 y1 y2 y3 y4 y5))
 | 0=>fun _ _ _ _ _ _ r h=>by simp [impl_ratioOf.l0] at h
 | k + 1=>by
  have ih0:=impl_ratioOf.mono_l k
  ·intro y0 y1 y2 y3 y4 y5
   unfold impl_ratioOf.l0
   repeat' first|(with_reducible first|apply ih0|exact LeO.refl _|exact LeO.none _|refine LeO.ite ?_ ?_|refine LeO.bind ?_ (fun _=>?_))|apply ih0|exact LeO.none _|refine LeO.ite ?_ ?_|refine LeO.bind ?_ (fun _=>?_)
theorem impl_ratioOf.mono:∀ a0 a1 k,LeO (impl_ratioOf.f k a0 a1) (impl_ratioOf.f (k + 1) a0 a1):=by
 intro a0 a1 k
 have ih0:=impl_ratioOf.mono_l k
 unfold impl_ratioOf.f
 repeat' first|(with_reducible first|apply ih0|exact LeO.refl _|exact LeO.none _|refine LeO.ite ?_ ?_|refine LeO.bind ?_ (fun _=>?_))|apply ih0|exact LeO.none _|refine LeO.ite ?_ ?_|refine LeO.bind ?_ (fun _=>?_)
def impl_ratioOf.T5:Bool × List (List Nat × List Nat):=(true,[([],[]),([0],[0]),([],[]),([],[]),([2,3],[2,3]),([4],[4]),([5],[5]),([1,6],[1,6]),([0,1,2,3,4,5,6,7],[]),([8,7,0,1,2,3,4,5,6,7],[7,8])])
def impl_ratioOf.B5:List Nat:=[0,1,0,0,12,28,60,127,255,511]
theorem impl_ratioOf.tab5:rtab .any (opsOf Try.f26 5)=impl_ratioOf.T5:=by kernel_rfl
theorem impl_ratioOf.bits5:waitsOk impl_ratioOf.T5.2 impl_ratioOf.B5=true:=by kernel_rfl
def impl_ratioOf.T6:Bool × List (List Nat × List Nat):=(true,[([],[]),([0],[0]),([],[]),([],[]),([2,3],[2,3]),([4],[4]),([5],[5]),([1,6],[1,6]),([0,1,2,3,4,5,6,7],[]),([8,7,0,1,2,3,4,5,6,7],[7,8])])
def impl_ratioOf.B6:List Nat:=[0,1,0,0,12,28,60,127,255,511]
theorem impl_ratioOf.tab6:rtab .any (opsOf Try.f26 6)=impl_ratioOf.T6:=by kernel_rfl
theorem impl_ratioOf.bits6:waitsOk impl_ratioOf.T6.2 impl_ratioOf.B6=true:=by kernel_rfl
set_option maxHeartbeats 8000000 in
set_option maxRecDepth 100000 in
theorem impl_ratioOf.calls (k:Nat) (A0:Option Addr) (c0:Nat) (l0:List (S31)) (A1:Option Addr) (c1:Nat) (l1:List Int) (r1:Int) (r2:Int) (w:World) (hr0:Kd.C k31 w A0 l0.length l0) (hc0:l0.length≤c0) (hr1:Kd.C (Kd.int .i64) w A1 l1.length l1) (hc1:l1.length≤c1) (h:impl_ratioOf.f k l0 l1=some (r1,r2)) :
  Calls Try.prog 26 #[.slice A0 l0.length c0,.slice A1 l1.length c1] w fun e w'=>e=.returned (.agg #[.int .i64 r1,.int .i64 r2])∧Below w.heap.size w w':=by
 have hu51:=Try.underlying51
 have HR0:=Aside0.mk hr0
 have HC0:=Aside0.mk hc0
 clear hr0 hc0
 have HR1:=Aside0.mk hr1
 have HC1:=Aside0.mk hc1
 clear hr1 hc1
 have HB:=Aside0.mk (Below.refl w.heap.size w)
 have H:(impl_ratioOf.l0 k l0 l1 (l1.length:Int) 0 0 0)=some (r1,r2):=h
 clear h
 have H':=Aside0.mk H
 clear H
 go_enter Try.func26,Try.ntmps26
 go_wp2_with (first|((with_reducible refine gate_dst (N:=4) rfl ?_);refine box_event ?hg (N:=4) ?hd (cs:=#[.int .i64 0,.int .i64 0]) (t:=51) ?hr ?_;(case hd=>rfl);(case hg=>rfl);(case hr=>first|(go_simp;done)|(go_simp;rfl));intro gb266 hg w3 hbox hb;have n0_:=zb1 hb;have n1_:=Aside0.mk (hbox);have n2_:=Aside0.mk ((by rw [hg];exact (below_size zb):w.heap.size≤gb266));have n3_:=Aside0.mk ((by rw [hg];exact (below_size zb):w.heap.size≤gb266));clear HB;have HB:=n0_;have BK266:=n1_;have GW266:=n2_;have GE266:=n3_;clear n0_ n1_ n2_ n3_;clear hb hbox hg)|((with_reducible refine gate_dst (N:=5) rfl ?_);refine box_event ?hg (N:=5) ?hd (cs:=#[.int .i64 0,.int .i64 0]) (t:=51) ?hr ?_;(case hd=>rfl);(case hg=>rfl);(case hr=>first|(go_simp;done)|(go_simp;rfl));intro gb267 hg w4 hbox hb;have n0_:=Aside0.mk (blk_below (g:=gb266) (o:=.cells #[.int .i64 0,.int .i64 0] 51 (0,0)) zz35 hb);have n1_:=Aside0.mk (below_step zz46 hb);have n2_:=Aside0.mk (hbox);have n3_:=Aside0.mk ((by rw [hg];exact (below_size zz46):w.heap.size≤gb267));have n4_:=Aside0.mk ((by rw [hg];exact (below_size zz46):w.heap.size≤gb267));have n5_:=Aside0.mk ((by rw [hg];exact Nat.ne_of_lt (blk_lt (g:=gb266) (o:=.cells #[.int .i64 0,.int .i64 0] 51 (0,0)) zz35):gb266≠gb267));have n6_:=Aside0.mk ((by rw [hg];exact Nat.ne_of_gt (blk_lt (g:=gb266) (o:=.cells #[.int .i64 0,.int .i64 0] 51 (0,0)) zz35):gb267≠gb266));clear BK266;clear HB;have BK266:=n0_;have HB:=n1_;have BK267:=n2_;have GW267:=n3_;have GE267:=n4_;have NB266_267:=n5_;have NB267_266:=n6_;clear n0_ n1_ n2_ n3_ n4_ n5_ n6_;clear hb hbox hg))
 go_loopg [10] k (fun kq v10 w'=>∃ (x10_1:Int) (x268000_1:Int) (x268001_1:Int),v10=.int .i64 x10_1∧Aside0 (impl_ratioOf.l0 kq l0 l1 (l1.length:Int) x10_1 x268000_1 x268001_1=some (r1,r2))∧Aside0 (kq≤k)∧Aside0 (w'.heap[gb266]?=some (.cells #[.int .i64 0,.int .i64 0] 51 (0,0)))∧Aside0 (w'.heap[gb267]?=some (.cells #[.int .i64 x268000_1,.int .i64 x268001_1] 51 (0,0)))∧Aside0 (Below w.heap.size w w'))
 case atStart=>exact ⟨(0),(0),(0),zo,H',⟨Nat.le_refl _⟩,⟨zz35⟩,⟨by (with_reducible repeat (first|refine blk_drewN ?_ _|refine blk_drew ?_|refine blk_alloc ?_ _));exact BK267.out⟩,⟨zz36⟩⟩
 case round=>
  clear H'
  obtain ⟨x10_1,x268000_1,x268001_1,rfl,HA,HK1,BK266,BK267,HB⟩:=hrel
  cases gk with
  | zero=>exact absurd HA.out (by simp [impl_ratioOf.l0])
  | succ k1=>
   have H:=HA.out
   clear HA
   simp only [impl_ratioOf.l0] at H
   by_cases c5:x10_1<(l1.length:Int)
   rotate_left
   ·rw [if_neg c5] at H
    have c5b0:=decide_eq_false c5
    clear c5
    simp only [Option.some.injEq,Prod.mk.injEq] at H
    obtain ⟨rfl,rfl⟩:=H
    have hnb15:=NB267_266.out
    have hnc15:=NB266_267.out
    obtain ⟨hcz16_0,hcz16_1,hfz16_0,hfz16_1⟩:=zk2 BK267.out
    obtain ⟨hcz17_0,hcz17_1,hfz17_0,hfz17_1⟩:=zk2 BK266.out
    go_wp2
    refine bodyPost_ret (results_cell_row rfl _ _ gb266 51 #[.int .i64 x268000_1,.int .i64 x268001_1] (0,0) _ rfl (by (with_reducible repeat (first|refine blk_drewN ?_ _|refine blk_drew ?_|refine blk_alloc ?_ _));refine blk_put (cs:=#[.int .i64 x268000_1,.int .i64 0]) ?_ 1 _ rfl;(with_reducible repeat (first|refine blk_drewN ?_ _|refine blk_drew ?_|refine blk_alloc ?_ _));refine blk_put (cs:=#[.int .i64 0,.int .i64 0]) ?_ 0 _ rfl;(with_reducible repeat (first|refine blk_drewN ?_ _|refine blk_drew ?_|refine blk_alloc ?_ _));exact BK266.out) Try.underlying51 rfl (by kernel_rfl)) rfl ?_
    exact ⟨zz0,zz36⟩
   rw [if_pos c5] at H
   have c5b0:=decide_eq_true c5
   clear c5
   by_cases c6:0≤x10_1
   rotate_left
   ·rw [if_neg c6] at H
    exact absurd H (by simp)
   rw [if_pos c6] at H
   have c6b0:=decide_eq_true c6
   clear c6
   by_cases c7:x10_1<(l1.length:Int)
   rotate_left
   ·rw [if_neg c7] at H
    exact absurd H (by simp)
   rw [if_pos c7] at H
   have c7b0:=decide_eq_true c7
   clear c7
   by_cases c8:0≤(rd l1 x10_1)
   rotate_left
   ·rw [if_neg c8] at H
    exact absurd H (by simp)
   rw [if_pos c8] at H
   have c8b0:=decide_eq_true c8
   clear c8
   by_cases c9:(rd l1 x10_1)<(l0.length:Int)
   rotate_left
   ·rw [if_neg c9] at H
    exact absurd H (by simp)
   rw [if_pos c9] at H
   have c9b0:=decide_eq_true c9
   clear c9
   have H':=Aside0.mk H
   clear H
   have p268:0≤(x10_1:Int):=of_decide_eq_true za
   have q268:x10_1<(l1.length:Int):=of_decide_eq_true za
   obtain ⟨ad268,e268,hx268_0⟩:=Kd.at_int HR1.out x10_1 p268 q268
   cases e268
   replace hx268_0:=zh_ HB hx268_0
   replace p268:=eq_true p268
   replace q268:=eq_true q268
   try go_wp2
   replace BK266:=Aside0.mk (blk_drew BK266.out)
   replace BK267:=Aside0.mk (blk_drew BK267.out)
   replace HB:=Aside0.mk (below_drew1 HB.out)
   have p269:0≤((rd l1 x10_1):Int):=of_decide_eq_true za
   have q269:(rd l1 x10_1)<(l0.length:Int):=of_decide_eq_true za
   obtain ⟨ad269,e269,hx269_0,hx269_1,hx269_2,hx269_3⟩:=at_T31 HR0.out (rd l1 x10_1) p269 q269
   have hw269_3:=hx269_3
   have hw269_2:=hx269_2
   have hw269_1:=hx269_1
   have hw269_0:=hx269_0
   cases e269
   replace hx269_0:=zh_ HB hx269_0
   replace hx269_1:=zh_ HB hx269_1
   replace hx269_2:=zh_ HB hx269_2
   replace hx269_3:=zh_ HB hx269_3
   replace p269:=eq_true p269
   replace q269:=eq_true q269
   refine start_ (n:=10) (S:=fun w'=>w'.cell? ⟨gb267,0,none⟩=some (.int .i64 x268000_1)∧w'.cell? ⟨gb267,1,none⟩=some (.int .i64 x268001_1)∧w'.cell? (ad269.add (((rd l1 x10_1)).toNat * 4))=some (.int .i64 ((rd_T31 l0 (rd l1 x10_1)).f0))∧w'.cell? ⟨(ad269.add (((rd l1 x10_1)).toNat * 4)).block,(ad269.add (((rd l1 x10_1)).toNat * 4)).off + 1,none⟩=some (.int .i64 ((rd_T31 l0 (rd l1 x10_1)).f1))∧w'.cell? ⟨(ad269.add (((rd l1 x10_1)).toNat * 4)).block,(ad269.add (((rd l1 x10_1)).toNat * 4)).off + 2,none⟩=some (.int .i64 ((rd_T31 l0 (rd l1 x10_1)).f2))∧w'.cell? ⟨(ad269.add (((rd l1 x10_1)).toNat * 4)).block,(ad269.add (((rd l1 x10_1)).toNat * 4)).off + 3,none⟩=some (.int .i64 ((rd_T31 l0 (rd l1 x10_1)).f3))) (ds:=[9]) #[false,false,false,false,false,false,false,false,false,false] (by kernel_rfl) rfl rfl ⟨(blk_cell BK267.out 0).trans rfl,(blk_cell BK267.out 1).trans rfl,((HB.out.cell (World.block_lt_of_cell? w _ hw269_0)).trans hw269_0),((HB.out.cell (World.block_lt_of_cell? w _ hw269_1)).trans hw269_1),((HB.out.cell (World.block_lt_of_cell? w _ hw269_2)).trans hw269_2),((HB.out.cell (World.block_lt_of_cell? w _ hw269_3)).trans hw269_3)⟩ (fun hHeld=>?_);refine with_tabW impl_ratioOf.tab5 impl_ratioOf.bits5 (fun HT_ HW_=>?_)
   generalize wr.drew=w10 at BK266 BK267 HB hx269_0 hx269_1 hx269_2 hx269_3 hHeld ⊢
   refine pu_ 0 14 ?_
   refine pu_ 2 16 ?_
   refine pu_ 3 17 ?_
   refine pu_ 4 18 ?_
   refine pu_ 5 19 ?_
   refine tk_ 1 15 hHeld ?_
   refine tk_ 6 20 hHeld ?_
   refine pu_ 7 21 ?_
   refine pu_ 8 22 ?_
   refine last_ (i:=9) (N:=none) #[true,true,true,true,true,true,true,true,true,true] rfl rfl (one_of HT_.out (by kernel_rfl)) (by decide) (fun K hK=>?_)
   have hs11:w10.cell? ⟨gb267,0,none⟩=some (.int .i64 x268000_1):=(blk_cell BK267.out 0).trans rfl
   have hfs11:=blk_frozen BK267.out 0
   have hns11_0:=NB266_267.out
   have hms11_0:=NB267_266.out
   refine skip_ (w1:=?_) (by rfl) rfl ?_ ?_
   rotate_left
   ·go_simp
    rfl
   refine hK.out _ _ ?_
   clear hK K
   refine done_ (done_of HT_.out (by kernel_rfl)) ?_
   try go_wp2
   have n0_:Aside0 ((w10.setCell ⟨gb267,0,none⟩ (.int .i64 (wrap64 (x268000_1 + ((rd_T31 l0 (rd l1 x10_1)).f1))))).heap[gb266]?=some (.cells #[.int .i64 0,.int .i64 0] 51 (0,0))):=⟨zz48⟩
   have n1_:Aside0 ((w10.setCell ⟨gb267,0,none⟩ (.int .i64 (wrap64 (x268000_1 + ((rd_T31 l0 (rd l1 x10_1)).f1))))).heap[gb267]?=some (.cells #[.int .i64 (wrap64 (x268000_1 + ((rd_T31 l0 (rd l1 x10_1)).f1))),.int .i64 x268001_1] 51 (0,0))):=⟨by (with_reducible repeat (first|refine blk_drewN ?_ _|refine blk_drew ?_|refine blk_alloc ?_ _));refine blk_put (cs:=#[.int .i64 x268000_1,.int .i64 x268001_1]) ?_ 0 _ rfl;(with_reducible repeat (first|refine blk_drewN ?_ _|refine blk_drew ?_|refine blk_alloc ?_ _));exact BK267.out⟩
   have n2_:Aside0 (Below w.heap.size w (w10.setCell ⟨gb267,0,none⟩ (.int .i64 (wrap64 (x268000_1 + ((rd_T31 l0 (rd l1 x10_1)).f1)))))):=⟨zz36⟩
   (try simp only [show ∀ (W_:World) (n_:Nat) (a_:Addr) (v_:Value),(W_.drewN n_).setCell a_ v_=(W_.setCell a_ v_).drewN n_ from fun _ _ _ _=>rfl])
   generalize (w10.setCell ⟨gb267,0,none⟩ (.int .i64 (wrap64 (x268000_1 + ((rd_T31 l0 (rd l1 x10_1)).f1)))))=w12 at n0_ n1_ n2_ ⊢
   have BK266:=n0_
   have BK267:=n1_
   have HB:=n2_
   clear n0_ n1_ n2_
   replace BK266:=Aside0.mk (blk_drew BK266.out)
   replace BK267:=Aside0.mk (blk_drew BK267.out)
   replace HB:=Aside0.mk (below_drew1 HB.out)
   have p270:0≤((rd l1 x10_1):Int):=of_decide_eq_true za
   have q270:(rd l1 x10_1)<(l0.length:Int):=of_decide_eq_true za
   obtain ⟨ad270,e270,hx270_0,hx270_1,hx270_2,hx270_3⟩:=at_T31 HR0.out (rd l1 x10_1) p270 q270
   have hw270_3:=hx270_3
   have hw270_2:=hx270_2
   have hw270_1:=hx270_1
   have hw270_0:=hx270_0
   obtain rfl:ad269=ad270:=(by injection e270)
   replace hx270_0:=zh_ HB hx270_0
   replace hx270_1:=zh_ HB hx270_1
   replace hx270_2:=zh_ HB hx270_2
   replace hx270_3:=zh_ HB hx270_3
   replace p270:=eq_true p270
   replace q270:=eq_true q270
   refine start_ (n:=10) (S:=fun w'=>w'.cell? ⟨gb267,0,none⟩=some (.int .i64 (wrap64 (x268000_1 + ((rd_T31 l0 (rd l1 x10_1)).f1))))∧w'.cell? ⟨gb267,1,none⟩=some (.int .i64 x268001_1)∧w'.cell? (ad269.add (((rd l1 x10_1)).toNat * 4))=some (.int .i64 ((rd_T31 l0 (rd l1 x10_1)).f0))∧w'.cell? ⟨(ad269.add (((rd l1 x10_1)).toNat * 4)).block,(ad269.add (((rd l1 x10_1)).toNat * 4)).off + 1,none⟩=some (.int .i64 ((rd_T31 l0 (rd l1 x10_1)).f1))∧w'.cell? ⟨(ad269.add (((rd l1 x10_1)).toNat * 4)).block,(ad269.add (((rd l1 x10_1)).toNat * 4)).off + 2,none⟩=some (.int .i64 ((rd_T31 l0 (rd l1 x10_1)).f2))∧w'.cell? ⟨(ad269.add (((rd l1 x10_1)).toNat * 4)).block,(ad269.add (((rd l1 x10_1)).toNat * 4)).off + 3,none⟩=some (.int .i64 ((rd_T31 l0 (rd l1 x10_1)).f3))) (ds:=[9]) #[false,false,false,false,false,false,false,false,false,false] (by kernel_rfl) rfl rfl ⟨(blk_cell BK267.out 0).trans rfl,(blk_cell BK267.out 1).trans rfl,((HB.out.cell (World.block_lt_of_cell? w _ hw270_0)).trans hw270_0),((HB.out.cell (World.block_lt_of_cell? w _ hw270_1)).trans hw270_1),((HB.out.cell (World.block_lt_of_cell? w _ hw270_2)).trans hw270_2),((HB.out.cell (World.block_lt_of_cell? w _ hw270_3)).trans hw270_3)⟩ (fun hHeld=>?_);refine with_tabW impl_ratioOf.tab6 impl_ratioOf.bits6 (fun HT_ HW_=>?_)
   generalize w12.drew=w13 at BK266 BK267 HB hx270_0 hx270_1 hx270_2 hx270_3 hHeld ⊢
   refine pu_ 0 23 ?_
   refine pu_ 2 25 ?_
   refine pu_ 3 26 ?_
   refine pu_ 4 27 ?_
   refine pu_ 5 28 ?_
   refine tk_ 1 24 hHeld ?_
   refine tk_ 6 29 hHeld ?_
   refine pu_ 7 30 ?_
   refine pu_ 8 31 ?_
   refine last_ (i:=9) (N:=none) #[true,true,true,true,true,true,true,true,true,true] rfl rfl (one_of HT_.out (by kernel_rfl)) (by decide) (fun K hK=>?_)
   have hs14:w13.cell? ⟨gb267,1,none⟩=some (.int .i64 x268001_1):=(blk_cell BK267.out 1).trans rfl
   have hfs14:=blk_frozen BK267.out 1
   have hns14_0:=NB266_267.out
   have hms14_0:=NB267_266.out
   refine skip_ (w1:=?_) (by rfl) rfl ?_ ?_
   rotate_left
   ·go_simp
    rfl
   refine hK.out _ _ ?_
   clear hK K
   refine done_ (done_of HT_.out (by kernel_rfl)) ?_
   try go_wp2
   go_roundg k1
   case measure=>have:=HK1.out;omega
   case rel=>exact ⟨(wrap64 (x10_1 + 1)),(wrap64 (x268000_1 + ((rd_T31 l0 (rd l1 x10_1)).f1))),(wrap64 (x268001_1 + ((rd_T31 l0 (rd l1 x10_1)).f0))),zo,H',⟨by have:=HK1.out;omega⟩,⟨zz48⟩,⟨by (with_reducible repeat (first|refine blk_drewN ?_ _|refine blk_drew ?_|refine blk_alloc ?_ _));refine blk_put (cs:=#[.int .i64 (wrap64 (x268000_1 + ((rd_T31 l0 (rd l1 x10_1)).f1))),.int .i64 x268001_1]) ?_ 1 _ rfl;(with_reducible repeat (first|refine blk_drewN ?_ _|refine blk_drew ?_|refine blk_alloc ?_ _));exact BK267.out⟩,⟨zz36⟩⟩

/-! ### impl_totalOf: function 58 -/
def impl_totalOf.l0:Nat→Int→List (S31)→Int→Int→Option (Int)
 | 0,_,_,_,_=>none
 | k + 1,x3,x6,x7,x8=>if x8<x7 then (if 0≤x8 then (if x8<(x6.length:Int) then (impl_totalOf.l0 k (wrap64 (x3 + ((rd_T31 x6 x8).f0))) x6 x7 (wrap64 (x8 + 1))) else (none)) else (none)) else (some x3)
def impl_totalOf.f (k:Nat) (l0:List (S31)):Option (Int):=impl_totalOf.l0 k 0 l0 (l0.length:Int) 0
theorem impl_totalOf.mono_l:∀ k,(∀ y0 y1 y2 y3,LeO (impl_totalOf.l0 k y0 y1 y2 y3) (impl_totalOf.l0 (k + 1) y0 y1 y2 y3))
 | 0=>fun _ _ _ _ r h=>by simp [impl_totalOf.l0] at h
 | k + 1=>by
  have ih0:=impl_totalOf.mono_l k
  ·intro y0 y1 y2 y3
   unfold impl_totalOf.l0
   repeat' first|(with_reducible first|apply ih0|exact LeO.refl _|exact LeO.none _|refine LeO.ite ?_ ?_|refine LeO.bind ?_ (fun _=>?_))|apply ih0|exact LeO.none _|refine LeO.ite ?_ ?_|refine LeO.bind ?_ (fun _=>?_)
theorem impl_totalOf.mono:∀ a0 k,LeO (impl_totalOf.f k a0) (impl_totalOf.f (k + 1) a0):=by
 intro a0 k
 have ih0:=impl_totalOf.mono_l k
 unfold impl_totalOf.f
 repeat' first|(with_reducible first|apply ih0|exact LeO.refl _|exact LeO.none _|refine LeO.ite ?_ ?_|refine LeO.bind ?_ (fun _=>?_))|apply ih0|exact LeO.none _|refine LeO.ite ?_ ?_|refine LeO.bind ?_ (fun _=>?_)
set_option maxHeartbeats 8000000 in
set_option maxRecDepth 100000 in
theorem impl_totalOf.calls (k:Nat) (A0:Option Addr) (c0:Nat) (l0:List (S31)) (r:Int) (w:World) (hr0:Kd.C k31 w A0 l0.length l0) (hc0:l0.length≤c0) (h:impl_totalOf.f k l0=some r) :
  Calls Try.prog 58 #[.slice A0 l0.length c0] w fun e w'=>e=.returned (.int .i64 r)∧Below w.heap.size w w':=by
 have hu31:=Try.underlying31
 have HR0:=Aside0.mk hr0
 have HC0:=Aside0.mk hc0
 clear hr0 hc0
 have HB:=Aside0.mk (Below.refl w.heap.size w)
 have H:(impl_totalOf.l0 k 0 l0 (l0.length:Int) 0)=some r:=h
 clear h
 have H':=Aside0.mk H
 clear H
 go_enter Try.func58,Try.ntmps58
 go_wp2
 go_loopg [3,8] k (fun kq v3 v8 w'=>∃ (x3_1:Int) (x8_1:Int),v3=.int .i64 x3_1∧v8=.int .i64 x8_1∧Aside0 (impl_totalOf.l0 kq x3_1 l0 (l0.length:Int) x8_1=some r)∧Aside0 (kq≤k)∧Aside0 (Below w.heap.size w w'))
 case atStart=>exact ⟨(0),(0),zo,zo,H',⟨Nat.le_refl _⟩,⟨zb⟩⟩
 case round=>
  clear H'
  obtain ⟨x3_1,x8_1,rfl,rfl,HA,HK1,HB⟩:=hrel
  cases gk with
  | zero=>exact absurd HA.out (by simp [impl_totalOf.l0])
  | succ k1=>
   have H:=HA.out
   clear HA
   simp only [impl_totalOf.l0] at H
   by_cases c2:x8_1<(l0.length:Int)
   rotate_left
   ·rw [if_neg c2] at H
    have c2b0:=decide_eq_false c2
    clear c2
    obtain rfl:=Option.some.inj H
    go_wp2
    go_ret
    exact ⟨zz0,zb⟩
   rw [if_pos c2] at H
   have c2b0:=decide_eq_true c2
   clear c2
   by_cases c3:0≤x8_1
   rotate_left
   ·rw [if_neg c3] at H
    exact absurd H (by simp)
   rw [if_pos c3] at H
   have c3b0:=decide_eq_true c3
   clear c3
   by_cases c4:x8_1<(l0.length:Int)
   rotate_left
   ·rw [if_neg c4] at H
    exact absurd H (by simp)
   rw [if_pos c4] at H
   have c4b0:=decide_eq_true c4
   clear c4
   have H':=Aside0.mk H
   clear H
   have p271:0≤(x8_1:Int):=of_decide_eq_true za
   have q271:x8_1<(l0.length:Int):=of_decide_eq_true za
   obtain ⟨ad271,e271,hx271_0,hx271_1,hx271_2,hx271_3⟩:=at_T31 HR0.out x8_1 p271 q271
   cases e271
   replace hx271_0:=zh_ HB hx271_0
   replace hx271_1:=zh_ HB hx271_1
   replace hx271_2:=zh_ HB hx271_2
   replace hx271_3:=zh_ HB hx271_3
   replace p271:=eq_true p271
   replace q271:=eq_true q271
   go_wp2_with (first|((with_reducible refine gate_dst (N:=5) rfl ?_);refine box_event ?hg (N:=5) ?hd (cs:=#[.int .i64 0,.int .i64 0,.int .i64 0,.int .i64 0]) (t:=31) ?hr ?_;(case hd=>rfl);(case hg=>rfl);(case hr=>first|(go_simp;done)|(go_simp;rfl));intro gb272 hg w5 hbox hb;have n0_:=zb1 hb;have n1_:=Aside0.mk (hbox);have n2_:=Aside0.mk ((by rw [hg];exact (below_size zb):w.heap.size≤gb272));have n3_:=Aside0.mk ((by rw [hg];exact (below_size zb):w.heap.size≤gb272));clear HB;have HB:=n0_;have BK272:=n1_;have GW272:=n2_;have GE272:=n3_;clear n0_ n1_ n2_ n3_;clear hb hbox hg;obtain ⟨hcz6_0,hcz6_1,hcz6_2,hcz6_3,hfz6_0,hfz6_1,hfz6_2,hfz6_3⟩:=zk4 BK272.out))
   go_roundg k1
   case measure=>have:=HK1.out;omega
   case rel=>exact ⟨(wrap64 (x3_1 + ((rd_T31 l0 x8_1).f0))),(wrap64 (x8_1 + 1)),zo,zo,H',⟨by have:=HK1.out;omega⟩,⟨by repeat (first|(with_reducible first|exact HB.out|apply below_alloc|apply pw_below_drewN|apply below_drew1|refine below_set ?_ GE272.out)|exact HB.out)⟩⟩

/-! ### impl_listOf: function 59 -/
def impl_listOf.l0:Nat→Int→List Int→Int→Option (List Int)
 | 0,_,_,_=>none
 | k + 1,x0,x3,x4=>if 0≤x4 then (if (shr .i64 x0 x4)>0 then (if (Go.bits .and .i64 (shr .i64 x0 x4) 1)=1 then (if x3.length<17592186044416 then (impl_listOf.l0 k x0 (x3++[x4]) (wrap64 (x4 + 1))) else (none)) else (impl_listOf.l0 k x0 x3 (wrap64 (x4 + 1)))) else (some x3)) else (none)
def impl_listOf.f (k:Nat) (a0:Int):Option (List Int):=impl_listOf.l0 k a0 ([]:List Int) 0
theorem impl_listOf.mono_l:∀ k,(∀ y0 y1 y2,LeO (impl_listOf.l0 k y0 y1 y2) (impl_listOf.l0 (k + 1) y0 y1 y2))
 | 0=>fun _ _ _ r h=>by simp [impl_listOf.l0] at h
 | k + 1=>by
  have ih0:=impl_listOf.mono_l k
  ·intro y0 y1 y2
   unfold impl_listOf.l0
   repeat' first|(with_reducible first|apply ih0|exact LeO.refl _|exact LeO.none _|refine LeO.ite ?_ ?_|refine LeO.bind ?_ (fun _=>?_))|apply ih0|exact LeO.none _|refine LeO.ite ?_ ?_|refine LeO.bind ?_ (fun _=>?_)
theorem impl_listOf.mono:∀ a0 k,LeO (impl_listOf.f k a0) (impl_listOf.f (k + 1) a0):=by
 intro a0 k
 have ih0:=impl_listOf.mono_l k
 unfold impl_listOf.f
 repeat' first|(with_reducible first|apply ih0|exact LeO.refl _|exact LeO.none _|refine LeO.ite ?_ ?_|refine LeO.bind ?_ (fun _=>?_))|apply ih0|exact LeO.none _|refine LeO.ite ?_ ?_|refine LeO.bind ?_ (fun _=>?_)
set_option maxHeartbeats 8000000 in
set_option maxRecDepth 100000 in
theorem impl_listOf.calls (k:Nat) (a0:Int) (r:List Int) (w:World) (h:impl_listOf.f k a0=some r) :
  Calls Try.prog 59 #[.int .i64 a0] w fun e w'=>∃ v0_:Value,e=.returned (v0_)∧Kd.R (Kd.int .i64) 3 w' w.heap.size (fun _=>True) v0_ r∧Below w.heap.size w w':=by
 have HB:=Aside0.mk (Below.refl w.heap.size w)
 have H:(impl_listOf.l0 k a0 ([]:List Int) 0)=some r:=h
 clear h
 have H':=Aside0.mk H
 clear H
 go_enter Try.func59,Try.ntmps59
 go_wp2
 go_loopg [3,4] k (fun kq v3 v4 w'=>∃ (x3_1:List Int) (x4_1:Int),v4=.int .i64 x4_1∧Aside0 (impl_listOf.l0 kq a0 x3_1 x4_1=some r)∧Aside0 (kq≤k)∧Aside0 (Kd.R (Kd.int .i64) 3 w' w.heap.size (fun _=>True) v3 x3_1)∧Aside0 (Below w.heap.size w w'))
 case atStart=>exact ⟨(([]:List Int)),(0),zo,H',⟨Nat.le_refl _⟩,⟨zz47⟩,⟨zb⟩⟩
 case round=>
  clear H'
  obtain ⟨x3_1,x4_1,rfl,HA,HK1,HO_3,HB⟩:=hrel
  cases gk with
  | zero=>exact absurd HA.out (by simp [impl_listOf.l0])
  | succ k1=>
   have H:=HA.out
   clear HA
   simp only [impl_listOf.l0] at H
   by_cases c2:0≤x4_1
   rotate_left
   ·rw [if_neg c2] at H
    exact absurd H (by simp)
   rw [if_pos c2] at H
   have c2b0:=eq_true c2
   have c2b1:=decide_eq_true c2
   clear c2
   obtain ⟨ji3,hji3⟩:∃ j_:Int,(shr .i64 a0 x4_1)=j_:=⟨_,rfl⟩
   replace H:(if (ji3)>0 then (if (Go.bits .and .i64 (ji3) 1)=1 then (if x3_1.length<17592186044416 then (impl_listOf.l0 k1 a0 (x3_1++[x4_1]) (wrap64 (x4_1 + 1))) else (none)) else (impl_listOf.l0 k1 a0 x3_1 (wrap64 (x4_1 + 1)))) else (some x3_1))=some r:=by first|(rw [hji3] at H;exact H)|(simp only [hji3] at H ⊢;exact H)
   have hji3_:(a0 / 2 ^ min x4_1.toNat 64)=ji3:=hji3
   have hji3z:x4_1≤64→(a0 / 2 ^ x4_1.toNat)=ji3:=shr_small hji3
   by_cases c4:(ji3)>0
   rotate_left
   ·rw [if_neg c4] at H
    have c4b0:=decide_eq_false c4
    clear c4
    obtain rfl:=Option.some.inj H
    go_wp2
    go_ret
    exact ⟨_,by first|rfl|(simp [errW_none,errW_some] <;> rfl)|(simp only [←hji3];first|rfl|(simp [errW_none,errW_some] <;> rfl))|(simp [*,errW_none,errW_some] <;> rfl),zR HO_3.out,zb⟩
   rw [if_pos c4] at H
   have c4b0:=decide_eq_true c4
   clear c4
   have c5b0:=eq_true (of_decide_eq_true za:0≤x4_1)
   by_cases c6:(Go.bits .and .i64 (ji3) 1)=1
   rotate_left
   ·rw [if_neg c6] at H
    have c6b0:((Go.bits .and .i64 (ji3) 1) == 1)=false:=beq_eq_false_iff_ne.mpr c6
    have c6b1:((Go.bits .and .i64 (ji3) 1) != 1)=true:=bne_iff_ne.mpr c6
    have H':=Aside0.mk H
    clear H
    go_wp2
    go_roundg k1
    case measure=>have:=HK1.out;omega
    case rel=>exact ⟨(x3_1),(wrap64 (x4_1 + 1)),zo,H',⟨by have:=HK1.out;omega⟩,⟨zR HO_3.out⟩,⟨zb⟩⟩
   rw [if_pos c6] at H
   have c6b0:((Go.bits .and .i64 (ji3) 1) == 1)=true:=beq_iff_eq.mpr c6
   have c6b1:((Go.bits .and .i64 (ji3) 1) != 1)=false:=bne_eq_false_iff_eq.mpr c6
   clear c6
   by_cases c7:x3_1.length<17592186044416
   rotate_left
   ·rw [if_neg c7] at H
    exact absurd H (by simp)
   rw [if_pos c7] at H
   have LMc7:=Aside0.mk c7
   clear c7
   obtain ⟨y273,hy273⟩:∃ y_:List Int,y_=(x3_1++[x4_1]):=⟨_,rfl⟩
   replace H:(impl_listOf.l0 k1 a0 y273 (wrap64 (x4_1 + 1)))=some r:=by first|(rw [hy273];with_reducible exact H)|(have H2_:=(Option.bind_some _ _).symm.trans H;rw [hy273];with_reducible exact H2_)|(have H2_:=(Option.bind_some _ _).symm.trans H;with_reducible exact H2_)|with_reducible exact H|(rw [hy273];exact H)|exact H
   have Ny273:=Aside0.mk hy273
   clear hy273
   have H':=Aside0.mk H
   clear H
   go_wp2_with (first|((with_reducible refine gate_builtin (b:=.append) (xs:=#[.tmp 16,.tmp 18]) rfl ?_);at_builtin;refine Kd.R_append (Kd.int .i64) (w0:=w) w.heap.size rfl (.tmp 16) (.tmp 18) 49 3 (.int .i64 0) 8 rfl Try.underlying49 info3 rfl (by decide) (by omega) u3 x3_1 x4_1 [.int .i64 x4_1] (fun _=>True) (fun _=>False) rfl rfl ?aP (fun _ hk=>hk.elim) ?aF ?aO ?aB ?aS ?aL ?_;(case aP=>exact rfl);(case aB=>exact zb);(case aF=>exact (fun _ _=>trivial));(case aO=>exact (zR HO_3.out));(case aS=>exact (below_size zb));(case aL=>have:=LMc7.out;omega);intro v274 w8 ho hb hg hat;rw [←Ny273.out] at ho;replace HB:=Aside0.mk (hb);have HO275:=Aside0.mk (ho);clear HO_3;clear ho hb hg hat))
   go_roundg k1
   case measure=>have:=HK1.out;omega
   case rel=>exact ⟨(y273),(wrap64 (x4_1 + 1)),zo,H',⟨by have:=HK1.out;omega⟩,⟨zR HO275.out⟩,⟨zb⟩⟩

end Go.Proofs.Ytkolecmpncaooaa.XFnLateWeight
-- minified
