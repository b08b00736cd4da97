-- Written by a program of this session (the kit's print, widened). Proved here: what each function answers, for the arguments that its contract names.
import Derived.Test.YtkolecmpncaooaaXFnLateWeightx0
import Derived.Test.YtkolecmpncaooaaXFnLateWeightx10
import Derived.Test.YtkolecmpncaooaaXFnLateWeightx18
namespace Go.Proofs.Ytkolecmpncaooaa.XFnLateWeight
open Go.RowKit Go.Proofs.YtkolecmpncaooaaW.PrintWords Go.Proofs.YtkolecmpncaooaaW.PrintLast Go.Proofs.YtkolecmpncaooaaW.PrintMore
attribute [local go_sem] max2_int min2_int max_two min_two max_three min_three max_four min_four   -- for this text's walks alone
attribute [local go_sem] idxA_51_0 idxA_51_1 fldS_45_0 fldS_45_1 fldS_45_2 fldS_96_0 fldS_96_1 fldS_96_2
set_option linter.unusedVariables false
set_option linter.unusedSimpArgs false

/-! ### spec_l2Starts: function 119 -/
def spec_l2Starts.l0:Nat→List (S31)→List Int→List Int→Int→Int→Option (List Int)
 | 0,_,_,_,_,_=>none
 | k + 1,x0,x1,x5,x6,x7=>if x7<(x1.length:Int) then (if 0≤x7 then (if 0≤(rd x1 x7) then (if (rd x1 x7)<(x0.length:Int) then ((spec_l1Most.f x6 ((rd_T31 x0 (rd x1 x7)).f2)).bind fun t477=>(if (rd x1 x7)<(x5.length:Int) then ((some (x5.set ((rd x1 x7):Int).toNat t477:List Int)).bind fun y478=>(spec_l2Starts.l0 k x0 x1 y478 (wrap64 ((rd y478 (rd x1 x7)) + ((rd_T31 x0 (rd x1 x7)).f0))) (wrap64 (x7 + 1)))) else (none))) else (none)) else (none)) else (none)) else (some x5)
def spec_l2Starts.f (k:Nat) (l0:List (S31)) (l1:List Int):Option (List Int):=if 0≤(l0.length:Int) then (if ((l0.length:Int):Int).toNat≤35184372088832 then (spec_l2Starts.l0 k l0 l1 (List.replicate ((l0.length:Int):Int).toNat 0) 0 0) else (none)) else (none)
theorem spec_l2Starts.mono_l:∀ k,(∀ y0 y1 y2 y3 y4,LeO (spec_l2Starts.l0 k y0 y1 y2 y3 y4) (spec_l2Starts.l0 (k + 1) y0 y1 y2 y3 y4))
 | 0=>fun _ _ _ _ _ r h=>by simp [spec_l2Starts.l0] at h
 | k + 1=>by
  have ih0:=spec_l2Starts.mono_l k
  ·intro y0 y1 y2 y3 y4
   unfold spec_l2Starts.l0
   repeat' first|(with_reducible first|apply ih0|exact LeO.refl _|exact LeO.none _|refine LeO.ite ?_ ?_|refine LeO.bind ?_ (fun _=>?_))|apply ih0|exact LeO.none _|refine LeO.ite ?_ ?_|refine LeO.bind ?_ (fun _=>?_)
theorem spec_l2Starts.mono:∀ a0 a1 k,LeO (spec_l2Starts.f k a0 a1) (spec_l2Starts.f (k + 1) a0 a1):=by
 intro a0 a1 k
 have ih0:=spec_l2Starts.mono_l k
 unfold spec_l2Starts.f
 repeat' first|(with_reducible first|apply ih0|exact LeO.refl _|exact LeO.none _|refine LeO.ite ?_ ?_|refine LeO.bind ?_ (fun _=>?_))|apply ih0|exact LeO.none _|refine LeO.ite ?_ ?_|refine LeO.bind ?_ (fun _=>?_)
def spec_l2Starts.T5:Bool × List (List Nat × List Nat):=(true,[([],[]),([],[]),([],[]),([1,2],[1,2]),([3],[3]),([],[]),([],[]),([],[]),([],[]),([7,8],[7,8]),([9],[9]),([6,10],[6,10]),([11],[11]),([12],[12]),([5,13],[5,13]),([0,4,0,1,2,3,4,5,6,7,8,9,10,11,12,13,14],[0,4]),([15,14,14,0,1,2,3,4,5,6,7,8,9,10,11,12,13,14],[14,15])])
def spec_l2Starts.B5:List Nat:=[0,0,0,6,14,0,0,0,0,384,896,1984,4032,8128,16352,32767,65535]
theorem spec_l2Starts.tab5:rtab .any (opsOf Try.f119 5)=spec_l2Starts.T5:=by kernel_rfl
theorem spec_l2Starts.bits5:waitsOk spec_l2Starts.T5.2 spec_l2Starts.B5=true:=by kernel_rfl
def spec_l2Starts.T6:Bool × List (List Nat × List Nat):=(true,[([],[]),([],[]),([],[]),([1,2],[1,2]),([3],[3]),([0,4],[0,4]),([5],[5]),([],[]),([],[]),([],[]),([8,9],[8,9]),([10],[10]),([7,11],[7,11]),([12],[12]),([13],[13]),([6,14],[6,14]),([15,0,1,2,3,4,5,6,7,8,9,10,11,12,13,14,15],[15])])
def spec_l2Starts.B6:List Nat:=[0,0,0,6,14,31,63,0,0,0,768,1792,3968,8064,16256,32767,65535]
theorem spec_l2Starts.tab6:rtab .any (opsOf Try.f119 6)=spec_l2Starts.T6:=by kernel_rfl
theorem spec_l2Starts.bits6:waitsOk spec_l2Starts.T6.2 spec_l2Starts.B6=true:=by kernel_rfl
set_option maxHeartbeats 8000000 in
set_option maxRecDepth 100000 in
theorem spec_l2Starts.calls (k:Nat) (A0:Option Addr) (c0:Nat) (l0:List (S31)) (A1:Option Addr) (c1:Nat) (l1:List Int) (r:List Int) (w:World) (hr0:Kd.C k31 w A0 l0.length l0) (hc0:l0.length≤c0) (hr1:Kd.C (Kd.int .i64) w A1 l1.length l1) (hc1:l1.length≤c1) (h:spec_l2Starts.f k l0 l1=some r) :
  Calls Try.prog 119 #[.slice A0 l0.length c0,.slice A1 l1.length c1] w fun e w'=>∃ v0_:Value,e=.returned (v0_)∧Kd.R (Kd.int .i64) 3 w' w.heap.size (fun _=>True) v0_ r∧Below w.heap.size w w':=by
 have HR0:=Aside0.mk hr0
 have HC0:=Aside0.mk hc0
 clear hr0 hc0
 have HR1:=Aside0.mk hr1
 have HC1:=Aside0.mk hc1
 clear hr1 hc1
 have HB:=Aside0.mk (Below.refl w.heap.size w)
 have H:(if 0≤(l0.length:Int) then (if ((l0.length:Int):Int).toNat≤35184372088832 then (spec_l2Starts.l0 k l0 l1 (List.replicate ((l0.length:Int):Int).toNat 0) 0 0) else (none)) else (none))=some r:=h
 clear h
 by_cases c3:0≤(l0.length:Int)
 rotate_left
 ·rw [if_neg c3] at H
  exact absurd H (by simp)
 rw [if_pos c3] at H
 have c3b0:=eq_true c3
 have c3b1:=decide_eq_true c3
 clear c3
 by_cases c4:((l0.length:Int):Int).toNat≤35184372088832
 rotate_left
 ·rw [if_neg c4] at H
  exact absurd H (by simp)
 rw [if_pos c4] at H
 have c4b0:=eq_true c4
 have c4b1:=decide_eq_true c4
 clear c4
 obtain ⟨y471,hy471⟩:∃ y_:List Int,y_=(List.replicate ((l0.length:Int):Int).toNat 0):=⟨_,rfl⟩
 replace H:(spec_l2Starts.l0 k l0 l1 y471 0 0)=some r:=by first|(rw [hy471];with_reducible exact H)|(have H2_:=(Option.bind_some _ _).symm.trans H;rw [hy471];with_reducible exact H2_)|(have H2_:=(Option.bind_some _ _).symm.trans H;with_reducible exact H2_)|with_reducible exact H|(rw [hy471];exact H)|exact H
 have Ny471:=Aside0.mk hy471
 clear hy471
 have H':=Aside0.mk H
 clear H
 go_enter Try.func119,Try.ntmps119
 go_wp2_with (first|((with_reducible refine gate_dst (N:=10) rfl ?_);refine Kd.R_make (Kd.int .i64) _ 3 rfl (N:=10) rfl 49 _ _ rfl (l0.length:Int) rfl rfl Try.underlying49 (.int .i64 0) 8 info3 rfl (by decide) (by omega) 0 (ok:=fun _=>True) (okp:=fun _=>True) rfl (fun _ hk=>hk) trivial (of_decide_eq_true za) (Nat.le_trans (Nat.mul_le_mul_right _ (of_decide_eq_true za:(l0.length:Int).toNat≤35184372088832)) (by omega)) (Below.refl _ _) (Nat.le_refl _) ?_;intro v472 w5 ho6 hb hg_ hnew_;clear hg_ hnew_;(first|rw [←Ny471.out] at ho6|(simp only [Int.reduceToNat] at ho6;rw [←Ny471.out] at ho6));have HO473:=Aside0.mk (Kd.R_lower ho6 (below_size zb));replace HB:=zb1 hb;clear hb ho6))
 go_loopg [6,7] k (fun kq v6 v7 w'=>∃ (x5_1:List Int) (x6_1:Int) (x7_1:Int),v6=.int .i64 x6_1∧v7=.int .i64 x7_1∧Aside0 (spec_l2Starts.l0 kq l0 l1 x5_1 x6_1 x7_1=some r)∧Aside0 (kq≤k)∧Aside0 (Kd.R (Kd.int .i64) 3 w' w.heap.size (fun _=>True) v472 x5_1)∧Aside0 (Below w.heap.size w w'))
 case atStart=>exact ⟨(y471),(0),(0),zo,zo,H',⟨Nat.le_refl _⟩,⟨zR HO473.out⟩,⟨zb⟩⟩
 case round=>
  clear H'
  obtain ⟨x5_1,x6_1,x7_1,rfl,rfl,HA,HK1,HO_5,HB⟩:=hrel
  cases gk with
  | zero=>exact absurd HA.out (by simp [spec_l2Starts.l0])
  | succ k1=>
   have H:=HA.out
   clear HA
   simp only [spec_l2Starts.l0] at H
   by_cases c7:x7_1<(l1.length:Int)
   rotate_left
   ·rw [if_neg c7] at H
    have c7b0:=decide_eq_false c7
    clear c7
    obtain rfl:=Option.some.inj H
    go_wp2
    go_ret
    exact ⟨_,zz0,zR HO_5.out,zb⟩
   rw [if_pos c7] at H
   have c7b0:=decide_eq_true c7
   clear c7
   by_cases c8:0≤x7_1
   rotate_left
   ·rw [if_neg c8] at H
    exact absurd H (by simp)
   rw [if_pos c8] at H
   have c8b0:=decide_eq_true c8
   clear c8
   by_cases c9:0≤(rd l1 x7_1)
   rotate_left
   ·rw [if_neg c9] at H
    exact absurd H (by simp)
   rw [if_pos c9] at H
   have c9b0:=decide_eq_true c9
   clear c9
   by_cases c10:(rd l1 x7_1)<(l0.length:Int)
   rotate_left
   ·rw [if_neg c10] at H
    exact absurd H (by simp)
   rw [if_pos c10] at H
   have c10b0:=decide_eq_true c10
   clear c10
   replace H:=Option.bind_eq_some_iff.mp H
   obtain ⟨t477,A110,H⟩:=H
   try dsimp only at H
   have A11:=Aside0.mk A110
   clear A110
   by_cases c12:(rd l1 x7_1)<(x5_1.length:Int)
   rotate_left
   ·rw [if_neg c12] at H
    exact absurd H (by simp)
   rw [if_pos c12] at H
   have c12b0:=decide_eq_true c12
   clear c12
   obtain ⟨y478,hy478⟩:∃ y_:List Int,y_=(x5_1.set ((rd l1 x7_1):Int).toNat t477):=⟨_,rfl⟩
   replace H:(spec_l2Starts.l0 k1 l0 l1 y478 (wrap64 ((rd y478 (rd l1 x7_1)) + ((rd_T31 l0 (rd l1 x7_1)).f0))) (wrap64 (x7_1 + 1)))=some r:=by first|(rw [hy478];with_reducible exact H)|(have H2_:=(Option.bind_some _ _).symm.trans H;rw [hy478];with_reducible exact H2_)|(have H2_:=(Option.bind_some _ _).symm.trans H;with_reducible exact H2_)|with_reducible exact H|(rw [hy478];exact H)|exact H
   have Ny478:=Aside0.mk hy478
   clear hy478
   have H':=Aside0.mk H
   clear H
   try go_wp2
   replace HO_5:=Aside0.mk (Kd.R_drew HO_5.out)
   replace HB:=Aside0.mk (below_drew1 HB.out)
   have p474:0≤(x7_1:Int):=of_decide_eq_true za
   have q474:x7_1<(l1.length:Int):=of_decide_eq_true za
   obtain ⟨ad474,e474,hx474_0⟩:=Kd.at_int HR1.out x7_1 p474 q474
   have hw474_0:=hx474_0
   cases e474
   replace hx474_0:=zh_ HB hx474_0
   replace p474:=eq_true p474
   replace q474:=eq_true q474
   have p475:0≤(x7_1:Int):=of_decide_eq_true za
   have q475:x7_1<(l1.length:Int):=of_decide_eq_true za
   obtain ⟨ad475,e475,hx475_0⟩:=Kd.at_int HR1.out x7_1 p475 q475
   have hw475_0:=hx475_0
   obtain rfl:ad474=ad475:=(by injection e475)
   replace hx475_0:=zh_ HB hx475_0
   replace p475:=eq_true p475
   replace q475:=eq_true q475
   have p476:0≤((rd l1 x7_1):Int):=of_decide_eq_true za
   have q476:(rd l1 x7_1)<(l0.length:Int):=of_decide_eq_true za
   obtain ⟨ad476,e476,hx476_0,hx476_1,hx476_2,hx476_3⟩:=at_T31 HR0.out (rd l1 x7_1) p476 q476
   have hw476_3:=hx476_3
   have hw476_2:=hx476_2
   have hw476_1:=hx476_1
   have hw476_0:=hx476_0
   cases e476
   replace hx476_0:=zh_ HB hx476_0
   replace hx476_1:=zh_ HB hx476_1
   replace hx476_2:=zh_ HB hx476_2
   replace hx476_3:=zh_ HB hx476_3
   replace p476:=eq_true p476
   replace q476:=eq_true q476
   refine start_ (n:=17) (S:=fun w'=>w'.cell? (ad474.add (x7_1).toNat)=some (.int .i64 (rd l1 x7_1))∧w'.cell? (ad474.add (x7_1).toNat)=some (.int .i64 (rd l1 x7_1))∧w'.cell? (ad476.add (((rd l1 x7_1)).toNat * 4))=some (.int .i64 ((rd_T31 l0 (rd l1 x7_1)).f0))∧w'.cell? ⟨(ad476.add (((rd l1 x7_1)).toNat * 4)).block,(ad476.add (((rd l1 x7_1)).toNat * 4)).off + 1,none⟩=some (.int .i64 ((rd_T31 l0 (rd l1 x7_1)).f1))∧w'.cell? ⟨(ad476.add (((rd l1 x7_1)).toNat * 4)).block,(ad476.add (((rd l1 x7_1)).toNat * 4)).off + 2,none⟩=some (.int .i64 ((rd_T31 l0 (rd l1 x7_1)).f2))∧w'.cell? ⟨(ad476.add (((rd l1 x7_1)).toNat * 4)).block,(ad476.add (((rd l1 x7_1)).toNat * 4)).off + 3,none⟩=some (.int .i64 ((rd_T31 l0 (rd l1 x7_1)).f3))) (ds:=[16]) #[false,false,false,false,false,false,false,false,false,false,false,false,false,false,false,false,false] (by kernel_rfl) rfl rfl ⟨((HB.out.cell (World.block_lt_of_cell? w _ hw474_0)).trans hw474_0),((HB.out.cell (World.block_lt_of_cell? w _ hw475_0)).trans hw475_0),((HB.out.cell (World.block_lt_of_cell? w _ hw476_0)).trans hw476_0),((HB.out.cell (World.block_lt_of_cell? w _ hw476_1)).trans hw476_1),((HB.out.cell (World.block_lt_of_cell? w _ hw476_2)).trans hw476_2),((HB.out.cell (World.block_lt_of_cell? w _ hw476_3)).trans hw476_3)⟩ (fun hHeld=>?_);refine with_tabW spec_l2Starts.tab5 spec_l2Starts.bits5 (fun HT_ HW_=>?_)
   generalize wr.drew=w14 at HO_5 HB hx474_0 hx475_0 hx476_0 hx476_1 hx476_2 hx476_3 hHeld ⊢
   refine pu_ 0 17 ?_
   refine pu_ 1 18 ?_
   refine pu_ 2 19 ?_
   refine pu_ 3 20 ?_
   refine pu_ 5 22 ?_
   refine pu_ 6 23 ?_
   refine pu_ 7 24 ?_
   refine pu_ 8 25 ?_
   refine pu_ 9 26 ?_
   refine tk_ 4 21 hHeld ?_
   refine tk_ 10 27 hHeld ?_
   refine pu_ 11 28 ?_
   refine pu_ 12 29 ?_
   refine tk_ 13 30 hHeld ?_
   refine one_ (i:=14) (N:=some 31) #[true,true,true,true,true,true,true,true,true,true,true,true,true,true,true,false,false] rfl rfl (one_of HT_.out (by kernel_rfl)) (by decide) (fun K hK=>?_)
   refine goes_ Try.func63 (by kernel_rfl) rfl #[.int .i64 x6_1,.int .i64 ((rd_T31 l0 (rd l1 x7_1)).f2)] (by rfl) rfl rfl zl ?_
   with_reducible refine (spec_l1Most.calls x6_1 ((rd_T31 l0 (rd l1 x7_1)).f2) t477 _ A11.out).mono ?_
   rintro e w' ⟨rfl,⟨nd,rfl⟩⟩
   refine ⟨_,rfl,?_⟩
   have p13:0≤((rd l1 x7_1):Int):=of_decide_eq_true za
   have q13:((rd l1 x7_1):Int)<((x5_1.length:Int):Int):=of_decide_eq_true za
   obtain ⟨go13,co13,eo13,gb13,gl13,cl13,HG13⟩:=Kd.R_form HO_5.out (by omega)
   (first|cases eo13|(injection eo13 with ea_ en_ ec_;(first|subst ea_|(injection ea_ with ea_;subst ea_));subst ec_;clear en_))
   have GB13:=Aside0.mk gb13
   have GG13:=Aside0.mk HG13
   clear gb13 gl13 HG13
   obtain ⟨hx13_0,hf13_0⟩:=Kd.R_celln 0 HO_5.out ((rd l1 x7_1):Int) p13 q13
   replace p13:=eq_true p13
   replace q13:=eq_true q13
   have HP15:=Kd.R_putn HO_5.out ((rd l1 x7_1):Int) t477
   rw [←Ny478.out] at HP15
   have HQ15:=Aside0.mk HP15
   clear HP15
   refine hK.out _ _ ⟨((HB.out.cell (World.block_lt_of_cell? w _ hw474_0)).trans hw474_0),((HB.out.cell (World.block_lt_of_cell? w _ hw475_0)).trans hw475_0),((HB.out.cell (World.block_lt_of_cell? w _ hw476_0)).trans hw476_0),((HB.out.cell (World.block_lt_of_cell? w _ hw476_1)).trans hw476_1),((HB.out.cell (World.block_lt_of_cell? w _ hw476_2)).trans hw476_2),((HB.out.cell (World.block_lt_of_cell? w _ hw476_3)).trans hw476_3)⟩ (fun hHeld=>?_)
   clear hK K
   refine norm_ (a':=?_) ?_ ?_
   rotate_left
   ·show Act.put _ (some 31) _=_
    simp only [Act.put,List.setIfInBounds_toArray,List.set_cons_zero,List.set_cons_succ,i64_w,i32_w]
    rfl
   refine pu_ 15 32 ?_
   refine last_ (i:=16) (N:=none) #[true,true,true,true,true,true,true,true,true,true,true,true,true,true,true,true,true] rfl rfl (one_of HT_.out (by kernel_rfl)) (by decide) (fun K hK=>?_)
   refine skip_ (w1:=?_) (by rfl) rfl ?_ ?_
   rotate_left
   ·go_simp
    rfl
   refine hK.out _ _ ?_
   clear hK K
   refine done_ (done_of HT_.out (by kernel_rfl)) ?_
   try go_wp2
   have n0_:Aside0 (Kd.R (Kd.int .i64) 3 (w14.setCell ⟨go13,((rd l1 x7_1):Int).toNat,none⟩ (.int .i64 t477)) w.heap.size (fun _=>True) (.slice (some ⟨go13,0,none⟩) x5_1.length co13) y478):=⟨by (with_reducible repeat (first|apply Kd.R_alloc|apply Kd.R_drewN|apply Kd.R_drew));exact HQ15.out⟩
   have n1_:Aside0 (Below w.heap.size w (w14.setCell ⟨go13,((rd l1 x7_1):Int).toNat,none⟩ (.int .i64 t477))):=⟨by repeat (first|(with_reducible first|exact HB.out|apply below_alloc|apply pw_below_drewN|apply below_drew1|refine below_set ?_ GB13.out)|exact HB.out)⟩
   (try simp only [show ∀ (W_:World) (n_:Nat) (a_:Addr) (v_:Value),(W_.drewN n_).setCell a_ v_=(W_.setCell a_ v_).drewN n_ from fun _ _ _ _=>rfl])
   generalize (w14.setCell ⟨go13,((rd l1 x7_1):Int).toNat,none⟩ (.int .i64 t477))=w16 at n0_ n1_ ⊢
   have HO_5:=n0_
   have HB:=n1_
   clear n0_ n1_
   (try (rw [drewN_self w16];generalize hq_:World.drewN w16 _=w16;have n0_:Aside0 (Kd.R (Kd.int .i64) 3 w16 w.heap.size (fun _=>True) (.slice (some ⟨go13,0,none⟩) x5_1.length co13) y478):=⟨by rw [←hq_];exact (zR HO_5.out)⟩;have n1_:Aside0 (Below w.heap.size w w16):=⟨by rw [←hq_];exact zb⟩;clear HO_5 HB hq_;have HO_5:=n0_;have HB:=n1_;clear n0_ n1_))
   replace HO_5:=Aside0.mk (Kd.R_drew HO_5.out)
   replace HB:=Aside0.mk (below_drew1 HB.out)
   have p479:0≤(x7_1:Int):=of_decide_eq_true za
   have q479:x7_1<(l1.length:Int):=of_decide_eq_true za
   obtain ⟨ad479,e479,hx479_0⟩:=Kd.at_int HR1.out x7_1 p479 q479
   have hw479_0:=hx479_0
   obtain rfl:ad474=ad479:=(by injection e479)
   replace hx479_0:=zh_ HB hx479_0
   replace p479:=eq_true p479
   replace q479:=eq_true q479
   have p480:0≤((rd l1 x7_1):Int):=of_decide_eq_true za
   have q480:(rd l1 x7_1)<(y478.length:Int):=(by have h_:((rd l1 x7_1):Int)<((x5_1.length:Int):Int):=of_decide_eq_true za;first|(have e_:=(Kd.R_reads' HO_5.out).1;omega)|simpa only [Ny478.out,List.length_set] using h_)
   have ql480:(((rd l1 x7_1):Int)<((x5_1.length:Int):Int))=True:=eq_true (of_decide_eq_true za)
   obtain ⟨ad480,e480,hx480_0⟩:=Kd.at_int (Kd.R_reads' HO_5.out).2.2 (rd l1 x7_1) p480 q480
   obtain rfl:(⟨go13,0,none⟩:Addr)=ad480:=(by injection e480)
   (first|simp only [add_plain] at hx480_0|simp only [add_at] at hx480_0|simp only [Addr.add,Nat.zero_add] at hx480_0|skip)
   replace p480:=eq_true p480
   replace q480:=eq_true q480
   have p481:0≤(x7_1:Int):=of_decide_eq_true za
   have q481:x7_1<(l1.length:Int):=of_decide_eq_true za
   obtain ⟨ad481,e481,hx481_0⟩:=Kd.at_int HR1.out x7_1 p481 q481
   have hw481_0:=hx481_0
   obtain rfl:ad474=ad481:=(by injection e481)
   replace hx481_0:=zh_ HB hx481_0
   replace p481:=eq_true p481
   replace q481:=eq_true q481
   have p482:0≤((rd l1 x7_1):Int):=of_decide_eq_true za
   have q482:(rd l1 x7_1)<(l0.length:Int):=of_decide_eq_true za
   obtain ⟨ad482,e482,hx482_0,hx482_1,hx482_2,hx482_3⟩:=at_T31 HR0.out (rd l1 x7_1) p482 q482
   have hw482_3:=hx482_3
   have hw482_2:=hx482_2
   have hw482_1:=hx482_1
   have hw482_0:=hx482_0
   obtain rfl:ad476=ad482:=(by injection e482)
   replace hx482_0:=zh_ HB hx482_0
   replace hx482_1:=zh_ HB hx482_1
   replace hx482_2:=zh_ HB hx482_2
   replace hx482_3:=zh_ HB hx482_3
   replace p482:=eq_true p482
   replace q482:=eq_true q482
   refine start_ (n:=17) (S:=fun w'=>w'.cell? (ad474.add (x7_1).toNat)=some (.int .i64 (rd l1 x7_1))∧w'.cell? ⟨go13,((rd l1 x7_1)).toNat,none⟩=some (.int .i64 (rd y478 (rd l1 x7_1)))∧w'.cell? (ad474.add (x7_1).toNat)=some (.int .i64 (rd l1 x7_1))∧w'.cell? (ad476.add (((rd l1 x7_1)).toNat * 4))=some (.int .i64 ((rd_T31 l0 (rd l1 x7_1)).f0))∧w'.cell? ⟨(ad476.add (((rd l1 x7_1)).toNat * 4)).block,(ad476.add (((rd l1 x7_1)).toNat * 4)).off + 1,none⟩=some (.int .i64 ((rd_T31 l0 (rd l1 x7_1)).f1))∧w'.cell? ⟨(ad476.add (((rd l1 x7_1)).toNat * 4)).block,(ad476.add (((rd l1 x7_1)).toNat * 4)).off + 2,none⟩=some (.int .i64 ((rd_T31 l0 (rd l1 x7_1)).f2))∧w'.cell? ⟨(ad476.add (((rd l1 x7_1)).toNat * 4)).block,(ad476.add (((rd l1 x7_1)).toNat * 4)).off + 3,none⟩=some (.int .i64 ((rd_T31 l0 (rd l1 x7_1)).f3))) (ds:=[]) #[false,false,false,false,false,false,false,false,false,false,false,false,false,false,false,false,false] (by kernel_rfl) rfl rfl ⟨((HB.out.cell (World.block_lt_of_cell? w _ hw479_0)).trans hw479_0),hx480_0,((HB.out.cell (World.block_lt_of_cell? w _ hw481_0)).trans hw481_0),((HB.out.cell (World.block_lt_of_cell? w _ hw482_0)).trans hw482_0),((HB.out.cell (World.block_lt_of_cell? w _ hw482_1)).trans hw482_1),((HB.out.cell (World.block_lt_of_cell? w _ hw482_2)).trans hw482_2),((HB.out.cell (World.block_lt_of_cell? w _ hw482_3)).trans hw482_3)⟩ (fun hHeld=>?_);refine with_tabW spec_l2Starts.tab6 spec_l2Starts.bits6 (fun HT_ HW_=>?_)
   generalize w16.drew=w17 at HO_5 HB HQ15 hx479_0 hx480_0 hx481_0 hx482_0 hx482_1 hx482_2 hx482_3 hHeld ⊢
   refine pu_ 0 33 ?_
   refine pu_ 1 34 ?_
   refine pu_ 2 35 ?_
   refine pu_ 3 36 ?_
   refine pu_ 7 40 ?_
   refine pu_ 8 41 ?_
   refine pu_ 9 42 ?_
   refine pu_ 10 43 ?_
   refine tk_ 4 37 hHeld ?_
   refine pu_ 5 38 ?_
   refine tk_ 6 39 hHeld ?_
   refine tk_ 11 44 hHeld ?_
   refine pu_ 12 45 ?_
   refine pu_ 13 46 ?_
   refine tk_ 14 47 hHeld ?_
   refine pu_ 15 48 ?_
   refine pu_ 16 6 ?_
   refine done_ (done_of HT_.out (by kernel_rfl)) ?_
   try go_wp2
   go_roundg k1
   case measure=>have:=HK1.out;omega
   case rel=>exact ⟨(y478),(wrap64 ((rd y478 (rd l1 x7_1)) + ((rd_T31 l0 (rd l1 x7_1)).f0))),(wrap64 (x7_1 + 1)),zo,zo,H',⟨by have:=HK1.out;omega⟩,⟨zR HO_5.out⟩,⟨zb⟩⟩

/-! ### spec_l2Ends: function 116 -/
def spec_l2Ends.l0:Nat→List (S31)→List Int→Int→Option (List Int)
 | 0,_,_,_=>none
 | k + 1,x0,x5,x6=>if x6<(x0.length:Int) then (if 0≤x6 then (if x6<(x5.length:Int) then (spec_l2Ends.l0 k x0 (x5.set (x6:Int).toNat (wrap64 ((rd x5 x6) + ((rd_T31 x0 x6).f0)))) (wrap64 (x6 + 1))) else (none)) else (none)) else (some x5)
def spec_l2Ends.f (k:Nat) (l0:List (S31)) (l1:List Int):Option (List Int):=(spec_l2Starts.f k l0 l1).bind fun t483=>(spec_l2Ends.l0 k l0 t483 0)
theorem spec_l2Ends.mono_l:∀ k,(∀ y0 y1 y2,LeO (spec_l2Ends.l0 k y0 y1 y2) (spec_l2Ends.l0 (k + 1) y0 y1 y2))
 | 0=>fun _ _ _ r h=>by simp [spec_l2Ends.l0] at h
 | k + 1=>by
  have ih0:=spec_l2Ends.mono_l k
  ·intro y0 y1 y2
   unfold spec_l2Ends.l0
   repeat' first|(with_reducible first|apply ih0|exact spec_l2Starts.mono _ _ _|exact LeO.refl _|exact LeO.none _|refine LeO.ite ?_ ?_|refine LeO.bind ?_ (fun _=>?_))|apply ih0|exact spec_l2Starts.mono _ _ _|exact LeO.none _|refine LeO.ite ?_ ?_|refine LeO.bind ?_ (fun _=>?_)
theorem spec_l2Ends.mono:∀ a0 a1 k,LeO (spec_l2Ends.f k a0 a1) (spec_l2Ends.f (k + 1) a0 a1):=by
 intro a0 a1 k
 have ih0:=spec_l2Ends.mono_l k
 unfold spec_l2Ends.f
 repeat' first|(with_reducible first|apply ih0|exact spec_l2Starts.mono _ _ _|exact LeO.refl _|exact LeO.none _|refine LeO.ite ?_ ?_|refine LeO.bind ?_ (fun _=>?_))|apply ih0|exact spec_l2Starts.mono _ _ _|exact LeO.none _|refine LeO.ite ?_ ?_|refine LeO.bind ?_ (fun _=>?_)
def spec_l2Ends.T5:Bool × List (List Nat × List Nat):=(true,[([],[]),([],[]),([],[]),([],[]),([2,3],[2,3]),([4],[4]),([],[]),([],[]),([6,7],[6,7]),([8],[8]),([9],[9]),([5,10],[5,10]),([0,1,0,1,2,3,4,5,6,7,8,9,10,11],[0,1]),([12,11,0,1,2,3,4,5,6,7,8,9,10,11],[11,12])])
def spec_l2Ends.B5:List Nat:=[0,0,0,0,12,28,0,0,192,448,960,2044,4095,8191]
theorem spec_l2Ends.tab5:rtab .any (opsOf Try.f116 5)=spec_l2Ends.T5:=by kernel_rfl
theorem spec_l2Ends.bits5:waitsOk spec_l2Ends.T5.2 spec_l2Ends.B5=true:=by kernel_rfl
set_option maxHeartbeats 8000000 in
set_option maxRecDepth 100000 in
theorem spec_l2Ends.calls (k:Nat) (A0:Option Addr) (c0:Nat) (l0:List (S31)) (A1:Option Addr) (c1:Nat) (l1:List Int) (r:List Int) (w:World) (hr0:Kd.C k31 w A0 l0.length l0) (hc0:l0.length≤c0) (hr1:Kd.C (Kd.int .i64) w A1 l1.length l1) (hc1:l1.length≤c1) (h:spec_l2Ends.f k l0 l1=some r) :
  Calls Try.prog 116 #[.slice A0 l0.length c0,.slice A1 l1.length c1] w fun e w'=>∃ v0_:Value,e=.returned (v0_)∧Kd.R (Kd.int .i64) 3 w' w.heap.size (fun _=>True) v0_ r∧Below w.heap.size w w':=by
 have HR0:=Aside0.mk hr0
 have HC0:=Aside0.mk hc0
 clear hr0 hc0
 have HR1:=Aside0.mk hr1
 have HC1:=Aside0.mk hc1
 clear hr1 hc1
 have HB:=Aside0.mk (Below.refl w.heap.size w)
 have H:((spec_l2Starts.f k l0 l1).bind fun t483=>(spec_l2Ends.l0 k l0 t483 0))=some r:=h
 clear h
 replace H:=Option.bind_eq_some_iff.mp H
 obtain ⟨t483,A30,H⟩:=H
 try dsimp only at H
 have A3:=Aside0.mk A30
 clear A30
 have H':=Aside0.mk H
 clear H
 go_enter Try.func116,Try.ntmps116
 go_wp2_with (first|((with_reducible refine gate_callee (f:=119) rfl ?_);refine zgo 9 Try.func119 #[.slice A0 l0.length c0,.slice A1 l1.length c1] ?_;(with_reducible refine (spec_l2Starts.calls k _ _ l0 _ _ l1 t483 _ ?side1 ?side2 ?side3 ?side4 A3.out).mono ?_);(case side1=>exact zC HR0.out);(case side2=>exact HC0.out);(case side3=>exact zC HR1.out);(case side4=>exact HC1.out);rintro e w4 ⟨v484,rfl,ho0,hb⟩;refine ⟨_,rfl,?_⟩;have HO485:=Aside0.mk (Kd.R_lower ho0 (below_size zb));replace HB:=zb1 hb;(try clear hb);(try clear ho0)))
 go_loopg [6] k (fun kq v6 w'=>∃ (x5_1:List Int) (x6_1:Int),v6=.int .i64 x6_1∧Aside0 (spec_l2Ends.l0 kq l0 x5_1 x6_1=some r)∧Aside0 (kq≤k)∧Aside0 (Kd.R (Kd.int .i64) 3 w' w.heap.size (fun _=>True) v484 x5_1)∧Aside0 (Below w.heap.size w w'))
 case atStart=>exact ⟨(t483),(0),zo,H',⟨Nat.le_refl _⟩,⟨zR HO485.out⟩,⟨zb⟩⟩
 case round=>
  clear H'
  obtain ⟨x5_1,x6_1,rfl,HA,HK1,HO_5,HB⟩:=hrel
  cases gk with
  | zero=>exact absurd HA.out (by simp [spec_l2Ends.l0])
  | succ k1=>
   have H:=HA.out
   clear HA
   simp only [spec_l2Ends.l0] at H
   by_cases c5:x6_1<(l0.length:Int)
   rotate_left
   ·rw [if_neg c5] at H
    have c5b0:=decide_eq_false c5
    clear c5
    obtain rfl:=Option.some.inj H
    go_wp2
    go_ret
    exact ⟨_,zz0,zR HO_5.out,zb⟩
   rw [if_pos c5] at H
   have c5b0:=decide_eq_true c5
   clear c5
   by_cases c6:0≤x6_1
   rotate_left
   ·rw [if_neg c6] at H
    exact absurd H (by simp)
   rw [if_pos c6] at H
   have c6b0:=decide_eq_true c6
   clear c6
   by_cases c7:x6_1<(x5_1.length:Int)
   rotate_left
   ·rw [if_neg c7] at H
    exact absurd H (by simp)
   rw [if_pos c7] at H
   have c7b0:=decide_eq_true c7
   clear c7
   obtain ⟨y488,hy488⟩:∃ y_:List Int,y_=(x5_1.set (x6_1:Int).toNat (wrap64 ((rd x5_1 x6_1) + ((rd_T31 l0 x6_1).f0)))):=⟨_,rfl⟩
   replace H:(spec_l2Ends.l0 k1 l0 y488 (wrap64 (x6_1 + 1)))=some r:=by first|(rw [hy488];with_reducible exact H)|(have H2_:=(Option.bind_some _ _).symm.trans H;rw [hy488];with_reducible exact H2_)|(have H2_:=(Option.bind_some _ _).symm.trans H;with_reducible exact H2_)|with_reducible exact H|(rw [hy488];exact H)|exact H
   have Ny488:=Aside0.mk hy488
   clear hy488
   have H':=Aside0.mk H
   clear H
   try go_wp2
   replace HO_5:=Aside0.mk (Kd.R_drew HO_5.out)
   replace HB:=Aside0.mk (below_drew1 HB.out)
   obtain ⟨Ao10,co10,eo10⟩:=Kd.R_slice HO_5.out
   (first|subst eo10|(injection eo10 with f1_ f2_ f3_;have f4_:=f1_.symm;have f5_:=f3_.symm;clear f1_ f2_ f3_;subst f4_;subst f5_))
   have p486:0≤(x6_1:Int):=of_decide_eq_true za
   have q486:x6_1<(x5_1.length:Int):=of_decide_eq_true za
   obtain ⟨ad486,e486,hx486_0⟩:=Kd.at_int (Kd.R_reads' HO_5.out).2.2 x6_1 p486 q486
   cases e486
   replace p486:=eq_true p486
   replace q486:=eq_true q486
   have p487:0≤(x6_1:Int):=of_decide_eq_true za
   have q487:x6_1<(l0.length:Int):=of_decide_eq_true za
   obtain ⟨ad487,e487,hx487_0,hx487_1,hx487_2,hx487_3⟩:=at_T31 HR0.out x6_1 p487 q487
   have hw487_3:=hx487_3
   have hw487_2:=hx487_2
   have hw487_1:=hx487_1
   have hw487_0:=hx487_0
   cases e487
   replace hx487_0:=zh_ HB hx487_0
   replace hx487_1:=zh_ HB hx487_1
   replace hx487_2:=zh_ HB hx487_2
   replace hx487_3:=zh_ HB hx487_3
   replace p487:=eq_true p487
   replace q487:=eq_true q487
   have p8:0≤(x6_1:Int):=of_decide_eq_true za
   have q8:(x6_1:Int)<((x5_1.length:Int):Int):=of_decide_eq_true za
   obtain ⟨go8,co8,eo8,gb8,gl8,cl8,HG8⟩:=Kd.R_form HO_5.out (by omega)
   (first|cases eo8|(injection eo8 with ea_ en_ ec_;(first|subst ea_|(injection ea_ with ea_;subst ea_));subst ec_;clear en_))
   have GB8:=Aside0.mk gb8
   have GG8:=Aside0.mk HG8
   clear gb8 gl8 HG8
   (first|simp only [add_plain] at hx486_0|skip)
   obtain ⟨hx8_0,hf8_0⟩:=Kd.R_celln 0 HO_5.out (x6_1:Int) p8 q8
   replace p8:=eq_true p8
   replace q8:=eq_true q8
   have HP11:=Kd.R_putn HO_5.out (x6_1:Int) (wrap64 ((rd x5_1 x6_1) + ((rd_T31 l0 x6_1).f0)))
   rw [←Ny488.out] at HP11
   have HQ11:=Aside0.mk HP11
   clear HP11
   refine start_ (n:=14) (S:=fun w'=>w'.cell? ⟨go8,(x6_1).toNat,none⟩=some (.int .i64 (rd x5_1 x6_1))∧w'.cell? (ad487.add ((x6_1).toNat * 4))=some (.int .i64 ((rd_T31 l0 x6_1).f0))∧w'.cell? ⟨(ad487.add ((x6_1).toNat * 4)).block,(ad487.add ((x6_1).toNat * 4)).off + 1,none⟩=some (.int .i64 ((rd_T31 l0 x6_1).f1))∧w'.cell? ⟨(ad487.add ((x6_1).toNat * 4)).block,(ad487.add ((x6_1).toNat * 4)).off + 2,none⟩=some (.int .i64 ((rd_T31 l0 x6_1).f2))∧w'.cell? ⟨(ad487.add ((x6_1).toNat * 4)).block,(ad487.add ((x6_1).toNat * 4)).off + 3,none⟩=some (.int .i64 ((rd_T31 l0 x6_1).f3))) (ds:=[13]) #[false,false,false,false,false,false,false,false,false,false,false,false,false,false] (by kernel_rfl) rfl rfl ⟨hx486_0,((HB.out.cell (World.block_lt_of_cell? w _ hw487_0)).trans hw487_0),((HB.out.cell (World.block_lt_of_cell? w _ hw487_1)).trans hw487_1),((HB.out.cell (World.block_lt_of_cell? w _ hw487_2)).trans hw487_2),((HB.out.cell (World.block_lt_of_cell? w _ hw487_3)).trans hw487_3)⟩ (fun hHeld=>?_);refine with_tabW spec_l2Ends.tab5 spec_l2Ends.bits5 (fun HT_ HW_=>?_)
   generalize wr.drew=w9 at HO_5 HB GG8 HQ11 hf8_0 hx486_0 hx487_0 hx487_1 hx487_2 hx487_3 hx8_0 hHeld ⊢
   refine pu_ 0 16 ?_
   refine pu_ 1 17 ?_
   refine pu_ 2 18 ?_
   refine pu_ 3 19 ?_
   refine pu_ 4 20 ?_
   refine pu_ 6 22 ?_
   refine pu_ 7 23 ?_
   refine pu_ 8 24 ?_
   refine pu_ 9 25 ?_
   refine tk_ 5 21 hHeld ?_
   refine tk_ 10 26 hHeld ?_
   refine pu_ 11 27 ?_
   refine pu_ 12 28 ?_
   refine last_ (i:=13) (N:=none) #[true,true,true,true,true,true,true,true,true,true,true,true,true,true] rfl rfl (one_of HT_.out (by kernel_rfl)) (by decide) (fun K hK=>?_)
   refine skip_ (w1:=?_) (by rfl) rfl ?_ ?_
   rotate_left
   ·go_simp
    rfl
   refine hK.out _ _ ?_
   clear hK K
   refine done_ (done_of HT_.out (by kernel_rfl)) ?_
   try go_wp2
   go_roundg k1
   case measure=>have:=HK1.out;omega
   case rel=>exact ⟨(y488),(wrap64 (x6_1 + 1)),zo,H',⟨by have:=HK1.out;omega⟩,⟨by (with_reducible repeat (first|apply Kd.R_alloc|apply Kd.R_drewN|apply Kd.R_drew));exact HQ11.out⟩,⟨by repeat (first|(with_reducible first|exact HB.out|apply below_alloc|apply pw_below_drewN|apply below_drew1|refine below_set ?_ GB8.out)|exact HB.out)⟩⟩

/-! ### spec_l2Value: function 113 -/
def spec_l2Value.f (k:Nat) (l0:List (S31)) (l1:List Int) (a2:Int):Option (Int):=(spec_l2Ends.f k l0 l1).bind fun t489=>((spec_l2Of.f k l0 t489 a2).bind fun t492=>(some t492))
theorem spec_l2Value.mono:∀ a0 a1 a2 k,LeO (spec_l2Value.f k a0 a1 a2) (spec_l2Value.f (k + 1) a0 a1 a2):=by
 intro a0 a1 a2 k
 unfold spec_l2Value.f
 repeat' first|(with_reducible first|exact spec_l2Ends.mono _ _ _|exact spec_l2Of.mono _ _ _ _|exact LeO.refl _|exact LeO.none _|refine LeO.ite ?_ ?_|refine LeO.bind ?_ (fun _=>?_))|exact spec_l2Ends.mono _ _ _|exact spec_l2Of.mono _ _ _ _|exact LeO.none _|refine LeO.ite ?_ ?_|refine LeO.bind ?_ (fun _=>?_)
set_option maxHeartbeats 8000000 in
set_option maxRecDepth 100000 in
theorem spec_l2Value.calls (k:Nat) (A0:Option Addr) (c0:Nat) (l0:List (S31)) (A1:Option Addr) (c1:Nat) (l1:List Int) (a2:Int) (r:Int) (w:World) (hr0:Kd.C k31 w A0 l0.length l0) (hc0:l0.length≤c0) (hr1:Kd.C (Kd.int .i64) w A1 l1.length l1) (hc1:l1.length≤c1) (h:spec_l2Value.f k l0 l1 a2=some r) :
  Calls Try.prog 113 #[.slice A0 l0.length c0,.slice A1 l1.length c1,.int .i64 a2] w fun e w'=>e=.returned (.int .i64 r)∧Below w.heap.size w w':=by
 have HR0:=Aside0.mk hr0
 have HC0:=Aside0.mk hc0
 clear hr0 hc0
 have HR1:=Aside0.mk hr1
 have HC1:=Aside0.mk hc1
 clear hr1 hc1
 have HB:=Aside0.mk (Below.refl w.heap.size w)
 have H:((spec_l2Ends.f k l0 l1).bind fun t489=>((spec_l2Of.f k l0 t489 a2).bind fun t492=>(some t492)))=some r:=h
 clear h
 replace H:=Option.bind_eq_some_iff.mp H
 obtain ⟨t489,A40,H⟩:=H
 try dsimp only at H
 have A4:=Aside0.mk A40
 clear A40
 replace H:=Option.bind_eq_some_iff.mp H
 obtain ⟨t492,A50,H⟩:=H
 try dsimp only at H
 have A5:=Aside0.mk A50
 clear A50
 obtain rfl:=Option.some.inj H
 go_enter Try.func113,Try.ntmps113
 go_wp2_with (first|((with_reducible refine gate_callee (f:=116) rfl ?_);refine zgo 10 Try.func116 #[.slice A0 l0.length c0,.slice A1 l1.length c1] ?_;(with_reducible refine (spec_l2Ends.calls k _ _ l0 _ _ l1 t489 _ ?side1 ?side2 ?side3 ?side4 A4.out).mono ?_);(case side1=>exact zC HR0.out);(case side2=>exact HC0.out);(case side3=>exact zC HR1.out);(case side4=>exact HC1.out);rintro e w6 ⟨v490,rfl,ho0,hb⟩;refine ⟨_,rfl,?_⟩;have HO491:=Aside0.mk (Kd.R_lower ho0 (below_size zb));replace HB:=zb1 hb;(try clear hb);(try clear ho0);obtain ⟨Ao7,co7,eo7⟩:=Kd.R_slice HO491.out;subst eo7)|((with_reducible refine gate_callee (f:=115) rfl ?_);refine zgo 12 Try.func115 #[.slice A0 l0.length c0,.slice Ao7 t489.length co7,.int .i64 a2] ?_;(with_reducible refine (spec_l2Of.calls k _ _ l0 _ _ t489 a2 t492 _ ?side1 ?side2 ?side3 ?side4 A5.out).mono ?_);(case side1=>exact zC (Kd.C_below HR0.out HB.out));(case side2=>exact HC0.out);(case side3=>exact zC ((Kd.R_reads' HO491.out).2.2));(case side4=>exact (Kd.R_reads' HO491.out).2.1);rintro e w8 ⟨rfl,hb⟩;refine ⟨_,rfl,?_⟩;replace HO491:=zRb HO491 hb;replace HB:=zb1 hb;(try clear hb)))
 go_ret
 exact ⟨zz0,zb⟩

end Go.Proofs.Ytkolecmpncaooaa.XFnLateWeight
-- minified
