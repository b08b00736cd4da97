-- Written by a program of this session (the kit's print, widened). Proved here: what each function answers, for the arguments that its contract names.
import Derived.Test.YtbcfmegepkhlpaaXFnSharedx0
import Derived.Test.YtbcfmegepkhlpaaXFnSharedx2
namespace Go.Proofs.Ytbcfmegepkhlpaa.XFnShared
open Go.RowKit Go.Proofs.YtbcfmegepkhlpaaW.PrintWords Go.Proofs.YtbcfmegepkhlpaaW.PrintLast Go.Proofs.YtbcfmegepkhlpaaW.PrintMore
attribute [local go_sem] max2_int min2_int max_two min_two max_three min_three max_four min_four   -- for this text's walks alone
attribute [local go_sem] idxA_72_0 idxA_72_1 fldS_96_0 fldS_96_1 fldS_96_2 fldS_111_0 fldS_111_1 fldS_111_2
set_option linter.unusedVariables false
set_option linter.unusedSimpArgs false

/-! ### spec_l4Pairs: function 106 -/
def spec_l4Pairs.l0:Nat→Int→List (S72)→Int→Option (Bool)
 | 0,_,_,_=>none
 | k + 1,x0,x1,x5=>if x5<(x1.length:Int) then (if 0≤x5 then ((spec_l1In.f ((rd_T72 x1 x5).f0) 0 (wrap64 (x0 - 1))).bind fun t105=>(if t105=true then ((spec_l1In.f ((rd_T72 x1 x5).f1) 0 (wrap64 (x0 - 1))).bind fun t107=>(if t107=true then (if ((rd_T72 x1 x5).f0)=((rd_T72 x1 x5).f1) then (some false) else (if x5>0 then (if 0≤(wrap64 (x5 - 1)) then (if (wrap64 (x5 - 1))<(x1.length:Int) then ((spec_l4Before.f ((rd_T72 x1 (wrap64 (x5 - 1))).f0) ((rd_T72 x1 (wrap64 (x5 - 1))).f1) ((rd_T72 x1 x5).f0) ((rd_T72 x1 x5).f1)).bind fun t112=>(if t112=true then (spec_l4Pairs.l0 k x0 x1 (wrap64 (x5 + 1))) else (some false))) else (none)) else (none)) else (spec_l4Pairs.l0 k x0 x1 (wrap64 (x5 + 1))))) else (some false))) else (some false))) else (none)) else ((spec_l1In.f x0 0 8).bind fun t103=>(if t103=true then (some (decide ((x1.length:Int)≤28))) else (some false)))
def spec_l4Pairs.f (k:Nat) (a0:Int) (l1:List (S72)):Option (Bool):=spec_l4Pairs.l0 k a0 l1 0
theorem spec_l4Pairs.mono_l:∀ k,(∀ y0 y1 y2,LeO (spec_l4Pairs.l0 k y0 y1 y2) (spec_l4Pairs.l0 (k + 1) y0 y1 y2))
 | 0=>fun _ _ _ r h=>by simp [spec_l4Pairs.l0] at h
 | k + 1=>by
  have ih0:=spec_l4Pairs.mono_l k
  ·intro y0 y1 y2
   unfold spec_l4Pairs.l0
   repeat' first|(with_reducible first|apply ih0|exact LeO.refl _|exact LeO.none _|refine LeO.ite ?_ ?_|refine LeO.bind ?_ (fun _=>?_))|apply ih0|exact LeO.none _|refine LeO.ite ?_ ?_|refine LeO.bind ?_ (fun _=>?_)
theorem spec_l4Pairs.mono:∀ a0 a1 k,LeO (spec_l4Pairs.f k a0 a1) (spec_l4Pairs.f (k + 1) a0 a1):=by
 intro a0 a1 k
 have ih0:=spec_l4Pairs.mono_l k
 unfold spec_l4Pairs.f
 repeat' first|(with_reducible first|apply ih0|exact LeO.refl _|exact LeO.none _|refine LeO.ite ?_ ?_|refine LeO.bind ?_ (fun _=>?_))|apply ih0|exact LeO.none _|refine LeO.ite ?_ ?_|refine LeO.bind ?_ (fun _=>?_)
def spec_l4Pairs.T4:Bool × List (List Nat × List Nat):=(true,[([],[]),([],[]),([0,1],[0,1]),([2],[2]),([3],[3]),([],[]),([5],[5]),([4,6],[4,6]),([7],[7]),([8,7],[8]),([9],[9]),([9],[9]),([10,11,9],[9,10,11]),([12,9],[9,12]),([13,9],[9,13]),([9],[9]),([15,9],[9,15]),([14,16,9,9],[9,14,16]),([17,9],[9,17]),([9,18],[9,18]),([19,17],[19]),([20],[20]),([20],[20]),([21,22,20],[20,21,22]),([23,20],[20,23]),([24,20],[20,24]),([20],[20]),([20],[20]),([26,27,20],[20,26,27]),([28,20],[20,28]),([29,20],[20,29]),([25,30,20],[20,25,30]),([20,31],[20,31]),([32,20],[32]),([33],[33]),([34,33],[33,34]),([35,33,33],[33,35]),([36],[36]),([36],[36]),([38,36],[36,38]),([37,39,36],[36,37,39]),([40,36],[36,40]),([36],[36]),([36],[36]),([42,43,36],[36,42,43]),([44,36],[36,44]),([41,45,36,36],[36,41,45]),([46,36],[36,46]),([36,47,33],[33,36,47]),([33,48],[33,48])])
def spec_l4Pairs.B4:List Nat:=[0,0,3,7,15,0,32,127,255,511,1023,1023,4095,8191,16383,1023,33791,131071,262143,524287,1048575,2097151,2097151,8388607,16777215,33554431,2097151,2097151,203423743,471859199,1008730111,2147483647,4294967295,8589934591,17179869183,34359738367,68719476735,137438953471,137438953471,412316860415,1099511627775,2199023255551,137438953471,137438953471,13331578486783,30923764531199,70368744177663,140737488355327,281474976710655,562949953421311]
theorem spec_l4Pairs.tab4:rtab .any (opsOf Try.f106 4)=spec_l4Pairs.T4:=by kernel_rfl
theorem spec_l4Pairs.bits4:waitsOk spec_l4Pairs.T4.2 spec_l4Pairs.B4=true:=by kernel_rfl
set_option maxHeartbeats 8000000 in
set_option maxRecDepth 100000 in
theorem spec_l4Pairs.calls (k:Nat) (a0:Int) (A1:Option Addr) (c1:Nat) (l1:List (S72)) (r:Bool) (w:World) (hr1:Kd.C k72 w A1 l1.length l1) (hc1:l1.length≤c1) (h:spec_l4Pairs.f k a0 l1=some r) :
  Calls Try.prog 106 #[.int .i64 a0,.slice A1 l1.length c1] w fun e w'=>e=.returned (.bool r)∧Below w.heap.size w w':=by
 have hu72:=Try.underlying72
 have HR1:=Aside0.mk hr1
 have HC1:=Aside0.mk hc1
 clear hr1 hc1
 have HB:=Aside0.mk (Below.refl w.heap.size w)
 have H:(spec_l4Pairs.l0 k a0 l1 0)=some r:=h
 clear h
 have H':=Aside0.mk H
 clear H
 go_enter Try.func106,Try.ntmps106
 go_wp2
 go_loopg [5] k (fun kq v5 w'=>∃ (x5_1:Int),v5=.int .i64 x5_1∧Aside0 (spec_l4Pairs.l0 kq a0 l1 x5_1=some r)∧Aside0 (kq≤k)∧Aside0 (Below w.heap.size w w'))
 case atStart=>exact ⟨(0),zo,H',⟨Nat.le_refl _⟩,⟨zb⟩⟩
 case round=>
  clear H'
  obtain ⟨x5_1,rfl,HA,HK1,HB⟩:=hrel
  cases gk with
  | zero=>exact absurd HA.out (by simp [spec_l4Pairs.l0])
  | succ k1=>
   have H:=HA.out
   clear HA
   simp only [spec_l4Pairs.l0] at H
   by_cases c3:x5_1<(l1.length:Int)
   rotate_left
   ·rw [if_neg c3] at H
    have c3b0:=decide_eq_false c3
    clear c3
    replace H:=Option.bind_eq_some_iff.mp H
    obtain ⟨t103,A240,H⟩:=H
    try dsimp only at H
    have A24:=Aside0.mk A240
    clear A240
    by_cases c25:t103=true
    ·subst c25
     rw [if_pos rfl] at H
     obtain rfl:=Option.some.inj H
     go_wp2_with (first|((with_reducible refine gate_callee (f:=120) rfl ?_);refine zgo 63 Try.func120 #[.int .i64 a0,.int .i64 0,.int .i64 8] ?_;(with_reducible refine (spec_l1In.calls a0 0 8 true _ A24.out).mono ?_);rintro e w' ⟨rfl,⟨nd,rfl⟩⟩;refine ⟨_,rfl,?_⟩))
     go_ret
     exact ⟨zz1,zb⟩
    replace c25:=Bool.eq_false_iff.mpr c25
    subst c25
    rw [if_neg (show ¬ (false=true) by decide)] at H
    obtain rfl:=Option.some.inj H
    go_wp2_with (first|((with_reducible refine gate_callee (f:=120) rfl ?_);refine zgo 63 Try.func120 #[.int .i64 a0,.int .i64 0,.int .i64 8] ?_;(with_reducible refine (spec_l1In.calls a0 0 8 false _ A24.out).mono ?_);rintro e w' ⟨rfl,⟨nd,rfl⟩⟩;refine ⟨_,rfl,?_⟩))
    go_ret
    exact ⟨zz1,zb⟩
   rw [if_pos c3] at H
   have c3b0:=decide_eq_true c3
   clear c3
   by_cases c4:0≤x5_1
   rotate_left
   ·rw [if_neg c4] at H
    exact absurd H (by simp)
   rw [if_pos c4] at H
   have c4b0:=decide_eq_true c4
   clear c4
   replace H:=Option.bind_eq_some_iff.mp H
   obtain ⟨t105,A50,H⟩:=H
   try dsimp only at H
   have A5:=Aside0.mk A50
   clear A50
   by_cases c6:t105=true
   rotate_left
   ·replace c6:=Bool.eq_false_iff.mpr c6
    subst c6
    rw [if_neg (show ¬ (false=true) by decide)] at H
    obtain rfl:=Option.some.inj H
    try go_wp2
    replace HB:=Aside0.mk (below_drew1 HB.out)
    have p104:0≤(x5_1:Int):=of_decide_eq_true za
    have q104:x5_1<(l1.length:Int):=of_decide_eq_true za
    obtain ⟨ad104,e104,hx104_0,hx104_1⟩:=at_T72 HR1.out x5_1 p104 q104
    have hw104_1:=hx104_1
    have hw104_0:=hx104_0
    cases e104
    replace hx104_0:=zh_ HB hx104_0
    replace hx104_1:=zh_ HB hx104_1
    replace p104:=eq_true p104
    replace q104:=eq_true q104
    refine start_ (n:=50) (S:=fun w'=>w'.cell? (ad104.add ((x5_1).toNat * 2))=some (.int .i64 ((rd_T72 l1 x5_1).f0))∧w'.cell? ⟨(ad104.add ((x5_1).toNat * 2)).block,(ad104.add ((x5_1).toNat * 2)).off + 1,none⟩=some (.int .i64 ((rd_T72 l1 x5_1).f1))) (ds:=[]) ba0_ (by kernel_rfl) rfl rfl ⟨((HB.out.cell (World.block_lt_of_cell? w _ hw104_0)).trans hw104_0),((HB.out.cell (World.block_lt_of_cell? w _ hw104_1)).trans hw104_1)⟩ (fun hHeld=>?_);refine with_tabW spec_l4Pairs.tab4 spec_l4Pairs.bits4 (fun HT_ HW_=>?_)
    generalize wr.drew=w23 at HB hx104_0 hx104_1 hHeld ⊢
    refine pu_ 0 12 ?_
    refine pu_ 1 13 ?_
    refine pu_ 2 14 ?_
    refine pu_ 3 15 ?_
    refine pu_ 5 17 ?_
    refine pu_ 6 18 ?_
    refine tk_ 4 16 hHeld ?_
    refine one_ (i:=7) (N:=some 19) ba8_ rfl rfl (one_of HT_.out (by kernel_rfl)) (by decide) (fun K hK=>?_)
    refine goes_ Try.func120 (by kernel_rfl) rfl #[.int .i64 ((rd_T72 l1 x5_1).f0),.int .i64 0,.int .i64 (wrap64 (a0 - 1))] (by rfl) rfl rfl zl ?_
    with_reducible refine (spec_l1In.calls ((rd_T72 l1 x5_1).f0) 0 (wrap64 (a0 - 1)) false _ A5.out).mono ?_
    rintro e w' ⟨rfl,⟨nd,rfl⟩⟩
    refine ⟨_,rfl,?_⟩
    refine hK.out _ _ ⟨((HB.out.cell (World.block_lt_of_cell? w _ hw104_0)).trans hw104_0),((HB.out.cell (World.block_lt_of_cell? w _ hw104_1)).trans hw104_1)⟩ (fun hHeld=>?_)
    clear hK K
    refine norm_ (a':=?_) ?_ ?_
    rotate_left
    ·show Act.put _ (some 19) _=_
     simp only [Act.put,z0_,z1_,z2_,i64_w,i32_w]
     rfl
    refine pu_ 8 20 ?_
    refine pu_ 9 21 ?_
    refine pv_ 10 22 ?_
    refine pv_ 11 23 ?_
    refine pv_ 12 24 ?_
    refine pv_ 13 25 ?_
    refine pv_ 14 26 ?_
    refine pv_ 15 27 ?_
    refine pv_ 16 28 ?_
    refine pv_ 17 29 ?_
    refine pv_ 18 30 ?_
    refine pu_ 19 31 ?_
    refine pu_ 20 32 ?_
    refine pv_ 21 33 ?_
    refine pv_ 22 34 ?_
    refine pv_ 23 35 ?_
    refine pv_ 24 36 ?_
    refine pv_ 25 37 ?_
    refine pv_ 26 38 ?_
    refine pv_ 27 39 ?_
    refine pv_ 28 40 ?_
    refine pv_ 29 41 ?_
    refine pv_ 30 42 ?_
    refine pv_ 31 43 ?_
    refine pu_ 32 44 ?_
    refine pu_ 33 45 ?_
    refine pv_ 34 46 ?_
    refine pv_ 35 47 ?_
    refine pv_ 36 48 ?_
    refine pv_ 37 49 ?_
    refine pv_ 38 50 ?_
    refine pv_ 39 51 ?_
    refine pv_ 40 52 ?_
    refine pv_ 41 53 ?_
    refine pv_ 42 54 ?_
    refine pv_ 43 55 ?_
    refine pv_ 44 56 ?_
    refine pv_ 45 57 ?_
    refine pv_ 46 58 ?_
    refine pv_ 47 59 ?_
    refine pv_ 48 60 ?_
    refine pu_ 49 61 ?_
    refine done_ (done_of HT_.out (by kernel_rfl)) ?_
    try go_wp2
    go_ret
    exact ⟨zz1,zb⟩
   subst c6
   rw [if_pos rfl] at H
   replace H:=Option.bind_eq_some_iff.mp H
   obtain ⟨t107,A70,H⟩:=H
   try dsimp only at H
   have A7:=Aside0.mk A70
   clear A70
   by_cases c8:t107=true
   rotate_left
   ·replace c8:=Bool.eq_false_iff.mpr c8
    subst c8
    rw [if_neg (show ¬ (false=true) by decide)] at H
    obtain rfl:=Option.some.inj H
    try go_wp2
    replace HB:=Aside0.mk (below_drew1 HB.out)
    have p104:0≤(x5_1:Int):=of_decide_eq_true za
    have q104:x5_1<(l1.length:Int):=of_decide_eq_true za
    obtain ⟨ad104,e104,hx104_0,hx104_1⟩:=at_T72 HR1.out x5_1 p104 q104
    have hw104_1:=hx104_1
    have hw104_0:=hx104_0
    cases e104
    replace hx104_0:=zh_ HB hx104_0
    replace hx104_1:=zh_ HB hx104_1
    replace p104:=eq_true p104
    replace q104:=eq_true q104
    have p106:0≤(x5_1:Int):=of_decide_eq_true za
    have q106:x5_1<(l1.length:Int):=of_decide_eq_true za
    obtain ⟨ad106,e106,hx106_0,hx106_1⟩:=at_T72 HR1.out x5_1 p106 q106
    have hw106_1:=hx106_1
    have hw106_0:=hx106_0
    obtain rfl:ad104=ad106:=(by injection e106)
    replace hx106_0:=zh_ HB hx106_0
    replace hx106_1:=zh_ HB hx106_1
    replace p106:=eq_true p106
    replace q106:=eq_true q106
    refine start_ (n:=50) (S:=fun w'=>w'.cell? (ad104.add ((x5_1).toNat * 2))=some (.int .i64 ((rd_T72 l1 x5_1).f0))∧w'.cell? ⟨(ad104.add ((x5_1).toNat * 2)).block,(ad104.add ((x5_1).toNat * 2)).off + 1,none⟩=some (.int .i64 ((rd_T72 l1 x5_1).f1))∧w'.cell? (ad104.add ((x5_1).toNat * 2))=some (.int .i64 ((rd_T72 l1 x5_1).f0))∧w'.cell? ⟨(ad104.add ((x5_1).toNat * 2)).block,(ad104.add ((x5_1).toNat * 2)).off + 1,none⟩=some (.int .i64 ((rd_T72 l1 x5_1).f1))) (ds:=[]) ba0_ (by kernel_rfl) rfl rfl ⟨((HB.out.cell (World.block_lt_of_cell? w _ hw104_0)).trans hw104_0),((HB.out.cell (World.block_lt_of_cell? w _ hw104_1)).trans hw104_1),((HB.out.cell (World.block_lt_of_cell? w _ hw106_0)).trans hw106_0),((HB.out.cell (World.block_lt_of_cell? w _ hw106_1)).trans hw106_1)⟩ (fun hHeld=>?_);refine with_tabW spec_l4Pairs.tab4 spec_l4Pairs.bits4 (fun HT_ HW_=>?_)
    generalize wr.drew=w22 at HB hx104_0 hx104_1 hx106_0 hx106_1 hHeld ⊢
    refine pu_ 0 12 ?_
    refine pu_ 1 13 ?_
    refine pu_ 2 14 ?_
    refine pu_ 3 15 ?_
    refine pu_ 5 17 ?_
    refine pu_ 6 18 ?_
    refine tk_ 4 16 hHeld ?_
    refine one_ (i:=7) (N:=some 19) ba8_ rfl rfl (one_of HT_.out (by kernel_rfl)) (by decide) (fun K hK=>?_)
    refine goes_ Try.func120 (by kernel_rfl) rfl #[.int .i64 ((rd_T72 l1 x5_1).f0),.int .i64 0,.int .i64 (wrap64 (a0 - 1))] (by rfl) rfl rfl zl ?_
    with_reducible refine (spec_l1In.calls ((rd_T72 l1 x5_1).f0) 0 (wrap64 (a0 - 1)) true _ A5.out).mono ?_
    rintro e w' ⟨rfl,⟨nd,rfl⟩⟩
    refine ⟨_,rfl,?_⟩
    refine hK.out _ _ ⟨((HB.out.cell (World.block_lt_of_cell? w _ hw104_0)).trans hw104_0),((HB.out.cell (World.block_lt_of_cell? w _ hw104_1)).trans hw104_1),((HB.out.cell (World.block_lt_of_cell? w _ hw106_0)).trans hw106_0),((HB.out.cell (World.block_lt_of_cell? w _ hw106_1)).trans hw106_1)⟩ (fun hHeld=>?_)
    clear hK K
    refine norm_ (a':=?_) ?_ ?_
    rotate_left
    ·show Act.put _ (some 19) _=_
     simp only [Act.put,z0_,z1_,z2_,i64_w,i32_w]
     rfl
    refine pu_ 8 20 ?_
    refine pu_ 9 21 ?_
    refine pu_ 10 22 ?_
    refine pu_ 11 23 ?_
    refine pu_ 12 24 ?_
    refine pu_ 13 25 ?_
    refine pu_ 15 27 ?_
    refine pu_ 16 28 ?_
    refine tk_ 14 26 hHeld ?_
    refine one_ (i:=17) (N:=some 29) ba18_ rfl rfl (one_of HT_.out (by kernel_rfl)) (by decide) (fun K hK=>?_)
    refine goes_ Try.func120 (by kernel_rfl) rfl #[.int .i64 ((rd_T72 l1 x5_1).f1),.int .i64 0,.int .i64 (wrap64 (a0 - 1))] (by rfl) rfl rfl zl ?_
    with_reducible refine (spec_l1In.calls ((rd_T72 l1 x5_1).f1) 0 (wrap64 (a0 - 1)) false _ A7.out).mono ?_
    rintro e w' ⟨rfl,⟨nd,rfl⟩⟩
    refine ⟨_,rfl,?_⟩
    refine hK.out _ _ ⟨((HB.out.cell (World.block_lt_of_cell? w _ hw104_0)).trans hw104_0),((HB.out.cell (World.block_lt_of_cell? w _ hw104_1)).trans hw104_1),((HB.out.cell (World.block_lt_of_cell? w _ hw106_0)).trans hw106_0),((HB.out.cell (World.block_lt_of_cell? w _ hw106_1)).trans hw106_1)⟩ (fun hHeld=>?_)
    clear hK K
    refine norm_ (a':=?_) ?_ ?_
    rotate_left
    ·show Act.put _ (some 29) _=_
     simp only [Act.put,z0_,z1_,z2_,i64_w,i32_w]
     rfl
    refine pu_ 18 30 ?_
    refine pu_ 19 31 ?_
    refine pu_ 20 32 ?_
    refine pv_ 21 33 ?_
    refine pv_ 22 34 ?_
    refine pv_ 23 35 ?_
    refine pv_ 24 36 ?_
    refine pv_ 25 37 ?_
    refine pv_ 26 38 ?_
    refine pv_ 27 39 ?_
    refine pv_ 28 40 ?_
    refine pv_ 29 41 ?_
    refine pv_ 30 42 ?_
    refine pv_ 31 43 ?_
    refine pu_ 32 44 ?_
    refine pu_ 33 45 ?_
    refine pv_ 34 46 ?_
    refine pv_ 35 47 ?_
    refine pv_ 36 48 ?_
    refine pv_ 37 49 ?_
    refine pv_ 38 50 ?_
    refine pv_ 39 51 ?_
    refine pv_ 40 52 ?_
    refine pv_ 41 53 ?_
    refine pv_ 42 54 ?_
    refine pv_ 43 55 ?_
    refine pv_ 44 56 ?_
    refine pv_ 45 57 ?_
    refine pv_ 46 58 ?_
    refine pv_ 47 59 ?_
    refine pv_ 48 60 ?_
    refine pu_ 49 61 ?_
    refine done_ (done_of HT_.out (by kernel_rfl)) ?_
    try go_wp2
    go_ret
    exact ⟨zz1,zb⟩
   subst c8
   rw [if_pos rfl] at H
   by_cases c9:((rd_T72 l1 x5_1).f0)=((rd_T72 l1 x5_1).f1)
   ·rw [if_pos c9] at H
    have c9b0:(((rd_T72 l1 x5_1).f0) == ((rd_T72 l1 x5_1).f1))=true:=beq_iff_eq.mpr c9
    have c9b1:(((rd_T72 l1 x5_1).f0) != ((rd_T72 l1 x5_1).f1))=false:=bne_eq_false_iff_eq.mpr c9
    clear c9
    obtain rfl:=Option.some.inj H
    try go_wp2
    replace HB:=Aside0.mk (below_drew1 HB.out)
    have p104:0≤(x5_1:Int):=of_decide_eq_true za
    have q104:x5_1<(l1.length:Int):=of_decide_eq_true za
    obtain ⟨ad104,e104,hx104_0,hx104_1⟩:=at_T72 HR1.out x5_1 p104 q104
    have hw104_1:=hx104_1
    have hw104_0:=hx104_0
    cases e104
    replace hx104_0:=zh_ HB hx104_0
    replace hx104_1:=zh_ HB hx104_1
    replace p104:=eq_true p104
    replace q104:=eq_true q104
    have p106:0≤(x5_1:Int):=of_decide_eq_true za
    have q106:x5_1<(l1.length:Int):=of_decide_eq_true za
    obtain ⟨ad106,e106,hx106_0,hx106_1⟩:=at_T72 HR1.out x5_1 p106 q106
    have hw106_1:=hx106_1
    have hw106_0:=hx106_0
    obtain rfl:ad104=ad106:=(by injection e106)
    replace hx106_0:=zh_ HB hx106_0
    replace hx106_1:=zh_ HB hx106_1
    replace p106:=eq_true p106
    replace q106:=eq_true q106
    have p108:0≤(x5_1:Int):=of_decide_eq_true za
    have q108:x5_1<(l1.length:Int):=of_decide_eq_true za
    obtain ⟨ad108,e108,hx108_0,hx108_1⟩:=at_T72 HR1.out x5_1 p108 q108
    have hw108_1:=hx108_1
    have hw108_0:=hx108_0
    obtain rfl:ad104=ad108:=(by injection e108)
    replace hx108_0:=zh_ HB hx108_0
    replace hx108_1:=zh_ HB hx108_1
    replace p108:=eq_true p108
    replace q108:=eq_true q108
    have p109:0≤(x5_1:Int):=of_decide_eq_true za
    have q109:x5_1<(l1.length:Int):=of_decide_eq_true za
    obtain ⟨ad109,e109,hx109_0,hx109_1⟩:=at_T72 HR1.out x5_1 p109 q109
    have hw109_1:=hx109_1
    have hw109_0:=hx109_0
    obtain rfl:ad104=ad109:=(by injection e109)
    replace hx109_0:=zh_ HB hx109_0
    replace hx109_1:=zh_ HB hx109_1
    replace p109:=eq_true p109
    replace q109:=eq_true q109
    refine start_ (n:=50) (S:=fun w'=>w'.cell? (ad104.add ((x5_1).toNat * 2))=some (.int .i64 ((rd_T72 l1 x5_1).f0))∧w'.cell? ⟨(ad104.add ((x5_1).toNat * 2)).block,(ad104.add ((x5_1).toNat * 2)).off + 1,none⟩=some (.int .i64 ((rd_T72 l1 x5_1).f1))∧w'.cell? (ad104.add ((x5_1).toNat * 2))=some (.int .i64 ((rd_T72 l1 x5_1).f0))∧w'.cell? ⟨(ad104.add ((x5_1).toNat * 2)).block,(ad104.add ((x5_1).toNat * 2)).off + 1,none⟩=some (.int .i64 ((rd_T72 l1 x5_1).f1))∧w'.cell? (ad104.add ((x5_1).toNat * 2))=some (.int .i64 ((rd_T72 l1 x5_1).f0))∧w'.cell? ⟨(ad104.add ((x5_1).toNat * 2)).block,(ad104.add ((x5_1).toNat * 2)).off + 1,none⟩=some (.int .i64 ((rd_T72 l1 x5_1).f1))∧w'.cell? (ad104.add ((x5_1).toNat * 2))=some (.int .i64 ((rd_T72 l1 x5_1).f0))∧w'.cell? ⟨(ad104.add ((x5_1).toNat * 2)).block,(ad104.add ((x5_1).toNat * 2)).off + 1,none⟩=some (.int .i64 ((rd_T72 l1 x5_1).f1))) (ds:=[]) ba0_ (by kernel_rfl) rfl rfl ⟨((HB.out.cell (World.block_lt_of_cell? w _ hw104_0)).trans hw104_0),((HB.out.cell (World.block_lt_of_cell? w _ hw104_1)).trans hw104_1),((HB.out.cell (World.block_lt_of_cell? w _ hw106_0)).trans hw106_0),((HB.out.cell (World.block_lt_of_cell? w _ hw106_1)).trans hw106_1),((HB.out.cell (World.block_lt_of_cell? w _ hw108_0)).trans hw108_0),((HB.out.cell (World.block_lt_of_cell? w _ hw108_1)).trans hw108_1),((HB.out.cell (World.block_lt_of_cell? w _ hw109_0)).trans hw109_0),((HB.out.cell (World.block_lt_of_cell? w _ hw109_1)).trans hw109_1)⟩ (fun hHeld=>?_);refine with_tabW spec_l4Pairs.tab4 spec_l4Pairs.bits4 (fun HT_ HW_=>?_)
    generalize wr.drew=w10 at HB hx104_0 hx104_1 hx106_0 hx106_1 hx108_0 hx108_1 hx109_0 hx109_1 hHeld ⊢
    refine pu_ 0 12 ?_
    refine pu_ 1 13 ?_
    refine pu_ 2 14 ?_
    refine pu_ 3 15 ?_
    refine pu_ 5 17 ?_
    refine pu_ 6 18 ?_
    refine tk_ 4 16 hHeld ?_
    refine one_ (i:=7) (N:=some 19) ba8_ rfl rfl (one_of HT_.out (by kernel_rfl)) (by decide) (fun K hK=>?_)
    refine goes_ Try.func120 (by kernel_rfl) rfl #[.int .i64 ((rd_T72 l1 x5_1).f0),.int .i64 0,.int .i64 (wrap64 (a0 - 1))] (by rfl) rfl rfl zl ?_
    with_reducible refine (spec_l1In.calls ((rd_T72 l1 x5_1).f0) 0 (wrap64 (a0 - 1)) true _ A5.out).mono ?_
    rintro e w' ⟨rfl,⟨nd,rfl⟩⟩
    refine ⟨_,rfl,?_⟩
    refine hK.out _ _ ⟨((HB.out.cell (World.block_lt_of_cell? w _ hw104_0)).trans hw104_0),((HB.out.cell (World.block_lt_of_cell? w _ hw104_1)).trans hw104_1),((HB.out.cell (World.block_lt_of_cell? w _ hw106_0)).trans hw106_0),((HB.out.cell (World.block_lt_of_cell? w _ hw106_1)).trans hw106_1),((HB.out.cell (World.block_lt_of_cell? w _ hw108_0)).trans hw108_0),((HB.out.cell (World.block_lt_of_cell? w _ hw108_1)).trans hw108_1),((HB.out.cell (World.block_lt_of_cell? w _ hw109_0)).trans hw109_0),((HB.out.cell (World.block_lt_of_cell? w _ hw109_1)).trans hw109_1)⟩ (fun hHeld=>?_)
    clear hK K
    refine norm_ (a':=?_) ?_ ?_
    rotate_left
    ·show Act.put _ (some 19) _=_
     simp only [Act.put,z0_,z1_,z2_,i64_w,i32_w]
     rfl
    refine pu_ 8 20 ?_
    refine pu_ 9 21 ?_
    refine pu_ 10 22 ?_
    refine pu_ 11 23 ?_
    refine pu_ 12 24 ?_
    refine pu_ 13 25 ?_
    refine pu_ 15 27 ?_
    refine pu_ 16 28 ?_
    refine tk_ 14 26 hHeld ?_
    refine one_ (i:=17) (N:=some 29) ba18_ rfl rfl (one_of HT_.out (by kernel_rfl)) (by decide) (fun K hK=>?_)
    refine goes_ Try.func120 (by kernel_rfl) rfl #[.int .i64 ((rd_T72 l1 x5_1).f1),.int .i64 0,.int .i64 (wrap64 (a0 - 1))] (by rfl) rfl rfl zl ?_
    with_reducible refine (spec_l1In.calls ((rd_T72 l1 x5_1).f1) 0 (wrap64 (a0 - 1)) true _ A7.out).mono ?_
    rintro e w' ⟨rfl,⟨nd,rfl⟩⟩
    refine ⟨_,rfl,?_⟩
    refine hK.out _ _ ⟨((HB.out.cell (World.block_lt_of_cell? w _ hw104_0)).trans hw104_0),((HB.out.cell (World.block_lt_of_cell? w _ hw104_1)).trans hw104_1),((HB.out.cell (World.block_lt_of_cell? w _ hw106_0)).trans hw106_0),((HB.out.cell (World.block_lt_of_cell? w _ hw106_1)).trans hw106_1),((HB.out.cell (World.block_lt_of_cell? w _ hw108_0)).trans hw108_0),((HB.out.cell (World.block_lt_of_cell? w _ hw108_1)).trans hw108_1),((HB.out.cell (World.block_lt_of_cell? w _ hw109_0)).trans hw109_0),((HB.out.cell (World.block_lt_of_cell? w _ hw109_1)).trans hw109_1)⟩ (fun hHeld=>?_)
    clear hK K
    refine norm_ (a':=?_) ?_ ?_
    rotate_left
    ·show Act.put _ (some 29) _=_
     simp only [Act.put,z0_,z1_,z2_,i64_w,i32_w]
     rfl
    refine pu_ 18 30 ?_
    refine pu_ 19 31 ?_
    refine pu_ 20 32 ?_
    refine pu_ 21 33 ?_
    refine pu_ 22 34 ?_
    refine pu_ 23 35 ?_
    refine pu_ 24 36 ?_
    refine pu_ 26 38 ?_
    refine pu_ 27 39 ?_
    refine pu_ 28 40 ?_
    refine pu_ 29 41 ?_
    refine tk_ 25 37 hHeld ?_
    refine tk_ 30 42 hHeld ?_
    refine pu_ 31 43 ?_
    refine pu_ 32 44 ?_
    refine pu_ 33 45 ?_
    refine pv_ 34 46 ?_
    refine pv_ 35 47 ?_
    refine pv_ 36 48 ?_
    refine pv_ 37 49 ?_
    refine pv_ 38 50 ?_
    refine pv_ 39 51 ?_
    refine pv_ 40 52 ?_
    refine pv_ 41 53 ?_
    refine pv_ 42 54 ?_
    refine pv_ 43 55 ?_
    refine pv_ 44 56 ?_
    refine pv_ 45 57 ?_
    refine pv_ 46 58 ?_
    refine pv_ 47 59 ?_
    refine pv_ 48 60 ?_
    refine pu_ 49 61 ?_
    refine done_ (done_of HT_.out (by kernel_rfl)) ?_
    try go_wp2
    go_ret
    exact ⟨zz1,zb⟩
   rw [if_neg c9] at H
   have c9b0:(((rd_T72 l1 x5_1).f0) == ((rd_T72 l1 x5_1).f1))=false:=beq_eq_false_iff_ne.mpr c9
   have c9b1:(((rd_T72 l1 x5_1).f0) != ((rd_T72 l1 x5_1).f1))=true:=bne_iff_ne.mpr c9
   by_cases c11:x5_1>0
   rotate_left
   ·rw [if_neg c11] at H
    have c11b0:=decide_eq_false c11
    clear c11
    have H':=Aside0.mk H
    clear H
    try go_wp2
    replace HB:=Aside0.mk (below_drew1 HB.out)
    have p104:0≤(x5_1:Int):=of_decide_eq_true za
    have q104:x5_1<(l1.length:Int):=of_decide_eq_true za
    obtain ⟨ad104,e104,hx104_0,hx104_1⟩:=at_T72 HR1.out x5_1 p104 q104
    have hw104_1:=hx104_1
    have hw104_0:=hx104_0
    cases e104
    replace hx104_0:=zh_ HB hx104_0
    replace hx104_1:=zh_ HB hx104_1
    replace p104:=eq_true p104
    replace q104:=eq_true q104
    have p106:0≤(x5_1:Int):=of_decide_eq_true za
    have q106:x5_1<(l1.length:Int):=of_decide_eq_true za
    obtain ⟨ad106,e106,hx106_0,hx106_1⟩:=at_T72 HR1.out x5_1 p106 q106
    have hw106_1:=hx106_1
    have hw106_0:=hx106_0
    obtain rfl:ad104=ad106:=(by injection e106)
    replace hx106_0:=zh_ HB hx106_0
    replace hx106_1:=zh_ HB hx106_1
    replace p106:=eq_true p106
    replace q106:=eq_true q106
    have p108:0≤(x5_1:Int):=of_decide_eq_true za
    have q108:x5_1<(l1.length:Int):=of_decide_eq_true za
    obtain ⟨ad108,e108,hx108_0,hx108_1⟩:=at_T72 HR1.out x5_1 p108 q108
    have hw108_1:=hx108_1
    have hw108_0:=hx108_0
    obtain rfl:ad104=ad108:=(by injection e108)
    replace hx108_0:=zh_ HB hx108_0
    replace hx108_1:=zh_ HB hx108_1
    replace p108:=eq_true p108
    replace q108:=eq_true q108
    have p109:0≤(x5_1:Int):=of_decide_eq_true za
    have q109:x5_1<(l1.length:Int):=of_decide_eq_true za
    obtain ⟨ad109,e109,hx109_0,hx109_1⟩:=at_T72 HR1.out x5_1 p109 q109
    have hw109_1:=hx109_1
    have hw109_0:=hx109_0
    obtain rfl:ad104=ad109:=(by injection e109)
    replace hx109_0:=zh_ HB hx109_0
    replace hx109_1:=zh_ HB hx109_1
    replace p109:=eq_true p109
    replace q109:=eq_true q109
    refine start_ (n:=50) (S:=fun w'=>w'.cell? (ad104.add ((x5_1).toNat * 2))=some (.int .i64 ((rd_T72 l1 x5_1).f0))∧w'.cell? ⟨(ad104.add ((x5_1).toNat * 2)).block,(ad104.add ((x5_1).toNat * 2)).off + 1,none⟩=some (.int .i64 ((rd_T72 l1 x5_1).f1))∧w'.cell? (ad104.add ((x5_1).toNat * 2))=some (.int .i64 ((rd_T72 l1 x5_1).f0))∧w'.cell? ⟨(ad104.add ((x5_1).toNat * 2)).block,(ad104.add ((x5_1).toNat * 2)).off + 1,none⟩=some (.int .i64 ((rd_T72 l1 x5_1).f1))∧w'.cell? (ad104.add ((x5_1).toNat * 2))=some (.int .i64 ((rd_T72 l1 x5_1).f0))∧w'.cell? ⟨(ad104.add ((x5_1).toNat * 2)).block,(ad104.add ((x5_1).toNat * 2)).off + 1,none⟩=some (.int .i64 ((rd_T72 l1 x5_1).f1))∧w'.cell? (ad104.add ((x5_1).toNat * 2))=some (.int .i64 ((rd_T72 l1 x5_1).f0))∧w'.cell? ⟨(ad104.add ((x5_1).toNat * 2)).block,(ad104.add ((x5_1).toNat * 2)).off + 1,none⟩=some (.int .i64 ((rd_T72 l1 x5_1).f1))) (ds:=[]) ba0_ (by kernel_rfl) rfl rfl ⟨((HB.out.cell (World.block_lt_of_cell? w _ hw104_0)).trans hw104_0),((HB.out.cell (World.block_lt_of_cell? w _ hw104_1)).trans hw104_1),((HB.out.cell (World.block_lt_of_cell? w _ hw106_0)).trans hw106_0),((HB.out.cell (World.block_lt_of_cell? w _ hw106_1)).trans hw106_1),((HB.out.cell (World.block_lt_of_cell? w _ hw108_0)).trans hw108_0),((HB.out.cell (World.block_lt_of_cell? w _ hw108_1)).trans hw108_1),((HB.out.cell (World.block_lt_of_cell? w _ hw109_0)).trans hw109_0),((HB.out.cell (World.block_lt_of_cell? w _ hw109_1)).trans hw109_1)⟩ (fun hHeld=>?_);refine with_tabW spec_l4Pairs.tab4 spec_l4Pairs.bits4 (fun HT_ HW_=>?_)
    generalize wr.drew=w21 at HB hx104_0 hx104_1 hx106_0 hx106_1 hx108_0 hx108_1 hx109_0 hx109_1 hHeld ⊢
    refine pu_ 0 12 ?_
    refine pu_ 1 13 ?_
    refine pu_ 2 14 ?_
    refine pu_ 3 15 ?_
    refine pu_ 5 17 ?_
    refine pu_ 6 18 ?_
    refine tk_ 4 16 hHeld ?_
    refine one_ (i:=7) (N:=some 19) ba8_ rfl rfl (one_of HT_.out (by kernel_rfl)) (by decide) (fun K hK=>?_)
    refine goes_ Try.func120 (by kernel_rfl) rfl #[.int .i64 ((rd_T72 l1 x5_1).f0),.int .i64 0,.int .i64 (wrap64 (a0 - 1))] (by rfl) rfl rfl zl ?_
    with_reducible refine (spec_l1In.calls ((rd_T72 l1 x5_1).f0) 0 (wrap64 (a0 - 1)) true _ A5.out).mono ?_
    rintro e w' ⟨rfl,⟨nd,rfl⟩⟩
    refine ⟨_,rfl,?_⟩
    refine hK.out _ _ ⟨((HB.out.cell (World.block_lt_of_cell? w _ hw104_0)).trans hw104_0),((HB.out.cell (World.block_lt_of_cell? w _ hw104_1)).trans hw104_1),((HB.out.cell (World.block_lt_of_cell? w _ hw106_0)).trans hw106_0),((HB.out.cell (World.block_lt_of_cell? w _ hw106_1)).trans hw106_1),((HB.out.cell (World.block_lt_of_cell? w _ hw108_0)).trans hw108_0),((HB.out.cell (World.block_lt_of_cell? w _ hw108_1)).trans hw108_1),((HB.out.cell (World.block_lt_of_cell? w _ hw109_0)).trans hw109_0),((HB.out.cell (World.block_lt_of_cell? w _ hw109_1)).trans hw109_1)⟩ (fun hHeld=>?_)
    clear hK K
    refine norm_ (a':=?_) ?_ ?_
    rotate_left
    ·show Act.put _ (some 19) _=_
     simp only [Act.put,z0_,z1_,z2_,i64_w,i32_w]
     rfl
    refine pu_ 8 20 ?_
    refine pu_ 9 21 ?_
    refine pu_ 10 22 ?_
    refine pu_ 11 23 ?_
    refine pu_ 12 24 ?_
    refine pu_ 13 25 ?_
    refine pu_ 15 27 ?_
    refine pu_ 16 28 ?_
    refine tk_ 14 26 hHeld ?_
    refine one_ (i:=17) (N:=some 29) ba18_ rfl rfl (one_of HT_.out (by kernel_rfl)) (by decide) (fun K hK=>?_)
    refine goes_ Try.func120 (by kernel_rfl) rfl #[.int .i64 ((rd_T72 l1 x5_1).f1),.int .i64 0,.int .i64 (wrap64 (a0 - 1))] (by rfl) rfl rfl zl ?_
    with_reducible refine (spec_l1In.calls ((rd_T72 l1 x5_1).f1) 0 (wrap64 (a0 - 1)) true _ A7.out).mono ?_
    rintro e w' ⟨rfl,⟨nd,rfl⟩⟩
    refine ⟨_,rfl,?_⟩
    refine hK.out _ _ ⟨((HB.out.cell (World.block_lt_of_cell? w _ hw104_0)).trans hw104_0),((HB.out.cell (World.block_lt_of_cell? w _ hw104_1)).trans hw104_1),((HB.out.cell (World.block_lt_of_cell? w _ hw106_0)).trans hw106_0),((HB.out.cell (World.block_lt_of_cell? w _ hw106_1)).trans hw106_1),((HB.out.cell (World.block_lt_of_cell? w _ hw108_0)).trans hw108_0),((HB.out.cell (World.block_lt_of_cell? w _ hw108_1)).trans hw108_1),((HB.out.cell (World.block_lt_of_cell? w _ hw109_0)).trans hw109_0),((HB.out.cell (World.block_lt_of_cell? w _ hw109_1)).trans hw109_1)⟩ (fun hHeld=>?_)
    clear hK K
    refine norm_ (a':=?_) ?_ ?_
    rotate_left
    ·show Act.put _ (some 29) _=_
     simp only [Act.put,z0_,z1_,z2_,i64_w,i32_w]
     rfl
    refine pu_ 18 30 ?_
    refine pu_ 19 31 ?_
    refine pu_ 20 32 ?_
    refine pu_ 21 33 ?_
    refine pu_ 22 34 ?_
    refine pu_ 23 35 ?_
    refine pu_ 24 36 ?_
    refine pu_ 26 38 ?_
    refine pu_ 27 39 ?_
    refine pu_ 28 40 ?_
    refine pu_ 29 41 ?_
    refine tk_ 25 37 hHeld ?_
    refine tk_ 30 42 hHeld ?_
    refine pu_ 31 43 ?_
    refine pu_ 32 44 ?_
    refine pu_ 33 45 ?_
    refine pu_ 34 46 ?_
    refine pu_ 35 47 ?_
    refine pu_ 36 48 ?_
    refine pv_ 37 49 ?_
    refine pv_ 38 50 ?_
    refine pv_ 39 51 ?_
    refine pv_ 40 52 ?_
    refine pv_ 41 53 ?_
    refine pv_ 42 54 ?_
    refine pv_ 43 55 ?_
    refine pv_ 44 56 ?_
    refine pv_ 45 57 ?_
    refine pv_ 46 58 ?_
    refine pv_ 47 59 ?_
    refine pu_ 48 60 ?_
    refine pu_ 49 61 ?_
    refine done_ (done_of HT_.out (by kernel_rfl)) ?_
    try go_wp2
    go_roundg k1
    case measure=>have:=HK1.out;omega
    case rel=>exact ⟨(wrap64 (x5_1 + 1)),zo,H',⟨by have:=HK1.out;omega⟩,⟨zb⟩⟩
   rw [if_pos c11] at H
   have c11b0:=decide_eq_true c11
   clear c11
   obtain ⟨ji12,hji12⟩:∃ j_:Int,(wrap64 (x5_1 - 1))=j_:=⟨_,rfl⟩
   replace H:(if 0≤(ji12) then (if (ji12)<(l1.length:Int) then ((spec_l4Before.f ((rd_T72 l1 (ji12)).f0) ((rd_T72 l1 (ji12)).f1) ((rd_T72 l1 x5_1).f0) ((rd_T72 l1 x5_1).f1)).bind fun t112=>(if t112=true then (spec_l4Pairs.l0 k1 a0 l1 (wrap64 (x5_1 + 1))) else (some false))) else (none)) else (none))=some r:=by first|(rw [hji12] at H;exact H)|(simp only [hji12] at H ⊢;exact H)
   (try rw [hji12] at A5)
   (try rw [hji12] at A7)
   have hji12w:(IntKind.i64.wrap (x5_1 - 1))=ji12:=(i64_w _).trans hji12
   by_cases c13:0≤(ji12)
   rotate_left
   ·rw [if_neg c13] at H
    exact absurd H (by simp)
   rw [if_pos c13] at H
   have c13b0:=decide_eq_true c13
   clear c13
   by_cases c14:(ji12)<(l1.length:Int)
   rotate_left
   ·rw [if_neg c14] at H
    exact absurd H (by simp)
   rw [if_pos c14] at H
   have c14b0:=decide_eq_true c14
   clear c14
   replace H:=Option.bind_eq_some_iff.mp H
   obtain ⟨t112,A150,H⟩:=H
   try dsimp only at H
   have A15:=Aside0.mk A150
   clear A150
   by_cases c16:t112=true
   ·subst c16
    rw [if_pos rfl] at H
    have H':=Aside0.mk H
    clear H
    try go_wp2
    replace HB:=Aside0.mk (below_drew1 HB.out)
    have p104:0≤(x5_1:Int):=of_decide_eq_true za
    have q104:x5_1<(l1.length:Int):=of_decide_eq_true za
    obtain ⟨ad104,e104,hx104_0,hx104_1⟩:=at_T72 HR1.out x5_1 p104 q104
    have hw104_1:=hx104_1
    have hw104_0:=hx104_0
    cases e104
    replace hx104_0:=zh_ HB hx104_0
    replace hx104_1:=zh_ HB hx104_1
    replace p104:=eq_true p104
    replace q104:=eq_true q104
    have p106:0≤(x5_1:Int):=of_decide_eq_true za
    have q106:x5_1<(l1.length:Int):=of_decide_eq_true za
    obtain ⟨ad106,e106,hx106_0,hx106_1⟩:=at_T72 HR1.out x5_1 p106 q106
    have hw106_1:=hx106_1
    have hw106_0:=hx106_0
    obtain rfl:ad104=ad106:=(by injection e106)
    replace hx106_0:=zh_ HB hx106_0
    replace hx106_1:=zh_ HB hx106_1
    replace p106:=eq_true p106
    replace q106:=eq_true q106
    have p108:0≤(x5_1:Int):=of_decide_eq_true za
    have q108:x5_1<(l1.length:Int):=of_decide_eq_true za
    obtain ⟨ad108,e108,hx108_0,hx108_1⟩:=at_T72 HR1.out x5_1 p108 q108
    have hw108_1:=hx108_1
    have hw108_0:=hx108_0
    obtain rfl:ad104=ad108:=(by injection e108)
    replace hx108_0:=zh_ HB hx108_0
    replace hx108_1:=zh_ HB hx108_1
    replace p108:=eq_true p108
    replace q108:=eq_true q108
    have p109:0≤(x5_1:Int):=of_decide_eq_true za
    have q109:x5_1<(l1.length:Int):=of_decide_eq_true za
    obtain ⟨ad109,e109,hx109_0,hx109_1⟩:=at_T72 HR1.out x5_1 p109 q109
    have hw109_1:=hx109_1
    have hw109_0:=hx109_0
    obtain rfl:ad104=ad109:=(by injection e109)
    replace hx109_0:=zh_ HB hx109_0
    replace hx109_1:=zh_ HB hx109_1
    replace p109:=eq_true p109
    replace q109:=eq_true q109
    have p110:0≤((ji12):Int):=of_decide_eq_true za
    have q110:(ji12)<(l1.length:Int):=of_decide_eq_true za
    obtain ⟨ad110,e110,hx110_0,hx110_1⟩:=at_T72 HR1.out (ji12) p110 q110
    have hw110_1:=hx110_1
    have hw110_0:=hx110_0
    obtain rfl:ad104=ad110:=(by injection e110)
    replace hx110_0:=zh_ HB hx110_0
    replace hx110_1:=zh_ HB hx110_1
    replace p110:=eq_true p110
    replace q110:=eq_true q110
    have p111:0≤(x5_1:Int):=of_decide_eq_true za
    have q111:x5_1<(l1.length:Int):=of_decide_eq_true za
    obtain ⟨ad111,e111,hx111_0,hx111_1⟩:=at_T72 HR1.out x5_1 p111 q111
    have hw111_1:=hx111_1
    have hw111_0:=hx111_0
    obtain rfl:ad104=ad111:=(by injection e111)
    replace hx111_0:=zh_ HB hx111_0
    replace hx111_1:=zh_ HB hx111_1
    replace p111:=eq_true p111
    replace q111:=eq_true q111
    refine start_ (n:=50) (S:=fun w'=>w'.cell? (ad104.add ((x5_1).toNat * 2))=some (.int .i64 ((rd_T72 l1 x5_1).f0))∧w'.cell? ⟨(ad104.add ((x5_1).toNat * 2)).block,(ad104.add ((x5_1).toNat * 2)).off + 1,none⟩=some (.int .i64 ((rd_T72 l1 x5_1).f1))∧w'.cell? (ad104.add ((x5_1).toNat * 2))=some (.int .i64 ((rd_T72 l1 x5_1).f0))∧w'.cell? ⟨(ad104.add ((x5_1).toNat * 2)).block,(ad104.add ((x5_1).toNat * 2)).off + 1,none⟩=some (.int .i64 ((rd_T72 l1 x5_1).f1))∧w'.cell? (ad104.add ((x5_1).toNat * 2))=some (.int .i64 ((rd_T72 l1 x5_1).f0))∧w'.cell? ⟨(ad104.add ((x5_1).toNat * 2)).block,(ad104.add ((x5_1).toNat * 2)).off + 1,none⟩=some (.int .i64 ((rd_T72 l1 x5_1).f1))∧w'.cell? (ad104.add ((x5_1).toNat * 2))=some (.int .i64 ((rd_T72 l1 x5_1).f0))∧w'.cell? ⟨(ad104.add ((x5_1).toNat * 2)).block,(ad104.add ((x5_1).toNat * 2)).off + 1,none⟩=some (.int .i64 ((rd_T72 l1 x5_1).f1))∧w'.cell? (ad104.add (((ji12)).toNat * 2))=some (.int .i64 ((rd_T72 l1 (ji12)).f0))∧w'.cell? ⟨(ad104.add (((ji12)).toNat * 2)).block,(ad104.add (((ji12)).toNat * 2)).off + 1,none⟩=some (.int .i64 ((rd_T72 l1 (ji12)).f1))∧w'.cell? (ad104.add ((x5_1).toNat * 2))=some (.int .i64 ((rd_T72 l1 x5_1).f0))∧w'.cell? ⟨(ad104.add ((x5_1).toNat * 2)).block,(ad104.add ((x5_1).toNat * 2)).off + 1,none⟩=some (.int .i64 ((rd_T72 l1 x5_1).f1))) (ds:=[]) ba0_ (by kernel_rfl) rfl rfl ⟨((HB.out.cell (World.block_lt_of_cell? w _ hw104_0)).trans hw104_0),((HB.out.cell (World.block_lt_of_cell? w _ hw104_1)).trans hw104_1),((HB.out.cell (World.block_lt_of_cell? w _ hw106_0)).trans hw106_0),((HB.out.cell (World.block_lt_of_cell? w _ hw106_1)).trans hw106_1),((HB.out.cell (World.block_lt_of_cell? w _ hw108_0)).trans hw108_0),((HB.out.cell (World.block_lt_of_cell? w _ hw108_1)).trans hw108_1),((HB.out.cell (World.block_lt_of_cell? w _ hw109_0)).trans hw109_0),((HB.out.cell (World.block_lt_of_cell? w _ hw109_1)).trans hw109_1),((HB.out.cell (World.block_lt_of_cell? w _ hw110_0)).trans hw110_0),((HB.out.cell (World.block_lt_of_cell? w _ hw110_1)).trans hw110_1),((HB.out.cell (World.block_lt_of_cell? w _ hw111_0)).trans hw111_0),((HB.out.cell (World.block_lt_of_cell? w _ hw111_1)).trans hw111_1)⟩ (fun hHeld=>?_);refine with_tabW spec_l4Pairs.tab4 spec_l4Pairs.bits4 (fun HT_ HW_=>?_)
    generalize wr.drew=w17 at HB hx104_0 hx104_1 hx106_0 hx106_1 hx108_0 hx108_1 hx109_0 hx109_1 hx110_0 hx110_1 hx111_0 hx111_1 hHeld ⊢
    refine pu_ 0 12 ?_
    refine pu_ 1 13 ?_
    refine pu_ 2 14 ?_
    refine pu_ 3 15 ?_
    refine pu_ 5 17 ?_
    refine pu_ 6 18 ?_
    refine tk_ 4 16 hHeld ?_
    refine one_ (i:=7) (N:=some 19) ba8_ rfl rfl (one_of HT_.out (by kernel_rfl)) (by decide) (fun K hK=>?_)
    refine goes_ Try.func120 (by kernel_rfl) rfl #[.int .i64 ((rd_T72 l1 x5_1).f0),.int .i64 0,.int .i64 (wrap64 (a0 - 1))] (by rfl) rfl rfl zl ?_
    with_reducible refine (spec_l1In.calls ((rd_T72 l1 x5_1).f0) 0 (wrap64 (a0 - 1)) true _ A5.out).mono ?_
    rintro e w' ⟨rfl,⟨nd,rfl⟩⟩
    refine ⟨_,rfl,?_⟩
    refine hK.out _ _ ⟨((HB.out.cell (World.block_lt_of_cell? w _ hw104_0)).trans hw104_0),((HB.out.cell (World.block_lt_of_cell? w _ hw104_1)).trans hw104_1),((HB.out.cell (World.block_lt_of_cell? w _ hw106_0)).trans hw106_0),((HB.out.cell (World.block_lt_of_cell? w _ hw106_1)).trans hw106_1),((HB.out.cell (World.block_lt_of_cell? w _ hw108_0)).trans hw108_0),((HB.out.cell (World.block_lt_of_cell? w _ hw108_1)).trans hw108_1),((HB.out.cell (World.block_lt_of_cell? w _ hw109_0)).trans hw109_0),((HB.out.cell (World.block_lt_of_cell? w _ hw109_1)).trans hw109_1),((HB.out.cell (World.block_lt_of_cell? w _ hw110_0)).trans hw110_0),((HB.out.cell (World.block_lt_of_cell? w _ hw110_1)).trans hw110_1),((HB.out.cell (World.block_lt_of_cell? w _ hw111_0)).trans hw111_0),((HB.out.cell (World.block_lt_of_cell? w _ hw111_1)).trans hw111_1)⟩ (fun hHeld=>?_)
    clear hK K
    refine norm_ (a':=?_) ?_ ?_
    rotate_left
    ·show Act.put _ (some 19) _=_
     simp only [Act.put,z0_,z1_,z2_,i64_w,i32_w]
     rfl
    refine pu_ 8 20 ?_
    refine pu_ 9 21 ?_
    refine pu_ 10 22 ?_
    refine pu_ 11 23 ?_
    refine pu_ 12 24 ?_
    refine pu_ 13 25 ?_
    refine pu_ 15 27 ?_
    refine pu_ 16 28 ?_
    refine tk_ 14 26 hHeld ?_
    refine one_ (i:=17) (N:=some 29) ba18_ rfl rfl (one_of HT_.out (by kernel_rfl)) (by decide) (fun K hK=>?_)
    refine goes_ Try.func120 (by kernel_rfl) rfl #[.int .i64 ((rd_T72 l1 x5_1).f1),.int .i64 0,.int .i64 (wrap64 (a0 - 1))] (by rfl) rfl rfl zl ?_
    with_reducible refine (spec_l1In.calls ((rd_T72 l1 x5_1).f1) 0 (wrap64 (a0 - 1)) true _ A7.out).mono ?_
    rintro e w' ⟨rfl,⟨nd,rfl⟩⟩
    refine ⟨_,rfl,?_⟩
    refine hK.out _ _ ⟨((HB.out.cell (World.block_lt_of_cell? w _ hw104_0)).trans hw104_0),((HB.out.cell (World.block_lt_of_cell? w _ hw104_1)).trans hw104_1),((HB.out.cell (World.block_lt_of_cell? w _ hw106_0)).trans hw106_0),((HB.out.cell (World.block_lt_of_cell? w _ hw106_1)).trans hw106_1),((HB.out.cell (World.block_lt_of_cell? w _ hw108_0)).trans hw108_0),((HB.out.cell (World.block_lt_of_cell? w _ hw108_1)).trans hw108_1),((HB.out.cell (World.block_lt_of_cell? w _ hw109_0)).trans hw109_0),((HB.out.cell (World.block_lt_of_cell? w _ hw109_1)).trans hw109_1),((HB.out.cell (World.block_lt_of_cell? w _ hw110_0)).trans hw110_0),((HB.out.cell (World.block_lt_of_cell? w _ hw110_1)).trans hw110_1),((HB.out.cell (World.block_lt_of_cell? w _ hw111_0)).trans hw111_0),((HB.out.cell (World.block_lt_of_cell? w _ hw111_1)).trans hw111_1)⟩ (fun hHeld=>?_)
    clear hK K
    refine norm_ (a':=?_) ?_ ?_
    rotate_left
    ·show Act.put _ (some 29) _=_
     simp only [Act.put,z0_,z1_,z2_,i64_w,i32_w]
     rfl
    refine pu_ 18 30 ?_
    refine pu_ 19 31 ?_
    refine pu_ 20 32 ?_
    refine pu_ 21 33 ?_
    refine pu_ 22 34 ?_
    refine pu_ 23 35 ?_
    refine pu_ 24 36 ?_
    refine pu_ 26 38 ?_
    refine pu_ 27 39 ?_
    refine pu_ 28 40 ?_
    refine pu_ 29 41 ?_
    refine tk_ 25 37 hHeld ?_
    refine tk_ 30 42 hHeld ?_
    refine pu_ 31 43 ?_
    refine pu_ 32 44 ?_
    refine pu_ 33 45 ?_
    refine pu_ 34 46 ?_
    refine pu_ 35 47 ?_
    refine pu_ 36 48 ?_
    refine pu_ 37 49 ?_
    refine pu_ 38 50 ?_
    refine pu_ 39 51 ?_
    refine pu_ 40 52 ?_
    refine pu_ 42 54 ?_
    refine pu_ 43 55 ?_
    refine pu_ 44 56 ?_
    refine tk_ 41 53 hHeld ?_
    refine tk_ 45 57 hHeld ?_
    refine one_ (i:=46) (N:=some 58) ba47_ rfl rfl (one_of HT_.out (by kernel_rfl)) (by decide) (fun K hK=>?_)
    refine goes_ Try.func156 (by kernel_rfl) rfl #[.agg #[.int .i64 ((rd_T72 l1 (ji12)).f0),.int .i64 ((rd_T72 l1 (ji12)).f1)],.agg #[.int .i64 ((rd_T72 l1 x5_1).f0),.int .i64 ((rd_T72 l1 x5_1).f1)]] (by rfl) rfl rfl (by (try simp only [List.map_toArray,List.map_cons,List.map_nil]);first|done|(simp only [hji12];rfl)|rfl|(simp only [List.length_drop,List.length_take];rfl)) ?_
    with_reducible refine (spec_l4Before.calls ((rd_T72 l1 (ji12)).f0) ((rd_T72 l1 (ji12)).f1) ((rd_T72 l1 x5_1).f0) ((rd_T72 l1 x5_1).f1) true _ A15.out).mono ?_
    rintro e w18 ⟨rfl,hb⟩
    refine ⟨_,rfl,?_⟩
    replace HB:=zb1 hb
    refine hK.out _ _ ⟨((HB.out.cell (World.block_lt_of_cell? w _ hw104_0)).trans hw104_0),((HB.out.cell (World.block_lt_of_cell? w _ hw104_1)).trans hw104_1),((HB.out.cell (World.block_lt_of_cell? w _ hw106_0)).trans hw106_0),((HB.out.cell (World.block_lt_of_cell? w _ hw106_1)).trans hw106_1),((HB.out.cell (World.block_lt_of_cell? w _ hw108_0)).trans hw108_0),((HB.out.cell (World.block_lt_of_cell? w _ hw108_1)).trans hw108_1),((HB.out.cell (World.block_lt_of_cell? w _ hw109_0)).trans hw109_0),((HB.out.cell (World.block_lt_of_cell? w _ hw109_1)).trans hw109_1),((HB.out.cell (World.block_lt_of_cell? w _ hw110_0)).trans hw110_0),((HB.out.cell (World.block_lt_of_cell? w _ hw110_1)).trans hw110_1),((HB.out.cell (World.block_lt_of_cell? w _ hw111_0)).trans hw111_0),((HB.out.cell (World.block_lt_of_cell? w _ hw111_1)).trans hw111_1)⟩ (fun hHeld=>?_)
    clear hK K
    refine norm_ (a':=?_) ?_ ?_
    rotate_left
    ·show Act.put _ (some 58) _=_
     simp only [Act.put,z0_,z1_,z2_,i64_w,i32_w]
     rfl
    refine pu_ 47 59 ?_
    refine pu_ 48 60 ?_
    refine pu_ 49 61 ?_
    refine done_ (done_of HT_.out (by kernel_rfl)) ?_
    try go_wp2
    go_roundg k1
    case measure=>have:=HK1.out;omega
    case rel=>exact ⟨(wrap64 (x5_1 + 1)),zo,H',⟨by have:=HK1.out;omega⟩,⟨zb⟩⟩
   replace c16:=Bool.eq_false_iff.mpr c16
   subst c16
   rw [if_neg (show ¬ (false=true) by decide)] at H
   obtain rfl:=Option.some.inj H
   try go_wp2
   replace HB:=Aside0.mk (below_drew1 HB.out)
   have p104:0≤(x5_1:Int):=of_decide_eq_true za
   have q104:x5_1<(l1.length:Int):=of_decide_eq_true za
   obtain ⟨ad104,e104,hx104_0,hx104_1⟩:=at_T72 HR1.out x5_1 p104 q104
   have hw104_1:=hx104_1
   have hw104_0:=hx104_0
   cases e104
   replace hx104_0:=zh_ HB hx104_0
   replace hx104_1:=zh_ HB hx104_1
   replace p104:=eq_true p104
   replace q104:=eq_true q104
   have p106:0≤(x5_1:Int):=of_decide_eq_true za
   have q106:x5_1<(l1.length:Int):=of_decide_eq_true za
   obtain ⟨ad106,e106,hx106_0,hx106_1⟩:=at_T72 HR1.out x5_1 p106 q106
   have hw106_1:=hx106_1
   have hw106_0:=hx106_0
   obtain rfl:ad104=ad106:=(by injection e106)
   replace hx106_0:=zh_ HB hx106_0
   replace hx106_1:=zh_ HB hx106_1
   replace p106:=eq_true p106
   replace q106:=eq_true q106
   have p108:0≤(x5_1:Int):=of_decide_eq_true za
   have q108:x5_1<(l1.length:Int):=of_decide_eq_true za
   obtain ⟨ad108,e108,hx108_0,hx108_1⟩:=at_T72 HR1.out x5_1 p108 q108
   have hw108_1:=hx108_1
   have hw108_0:=hx108_0
   obtain rfl:ad104=ad108:=(by injection e108)
   replace hx108_0:=zh_ HB hx108_0
   replace hx108_1:=zh_ HB hx108_1
   replace p108:=eq_true p108
   replace q108:=eq_true q108
   have p109:0≤(x5_1:Int):=of_decide_eq_true za
   have q109:x5_1<(l1.length:Int):=of_decide_eq_true za
   obtain ⟨ad109,e109,hx109_0,hx109_1⟩:=at_T72 HR1.out x5_1 p109 q109
   have hw109_1:=hx109_1
   have hw109_0:=hx109_0
   obtain rfl:ad104=ad109:=(by injection e109)
   replace hx109_0:=zh_ HB hx109_0
   replace hx109_1:=zh_ HB hx109_1
   replace p109:=eq_true p109
   replace q109:=eq_true q109
   have p110:0≤((ji12):Int):=of_decide_eq_true za
   have q110:(ji12)<(l1.length:Int):=of_decide_eq_true za
   obtain ⟨ad110,e110,hx110_0,hx110_1⟩:=at_T72 HR1.out (ji12) p110 q110
   have hw110_1:=hx110_1
   have hw110_0:=hx110_0
   obtain rfl:ad104=ad110:=(by injection e110)
   replace hx110_0:=zh_ HB hx110_0
   replace hx110_1:=zh_ HB hx110_1
   replace p110:=eq_true p110
   replace q110:=eq_true q110
   have p111:0≤(x5_1:Int):=of_decide_eq_true za
   have q111:x5_1<(l1.length:Int):=of_decide_eq_true za
   obtain ⟨ad111,e111,hx111_0,hx111_1⟩:=at_T72 HR1.out x5_1 p111 q111
   have hw111_1:=hx111_1
   have hw111_0:=hx111_0
   obtain rfl:ad104=ad111:=(by injection e111)
   replace hx111_0:=zh_ HB hx111_0
   replace hx111_1:=zh_ HB hx111_1
   replace p111:=eq_true p111
   replace q111:=eq_true q111
   refine start_ (n:=50) (S:=fun w'=>w'.cell? (ad104.add ((x5_1).toNat * 2))=some (.int .i64 ((rd_T72 l1 x5_1).f0))∧w'.cell? ⟨(ad104.add ((x5_1).toNat * 2)).block,(ad104.add ((x5_1).toNat * 2)).off + 1,none⟩=some (.int .i64 ((rd_T72 l1 x5_1).f1))∧w'.cell? (ad104.add ((x5_1).toNat * 2))=some (.int .i64 ((rd_T72 l1 x5_1).f0))∧w'.cell? ⟨(ad104.add ((x5_1).toNat * 2)).block,(ad104.add ((x5_1).toNat * 2)).off + 1,none⟩=some (.int .i64 ((rd_T72 l1 x5_1).f1))∧w'.cell? (ad104.add ((x5_1).toNat * 2))=some (.int .i64 ((rd_T72 l1 x5_1).f0))∧w'.cell? ⟨(ad104.add ((x5_1).toNat * 2)).block,(ad104.add ((x5_1).toNat * 2)).off + 1,none⟩=some (.int .i64 ((rd_T72 l1 x5_1).f1))∧w'.cell? (ad104.add ((x5_1).toNat * 2))=some (.int .i64 ((rd_T72 l1 x5_1).f0))∧w'.cell? ⟨(ad104.add ((x5_1).toNat * 2)).block,(ad104.add ((x5_1).toNat * 2)).off + 1,none⟩=some (.int .i64 ((rd_T72 l1 x5_1).f1))∧w'.cell? (ad104.add (((ji12)).toNat * 2))=some (.int .i64 ((rd_T72 l1 (ji12)).f0))∧w'.cell? ⟨(ad104.add (((ji12)).toNat * 2)).block,(ad104.add (((ji12)).toNat * 2)).off + 1,none⟩=some (.int .i64 ((rd_T72 l1 (ji12)).f1))∧w'.cell? (ad104.add ((x5_1).toNat * 2))=some (.int .i64 ((rd_T72 l1 x5_1).f0))∧w'.cell? ⟨(ad104.add ((x5_1).toNat * 2)).block,(ad104.add ((x5_1).toNat * 2)).off + 1,none⟩=some (.int .i64 ((rd_T72 l1 x5_1).f1))) (ds:=[]) ba0_ (by kernel_rfl) rfl rfl ⟨((HB.out.cell (World.block_lt_of_cell? w _ hw104_0)).trans hw104_0),((HB.out.cell (World.block_lt_of_cell? w _ hw104_1)).trans hw104_1),((HB.out.cell (World.block_lt_of_cell? w _ hw106_0)).trans hw106_0),((HB.out.cell (World.block_lt_of_cell? w _ hw106_1)).trans hw106_1),((HB.out.cell (World.block_lt_of_cell? w _ hw108_0)).trans hw108_0),((HB.out.cell (World.block_lt_of_cell? w _ hw108_1)).trans hw108_1),((HB.out.cell (World.block_lt_of_cell? w _ hw109_0)).trans hw109_0),((HB.out.cell (World.block_lt_of_cell? w _ hw109_1)).trans hw109_1),((HB.out.cell (World.block_lt_of_cell? w _ hw110_0)).trans hw110_0),((HB.out.cell (World.block_lt_of_cell? w _ hw110_1)).trans hw110_1),((HB.out.cell (World.block_lt_of_cell? w _ hw111_0)).trans hw111_0),((HB.out.cell (World.block_lt_of_cell? w _ hw111_1)).trans hw111_1)⟩ (fun hHeld=>?_);refine with_tabW spec_l4Pairs.tab4 spec_l4Pairs.bits4 (fun HT_ HW_=>?_)
   generalize wr.drew=w19 at HB hx104_0 hx104_1 hx106_0 hx106_1 hx108_0 hx108_1 hx109_0 hx109_1 hx110_0 hx110_1 hx111_0 hx111_1 hHeld ⊢
   refine pu_ 0 12 ?_
   refine pu_ 1 13 ?_
   refine pu_ 2 14 ?_
   refine pu_ 3 15 ?_
   refine pu_ 5 17 ?_
   refine pu_ 6 18 ?_
   refine tk_ 4 16 hHeld ?_
   refine one_ (i:=7) (N:=some 19) ba8_ rfl rfl (one_of HT_.out (by kernel_rfl)) (by decide) (fun K hK=>?_)
   refine goes_ Try.func120 (by kernel_rfl) rfl #[.int .i64 ((rd_T72 l1 x5_1).f0),.int .i64 0,.int .i64 (wrap64 (a0 - 1))] (by rfl) rfl rfl zl ?_
   with_reducible refine (spec_l1In.calls ((rd_T72 l1 x5_1).f0) 0 (wrap64 (a0 - 1)) true _ A5.out).mono ?_
   rintro e w' ⟨rfl,⟨nd,rfl⟩⟩
   refine ⟨_,rfl,?_⟩
   refine hK.out _ _ ⟨((HB.out.cell (World.block_lt_of_cell? w _ hw104_0)).trans hw104_0),((HB.out.cell (World.block_lt_of_cell? w _ hw104_1)).trans hw104_1),((HB.out.cell (World.block_lt_of_cell? w _ hw106_0)).trans hw106_0),((HB.out.cell (World.block_lt_of_cell? w _ hw106_1)).trans hw106_1),((HB.out.cell (World.block_lt_of_cell? w _ hw108_0)).trans hw108_0),((HB.out.cell (World.block_lt_of_cell? w _ hw108_1)).trans hw108_1),((HB.out.cell (World.block_lt_of_cell? w _ hw109_0)).trans hw109_0),((HB.out.cell (World.block_lt_of_cell? w _ hw109_1)).trans hw109_1),((HB.out.cell (World.block_lt_of_cell? w _ hw110_0)).trans hw110_0),((HB.out.cell (World.block_lt_of_cell? w _ hw110_1)).trans hw110_1),((HB.out.cell (World.block_lt_of_cell? w _ hw111_0)).trans hw111_0),((HB.out.cell (World.block_lt_of_cell? w _ hw111_1)).trans hw111_1)⟩ (fun hHeld=>?_)
   clear hK K
   refine norm_ (a':=?_) ?_ ?_
   rotate_left
   ·show Act.put _ (some 19) _=_
    simp only [Act.put,z0_,z1_,z2_,i64_w,i32_w]
    rfl
   refine pu_ 8 20 ?_
   refine pu_ 9 21 ?_
   refine pu_ 10 22 ?_
   refine pu_ 11 23 ?_
   refine pu_ 12 24 ?_
   refine pu_ 13 25 ?_
   refine pu_ 15 27 ?_
   refine pu_ 16 28 ?_
   refine tk_ 14 26 hHeld ?_
   refine one_ (i:=17) (N:=some 29) ba18_ rfl rfl (one_of HT_.out (by kernel_rfl)) (by decide) (fun K hK=>?_)
   refine goes_ Try.func120 (by kernel_rfl) rfl #[.int .i64 ((rd_T72 l1 x5_1).f1),.int .i64 0,.int .i64 (wrap64 (a0 - 1))] (by rfl) rfl rfl zl ?_
   with_reducible refine (spec_l1In.calls ((rd_T72 l1 x5_1).f1) 0 (wrap64 (a0 - 1)) true _ A7.out).mono ?_
   rintro e w' ⟨rfl,⟨nd,rfl⟩⟩
   refine ⟨_,rfl,?_⟩
   refine hK.out _ _ ⟨((HB.out.cell (World.block_lt_of_cell? w _ hw104_0)).trans hw104_0),((HB.out.cell (World.block_lt_of_cell? w _ hw104_1)).trans hw104_1),((HB.out.cell (World.block_lt_of_cell? w _ hw106_0)).trans hw106_0),((HB.out.cell (World.block_lt_of_cell? w _ hw106_1)).trans hw106_1),((HB.out.cell (World.block_lt_of_cell? w _ hw108_0)).trans hw108_0),((HB.out.cell (World.block_lt_of_cell? w _ hw108_1)).trans hw108_1),((HB.out.cell (World.block_lt_of_cell? w _ hw109_0)).trans hw109_0),((HB.out.cell (World.block_lt_of_cell? w _ hw109_1)).trans hw109_1),((HB.out.cell (World.block_lt_of_cell? w _ hw110_0)).trans hw110_0),((HB.out.cell (World.block_lt_of_cell? w _ hw110_1)).trans hw110_1),((HB.out.cell (World.block_lt_of_cell? w _ hw111_0)).trans hw111_0),((HB.out.cell (World.block_lt_of_cell? w _ hw111_1)).trans hw111_1)⟩ (fun hHeld=>?_)
   clear hK K
   refine norm_ (a':=?_) ?_ ?_
   rotate_left
   ·show Act.put _ (some 29) _=_
    simp only [Act.put,z0_,z1_,z2_,i64_w,i32_w]
    rfl
   refine pu_ 18 30 ?_
   refine pu_ 19 31 ?_
   refine pu_ 20 32 ?_
   refine pu_ 21 33 ?_
   refine pu_ 22 34 ?_
   refine pu_ 23 35 ?_
   refine pu_ 24 36 ?_
   refine pu_ 26 38 ?_
   refine pu_ 27 39 ?_
   refine pu_ 28 40 ?_
   refine pu_ 29 41 ?_
   refine tk_ 25 37 hHeld ?_
   refine tk_ 30 42 hHeld ?_
   refine pu_ 31 43 ?_
   refine pu_ 32 44 ?_
   refine pu_ 33 45 ?_
   refine pu_ 34 46 ?_
   refine pu_ 35 47 ?_
   refine pu_ 36 48 ?_
   refine pu_ 37 49 ?_
   refine pu_ 38 50 ?_
   refine pu_ 39 51 ?_
   refine pu_ 40 52 ?_
   refine pu_ 42 54 ?_
   refine pu_ 43 55 ?_
   refine pu_ 44 56 ?_
   refine tk_ 41 53 hHeld ?_
   refine tk_ 45 57 hHeld ?_
   refine one_ (i:=46) (N:=some 58) ba47_ rfl rfl (one_of HT_.out (by kernel_rfl)) (by decide) (fun K hK=>?_)
   refine goes_ Try.func156 (by kernel_rfl) rfl #[.agg #[.int .i64 ((rd_T72 l1 (ji12)).f0),.int .i64 ((rd_T72 l1 (ji12)).f1)],.agg #[.int .i64 ((rd_T72 l1 x5_1).f0),.int .i64 ((rd_T72 l1 x5_1).f1)]] (by rfl) rfl rfl (by (try simp only [List.map_toArray,List.map_cons,List.map_nil]);first|done|(simp only [hji12];rfl)|rfl|(simp only [List.length_drop,List.length_take];rfl)) ?_
   with_reducible refine (spec_l4Before.calls ((rd_T72 l1 (ji12)).f0) ((rd_T72 l1 (ji12)).f1) ((rd_T72 l1 x5_1).f0) ((rd_T72 l1 x5_1).f1) false _ A15.out).mono ?_
   rintro e w20 ⟨rfl,hb⟩
   refine ⟨_,rfl,?_⟩
   replace HB:=zb1 hb
   refine hK.out _ _ ⟨((HB.out.cell (World.block_lt_of_cell? w _ hw104_0)).trans hw104_0),((HB.out.cell (World.block_lt_of_cell? w _ hw104_1)).trans hw104_1),((HB.out.cell (World.block_lt_of_cell? w _ hw106_0)).trans hw106_0),((HB.out.cell (World.block_lt_of_cell? w _ hw106_1)).trans hw106_1),((HB.out.cell (World.block_lt_of_cell? w _ hw108_0)).trans hw108_0),((HB.out.cell (World.block_lt_of_cell? w _ hw108_1)).trans hw108_1),((HB.out.cell (World.block_lt_of_cell? w _ hw109_0)).trans hw109_0),((HB.out.cell (World.block_lt_of_cell? w _ hw109_1)).trans hw109_1),((HB.out.cell (World.block_lt_of_cell? w _ hw110_0)).trans hw110_0),((HB.out.cell (World.block_lt_of_cell? w _ hw110_1)).trans hw110_1),((HB.out.cell (World.block_lt_of_cell? w _ hw111_0)).trans hw111_0),((HB.out.cell (World.block_lt_of_cell? w _ hw111_1)).trans hw111_1)⟩ (fun hHeld=>?_)
   clear hK K
   refine norm_ (a':=?_) ?_ ?_
   rotate_left
   ·show Act.put _ (some 58) _=_
    simp only [Act.put,z0_,z1_,z2_,i64_w,i32_w]
    rfl
   refine pu_ 47 59 ?_
   refine pu_ 48 60 ?_
   refine pu_ 49 61 ?_
   refine done_ (done_of HT_.out (by kernel_rfl)) ?_
   try go_wp2
   go_ret
   exact ⟨by first|rfl|(simp [errW_none,errW_some] <;> rfl)|(simp only [←hji12];first|rfl|(simp [errW_none,errW_some] <;> rfl))|(simp [*,errW_none,errW_some] <;> rfl),zb⟩

end Go.Proofs.Ytbcfmegepkhlpaa.XFnShared
-- minified
