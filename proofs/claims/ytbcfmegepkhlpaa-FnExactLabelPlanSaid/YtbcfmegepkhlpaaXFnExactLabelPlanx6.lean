-- Written by a program of this session (the kit's print, widened). Proved here: what each function answers, for the arguments that its contract names.
import Derived.Test.YtbcfmegepkhlpaaXFnExactLabelPlanx0
import Derived.Test.YtbcfmegepkhlpaaXFnExactLabelPlanx5
namespace Go.Proofs.Ytbcfmegepkhlpaa.XFnExactLabelPlan
open Go.RowKit Go.Proofs.YtbcfmegepkhlpaaW.PrintWords Go.Proofs.YtbcfmegepkhlpaaW.PrintLast Go.Proofs.YtbcfmegepkhlpaaW.PrintMore
attribute [local go_sem] max2_int min2_int max_two min_two max_three min_three max_four min_four   -- for this text's walks alone
attribute [local go_sem] idxA_72_0 idxA_72_1 fldS_96_0 fldS_96_1 fldS_96_2 fldS_111_0 fldS_111_1 fldS_111_2
set_option linter.unusedVariables false
set_option linter.unusedSimpArgs false

/-! ### spec_l4Pairs: function 106 -/
def spec_l4Pairs.l0:Nat→Int→List (S72)→Int→Option (Bool)
 | 0,_,_,_=>none
 | k + 1,x0,x1,x5=>if x5<(x1.length:Int) then (if 0≤x5 then ((spec_l1In.f ((rd_T72 x1 x5).f0) 0 (wrap64 (x0 - 1))).bind fun t108=>(if t108=true then ((spec_l1In.f ((rd_T72 x1 x5).f1) 0 (wrap64 (x0 - 1))).bind fun t110=>(if t110=true then (if ((rd_T72 x1 x5).f0)=((rd_T72 x1 x5).f1) then (some false) else (if x5>0 then (if 0≤(wrap64 (x5 - 1)) then (if (wrap64 (x5 - 1))<(x1.length:Int) then ((spec_l4Before.f ((rd_T72 x1 (wrap64 (x5 - 1))).f0) ((rd_T72 x1 (wrap64 (x5 - 1))).f1) ((rd_T72 x1 x5).f0) ((rd_T72 x1 x5).f1)).bind fun t115=>(if t115=true then (spec_l4Pairs.l0 k x0 x1 (wrap64 (x5 + 1))) else (some false))) else (none)) else (none)) else (spec_l4Pairs.l0 k x0 x1 (wrap64 (x5 + 1))))) else (some false))) else (some false))) else (none)) else ((spec_l1In.f x0 0 8).bind fun t106=>(if t106=true then (some (decide ((x1.length:Int)≤28))) else (some false)))
def spec_l4Pairs.f (k:Nat) (a0:Int) (l1:List (S72)):Option (Bool):=spec_l4Pairs.l0 k a0 l1 0
theorem spec_l4Pairs.mono_l:∀ k,(∀ y0 y1 y2,LeO (spec_l4Pairs.l0 k y0 y1 y2) (spec_l4Pairs.l0 (k + 1) y0 y1 y2))
 | 0=>fun _ _ _ r h=>by simp [spec_l4Pairs.l0] at h
 | k + 1=>by
  have ih0:=spec_l4Pairs.mono_l k
  ·intro y0 y1 y2
   unfold spec_l4Pairs.l0
   repeat' first
   | (with_reducible exact ih0 _ _ _)
   | (with_reducible exact LeO.refl _)
   | (with_reducible exact LeO.none _)
   | (with_reducible refine LeO.ite ?_ ?_)
   | (with_reducible refine LeO.bind ?_ (fun _=>?_))
   | exact ih0 _ _ _
   | exact LeO.none _
   | refine LeO.ite ?_ ?_
   | refine LeO.bind ?_ (fun _=>?_)
theorem spec_l4Pairs.mono:∀ a0 a1 k,LeO (spec_l4Pairs.f k a0 a1) (spec_l4Pairs.f (k + 1) a0 a1):=by
 intro a0 a1 k
 have ih0:=spec_l4Pairs.mono_l k
 unfold spec_l4Pairs.f
 repeat' first
   | (with_reducible exact ih0 _ _ _)
   | (with_reducible exact LeO.refl _)
   | (with_reducible exact LeO.none _)
   | (with_reducible refine LeO.ite ?_ ?_)
   | (with_reducible refine LeO.bind ?_ (fun _=>?_))
   | exact ih0 _ _ _
   | exact LeO.none _
   | refine LeO.ite ?_ ?_
   | refine LeO.bind ?_ (fun _=>?_)
def spec_l4Pairs.T4:Bool × List (List Nat × List Nat):=(true,[([],[]),([],[]),([0,1],[0,1]),([2],[2]),([3],[3]),([],[]),([5],[5]),([4,6],[4,6]),([7],[7]),([8,7],[8]),([9],[9]),([9],[9]),([10,11,9],[9,10,11]),([12,9],[9,12]),([13,9],[9,13]),([9],[9]),([15,9],[9,15]),([14,16,9,9],[9,14,16]),([17,9],[9,17]),([9,18],[9,18]),([19,17],[19]),([20],[20]),([20],[20]),([21,22,20],[20,21,22]),([23,20],[20,23]),([24,20],[20,24]),([20],[20]),([20],[20]),([26,27,20],[20,26,27]),([28,20],[20,28]),([29,20],[20,29]),([25,30,20],[20,25,30]),([20,31],[20,31]),([32,20],[32]),([33],[33]),([34,33],[33,34]),([35,33,33],[33,35]),([36],[36]),([36],[36]),([38,36],[36,38]),([37,39,36],[36,37,39]),([40,36],[36,40]),([36],[36]),([36],[36]),([42,43,36],[36,42,43]),([44,36],[36,44]),([41,45,36,36],[36,41,45]),([46,36],[36,46]),([36,47,33],[33,36,47]),([33,48],[33,48])])
def spec_l4Pairs.B4:List Nat:=[0,0,3,7,15,0,32,127,255,511,1023,1023,4095,8191,16383,1023,33791,131071,262143,524287,1048575,2097151,2097151,8388607,16777215,33554431,2097151,2097151,203423743,471859199,1008730111,2147483647,4294967295,8589934591,17179869183,34359738367,68719476735,137438953471,137438953471,412316860415,1099511627775,2199023255551,137438953471,137438953471,13331578486783,30923764531199,70368744177663,140737488355327,281474976710655,562949953421311]
theorem spec_l4Pairs.tab4:rtab .any (opsOf Try.f106 4)=spec_l4Pairs.T4:=by kernel_rfl
theorem spec_l4Pairs.bits4:waitsOk spec_l4Pairs.T4.2 spec_l4Pairs.B4=true:=by kernel_rfl
set_option maxHeartbeats 8000000 in
set_option maxRecDepth 100000 in
theorem spec_l4Pairs.calls (k:Nat) (a0:Int) (A1:Option Addr) (c1:Nat) (l1:List (S72)) (r:Bool) (w:World) (hr1:Kd.C k72 w A1 l1.length l1) (hc1:l1.length≤c1) (h:spec_l4Pairs.f k a0 l1=some r) :
  Calls Try.prog 106 #[.int .i64 a0,.slice A1 l1.length c1] w fun e w'=>e=.returned (.bool r)∧Below w.heap.size w w':=by
 have hu72:=Try.underlying72
 have HR1:=Aside0.mk hr1
 have HC1:=Aside0.mk hc1
 clear hr1 hc1
 have HB:=Aside0.mk (Below.refl w.heap.size w)
 have H:(spec_l4Pairs.l0 k a0 l1 0)=some r:=h
 clear h
 have H':=Aside0.mk H
 clear H
 go_enter Try.func106,Try.ntmps106
 go_wp2
 go_loopg [5] k (fun kq v5 w'=>∃ (x5_1:Int),v5=.int .i64 x5_1∧Aside0 (spec_l4Pairs.l0 kq a0 l1 x5_1=some r)∧Aside0 (kq≤k)∧Aside0 (Below w.heap.size w w'))
 case atStart=>exact ⟨(0),zo,H',⟨Nat.le_refl _⟩,⟨zb⟩⟩
 case round=>
  clear H'
  (try clear c1);(try clear p2)
  obtain ⟨x5_1,rfl,HA,HK1,HB⟩:=hrel
  cases gk with
  | zero=>exact absurd HA.out (by simp [spec_l4Pairs.l0])
  | succ k1=>
   have H:=HA.out
   clear HA
   simp only [spec_l4Pairs.l0] at H
   by_cases c3:x5_1<(l1.length:Int)
   ·rw [if_pos c3] at H
    have c3b0:decide (x5_1<(l1.length:Int))=true:=decide_eq_true c3
    clear c3
    by_cases c4:0≤x5_1
    ·rw [if_pos c4] at H
     have c4b0:decide (0≤x5_1)=true:=decide_eq_true c4
     clear c4
     replace H:=Option.bind_eq_some_iff.mp H
     obtain ⟨t108,A50,H⟩:=H
     replace H:(if t108=true then ((spec_l1In.f ((rd_T72 l1 x5_1).f1) 0 (wrap64 (a0 - 1))).bind fun t110=>(if t110=true then (if ((rd_T72 l1 x5_1).f0)=((rd_T72 l1 x5_1).f1) then (some false) else (if x5_1>0 then (if 0≤(wrap64 (x5_1 - 1)) then (if (wrap64 (x5_1 - 1))<(l1.length:Int) then ((spec_l4Before.f ((rd_T72 l1 (wrap64 (x5_1 - 1))).f0) ((rd_T72 l1 (wrap64 (x5_1 - 1))).f1) ((rd_T72 l1 x5_1).f0) ((rd_T72 l1 x5_1).f1)).bind fun t115=>(if t115=true then (spec_l4Pairs.l0 k1 a0 l1 (wrap64 (x5_1 + 1))) else (some false))) else (none)) else (none)) else (spec_l4Pairs.l0 k1 a0 l1 (wrap64 (x5_1 + 1))))) else (some false))) else (some false))=some r:=H
     have A5:=Aside0.mk A50
     clear A50
     by_cases c6:t108=true
     ·subst c6
      have H1:((spec_l1In.f ((rd_T72 l1 x5_1).f1) 0 (wrap64 (a0 - 1))).bind fun t110=>(if t110=true then (if ((rd_T72 l1 x5_1).f0)=((rd_T72 l1 x5_1).f1) then (some false) else (if x5_1>0 then (if 0≤(wrap64 (x5_1 - 1)) then (if (wrap64 (x5_1 - 1))<(l1.length:Int) then ((spec_l4Before.f ((rd_T72 l1 (wrap64 (x5_1 - 1))).f0) ((rd_T72 l1 (wrap64 (x5_1 - 1))).f1) ((rd_T72 l1 x5_1).f0) ((rd_T72 l1 x5_1).f1)).bind fun t115=>(if t115=true then (spec_l4Pairs.l0 k1 a0 l1 (wrap64 (x5_1 + 1))) else (some false))) else (none)) else (none)) else (spec_l4Pairs.l0 k1 a0 l1 (wrap64 (x5_1 + 1))))) else (some false)))=some r:=by rw [if_pos rfl] at H;exact H
      clear H
      have H:=H1
      clear H1
      replace H:=Option.bind_eq_some_iff.mp H
      obtain ⟨t110,A70,H⟩:=H
      replace H:(if t110=true then (if ((rd_T72 l1 x5_1).f0)=((rd_T72 l1 x5_1).f1) then (some false) else (if x5_1>0 then (if 0≤(wrap64 (x5_1 - 1)) then (if (wrap64 (x5_1 - 1))<(l1.length:Int) then ((spec_l4Before.f ((rd_T72 l1 (wrap64 (x5_1 - 1))).f0) ((rd_T72 l1 (wrap64 (x5_1 - 1))).f1) ((rd_T72 l1 x5_1).f0) ((rd_T72 l1 x5_1).f1)).bind fun t115=>(if t115=true then (spec_l4Pairs.l0 k1 a0 l1 (wrap64 (x5_1 + 1))) else (some false))) else (none)) else (none)) else (spec_l4Pairs.l0 k1 a0 l1 (wrap64 (x5_1 + 1))))) else (some false))=some r:=H
      have A7:=Aside0.mk A70
      clear A70
      by_cases c8:t110=true
      ·subst c8
       have H1:(if ((rd_T72 l1 x5_1).f0)=((rd_T72 l1 x5_1).f1) then (some false) else (if x5_1>0 then (if 0≤(wrap64 (x5_1 - 1)) then (if (wrap64 (x5_1 - 1))<(l1.length:Int) then ((spec_l4Before.f ((rd_T72 l1 (wrap64 (x5_1 - 1))).f0) ((rd_T72 l1 (wrap64 (x5_1 - 1))).f1) ((rd_T72 l1 x5_1).f0) ((rd_T72 l1 x5_1).f1)).bind fun t115=>(if t115=true then (spec_l4Pairs.l0 k1 a0 l1 (wrap64 (x5_1 + 1))) else (some false))) else (none)) else (none)) else (spec_l4Pairs.l0 k1 a0 l1 (wrap64 (x5_1 + 1)))))=some r:=by rw [if_pos rfl] at H;exact H
       clear H
       have H:=H1
       clear H1
       by_cases c9:((rd_T72 l1 x5_1).f0)=((rd_T72 l1 x5_1).f1)
       ·rw [if_pos c9] at H
        have c9b0:(((rd_T72 l1 x5_1).f0) == ((rd_T72 l1 x5_1).f1))=true:=beq_iff_eq.mpr c9
        have c9b1:(((rd_T72 l1 x5_1).f0) != ((rd_T72 l1 x5_1).f1))=false:=bne_eq_false_iff_eq.mpr c9
        clear c9
        obtain rfl:=Option.some.inj H
        try go_wp2
        replace HB:=Aside0.mk (below_drew1 HB.out)
        have p107:0≤(x5_1:Int):=of_decide_eq_true za
        have q107:x5_1<(l1.length:Int):=of_decide_eq_true za
        obtain ⟨ad107,e107,hx107_0,hx107_1⟩:=at_T72 HR1.out x5_1 p107 q107
        have hw107_1:=hx107_1
        have hw107_0:=hx107_0
        cases e107
        replace hx107_0:=(HB.out.cell (World.block_lt_of_cell? w _ hx107_0)).trans hx107_0
        replace hx107_1:=(HB.out.cell (World.block_lt_of_cell? w _ hx107_1)).trans hx107_1
        replace p107:=eq_true p107
        replace q107:=eq_true q107
        have p109:0≤(x5_1:Int):=of_decide_eq_true za
        have q109:x5_1<(l1.length:Int):=of_decide_eq_true za
        obtain ⟨ad109,e109,hx109_0,hx109_1⟩:=at_T72 HR1.out x5_1 p109 q109
        have hw109_1:=hx109_1
        have hw109_0:=hx109_0
        obtain rfl:ad107=ad109:=(by injection e109)
        replace hx109_0:=(HB.out.cell (World.block_lt_of_cell? w _ hx109_0)).trans hx109_0
        replace hx109_1:=(HB.out.cell (World.block_lt_of_cell? w _ hx109_1)).trans hx109_1
        replace p109:=eq_true p109
        replace q109:=eq_true q109
        have p111:0≤(x5_1:Int):=of_decide_eq_true za
        have q111:x5_1<(l1.length:Int):=of_decide_eq_true za
        obtain ⟨ad111,e111,hx111_0,hx111_1⟩:=at_T72 HR1.out x5_1 p111 q111
        have hw111_1:=hx111_1
        have hw111_0:=hx111_0
        obtain rfl:ad107=ad111:=(by injection e111)
        replace hx111_0:=(HB.out.cell (World.block_lt_of_cell? w _ hx111_0)).trans hx111_0
        replace hx111_1:=(HB.out.cell (World.block_lt_of_cell? w _ hx111_1)).trans hx111_1
        replace p111:=eq_true p111
        replace q111:=eq_true q111
        have p112:0≤(x5_1:Int):=of_decide_eq_true za
        have q112:x5_1<(l1.length:Int):=of_decide_eq_true za
        obtain ⟨ad112,e112,hx112_0,hx112_1⟩:=at_T72 HR1.out x5_1 p112 q112
        have hw112_1:=hx112_1
        have hw112_0:=hx112_0
        obtain rfl:ad107=ad112:=(by injection e112)
        replace hx112_0:=(HB.out.cell (World.block_lt_of_cell? w _ hx112_0)).trans hx112_0
        replace hx112_1:=(HB.out.cell (World.block_lt_of_cell? w _ hx112_1)).trans hx112_1
        replace p112:=eq_true p112
        replace q112:=eq_true q112
        refine start_ (n:=50) (S:=fun w'=>w'.cell? (ad107.add ((x5_1).toNat * 2))=some (.int .i64 ((rd_T72 l1 x5_1).f0))∧w'.cell? ⟨(ad107.add ((x5_1).toNat * 2)).block,(ad107.add ((x5_1).toNat * 2)).off + 1,none⟩=some (.int .i64 ((rd_T72 l1 x5_1).f1))∧w'.cell? (ad107.add ((x5_1).toNat * 2))=some (.int .i64 ((rd_T72 l1 x5_1).f0))∧w'.cell? ⟨(ad107.add ((x5_1).toNat * 2)).block,(ad107.add ((x5_1).toNat * 2)).off + 1,none⟩=some (.int .i64 ((rd_T72 l1 x5_1).f1))∧w'.cell? (ad107.add ((x5_1).toNat * 2))=some (.int .i64 ((rd_T72 l1 x5_1).f0))∧w'.cell? ⟨(ad107.add ((x5_1).toNat * 2)).block,(ad107.add ((x5_1).toNat * 2)).off + 1,none⟩=some (.int .i64 ((rd_T72 l1 x5_1).f1))∧w'.cell? (ad107.add ((x5_1).toNat * 2))=some (.int .i64 ((rd_T72 l1 x5_1).f0))∧w'.cell? ⟨(ad107.add ((x5_1).toNat * 2)).block,(ad107.add ((x5_1).toNat * 2)).off + 1,none⟩=some (.int .i64 ((rd_T72 l1 x5_1).f1))) (ds:=[]) ba0_ (by kernel_rfl) rfl rfl ⟨((HB.out.cell (World.block_lt_of_cell? w _ hw107_0)).trans hw107_0),((HB.out.cell (World.block_lt_of_cell? w _ hw107_1)).trans hw107_1),((HB.out.cell (World.block_lt_of_cell? w _ hw109_0)).trans hw109_0),((HB.out.cell (World.block_lt_of_cell? w _ hw109_1)).trans hw109_1),((HB.out.cell (World.block_lt_of_cell? w _ hw111_0)).trans hw111_0),((HB.out.cell (World.block_lt_of_cell? w _ hw111_1)).trans hw111_1),((HB.out.cell (World.block_lt_of_cell? w _ hw112_0)).trans hw112_0),((HB.out.cell (World.block_lt_of_cell? w _ hw112_1)).trans hw112_1)⟩ (fun hHeld=>?_);refine with_tabW spec_l4Pairs.tab4 spec_l4Pairs.bits4 (fun HT_ HW_=>?_)
        generalize wr.drew=w10 at HB hx107_0 hx107_1 hx109_0 hx109_1 hx111_0 hx111_1 hx112_0 hx112_1 hHeld ⊢
        refine pure_ (i:=0) (N:=some 12) (v:=?_) (a':=?_) ba1_ rfl rfl (any_of HT_.out (by kernel_rfl)) id3_ (Or.inl ⟨by rfl,?_⟩) ?_ ?_
        rotate_left;(intro w';go_simp;with_reducible rfl)
        rotate_left;(simp only [Act.put,z0_,z1_,z2_,i64_w,i32_w];rfl)
        refine pure_ (i:=1) (N:=some 13) (v:=?_) (a':=?_) ba2_ rfl rfl (any_of HT_.out (by kernel_rfl)) id3_ (Or.inl ⟨by rfl,?_⟩) ?_ ?_
        rotate_left;(intro w';go_simp;with_reducible rfl)
        rotate_left;(simp only [Act.put,z0_,z1_,z2_,i64_w,i32_w];rfl)
        refine pure_ (i:=2) (N:=some 14) (v:=?_) (a':=?_) ba3_ rfl rfl (any_of HT_.out (by kernel_rfl)) id3_ (Or.inl ⟨by rfl,?_⟩) ?_ ?_
        rotate_left;(intro w';go_simp;with_reducible rfl)
        rotate_left;(simp only [Act.put,z0_,z1_,z2_,i64_w,i32_w];rfl)
        refine pure_ (i:=3) (N:=some 15) (v:=?_) (a':=?_) ba4_ rfl rfl (any_of HT_.out (by kernel_rfl)) id3_ (Or.inl ⟨by rfl,?_⟩) ?_ ?_
        rotate_left;(intro w';go_simp;with_reducible rfl)
        rotate_left;(simp only [Act.put,z0_,z1_,z2_,i64_w,i32_w];rfl)
        refine pure_ (i:=5) (N:=some 17) (v:=?_) (a':=?_) ba5_ rfl rfl (any_of HT_.out (by kernel_rfl)) id3_ (Or.inl ⟨by rfl,?_⟩) ?_ ?_
        rotate_left;(intro w';go_simp;with_reducible rfl)
        rotate_left;(simp only [Act.put,z0_,z1_,z2_,i64_w,i32_w];rfl)
        refine pure_ (i:=6) (N:=some 18) (v:=?_) (a':=?_) ba6_ rfl rfl (any_of HT_.out (by kernel_rfl)) id3_ (Or.inl ⟨by rfl,?_⟩) ?_ ?_
        rotate_left;(intro w';go_simp;with_reducible rfl)
        rotate_left;(simp only [Act.put,z0_,z1_,z2_,i64_w,i32_w];rfl)
        refine take_ (i:=4) (N:=some 16) (v:=?_) (a':=?_) ba7_ rfl rfl (take_ofW HT_.out HW_.out (by kernel_rfl)) id3_ (Or.inl ⟨by rfl,?_⟩) hHeld ?_ ?_
        rotate_left
        ·rintro w' ⟨s0,s1,s2,s3,s4,s5,s6,s7⟩
         go_simp
         with_reducible rfl
        rotate_left;(simp only [Act.put,z0_,z1_,z2_,i64_w,i32_w];rfl)
        refine one_ (i:=7) (N:=some 19) ba8_ rfl rfl (one_of HT_.out (by kernel_rfl)) (by decide) (fun K hK=>?_)
        refine goes_ Try.func120 (by kernel_rfl) rfl #[.int .i64 ((rd_T72 l1 x5_1).f0),.int .i64 0,.int .i64 (wrap64 (a0 - 1))] (by rfl) rfl rfl zl ?_
        with_reducible refine (spec_l1In.calls ((rd_T72 l1 x5_1).f0) 0 (wrap64 (a0 - 1)) true _ A5.out).mono ?_
        rintro e w' ⟨rfl,⟨nd,rfl⟩⟩
        refine ⟨_,rfl,?_⟩
        refine hK.out _ _ ⟨((HB.out.cell (World.block_lt_of_cell? w _ hw107_0)).trans hw107_0),((HB.out.cell (World.block_lt_of_cell? w _ hw107_1)).trans hw107_1),((HB.out.cell (World.block_lt_of_cell? w _ hw109_0)).trans hw109_0),((HB.out.cell (World.block_lt_of_cell? w _ hw109_1)).trans hw109_1),((HB.out.cell (World.block_lt_of_cell? w _ hw111_0)).trans hw111_0),((HB.out.cell (World.block_lt_of_cell? w _ hw111_1)).trans hw111_1),((HB.out.cell (World.block_lt_of_cell? w _ hw112_0)).trans hw112_0),((HB.out.cell (World.block_lt_of_cell? w _ hw112_1)).trans hw112_1)⟩ (fun hHeld=>?_)
        clear hK K
        refine norm_ (a':=?_) ?_ ?_
        rotate_left
        ·show Act.put _ (some 19) _=_
         simp only [Act.put,z0_,z1_,z2_,i64_w,i32_w]
         rfl
        refine pure_ (i:=8) (N:=some 20) (v:=?_) (a':=?_) ba9_ rfl rfl (any_of HT_.out (by kernel_rfl)) id3_ (Or.inl ⟨by rfl,?_⟩) ?_ ?_
        rotate_left;(intro w';go_simp;with_reducible rfl)
        rotate_left;(simp only [Act.put,z0_,z1_,z2_,i64_w,i32_w];rfl)
        refine pure_ (i:=9) (N:=some 21) (v:=?_) (a':=?_) ba10_ rfl rfl (any_of HT_.out (by kernel_rfl)) id3_ (Or.inl ⟨by rfl,?_⟩) ?_ ?_
        rotate_left;(intro w';go_simp;with_reducible rfl)
        rotate_left;(simp only [Act.put,z0_,z1_,z2_,i64_w,i32_w];rfl)
        refine pure_ (i:=10) (N:=some 22) (v:=?_) (a':=?_) ba11_ rfl rfl (any_of HT_.out (by kernel_rfl)) id3_ (Or.inl ⟨by rfl,?_⟩) ?_ ?_
        rotate_left;(intro w';go_simp;with_reducible rfl)
        rotate_left;(simp only [Act.put,z0_,z1_,z2_,i64_w,i32_w];rfl)
        refine pure_ (i:=11) (N:=some 23) (v:=?_) (a':=?_) ba12_ rfl rfl (any_of HT_.out (by kernel_rfl)) id3_ (Or.inl ⟨by rfl,?_⟩) ?_ ?_
        rotate_left;(intro w';go_simp;with_reducible rfl)
        rotate_left;(simp only [Act.put,z0_,z1_,z2_,i64_w,i32_w];rfl)
        refine pure_ (i:=12) (N:=some 24) (v:=?_) (a':=?_) ba13_ rfl rfl (any_of HT_.out (by kernel_rfl)) id3_ (Or.inl ⟨by rfl,?_⟩) ?_ ?_
        rotate_left;(intro w';go_simp;with_reducible rfl)
        rotate_left;(simp only [Act.put,z0_,z1_,z2_,i64_w,i32_w];rfl)
        refine pure_ (i:=13) (N:=some 25) (v:=?_) (a':=?_) ba14_ rfl rfl (any_of HT_.out (by kernel_rfl)) id3_ (Or.inl ⟨by rfl,?_⟩) ?_ ?_
        rotate_left;(intro w';go_simp;with_reducible rfl)
        rotate_left;(simp only [Act.put,z0_,z1_,z2_,i64_w,i32_w];rfl)
        refine pure_ (i:=15) (N:=some 27) (v:=?_) (a':=?_) ba15_ rfl rfl (any_of HT_.out (by kernel_rfl)) id3_ (Or.inl ⟨by rfl,?_⟩) ?_ ?_
        rotate_left;(intro w';go_simp;with_reducible rfl)
        rotate_left;(simp only [Act.put,z0_,z1_,z2_,i64_w,i32_w];rfl)
        refine pure_ (i:=16) (N:=some 28) (v:=?_) (a':=?_) ba16_ rfl rfl (any_of HT_.out (by kernel_rfl)) id3_ (Or.inl ⟨by rfl,?_⟩) ?_ ?_
        rotate_left;(intro w';go_simp;with_reducible rfl)
        rotate_left;(simp only [Act.put,z0_,z1_,z2_,i64_w,i32_w];rfl)
        refine take_ (i:=14) (N:=some 26) (v:=?_) (a':=?_) ba17_ rfl rfl (take_ofW HT_.out HW_.out (by kernel_rfl)) id3_ (Or.inl ⟨by rfl,?_⟩) hHeld ?_ ?_
        rotate_left
        ·rintro w' ⟨s0,s1,s2,s3,s4,s5,s6,s7⟩
         go_simp
         with_reducible rfl
        rotate_left;(simp only [Act.put,z0_,z1_,z2_,i64_w,i32_w];rfl)
        refine one_ (i:=17) (N:=some 29) ba18_ rfl rfl (one_of HT_.out (by kernel_rfl)) (by decide) (fun K hK=>?_)
        refine goes_ Try.func120 (by kernel_rfl) rfl #[.int .i64 ((rd_T72 l1 x5_1).f1),.int .i64 0,.int .i64 (wrap64 (a0 - 1))] (by rfl) rfl rfl zl ?_
        with_reducible refine (spec_l1In.calls ((rd_T72 l1 x5_1).f1) 0 (wrap64 (a0 - 1)) true _ A7.out).mono ?_
        rintro e w' ⟨rfl,⟨nd,rfl⟩⟩
        refine ⟨_,rfl,?_⟩
        refine hK.out _ _ ⟨((HB.out.cell (World.block_lt_of_cell? w _ hw107_0)).trans hw107_0),((HB.out.cell (World.block_lt_of_cell? w _ hw107_1)).trans hw107_1),((HB.out.cell (World.block_lt_of_cell? w _ hw109_0)).trans hw109_0),((HB.out.cell (World.block_lt_of_cell? w _ hw109_1)).trans hw109_1),((HB.out.cell (World.block_lt_of_cell? w _ hw111_0)).trans hw111_0),((HB.out.cell (World.block_lt_of_cell? w _ hw111_1)).trans hw111_1),((HB.out.cell (World.block_lt_of_cell? w _ hw112_0)).trans hw112_0),((HB.out.cell (World.block_lt_of_cell? w _ hw112_1)).trans hw112_1)⟩ (fun hHeld=>?_)
        clear hK K
        refine norm_ (a':=?_) ?_ ?_
        rotate_left
        ·show Act.put _ (some 29) _=_
         simp only [Act.put,z0_,z1_,z2_,i64_w,i32_w]
         rfl
        refine pure_ (i:=18) (N:=some 30) (v:=?_) (a':=?_) ba19_ rfl rfl (any_of HT_.out (by kernel_rfl)) id3_ (Or.inl ⟨by rfl,?_⟩) ?_ ?_
        rotate_left;(intro w';go_simp;with_reducible rfl)
        rotate_left;(simp only [Act.put,z0_,z1_,z2_,i64_w,i32_w];rfl)
        refine pure_ (i:=19) (N:=some 31) (v:=?_) (a':=?_) ba20_ rfl rfl (any_of HT_.out (by kernel_rfl)) id3_ (Or.inl ⟨by rfl,?_⟩) ?_ ?_
        rotate_left;(intro w';go_simp;with_reducible rfl)
        rotate_left;(simp only [Act.put,z0_,z1_,z2_,i64_w,i32_w];rfl)
        refine pure_ (i:=20) (N:=some 32) (v:=?_) (a':=?_) ba21_ rfl rfl (any_of HT_.out (by kernel_rfl)) id3_ (Or.inl ⟨by rfl,?_⟩) ?_ ?_
        rotate_left;(intro w';go_simp;with_reducible rfl)
        rotate_left;(simp only [Act.put,z0_,z1_,z2_,i64_w,i32_w];rfl)
        refine pure_ (i:=21) (N:=some 33) (v:=?_) (a':=?_) ba22_ rfl rfl (any_of HT_.out (by kernel_rfl)) id3_ (Or.inl ⟨by rfl,?_⟩) ?_ ?_
        rotate_left;(intro w';go_simp;with_reducible rfl)
        rotate_left;(simp only [Act.put,z0_,z1_,z2_,i64_w,i32_w];rfl)
        refine pure_ (i:=22) (N:=some 34) (v:=?_) (a':=?_) ba23_ rfl rfl (any_of HT_.out (by kernel_rfl)) id3_ (Or.inl ⟨by rfl,?_⟩) ?_ ?_
        rotate_left;(intro w';go_simp;with_reducible rfl)
        rotate_left;(simp only [Act.put,z0_,z1_,z2_,i64_w,i32_w];rfl)
        refine pure_ (i:=23) (N:=some 35) (v:=?_) (a':=?_) ba24_ rfl rfl (any_of HT_.out (by kernel_rfl)) id3_ (Or.inl ⟨by rfl,?_⟩) ?_ ?_
        rotate_left;(intro w';go_simp;with_reducible rfl)
        rotate_left;(simp only [Act.put,z0_,z1_,z2_,i64_w,i32_w];rfl)
        refine pure_ (i:=24) (N:=some 36) (v:=?_) (a':=?_) ba25_ rfl rfl (any_of HT_.out (by kernel_rfl)) id3_ (Or.inl ⟨by rfl,?_⟩) ?_ ?_
        rotate_left;(intro w';go_simp;with_reducible rfl)
        rotate_left;(simp only [Act.put,z0_,z1_,z2_,i64_w,i32_w];rfl)
        refine pure_ (i:=26) (N:=some 38) (v:=?_) (a':=?_) ba26_ rfl rfl (any_of HT_.out (by kernel_rfl)) id3_ (Or.inl ⟨by rfl,?_⟩) ?_ ?_
        rotate_left;(intro w';go_simp;with_reducible rfl)
        rotate_left;(simp only [Act.put,z0_,z1_,z2_,i64_w,i32_w];rfl)
        refine pure_ (i:=27) (N:=some 39) (v:=?_) (a':=?_) ba27_ rfl rfl (any_of HT_.out (by kernel_rfl)) id3_ (Or.inl ⟨by rfl,?_⟩) ?_ ?_
        rotate_left;(intro w';go_simp;with_reducible rfl)
        rotate_left;(simp only [Act.put,z0_,z1_,z2_,i64_w,i32_w];rfl)
        refine pure_ (i:=28) (N:=some 40) (v:=?_) (a':=?_) ba28_ rfl rfl (any_of HT_.out (by kernel_rfl)) id3_ (Or.inl ⟨by rfl,?_⟩) ?_ ?_
        rotate_left;(intro w';go_simp;with_reducible rfl)
        rotate_left;(simp only [Act.put,z0_,z1_,z2_,i64_w,i32_w];rfl)
        refine pure_ (i:=29) (N:=some 41) (v:=?_) (a':=?_) ba29_ rfl rfl (any_of HT_.out (by kernel_rfl)) id3_ (Or.inl ⟨by rfl,?_⟩) ?_ ?_
        rotate_left;(intro w';go_simp;with_reducible rfl)
        rotate_left;(simp only [Act.put,z0_,z1_,z2_,i64_w,i32_w];rfl)
        refine take_ (i:=25) (N:=some 37) (v:=?_) (a':=?_) ba30_ rfl rfl (take_ofW HT_.out HW_.out (by kernel_rfl)) id3_ (Or.inl ⟨by rfl,?_⟩) hHeld ?_ ?_
        rotate_left
        ·rintro w' ⟨s0,s1,s2,s3,s4,s5,s6,s7⟩
         go_simp
         with_reducible rfl
        rotate_left;(simp only [Act.put,z0_,z1_,z2_,i64_w,i32_w];rfl)
        refine take_ (i:=30) (N:=some 42) (v:=?_) (a':=?_) ba31_ rfl rfl (take_ofW HT_.out HW_.out (by kernel_rfl)) id3_ (Or.inl ⟨by rfl,?_⟩) hHeld ?_ ?_
        rotate_left
        ·rintro w' ⟨s0,s1,s2,s3,s4,s5,s6,s7⟩
         go_simp
         with_reducible rfl
        rotate_left;(simp only [Act.put,z0_,z1_,z2_,i64_w,i32_w];rfl)
        refine pure_ (i:=31) (N:=some 43) (v:=?_) (a':=?_) ba32_ rfl rfl (any_of HT_.out (by kernel_rfl)) id3_ (Or.inl ⟨by rfl,?_⟩) ?_ ?_
        rotate_left;(intro w';go_simp;with_reducible rfl)
        rotate_left;(simp only [Act.put,z0_,z1_,z2_,i64_w,i32_w];rfl)
        refine pure_ (i:=32) (N:=some 44) (v:=?_) (a':=?_) ba33_ rfl rfl (any_of HT_.out (by kernel_rfl)) id3_ (Or.inl ⟨by rfl,?_⟩) ?_ ?_
        rotate_left;(intro w';go_simp;with_reducible rfl)
        rotate_left;(simp only [Act.put,z0_,z1_,z2_,i64_w,i32_w];rfl)
        refine pure_ (i:=33) (N:=some 45) (v:=?_) (a':=?_) ba34_ rfl rfl (any_of HT_.out (by kernel_rfl)) id3_ (Or.inl ⟨by rfl,?_⟩) ?_ ?_
        rotate_left;(intro w';go_simp;with_reducible rfl)
        rotate_left;(simp only [Act.put,z0_,z1_,z2_,i64_w,i32_w];rfl)
        refine pure_ (i:=34) (N:=some 46) (v:=undef) (a':=?_) ba35_ rfl rfl (any_of HT_.out (by kernel_rfl)) id3_ (Or.inr ⟨by rfl,rfl⟩) ?_ ?_
        rotate_left;(simp only [Act.put,z0_,z1_,z2_,i64_w,i32_w];rfl)
        refine pure_ (i:=35) (N:=some 47) (v:=undef) (a':=?_) ba36_ rfl rfl (any_of HT_.out (by kernel_rfl)) id3_ (Or.inr ⟨by rfl,rfl⟩) ?_ ?_
        rotate_left;(simp only [Act.put,z0_,z1_,z2_,i64_w,i32_w];rfl)
        refine pure_ (i:=36) (N:=some 48) (v:=undef) (a':=?_) ba37_ rfl rfl (any_of HT_.out (by kernel_rfl)) id3_ (Or.inr ⟨by rfl,rfl⟩) ?_ ?_
        rotate_left;(simp only [Act.put,z0_,z1_,z2_,i64_w,i32_w];rfl)
        refine pure_ (i:=37) (N:=some 49) (v:=undef) (a':=?_) ba38_ rfl rfl (any_of HT_.out (by kernel_rfl)) id3_ (Or.inr ⟨by rfl,rfl⟩) ?_ ?_
        rotate_left;(simp only [Act.put,z0_,z1_,z2_,i64_w,i32_w];rfl)
        refine pure_ (i:=38) (N:=some 50) (v:=undef) (a':=?_) ba39_ rfl rfl (any_of HT_.out (by kernel_rfl)) id3_ (Or.inr ⟨by rfl,rfl⟩) ?_ ?_
        rotate_left;(simp only [Act.put,z0_,z1_,z2_,i64_w,i32_w];rfl)
        refine pure_ (i:=39) (N:=some 51) (v:=undef) (a':=?_) ba40_ rfl rfl (any_of HT_.out (by kernel_rfl)) id3_ (Or.inr ⟨by rfl,rfl⟩) ?_ ?_
        rotate_left;(simp only [Act.put,z0_,z1_,z2_,i64_w,i32_w];rfl)
        refine pure_ (i:=40) (N:=some 52) (v:=undef) (a':=?_) ba41_ rfl rfl (any_of HT_.out (by kernel_rfl)) id3_ (Or.inr ⟨by rfl,rfl⟩) ?_ ?_
        rotate_left;(simp only [Act.put,z0_,z1_,z2_,i64_w,i32_w];rfl)
        refine pure_ (i:=41) (N:=some 53) (v:=undef) (a':=?_) ba42_ rfl rfl (any_of HT_.out (by kernel_rfl)) id3_ (Or.inr ⟨by rfl,rfl⟩) ?_ ?_
        rotate_left;(simp only [Act.put,z0_,z1_,z2_,i64_w,i32_w];rfl)
        refine pure_ (i:=42) (N:=some 54) (v:=undef) (a':=?_) ba43_ rfl rfl (any_of HT_.out (by kernel_rfl)) id3_ (Or.inr ⟨by rfl,rfl⟩) ?_ ?_
        rotate_left;(simp only [Act.put,z0_,z1_,z2_,i64_w,i32_w];rfl)
        refine pure_ (i:=43) (N:=some 55) (v:=undef) (a':=?_) ba44_ rfl rfl (any_of HT_.out (by kernel_rfl)) id3_ (Or.inr ⟨by rfl,rfl⟩) ?_ ?_
        rotate_left;(simp only [Act.put,z0_,z1_,z2_,i64_w,i32_w];rfl)
        refine pure_ (i:=44) (N:=some 56) (v:=undef) (a':=?_) ba45_ rfl rfl (any_of HT_.out (by kernel_rfl)) id3_ (Or.inr ⟨by rfl,rfl⟩) ?_ ?_
        rotate_left;(simp only [Act.put,z0_,z1_,z2_,i64_w,i32_w];rfl)
        refine pure_ (i:=45) (N:=some 57) (v:=undef) (a':=?_) ba46_ rfl rfl (any_of HT_.out (by kernel_rfl)) id3_ (Or.inr ⟨by rfl,rfl⟩) ?_ ?_
        rotate_left;(simp only [Act.put,z0_,z1_,z2_,i64_w,i32_w];rfl)
        refine pure_ (i:=46) (N:=some 58) (v:=undef) (a':=?_) ba47_ rfl rfl (any_of HT_.out (by kernel_rfl)) id3_ (Or.inr ⟨by rfl,rfl⟩) ?_ ?_
        rotate_left;(simp only [Act.put,z0_,z1_,z2_,i64_w,i32_w];rfl)
        refine pure_ (i:=47) (N:=some 59) (v:=undef) (a':=?_) ba48_ rfl rfl (any_of HT_.out (by kernel_rfl)) id3_ (Or.inr ⟨by rfl,rfl⟩) ?_ ?_
        rotate_left;(simp only [Act.put,z0_,z1_,z2_,i64_w,i32_w];rfl)
        refine pure_ (i:=48) (N:=some 60) (v:=undef) (a':=?_) ba49_ rfl rfl (any_of HT_.out (by kernel_rfl)) id3_ (Or.inr ⟨by rfl,rfl⟩) ?_ ?_
        rotate_left;(simp only [Act.put,z0_,z1_,z2_,i64_w,i32_w];rfl)
        refine pure_ (i:=49) (N:=some 61) (v:=?_) (a':=?_) ba50_ rfl rfl (any_of HT_.out (by kernel_rfl)) id3_ (Or.inl ⟨by rfl,?_⟩) ?_ ?_
        rotate_left;(intro w';go_simp;with_reducible rfl)
        rotate_left;(simp only [Act.put,z0_,z1_,z2_,i64_w,i32_w];rfl)
        refine done_ (done_of HT_.out (by kernel_rfl)) ?_
        try go_wp2
        go_ret
        exact ⟨by first|rfl|(simp [errW_none,errW_some] <;> rfl)|(simp [*,errW_none,errW_some] <;> rfl),zb⟩
       ·rw [if_neg c9] at H
        have c9b0:(((rd_T72 l1 x5_1).f0) == ((rd_T72 l1 x5_1).f1))=false:=beq_eq_false_iff_ne.mpr c9
        have c9b1:(((rd_T72 l1 x5_1).f0) != ((rd_T72 l1 x5_1).f1))=true:=bne_iff_ne.mpr c9
        by_cases c11:x5_1>0
        ·rw [if_pos c11] at H
         have c11b0:decide (0<x5_1)=true:=decide_eq_true c11
         clear c11
         obtain ⟨ji12,hji12⟩:∃ j_:Int,(wrap64 (x5_1 - 1))=j_:=⟨_,rfl⟩
         replace H:(if 0≤(ji12) then (if (ji12)<(l1.length:Int) then ((spec_l4Before.f ((rd_T72 l1 (ji12)).f0) ((rd_T72 l1 (ji12)).f1) ((rd_T72 l1 x5_1).f0) ((rd_T72 l1 x5_1).f1)).bind fun t115=>(if t115=true then (spec_l4Pairs.l0 k1 a0 l1 (wrap64 (x5_1 + 1))) else (some false))) else (none)) else (none))=some r:=by first|(rw [hji12] at H;exact H)|(simp only [hji12] at H ⊢;exact H)
         (try rw [hji12] at A5)
         (try rw [hji12] at A7)
         have hji12w:(IntKind.i64.wrap (x5_1 - 1))=ji12:=(i64_w _).trans hji12
         by_cases c13:0≤(ji12)
         ·rw [if_pos c13] at H
          have c13b0:decide (0≤(ji12))=true:=decide_eq_true c13
          clear c13
          by_cases c14:(ji12)<(l1.length:Int)
          ·rw [if_pos c14] at H
           have c14b0:decide ((ji12)<(l1.length:Int))=true:=decide_eq_true c14
           clear c14
           replace H:=Option.bind_eq_some_iff.mp H
           obtain ⟨t115,A150,H⟩:=H
           replace H:(if t115=true then (spec_l4Pairs.l0 k1 a0 l1 (wrap64 (x5_1 + 1))) else (some false))=some r:=H
           have A15:=Aside0.mk A150
           clear A150
           by_cases c16:t115=true
           ·subst c16
            have H1:(spec_l4Pairs.l0 k1 a0 l1 (wrap64 (x5_1 + 1)))=some r:=by rw [if_pos rfl] at H;exact H
            clear H
            have H:=H1
            clear H1
            have H':=Aside0.mk H
            clear H
            try go_wp2
            replace HB:=Aside0.mk (below_drew1 HB.out)
            have p107:0≤(x5_1:Int):=of_decide_eq_true za
            have q107:x5_1<(l1.length:Int):=of_decide_eq_true za
            obtain ⟨ad107,e107,hx107_0,hx107_1⟩:=at_T72 HR1.out x5_1 p107 q107
            have hw107_1:=hx107_1
            have hw107_0:=hx107_0
            cases e107
            replace hx107_0:=(HB.out.cell (World.block_lt_of_cell? w _ hx107_0)).trans hx107_0
            replace hx107_1:=(HB.out.cell (World.block_lt_of_cell? w _ hx107_1)).trans hx107_1
            replace p107:=eq_true p107
            replace q107:=eq_true q107
            have p109:0≤(x5_1:Int):=of_decide_eq_true za
            have q109:x5_1<(l1.length:Int):=of_decide_eq_true za
            obtain ⟨ad109,e109,hx109_0,hx109_1⟩:=at_T72 HR1.out x5_1 p109 q109
            have hw109_1:=hx109_1
            have hw109_0:=hx109_0
            obtain rfl:ad107=ad109:=(by injection e109)
            replace hx109_0:=(HB.out.cell (World.block_lt_of_cell? w _ hx109_0)).trans hx109_0
            replace hx109_1:=(HB.out.cell (World.block_lt_of_cell? w _ hx109_1)).trans hx109_1
            replace p109:=eq_true p109
            replace q109:=eq_true q109
            have p111:0≤(x5_1:Int):=of_decide_eq_true za
            have q111:x5_1<(l1.length:Int):=of_decide_eq_true za
            obtain ⟨ad111,e111,hx111_0,hx111_1⟩:=at_T72 HR1.out x5_1 p111 q111
            have hw111_1:=hx111_1
            have hw111_0:=hx111_0
            obtain rfl:ad107=ad111:=(by injection e111)
            replace hx111_0:=(HB.out.cell (World.block_lt_of_cell? w _ hx111_0)).trans hx111_0
            replace hx111_1:=(HB.out.cell (World.block_lt_of_cell? w _ hx111_1)).trans hx111_1
            replace p111:=eq_true p111
            replace q111:=eq_true q111
            have p112:0≤(x5_1:Int):=of_decide_eq_true za
            have q112:x5_1<(l1.length:Int):=of_decide_eq_true za
            obtain ⟨ad112,e112,hx112_0,hx112_1⟩:=at_T72 HR1.out x5_1 p112 q112
            have hw112_1:=hx112_1
            have hw112_0:=hx112_0
            obtain rfl:ad107=ad112:=(by injection e112)
            replace hx112_0:=(HB.out.cell (World.block_lt_of_cell? w _ hx112_0)).trans hx112_0
            replace hx112_1:=(HB.out.cell (World.block_lt_of_cell? w _ hx112_1)).trans hx112_1
            replace p112:=eq_true p112
            replace q112:=eq_true q112
            have p113:0≤((ji12):Int):=of_decide_eq_true za
            have q113:(ji12)<(l1.length:Int):=of_decide_eq_true za
            obtain ⟨ad113,e113,hx113_0,hx113_1⟩:=at_T72 HR1.out (ji12) p113 q113
            have hw113_1:=hx113_1
            have hw113_0:=hx113_0
            obtain rfl:ad107=ad113:=(by injection e113)
            replace hx113_0:=(HB.out.cell (World.block_lt_of_cell? w _ hx113_0)).trans hx113_0
            replace hx113_1:=(HB.out.cell (World.block_lt_of_cell? w _ hx113_1)).trans hx113_1
            replace p113:=eq_true p113
            replace q113:=eq_true q113
            have p114:0≤(x5_1:Int):=of_decide_eq_true za
            have q114:x5_1<(l1.length:Int):=of_decide_eq_true za
            obtain ⟨ad114,e114,hx114_0,hx114_1⟩:=at_T72 HR1.out x5_1 p114 q114
            have hw114_1:=hx114_1
            have hw114_0:=hx114_0
            obtain rfl:ad107=ad114:=(by injection e114)
            replace hx114_0:=(HB.out.cell (World.block_lt_of_cell? w _ hx114_0)).trans hx114_0
            replace hx114_1:=(HB.out.cell (World.block_lt_of_cell? w _ hx114_1)).trans hx114_1
            replace p114:=eq_true p114
            replace q114:=eq_true q114
            refine start_ (n:=50) (S:=fun w'=>w'.cell? (ad107.add ((x5_1).toNat * 2))=some (.int .i64 ((rd_T72 l1 x5_1).f0))∧w'.cell? ⟨(ad107.add ((x5_1).toNat * 2)).block,(ad107.add ((x5_1).toNat * 2)).off + 1,none⟩=some (.int .i64 ((rd_T72 l1 x5_1).f1))∧w'.cell? (ad107.add ((x5_1).toNat * 2))=some (.int .i64 ((rd_T72 l1 x5_1).f0))∧w'.cell? ⟨(ad107.add ((x5_1).toNat * 2)).block,(ad107.add ((x5_1).toNat * 2)).off + 1,none⟩=some (.int .i64 ((rd_T72 l1 x5_1).f1))∧w'.cell? (ad107.add ((x5_1).toNat * 2))=some (.int .i64 ((rd_T72 l1 x5_1).f0))∧w'.cell? ⟨(ad107.add ((x5_1).toNat * 2)).block,(ad107.add ((x5_1).toNat * 2)).off + 1,none⟩=some (.int .i64 ((rd_T72 l1 x5_1).f1))∧w'.cell? (ad107.add ((x5_1).toNat * 2))=some (.int .i64 ((rd_T72 l1 x5_1).f0))∧w'.cell? ⟨(ad107.add ((x5_1).toNat * 2)).block,(ad107.add ((x5_1).toNat * 2)).off + 1,none⟩=some (.int .i64 ((rd_T72 l1 x5_1).f1))∧w'.cell? (ad107.add (((ji12)).toNat * 2))=some (.int .i64 ((rd_T72 l1 (ji12)).f0))∧w'.cell? ⟨(ad107.add (((ji12)).toNat * 2)).block,(ad107.add (((ji12)).toNat * 2)).off + 1,none⟩=some (.int .i64 ((rd_T72 l1 (ji12)).f1))∧w'.cell? (ad107.add ((x5_1).toNat * 2))=some (.int .i64 ((rd_T72 l1 x5_1).f0))∧w'.cell? ⟨(ad107.add ((x5_1).toNat * 2)).block,(ad107.add ((x5_1).toNat * 2)).off + 1,none⟩=some (.int .i64 ((rd_T72 l1 x5_1).f1))) (ds:=[]) ba0_ (by kernel_rfl) rfl rfl ⟨((HB.out.cell (World.block_lt_of_cell? w _ hw107_0)).trans hw107_0),((HB.out.cell (World.block_lt_of_cell? w _ hw107_1)).trans hw107_1),((HB.out.cell (World.block_lt_of_cell? w _ hw109_0)).trans hw109_0),((HB.out.cell (World.block_lt_of_cell? w _ hw109_1)).trans hw109_1),((HB.out.cell (World.block_lt_of_cell? w _ hw111_0)).trans hw111_0),((HB.out.cell (World.block_lt_of_cell? w _ hw111_1)).trans hw111_1),((HB.out.cell (World.block_lt_of_cell? w _ hw112_0)).trans hw112_0),((HB.out.cell (World.block_lt_of_cell? w _ hw112_1)).trans hw112_1),((HB.out.cell (World.block_lt_of_cell? w _ hw113_0)).trans hw113_0),((HB.out.cell (World.block_lt_of_cell? w _ hw113_1)).trans hw113_1),((HB.out.cell (World.block_lt_of_cell? w _ hw114_0)).trans hw114_0),((HB.out.cell (World.block_lt_of_cell? w _ hw114_1)).trans hw114_1)⟩ (fun hHeld=>?_);refine with_tabW spec_l4Pairs.tab4 spec_l4Pairs.bits4 (fun HT_ HW_=>?_)
            generalize wr.drew=w17 at HB hx107_0 hx107_1 hx109_0 hx109_1 hx111_0 hx111_1 hx112_0 hx112_1 hx113_0 hx113_1 hx114_0 hx114_1 hHeld ⊢
            refine pure_ (i:=0) (N:=some 12) (v:=?_) (a':=?_) ba1_ rfl rfl (any_of HT_.out (by kernel_rfl)) id3_ (Or.inl ⟨by rfl,?_⟩) ?_ ?_
            rotate_left;(intro w';go_simp;with_reducible rfl)
            rotate_left;(simp only [Act.put,z0_,z1_,z2_,i64_w,i32_w];rfl)
            refine pure_ (i:=1) (N:=some 13) (v:=?_) (a':=?_) ba2_ rfl rfl (any_of HT_.out (by kernel_rfl)) id3_ (Or.inl ⟨by rfl,?_⟩) ?_ ?_
            rotate_left;(intro w';go_simp;with_reducible rfl)
            rotate_left;(simp only [Act.put,z0_,z1_,z2_,i64_w,i32_w];rfl)
            refine pure_ (i:=2) (N:=some 14) (v:=?_) (a':=?_) ba3_ rfl rfl (any_of HT_.out (by kernel_rfl)) id3_ (Or.inl ⟨by rfl,?_⟩) ?_ ?_
            rotate_left;(intro w';go_simp;with_reducible rfl)
            rotate_left;(simp only [Act.put,z0_,z1_,z2_,i64_w,i32_w];rfl)
            refine pure_ (i:=3) (N:=some 15) (v:=?_) (a':=?_) ba4_ rfl rfl (any_of HT_.out (by kernel_rfl)) id3_ (Or.inl ⟨by rfl,?_⟩) ?_ ?_
            rotate_left;(intro w';go_simp;with_reducible rfl)
            rotate_left;(simp only [Act.put,z0_,z1_,z2_,i64_w,i32_w];rfl)
            refine pure_ (i:=5) (N:=some 17) (v:=?_) (a':=?_) ba5_ rfl rfl (any_of HT_.out (by kernel_rfl)) id3_ (Or.inl ⟨by rfl,?_⟩) ?_ ?_
            rotate_left;(intro w';go_simp;with_reducible rfl)
            rotate_left;(simp only [Act.put,z0_,z1_,z2_,i64_w,i32_w];rfl)
            refine pure_ (i:=6) (N:=some 18) (v:=?_) (a':=?_) ba6_ rfl rfl (any_of HT_.out (by kernel_rfl)) id3_ (Or.inl ⟨by rfl,?_⟩) ?_ ?_
            rotate_left;(intro w';go_simp;with_reducible rfl)
            rotate_left;(simp only [Act.put,z0_,z1_,z2_,i64_w,i32_w];rfl)
            refine take_ (i:=4) (N:=some 16) (v:=?_) (a':=?_) ba7_ rfl rfl (take_ofW HT_.out HW_.out (by kernel_rfl)) id3_ (Or.inl ⟨by rfl,?_⟩) hHeld ?_ ?_
            rotate_left
            ·rintro w' ⟨s0,s1,s2,s3,s4,s5,s6,s7,s8,s9,s10,s11⟩
             go_simp
             with_reducible rfl
            rotate_left;(simp only [Act.put,z0_,z1_,z2_,i64_w,i32_w];rfl)
            refine one_ (i:=7) (N:=some 19) ba8_ rfl rfl (one_of HT_.out (by kernel_rfl)) (by decide) (fun K hK=>?_)
            refine goes_ Try.func120 (by kernel_rfl) rfl #[.int .i64 ((rd_T72 l1 x5_1).f0),.int .i64 0,.int .i64 (wrap64 (a0 - 1))] (by rfl) rfl rfl zl ?_
            with_reducible refine (spec_l1In.calls ((rd_T72 l1 x5_1).f0) 0 (wrap64 (a0 - 1)) true _ A5.out).mono ?_
            rintro e w' ⟨rfl,⟨nd,rfl⟩⟩
            refine ⟨_,rfl,?_⟩
            refine hK.out _ _ ⟨((HB.out.cell (World.block_lt_of_cell? w _ hw107_0)).trans hw107_0),((HB.out.cell (World.block_lt_of_cell? w _ hw107_1)).trans hw107_1),((HB.out.cell (World.block_lt_of_cell? w _ hw109_0)).trans hw109_0),((HB.out.cell (World.block_lt_of_cell? w _ hw109_1)).trans hw109_1),((HB.out.cell (World.block_lt_of_cell? w _ hw111_0)).trans hw111_0),((HB.out.cell (World.block_lt_of_cell? w _ hw111_1)).trans hw111_1),((HB.out.cell (World.block_lt_of_cell? w _ hw112_0)).trans hw112_0),((HB.out.cell (World.block_lt_of_cell? w _ hw112_1)).trans hw112_1),((HB.out.cell (World.block_lt_of_cell? w _ hw113_0)).trans hw113_0),((HB.out.cell (World.block_lt_of_cell? w _ hw113_1)).trans hw113_1),((HB.out.cell (World.block_lt_of_cell? w _ hw114_0)).trans hw114_0),((HB.out.cell (World.block_lt_of_cell? w _ hw114_1)).trans hw114_1)⟩ (fun hHeld=>?_)
            clear hK K
            refine norm_ (a':=?_) ?_ ?_
            rotate_left
            ·show Act.put _ (some 19) _=_
             simp only [Act.put,z0_,z1_,z2_,i64_w,i32_w]
             rfl
            refine pure_ (i:=8) (N:=some 20) (v:=?_) (a':=?_) ba9_ rfl rfl (any_of HT_.out (by kernel_rfl)) id3_ (Or.inl ⟨by rfl,?_⟩) ?_ ?_
            rotate_left;(intro w';go_simp;with_reducible rfl)
            rotate_left;(simp only [Act.put,z0_,z1_,z2_,i64_w,i32_w];rfl)
            refine pure_ (i:=9) (N:=some 21) (v:=?_) (a':=?_) ba10_ rfl rfl (any_of HT_.out (by kernel_rfl)) id3_ (Or.inl ⟨by rfl,?_⟩) ?_ ?_
            rotate_left;(intro w';go_simp;with_reducible rfl)
            rotate_left;(simp only [Act.put,z0_,z1_,z2_,i64_w,i32_w];rfl)
            refine pure_ (i:=10) (N:=some 22) (v:=?_) (a':=?_) ba11_ rfl rfl (any_of HT_.out (by kernel_rfl)) id3_ (Or.inl ⟨by rfl,?_⟩) ?_ ?_
            rotate_left;(intro w';go_simp;with_reducible rfl)
            rotate_left;(simp only [Act.put,z0_,z1_,z2_,i64_w,i32_w];rfl)
            refine pure_ (i:=11) (N:=some 23) (v:=?_) (a':=?_) ba12_ rfl rfl (any_of HT_.out (by kernel_rfl)) id3_ (Or.inl ⟨by rfl,?_⟩) ?_ ?_
            rotate_left;(intro w';go_simp;with_reducible rfl)
            rotate_left;(simp only [Act.put,z0_,z1_,z2_,i64_w,i32_w];rfl)
            refine pure_ (i:=12) (N:=some 24) (v:=?_) (a':=?_) ba13_ rfl rfl (any_of HT_.out (by kernel_rfl)) id3_ (Or.inl ⟨by rfl,?_⟩) ?_ ?_
            rotate_left;(intro w';go_simp;with_reducible rfl)
            rotate_left;(simp only [Act.put,z0_,z1_,z2_,i64_w,i32_w];rfl)
            refine pure_ (i:=13) (N:=some 25) (v:=?_) (a':=?_) ba14_ rfl rfl (any_of HT_.out (by kernel_rfl)) id3_ (Or.inl ⟨by rfl,?_⟩) ?_ ?_
            rotate_left;(intro w';go_simp;with_reducible rfl)
            rotate_left;(simp only [Act.put,z0_,z1_,z2_,i64_w,i32_w];rfl)
            refine pure_ (i:=15) (N:=some 27) (v:=?_) (a':=?_) ba15_ rfl rfl (any_of HT_.out (by kernel_rfl)) id3_ (Or.inl ⟨by rfl,?_⟩) ?_ ?_
            rotate_left;(intro w';go_simp;with_reducible rfl)
            rotate_left;(simp only [Act.put,z0_,z1_,z2_,i64_w,i32_w];rfl)
            refine pure_ (i:=16) (N:=some 28) (v:=?_) (a':=?_) ba16_ rfl rfl (any_of HT_.out (by kernel_rfl)) id3_ (Or.inl ⟨by rfl,?_⟩) ?_ ?_
            rotate_left;(intro w';go_simp;with_reducible rfl)
            rotate_left;(simp only [Act.put,z0_,z1_,z2_,i64_w,i32_w];rfl)
            refine take_ (i:=14) (N:=some 26) (v:=?_) (a':=?_) ba17_ rfl rfl (take_ofW HT_.out HW_.out (by kernel_rfl)) id3_ (Or.inl ⟨by rfl,?_⟩) hHeld ?_ ?_
            rotate_left
            ·rintro w' ⟨s0,s1,s2,s3,s4,s5,s6,s7,s8,s9,s10,s11⟩
             go_simp
             with_reducible rfl
            rotate_left;(simp only [Act.put,z0_,z1_,z2_,i64_w,i32_w];rfl)
            refine one_ (i:=17) (N:=some 29) ba18_ rfl rfl (one_of HT_.out (by kernel_rfl)) (by decide) (fun K hK=>?_)
            refine goes_ Try.func120 (by kernel_rfl) rfl #[.int .i64 ((rd_T72 l1 x5_1).f1),.int .i64 0,.int .i64 (wrap64 (a0 - 1))] (by rfl) rfl rfl zl ?_
            with_reducible refine (spec_l1In.calls ((rd_T72 l1 x5_1).f1) 0 (wrap64 (a0 - 1)) true _ A7.out).mono ?_
            rintro e w' ⟨rfl,⟨nd,rfl⟩⟩
            refine ⟨_,rfl,?_⟩
            refine hK.out _ _ ⟨((HB.out.cell (World.block_lt_of_cell? w _ hw107_0)).trans hw107_0),((HB.out.cell (World.block_lt_of_cell? w _ hw107_1)).trans hw107_1),((HB.out.cell (World.block_lt_of_cell? w _ hw109_0)).trans hw109_0),((HB.out.cell (World.block_lt_of_cell? w _ hw109_1)).trans hw109_1),((HB.out.cell (World.block_lt_of_cell? w _ hw111_0)).trans hw111_0),((HB.out.cell (World.block_lt_of_cell? w _ hw111_1)).trans hw111_1),((HB.out.cell (World.block_lt_of_cell? w _ hw112_0)).trans hw112_0),((HB.out.cell (World.block_lt_of_cell? w _ hw112_1)).trans hw112_1),((HB.out.cell (World.block_lt_of_cell? w _ hw113_0)).trans hw113_0),((HB.out.cell (World.block_lt_of_cell? w _ hw113_1)).trans hw113_1),((HB.out.cell (World.block_lt_of_cell? w _ hw114_0)).trans hw114_0),((HB.out.cell (World.block_lt_of_cell? w _ hw114_1)).trans hw114_1)⟩ (fun hHeld=>?_)
            clear hK K
            refine norm_ (a':=?_) ?_ ?_
            rotate_left
            ·show Act.put _ (some 29) _=_
             simp only [Act.put,z0_,z1_,z2_,i64_w,i32_w]
             rfl
            refine pure_ (i:=18) (N:=some 30) (v:=?_) (a':=?_) ba19_ rfl rfl (any_of HT_.out (by kernel_rfl)) id3_ (Or.inl ⟨by rfl,?_⟩) ?_ ?_
            rotate_left;(intro w';go_simp;with_reducible rfl)
            rotate_left;(simp only [Act.put,z0_,z1_,z2_,i64_w,i32_w];rfl)
            refine pure_ (i:=19) (N:=some 31) (v:=?_) (a':=?_) ba20_ rfl rfl (any_of HT_.out (by kernel_rfl)) id3_ (Or.inl ⟨by rfl,?_⟩) ?_ ?_
            rotate_left;(intro w';go_simp;with_reducible rfl)
            rotate_left;(simp only [Act.put,z0_,z1_,z2_,i64_w,i32_w];rfl)
            refine pure_ (i:=20) (N:=some 32) (v:=?_) (a':=?_) ba21_ rfl rfl (any_of HT_.out (by kernel_rfl)) id3_ (Or.inl ⟨by rfl,?_⟩) ?_ ?_
            rotate_left;(intro w';go_simp;with_reducible rfl)
            rotate_left;(simp only [Act.put,z0_,z1_,z2_,i64_w,i32_w];rfl)
            refine pure_ (i:=21) (N:=some 33) (v:=?_) (a':=?_) ba22_ rfl rfl (any_of HT_.out (by kernel_rfl)) id3_ (Or.inl ⟨by rfl,?_⟩) ?_ ?_
            rotate_left;(intro w';go_simp;with_reducible rfl)
            rotate_left;(simp only [Act.put,z0_,z1_,z2_,i64_w,i32_w];rfl)
            refine pure_ (i:=22) (N:=some 34) (v:=?_) (a':=?_) ba23_ rfl rfl (any_of HT_.out (by kernel_rfl)) id3_ (Or.inl ⟨by rfl,?_⟩) ?_ ?_
            rotate_left;(intro w';go_simp;with_reducible rfl)
            rotate_left;(simp only [Act.put,z0_,z1_,z2_,i64_w,i32_w];rfl)
            refine pure_ (i:=23) (N:=some 35) (v:=?_) (a':=?_) ba24_ rfl rfl (any_of HT_.out (by kernel_rfl)) id3_ (Or.inl ⟨by rfl,?_⟩) ?_ ?_
            rotate_left;(intro w';go_simp;with_reducible rfl)
            rotate_left;(simp only [Act.put,z0_,z1_,z2_,i64_w,i32_w];rfl)
            refine pure_ (i:=24) (N:=some 36) (v:=?_) (a':=?_) ba25_ rfl rfl (any_of HT_.out (by kernel_rfl)) id3_ (Or.inl ⟨by rfl,?_⟩) ?_ ?_
            rotate_left;(intro w';go_simp;with_reducible rfl)
            rotate_left;(simp only [Act.put,z0_,z1_,z2_,i64_w,i32_w];rfl)
            refine pure_ (i:=26) (N:=some 38) (v:=?_) (a':=?_) ba26_ rfl rfl (any_of HT_.out (by kernel_rfl)) id3_ (Or.inl ⟨by rfl,?_⟩) ?_ ?_
            rotate_left;(intro w';go_simp;with_reducible rfl)
            rotate_left;(simp only [Act.put,z0_,z1_,z2_,i64_w,i32_w];rfl)
            refine pure_ (i:=27) (N:=some 39) (v:=?_) (a':=?_) ba27_ rfl rfl (any_of HT_.out (by kernel_rfl)) id3_ (Or.inl ⟨by rfl,?_⟩) ?_ ?_
            rotate_left;(intro w';go_simp;with_reducible rfl)
            rotate_left;(simp only [Act.put,z0_,z1_,z2_,i64_w,i32_w];rfl)
            refine pure_ (i:=28) (N:=some 40) (v:=?_) (a':=?_) ba28_ rfl rfl (any_of HT_.out (by kernel_rfl)) id3_ (Or.inl ⟨by rfl,?_⟩) ?_ ?_
            rotate_left;(intro w';go_simp;with_reducible rfl)
            rotate_left;(simp only [Act.put,z0_,z1_,z2_,i64_w,i32_w];rfl)
            refine pure_ (i:=29) (N:=some 41) (v:=?_) (a':=?_) ba29_ rfl rfl (any_of HT_.out (by kernel_rfl)) id3_ (Or.inl ⟨by rfl,?_⟩) ?_ ?_
            rotate_left;(intro w';go_simp;with_reducible rfl)
            rotate_left;(simp only [Act.put,z0_,z1_,z2_,i64_w,i32_w];rfl)
            refine take_ (i:=25) (N:=some 37) (v:=?_) (a':=?_) ba30_ rfl rfl (take_ofW HT_.out HW_.out (by kernel_rfl)) id3_ (Or.inl ⟨by rfl,?_⟩) hHeld ?_ ?_
            rotate_left
            ·rintro w' ⟨s0,s1,s2,s3,s4,s5,s6,s7,s8,s9,s10,s11⟩
             go_simp
             with_reducible rfl
            rotate_left;(simp only [Act.put,z0_,z1_,z2_,i64_w,i32_w];rfl)
            refine take_ (i:=30) (N:=some 42) (v:=?_) (a':=?_) ba31_ rfl rfl (take_ofW HT_.out HW_.out (by kernel_rfl)) id3_ (Or.inl ⟨by rfl,?_⟩) hHeld ?_ ?_
            rotate_left
            ·rintro w' ⟨s0,s1,s2,s3,s4,s5,s6,s7,s8,s9,s10,s11⟩
             go_simp
             with_reducible rfl
            rotate_left;(simp only [Act.put,z0_,z1_,z2_,i64_w,i32_w];rfl)
            refine pure_ (i:=31) (N:=some 43) (v:=?_) (a':=?_) ba32_ rfl rfl (any_of HT_.out (by kernel_rfl)) id3_ (Or.inl ⟨by rfl,?_⟩) ?_ ?_
            rotate_left;(intro w';go_simp;with_reducible rfl)
            rotate_left;(simp only [Act.put,z0_,z1_,z2_,i64_w,i32_w];rfl)
            refine pure_ (i:=32) (N:=some 44) (v:=?_) (a':=?_) ba33_ rfl rfl (any_of HT_.out (by kernel_rfl)) id3_ (Or.inl ⟨by rfl,?_⟩) ?_ ?_
            rotate_left;(intro w';go_simp;with_reducible rfl)
            rotate_left;(simp only [Act.put,z0_,z1_,z2_,i64_w,i32_w];rfl)
            refine pure_ (i:=33) (N:=some 45) (v:=?_) (a':=?_) ba34_ rfl rfl (any_of HT_.out (by kernel_rfl)) id3_ (Or.inl ⟨by rfl,?_⟩) ?_ ?_
            rotate_left;(intro w';go_simp;with_reducible rfl)
            rotate_left;(simp only [Act.put,z0_,z1_,z2_,i64_w,i32_w];rfl)
            refine pure_ (i:=34) (N:=some 46) (v:=?_) (a':=?_) ba35_ rfl rfl (any_of HT_.out (by kernel_rfl)) id3_ (Or.inl ⟨by rfl,?_⟩) ?_ ?_
            rotate_left;(intro w';go_simp;with_reducible rfl)
            rotate_left;(simp only [Act.put,z0_,z1_,z2_,i64_w,i32_w];rfl)
            refine pure_ (i:=35) (N:=some 47) (v:=?_) (a':=?_) ba36_ rfl rfl (any_of HT_.out (by kernel_rfl)) id3_ (Or.inl ⟨by rfl,?_⟩) ?_ ?_
            rotate_left;(intro w';go_simp;with_reducible rfl)
            rotate_left;(simp only [Act.put,z0_,z1_,z2_,i64_w,i32_w];rfl)
            refine pure_ (i:=36) (N:=some 48) (v:=?_) (a':=?_) ba37_ rfl rfl (any_of HT_.out (by kernel_rfl)) id3_ (Or.inl ⟨by rfl,?_⟩) ?_ ?_
            rotate_left;(intro w';go_simp;with_reducible rfl)
            rotate_left;(simp only [Act.put,z0_,z1_,z2_,i64_w,i32_w];rfl)
            refine pure_ (i:=37) (N:=some 49) (v:=?_) (a':=?_) ba38_ rfl rfl (any_of HT_.out (by kernel_rfl)) id3_ (Or.inl ⟨by rfl,?_⟩) ?_ ?_
            rotate_left;(intro w';go_simp;with_reducible rfl)
            rotate_left;(simp only [Act.put,z0_,z1_,z2_,i64_w,i32_w];rfl)
            refine pure_ (i:=38) (N:=some 50) (v:=?_) (a':=?_) ba39_ rfl rfl (any_of HT_.out (by kernel_rfl)) id3_ (Or.inl ⟨by rfl,?_⟩) ?_ ?_
            rotate_left;(intro w';go_simp;with_reducible rfl)
            rotate_left;(simp only [Act.put,z0_,z1_,z2_,i64_w,i32_w];rfl)
            refine pure_ (i:=39) (N:=some 51) (v:=?_) (a':=?_) ba40_ rfl rfl (any_of HT_.out (by kernel_rfl)) id3_ (Or.inl ⟨by rfl,?_⟩) ?_ ?_
            rotate_left;(intro w';go_simp;with_reducible rfl)
            rotate_left;(simp only [Act.put,z0_,z1_,z2_,i64_w,i32_w];rfl)
            refine pure_ (i:=40) (N:=some 52) (v:=?_) (a':=?_) ba41_ rfl rfl (any_of HT_.out (by kernel_rfl)) id3_ (Or.inl ⟨by rfl,?_⟩) ?_ ?_
            rotate_left;(intro w';go_simp;with_reducible rfl)
            rotate_left;(simp only [Act.put,z0_,z1_,z2_,i64_w,i32_w];rfl)
            refine pure_ (i:=42) (N:=some 54) (v:=?_) (a':=?_) ba51_ rfl rfl (any_of HT_.out (by kernel_rfl)) id3_ (Or.inl ⟨by rfl,?_⟩) ?_ ?_
            rotate_left;(intro w';go_simp;with_reducible rfl)
            rotate_left;(simp only [Act.put,z0_,z1_,z2_,i64_w,i32_w];rfl)
            refine pure_ (i:=43) (N:=some 55) (v:=?_) (a':=?_) ba52_ rfl rfl (any_of HT_.out (by kernel_rfl)) id3_ (Or.inl ⟨by rfl,?_⟩) ?_ ?_
            rotate_left;(intro w';go_simp;with_reducible rfl)
            rotate_left;(simp only [Act.put,z0_,z1_,z2_,i64_w,i32_w];rfl)
            refine pure_ (i:=44) (N:=some 56) (v:=?_) (a':=?_) ba53_ rfl rfl (any_of HT_.out (by kernel_rfl)) id3_ (Or.inl ⟨by rfl,?_⟩) ?_ ?_
            rotate_left;(intro w';go_simp;with_reducible rfl)
            rotate_left;(simp only [Act.put,z0_,z1_,z2_,i64_w,i32_w];rfl)
            refine take_ (i:=41) (N:=some 53) (v:=?_) (a':=?_) ba45_ rfl rfl (take_ofW HT_.out HW_.out (by kernel_rfl)) id3_ (Or.inl ⟨by rfl,?_⟩) hHeld ?_ ?_
            rotate_left
            ·rintro w' ⟨s0,s1,s2,s3,s4,s5,s6,s7,s8,s9,s10,s11⟩
             go_simp
             with_reducible rfl
            rotate_left;(simp only [Act.put,z0_,z1_,z2_,i64_w,i32_w];rfl)
            refine take_ (i:=45) (N:=some 57) (v:=?_) (a':=?_) ba46_ rfl rfl (take_ofW HT_.out HW_.out (by kernel_rfl)) id3_ (Or.inl ⟨by rfl,?_⟩) hHeld ?_ ?_
            rotate_left
            ·rintro w' ⟨s0,s1,s2,s3,s4,s5,s6,s7,s8,s9,s10,s11⟩
             go_simp
             with_reducible rfl
            rotate_left;(simp only [Act.put,z0_,z1_,z2_,i64_w,i32_w];rfl)
            refine one_ (i:=46) (N:=some 58) ba47_ rfl rfl (one_of HT_.out (by kernel_rfl)) (by decide) (fun K hK=>?_)
            refine goes_ Try.func156 (by kernel_rfl) rfl #[.agg #[.int .i64 ((rd_T72 l1 (ji12)).f0),.int .i64 ((rd_T72 l1 (ji12)).f1)],.agg #[.int .i64 ((rd_T72 l1 x5_1).f0),.int .i64 ((rd_T72 l1 x5_1).f1)]] (by rfl) rfl rfl (by (try simp only [List.map_toArray,List.map_cons,List.map_nil]);first|done|(simp only [hji12];rfl)|rfl|(simp only [List.length_drop,List.length_take];rfl)) ?_
            with_reducible refine (spec_l4Before.calls ((rd_T72 l1 (ji12)).f0) ((rd_T72 l1 (ji12)).f1) ((rd_T72 l1 x5_1).f0) ((rd_T72 l1 x5_1).f1) true _ A15.out).mono ?_
            rintro e w18 ⟨rfl,hb⟩
            refine ⟨_,rfl,?_⟩
            replace HB:=Aside0.mk (below_step zb hb)
            (try clear hb)
            (try clear hb2)
            (try clear hk)
            (try clear hi)
            refine hK.out _ _ ⟨((HB.out.cell (World.block_lt_of_cell? w _ hw107_0)).trans hw107_0),((HB.out.cell (World.block_lt_of_cell? w _ hw107_1)).trans hw107_1),((HB.out.cell (World.block_lt_of_cell? w _ hw109_0)).trans hw109_0),((HB.out.cell (World.block_lt_of_cell? w _ hw109_1)).trans hw109_1),((HB.out.cell (World.block_lt_of_cell? w _ hw111_0)).trans hw111_0),((HB.out.cell (World.block_lt_of_cell? w _ hw111_1)).trans hw111_1),((HB.out.cell (World.block_lt_of_cell? w _ hw112_0)).trans hw112_0),((HB.out.cell (World.block_lt_of_cell? w _ hw112_1)).trans hw112_1),((HB.out.cell (World.block_lt_of_cell? w _ hw113_0)).trans hw113_0),((HB.out.cell (World.block_lt_of_cell? w _ hw113_1)).trans hw113_1),((HB.out.cell (World.block_lt_of_cell? w _ hw114_0)).trans hw114_0),((HB.out.cell (World.block_lt_of_cell? w _ hw114_1)).trans hw114_1)⟩ (fun hHeld=>?_)
            clear hK K
            refine norm_ (a':=?_) ?_ ?_
            rotate_left
            ·show Act.put _ (some 58) _=_
             simp only [Act.put,z0_,z1_,z2_,i64_w,i32_w]
             rfl
            refine pure_ (i:=47) (N:=some 59) (v:=?_) (a':=?_) ba48_ rfl rfl (any_of HT_.out (by kernel_rfl)) id3_ (Or.inl ⟨by rfl,?_⟩) ?_ ?_
            rotate_left;(intro w';go_simp;with_reducible rfl)
            rotate_left;(simp only [Act.put,z0_,z1_,z2_,i64_w,i32_w];rfl)
            refine pure_ (i:=48) (N:=some 60) (v:=?_) (a':=?_) ba49_ rfl rfl (any_of HT_.out (by kernel_rfl)) id3_ (Or.inl ⟨by rfl,?_⟩) ?_ ?_
            rotate_left;(intro w';go_simp;with_reducible rfl)
            rotate_left;(simp only [Act.put,z0_,z1_,z2_,i64_w,i32_w];rfl)
            refine pure_ (i:=49) (N:=some 61) (v:=?_) (a':=?_) ba50_ rfl rfl (any_of HT_.out (by kernel_rfl)) id3_ (Or.inl ⟨by rfl,?_⟩) ?_ ?_
            rotate_left;(intro w';go_simp;with_reducible rfl)
            rotate_left;(simp only [Act.put,z0_,z1_,z2_,i64_w,i32_w];rfl)
            refine done_ (done_of HT_.out (by kernel_rfl)) ?_
            try go_wp2
            go_roundg k1
            case measure=>have:=HK1.out;omega
            case rel=>exact ⟨(wrap64 (x5_1 + 1)),zo,H',⟨by have:=HK1.out;omega⟩,⟨zb⟩⟩
           ·replace c16:=Bool.eq_false_iff.mpr c16
            subst c16
            have H1:(some false)=some r:=by rw [if_neg (show ¬ (false=true) by decide)] at H;exact H
            clear H
            have H:=H1
            clear H1
            obtain rfl:=Option.some.inj H
            try go_wp2
            replace HB:=Aside0.mk (below_drew1 HB.out)
            have p107:0≤(x5_1:Int):=of_decide_eq_true za
            have q107:x5_1<(l1.length:Int):=of_decide_eq_true za
            obtain ⟨ad107,e107,hx107_0,hx107_1⟩:=at_T72 HR1.out x5_1 p107 q107
            have hw107_1:=hx107_1
            have hw107_0:=hx107_0
            cases e107
            replace hx107_0:=(HB.out.cell (World.block_lt_of_cell? w _ hx107_0)).trans hx107_0
            replace hx107_1:=(HB.out.cell (World.block_lt_of_cell? w _ hx107_1)).trans hx107_1
            replace p107:=eq_true p107
            replace q107:=eq_true q107
            have p109:0≤(x5_1:Int):=of_decide_eq_true za
            have q109:x5_1<(l1.length:Int):=of_decide_eq_true za
            obtain ⟨ad109,e109,hx109_0,hx109_1⟩:=at_T72 HR1.out x5_1 p109 q109
            have hw109_1:=hx109_1
            have hw109_0:=hx109_0
            obtain rfl:ad107=ad109:=(by injection e109)
            replace hx109_0:=(HB.out.cell (World.block_lt_of_cell? w _ hx109_0)).trans hx109_0
            replace hx109_1:=(HB.out.cell (World.block_lt_of_cell? w _ hx109_1)).trans hx109_1
            replace p109:=eq_true p109
            replace q109:=eq_true q109
            have p111:0≤(x5_1:Int):=of_decide_eq_true za
            have q111:x5_1<(l1.length:Int):=of_decide_eq_true za
            obtain ⟨ad111,e111,hx111_0,hx111_1⟩:=at_T72 HR1.out x5_1 p111 q111
            have hw111_1:=hx111_1
            have hw111_0:=hx111_0
            obtain rfl:ad107=ad111:=(by injection e111)
            replace hx111_0:=(HB.out.cell (World.block_lt_of_cell? w _ hx111_0)).trans hx111_0
            replace hx111_1:=(HB.out.cell (World.block_lt_of_cell? w _ hx111_1)).trans hx111_1
            replace p111:=eq_true p111
            replace q111:=eq_true q111
            have p112:0≤(x5_1:Int):=of_decide_eq_true za
            have q112:x5_1<(l1.length:Int):=of_decide_eq_true za
            obtain ⟨ad112,e112,hx112_0,hx112_1⟩:=at_T72 HR1.out x5_1 p112 q112
            have hw112_1:=hx112_1
            have hw112_0:=hx112_0
            obtain rfl:ad107=ad112:=(by injection e112)
            replace hx112_0:=(HB.out.cell (World.block_lt_of_cell? w _ hx112_0)).trans hx112_0
            replace hx112_1:=(HB.out.cell (World.block_lt_of_cell? w _ hx112_1)).trans hx112_1
            replace p112:=eq_true p112
            replace q112:=eq_true q112
            have p113:0≤((ji12):Int):=of_decide_eq_true za
            have q113:(ji12)<(l1.length:Int):=of_decide_eq_true za
            obtain ⟨ad113,e113,hx113_0,hx113_1⟩:=at_T72 HR1.out (ji12) p113 q113
            have hw113_1:=hx113_1
            have hw113_0:=hx113_0
            obtain rfl:ad107=ad113:=(by injection e113)
            replace hx113_0:=(HB.out.cell (World.block_lt_of_cell? w _ hx113_0)).trans hx113_0
            replace hx113_1:=(HB.out.cell (World.block_lt_of_cell? w _ hx113_1)).trans hx113_1
            replace p113:=eq_true p113
            replace q113:=eq_true q113
            have p114:0≤(x5_1:Int):=of_decide_eq_true za
            have q114:x5_1<(l1.length:Int):=of_decide_eq_true za
            obtain ⟨ad114,e114,hx114_0,hx114_1⟩:=at_T72 HR1.out x5_1 p114 q114
            have hw114_1:=hx114_1
            have hw114_0:=hx114_0
            obtain rfl:ad107=ad114:=(by injection e114)
            replace hx114_0:=(HB.out.cell (World.block_lt_of_cell? w _ hx114_0)).trans hx114_0
            replace hx114_1:=(HB.out.cell (World.block_lt_of_cell? w _ hx114_1)).trans hx114_1
            replace p114:=eq_true p114
            replace q114:=eq_true q114
            refine start_ (n:=50) (S:=fun w'=>w'.cell? (ad107.add ((x5_1).toNat * 2))=some (.int .i64 ((rd_T72 l1 x5_1).f0))∧w'.cell? ⟨(ad107.add ((x5_1).toNat * 2)).block,(ad107.add ((x5_1).toNat * 2)).off + 1,none⟩=some (.int .i64 ((rd_T72 l1 x5_1).f1))∧w'.cell? (ad107.add ((x5_1).toNat * 2))=some (.int .i64 ((rd_T72 l1 x5_1).f0))∧w'.cell? ⟨(ad107.add ((x5_1).toNat * 2)).block,(ad107.add ((x5_1).toNat * 2)).off + 1,none⟩=some (.int .i64 ((rd_T72 l1 x5_1).f1))∧w'.cell? (ad107.add ((x5_1).toNat * 2))=some (.int .i64 ((rd_T72 l1 x5_1).f0))∧w'.cell? ⟨(ad107.add ((x5_1).toNat * 2)).block,(ad107.add ((x5_1).toNat * 2)).off + 1,none⟩=some (.int .i64 ((rd_T72 l1 x5_1).f1))∧w'.cell? (ad107.add ((x5_1).toNat * 2))=some (.int .i64 ((rd_T72 l1 x5_1).f0))∧w'.cell? ⟨(ad107.add ((x5_1).toNat * 2)).block,(ad107.add ((x5_1).toNat * 2)).off + 1,none⟩=some (.int .i64 ((rd_T72 l1 x5_1).f1))∧w'.cell? (ad107.add (((ji12)).toNat * 2))=some (.int .i64 ((rd_T72 l1 (ji12)).f0))∧w'.cell? ⟨(ad107.add (((ji12)).toNat * 2)).block,(ad107.add (((ji12)).toNat * 2)).off + 1,none⟩=some (.int .i64 ((rd_T72 l1 (ji12)).f1))∧w'.cell? (ad107.add ((x5_1).toNat * 2))=some (.int .i64 ((rd_T72 l1 x5_1).f0))∧w'.cell? ⟨(ad107.add ((x5_1).toNat * 2)).block,(ad107.add ((x5_1).toNat * 2)).off + 1,none⟩=some (.int .i64 ((rd_T72 l1 x5_1).f1))) (ds:=[]) ba0_ (by kernel_rfl) rfl rfl ⟨((HB.out.cell (World.block_lt_of_cell? w _ hw107_0)).trans hw107_0),((HB.out.cell (World.block_lt_of_cell? w _ hw107_1)).trans hw107_1),((HB.out.cell (World.block_lt_of_cell? w _ hw109_0)).trans hw109_0),((HB.out.cell (World.block_lt_of_cell? w _ hw109_1)).trans hw109_1),((HB.out.cell (World.block_lt_of_cell? w _ hw111_0)).trans hw111_0),((HB.out.cell (World.block_lt_of_cell? w _ hw111_1)).trans hw111_1),((HB.out.cell (World.block_lt_of_cell? w _ hw112_0)).trans hw112_0),((HB.out.cell (World.block_lt_of_cell? w _ hw112_1)).trans hw112_1),((HB.out.cell (World.block_lt_of_cell? w _ hw113_0)).trans hw113_0),((HB.out.cell (World.block_lt_of_cell? w _ hw113_1)).trans hw113_1),((HB.out.cell (World.block_lt_of_cell? w _ hw114_0)).trans hw114_0),((HB.out.cell (World.block_lt_of_cell? w _ hw114_1)).trans hw114_1)⟩ (fun hHeld=>?_);refine with_tabW spec_l4Pairs.tab4 spec_l4Pairs.bits4 (fun HT_ HW_=>?_)
            generalize wr.drew=w19 at HB hx107_0 hx107_1 hx109_0 hx109_1 hx111_0 hx111_1 hx112_0 hx112_1 hx113_0 hx113_1 hx114_0 hx114_1 hHeld ⊢
            refine pure_ (i:=0) (N:=some 12) (v:=?_) (a':=?_) ba1_ rfl rfl (any_of HT_.out (by kernel_rfl)) id3_ (Or.inl ⟨by rfl,?_⟩) ?_ ?_
            rotate_left;(intro w';go_simp;with_reducible rfl)
            rotate_left;(simp only [Act.put,z0_,z1_,z2_,i64_w,i32_w];rfl)
            refine pure_ (i:=1) (N:=some 13) (v:=?_) (a':=?_) ba2_ rfl rfl (any_of HT_.out (by kernel_rfl)) id3_ (Or.inl ⟨by rfl,?_⟩) ?_ ?_
            rotate_left;(intro w';go_simp;with_reducible rfl)
            rotate_left;(simp only [Act.put,z0_,z1_,z2_,i64_w,i32_w];rfl)
            refine pure_ (i:=2) (N:=some 14) (v:=?_) (a':=?_) ba3_ rfl rfl (any_of HT_.out (by kernel_rfl)) id3_ (Or.inl ⟨by rfl,?_⟩) ?_ ?_
            rotate_left;(intro w';go_simp;with_reducible rfl)
            rotate_left;(simp only [Act.put,z0_,z1_,z2_,i64_w,i32_w];rfl)
            refine pure_ (i:=3) (N:=some 15) (v:=?_) (a':=?_) ba4_ rfl rfl (any_of HT_.out (by kernel_rfl)) id3_ (Or.inl ⟨by rfl,?_⟩) ?_ ?_
            rotate_left;(intro w';go_simp;with_reducible rfl)
            rotate_left;(simp only [Act.put,z0_,z1_,z2_,i64_w,i32_w];rfl)
            refine pure_ (i:=5) (N:=some 17) (v:=?_) (a':=?_) ba5_ rfl rfl (any_of HT_.out (by kernel_rfl)) id3_ (Or.inl ⟨by rfl,?_⟩) ?_ ?_
            rotate_left;(intro w';go_simp;with_reducible rfl)
            rotate_left;(simp only [Act.put,z0_,z1_,z2_,i64_w,i32_w];rfl)
            refine pure_ (i:=6) (N:=some 18) (v:=?_) (a':=?_) ba6_ rfl rfl (any_of HT_.out (by kernel_rfl)) id3_ (Or.inl ⟨by rfl,?_⟩) ?_ ?_
            rotate_left;(intro w';go_simp;with_reducible rfl)
            rotate_left;(simp only [Act.put,z0_,z1_,z2_,i64_w,i32_w];rfl)
            refine take_ (i:=4) (N:=some 16) (v:=?_) (a':=?_) ba7_ rfl rfl (take_ofW HT_.out HW_.out (by kernel_rfl)) id3_ (Or.inl ⟨by rfl,?_⟩) hHeld ?_ ?_
            rotate_left
            ·rintro w' ⟨s0,s1,s2,s3,s4,s5,s6,s7,s8,s9,s10,s11⟩
             go_simp
             with_reducible rfl
            rotate_left;(simp only [Act.put,z0_,z1_,z2_,i64_w,i32_w];rfl)
            refine one_ (i:=7) (N:=some 19) ba8_ rfl rfl (one_of HT_.out (by kernel_rfl)) (by decide) (fun K hK=>?_)
            refine goes_ Try.func120 (by kernel_rfl) rfl #[.int .i64 ((rd_T72 l1 x5_1).f0),.int .i64 0,.int .i64 (wrap64 (a0 - 1))] (by rfl) rfl rfl zl ?_
            with_reducible refine (spec_l1In.calls ((rd_T72 l1 x5_1).f0) 0 (wrap64 (a0 - 1)) true _ A5.out).mono ?_
            rintro e w' ⟨rfl,⟨nd,rfl⟩⟩
            refine ⟨_,rfl,?_⟩
            refine hK.out _ _ ⟨((HB.out.cell (World.block_lt_of_cell? w _ hw107_0)).trans hw107_0),((HB.out.cell (World.block_lt_of_cell? w _ hw107_1)).trans hw107_1),((HB.out.cell (World.block_lt_of_cell? w _ hw109_0)).trans hw109_0),((HB.out.cell (World.block_lt_of_cell? w _ hw109_1)).trans hw109_1),((HB.out.cell (World.block_lt_of_cell? w _ hw111_0)).trans hw111_0),((HB.out.cell (World.block_lt_of_cell? w _ hw111_1)).trans hw111_1),((HB.out.cell (World.block_lt_of_cell? w _ hw112_0)).trans hw112_0),((HB.out.cell (World.block_lt_of_cell? w _ hw112_1)).trans hw112_1),((HB.out.cell (World.block_lt_of_cell? w _ hw113_0)).trans hw113_0),((HB.out.cell (World.block_lt_of_cell? w _ hw113_1)).trans hw113_1),((HB.out.cell (World.block_lt_of_cell? w _ hw114_0)).trans hw114_0),((HB.out.cell (World.block_lt_of_cell? w _ hw114_1)).trans hw114_1)⟩ (fun hHeld=>?_)
            clear hK K
            refine norm_ (a':=?_) ?_ ?_
            rotate_left
            ·show Act.put _ (some 19) _=_
             simp only [Act.put,z0_,z1_,z2_,i64_w,i32_w]
             rfl
            refine pure_ (i:=8) (N:=some 20) (v:=?_) (a':=?_) ba9_ rfl rfl (any_of HT_.out (by kernel_rfl)) id3_ (Or.inl ⟨by rfl,?_⟩) ?_ ?_
            rotate_left;(intro w';go_simp;with_reducible rfl)
            rotate_left;(simp only [Act.put,z0_,z1_,z2_,i64_w,i32_w];rfl)
            refine pure_ (i:=9) (N:=some 21) (v:=?_) (a':=?_) ba10_ rfl rfl (any_of HT_.out (by kernel_rfl)) id3_ (Or.inl ⟨by rfl,?_⟩) ?_ ?_
            rotate_left;(intro w';go_simp;with_reducible rfl)
            rotate_left;(simp only [Act.put,z0_,z1_,z2_,i64_w,i32_w];rfl)
            refine pure_ (i:=10) (N:=some 22) (v:=?_) (a':=?_) ba11_ rfl rfl (any_of HT_.out (by kernel_rfl)) id3_ (Or.inl ⟨by rfl,?_⟩) ?_ ?_
            rotate_left;(intro w';go_simp;with_reducible rfl)
            rotate_left;(simp only [Act.put,z0_,z1_,z2_,i64_w,i32_w];rfl)
            refine pure_ (i:=11) (N:=some 23) (v:=?_) (a':=?_) ba12_ rfl rfl (any_of HT_.out (by kernel_rfl)) id3_ (Or.inl ⟨by rfl,?_⟩) ?_ ?_
            rotate_left;(intro w';go_simp;with_reducible rfl)
            rotate_left;(simp only [Act.put,z0_,z1_,z2_,i64_w,i32_w];rfl)
            refine pure_ (i:=12) (N:=some 24) (v:=?_) (a':=?_) ba13_ rfl rfl (any_of HT_.out (by kernel_rfl)) id3_ (Or.inl ⟨by rfl,?_⟩) ?_ ?_
            rotate_left;(intro w';go_simp;with_reducible rfl)
            rotate_left;(simp only [Act.put,z0_,z1_,z2_,i64_w,i32_w];rfl)
            refine pure_ (i:=13) (N:=some 25) (v:=?_) (a':=?_) ba14_ rfl rfl (any_of HT_.out (by kernel_rfl)) id3_ (Or.inl ⟨by rfl,?_⟩) ?_ ?_
            rotate_left;(intro w';go_simp;with_reducible rfl)
            rotate_left;(simp only [Act.put,z0_,z1_,z2_,i64_w,i32_w];rfl)
            refine pure_ (i:=15) (N:=some 27) (v:=?_) (a':=?_) ba15_ rfl rfl (any_of HT_.out (by kernel_rfl)) id3_ (Or.inl ⟨by rfl,?_⟩) ?_ ?_
            rotate_left;(intro w';go_simp;with_reducible rfl)
            rotate_left;(simp only [Act.put,z0_,z1_,z2_,i64_w,i32_w];rfl)
            refine pure_ (i:=16) (N:=some 28) (v:=?_) (a':=?_) ba16_ rfl rfl (any_of HT_.out (by kernel_rfl)) id3_ (Or.inl ⟨by rfl,?_⟩) ?_ ?_
            rotate_left;(intro w';go_simp;with_reducible rfl)
            rotate_left;(simp only [Act.put,z0_,z1_,z2_,i64_w,i32_w];rfl)
            refine take_ (i:=14) (N:=some 26) (v:=?_) (a':=?_) ba17_ rfl rfl (take_ofW HT_.out HW_.out (by kernel_rfl)) id3_ (Or.inl ⟨by rfl,?_⟩) hHeld ?_ ?_
            rotate_left
            ·rintro w' ⟨s0,s1,s2,s3,s4,s5,s6,s7,s8,s9,s10,s11⟩
             go_simp
             with_reducible rfl
            rotate_left;(simp only [Act.put,z0_,z1_,z2_,i64_w,i32_w];rfl)
            refine one_ (i:=17) (N:=some 29) ba18_ rfl rfl (one_of HT_.out (by kernel_rfl)) (by decide) (fun K hK=>?_)
            refine goes_ Try.func120 (by kernel_rfl) rfl #[.int .i64 ((rd_T72 l1 x5_1).f1),.int .i64 0,.int .i64 (wrap64 (a0 - 1))] (by rfl) rfl rfl zl ?_
            with_reducible refine (spec_l1In.calls ((rd_T72 l1 x5_1).f1) 0 (wrap64 (a0 - 1)) true _ A7.out).mono ?_
            rintro e w' ⟨rfl,⟨nd,rfl⟩⟩
            refine ⟨_,rfl,?_⟩
            refine hK.out _ _ ⟨((HB.out.cell (World.block_lt_of_cell? w _ hw107_0)).trans hw107_0),((HB.out.cell (World.block_lt_of_cell? w _ hw107_1)).trans hw107_1),((HB.out.cell (World.block_lt_of_cell? w _ hw109_0)).trans hw109_0),((HB.out.cell (World.block_lt_of_cell? w _ hw109_1)).trans hw109_1),((HB.out.cell (World.block_lt_of_cell? w _ hw111_0)).trans hw111_0),((HB.out.cell (World.block_lt_of_cell? w _ hw111_1)).trans hw111_1),((HB.out.cell (World.block_lt_of_cell? w _ hw112_0)).trans hw112_0),((HB.out.cell (World.block_lt_of_cell? w _ hw112_1)).trans hw112_1),((HB.out.cell (World.block_lt_of_cell? w _ hw113_0)).trans hw113_0),((HB.out.cell (World.block_lt_of_cell? w _ hw113_1)).trans hw113_1),((HB.out.cell (World.block_lt_of_cell? w _ hw114_0)).trans hw114_0),((HB.out.cell (World.block_lt_of_cell? w _ hw114_1)).trans hw114_1)⟩ (fun hHeld=>?_)
            clear hK K
            refine norm_ (a':=?_) ?_ ?_
            rotate_left
            ·show Act.put _ (some 29) _=_
             simp only [Act.put,z0_,z1_,z2_,i64_w,i32_w]
             rfl
            refine pure_ (i:=18) (N:=some 30) (v:=?_) (a':=?_) ba19_ rfl rfl (any_of HT_.out (by kernel_rfl)) id3_ (Or.inl ⟨by rfl,?_⟩) ?_ ?_
            rotate_left;(intro w';go_simp;with_reducible rfl)
            rotate_left;(simp only [Act.put,z0_,z1_,z2_,i64_w,i32_w];rfl)
            refine pure_ (i:=19) (N:=some 31) (v:=?_) (a':=?_) ba20_ rfl rfl (any_of HT_.out (by kernel_rfl)) id3_ (Or.inl ⟨by rfl,?_⟩) ?_ ?_
            rotate_left;(intro w';go_simp;with_reducible rfl)
            rotate_left;(simp only [Act.put,z0_,z1_,z2_,i64_w,i32_w];rfl)
            refine pure_ (i:=20) (N:=some 32) (v:=?_) (a':=?_) ba21_ rfl rfl (any_of HT_.out (by kernel_rfl)) id3_ (Or.inl ⟨by rfl,?_⟩) ?_ ?_
            rotate_left;(intro w';go_simp;with_reducible rfl)
            rotate_left;(simp only [Act.put,z0_,z1_,z2_,i64_w,i32_w];rfl)
            refine pure_ (i:=21) (N:=some 33) (v:=?_) (a':=?_) ba22_ rfl rfl (any_of HT_.out (by kernel_rfl)) id3_ (Or.inl ⟨by rfl,?_⟩) ?_ ?_
            rotate_left;(intro w';go_simp;with_reducible rfl)
            rotate_left;(simp only [Act.put,z0_,z1_,z2_,i64_w,i32_w];rfl)
            refine pure_ (i:=22) (N:=some 34) (v:=?_) (a':=?_) ba23_ rfl rfl (any_of HT_.out (by kernel_rfl)) id3_ (Or.inl ⟨by rfl,?_⟩) ?_ ?_
            rotate_left;(intro w';go_simp;with_reducible rfl)
            rotate_left;(simp only [Act.put,z0_,z1_,z2_,i64_w,i32_w];rfl)
            refine pure_ (i:=23) (N:=some 35) (v:=?_) (a':=?_) ba24_ rfl rfl (any_of HT_.out (by kernel_rfl)) id3_ (Or.inl ⟨by rfl,?_⟩) ?_ ?_
            rotate_left;(intro w';go_simp;with_reducible rfl)
            rotate_left;(simp only [Act.put,z0_,z1_,z2_,i64_w,i32_w];rfl)
            refine pure_ (i:=24) (N:=some 36) (v:=?_) (a':=?_) ba25_ rfl rfl (any_of HT_.out (by kernel_rfl)) id3_ (Or.inl ⟨by rfl,?_⟩) ?_ ?_
            rotate_left;(intro w';go_simp;with_reducible rfl)
            rotate_left;(simp only [Act.put,z0_,z1_,z2_,i64_w,i32_w];rfl)
            refine pure_ (i:=26) (N:=some 38) (v:=?_) (a':=?_) ba26_ rfl rfl (any_of HT_.out (by kernel_rfl)) id3_ (Or.inl ⟨by rfl,?_⟩) ?_ ?_
            rotate_left;(intro w';go_simp;with_reducible rfl)
            rotate_left;(simp only [Act.put,z0_,z1_,z2_,i64_w,i32_w];rfl)
            refine pure_ (i:=27) (N:=some 39) (v:=?_) (a':=?_) ba27_ rfl rfl (any_of HT_.out (by kernel_rfl)) id3_ (Or.inl ⟨by rfl,?_⟩) ?_ ?_
            rotate_left;(intro w';go_simp;with_reducible rfl)
            rotate_left;(simp only [Act.put,z0_,z1_,z2_,i64_w,i32_w];rfl)
            refine pure_ (i:=28) (N:=some 40) (v:=?_) (a':=?_) ba28_ rfl rfl (any_of HT_.out (by kernel_rfl)) id3_ (Or.inl ⟨by rfl,?_⟩) ?_ ?_
            rotate_left;(intro w';go_simp;with_reducible rfl)
            rotate_left;(simp only [Act.put,z0_,z1_,z2_,i64_w,i32_w];rfl)
            refine pure_ (i:=29) (N:=some 41) (v:=?_) (a':=?_) ba29_ rfl rfl (any_of HT_.out (by kernel_rfl)) id3_ (Or.inl ⟨by rfl,?_⟩) ?_ ?_
            rotate_left;(intro w';go_simp;with_reducible rfl)
            rotate_left;(simp only [Act.put,z0_,z1_,z2_,i64_w,i32_w];rfl)
            refine take_ (i:=25) (N:=some 37) (v:=?_) (a':=?_) ba30_ rfl rfl (take_ofW HT_.out HW_.out (by kernel_rfl)) id3_ (Or.inl ⟨by rfl,?_⟩) hHeld ?_ ?_
            rotate_left
            ·rintro w' ⟨s0,s1,s2,s3,s4,s5,s6,s7,s8,s9,s10,s11⟩
             go_simp
             with_reducible rfl
            rotate_left;(simp only [Act.put,z0_,z1_,z2_,i64_w,i32_w];rfl)
            refine take_ (i:=30) (N:=some 42) (v:=?_) (a':=?_) ba31_ rfl rfl (take_ofW HT_.out HW_.out (by kernel_rfl)) id3_ (Or.inl ⟨by rfl,?_⟩) hHeld ?_ ?_
            rotate_left
            ·rintro w' ⟨s0,s1,s2,s3,s4,s5,s6,s7,s8,s9,s10,s11⟩
             go_simp
             with_reducible rfl
            rotate_left;(simp only [Act.put,z0_,z1_,z2_,i64_w,i32_w];rfl)
            refine pure_ (i:=31) (N:=some 43) (v:=?_) (a':=?_) ba32_ rfl rfl (any_of HT_.out (by kernel_rfl)) id3_ (Or.inl ⟨by rfl,?_⟩) ?_ ?_
            rotate_left;(intro w';go_simp;with_reducible rfl)
            rotate_left;(simp only [Act.put,z0_,z1_,z2_,i64_w,i32_w];rfl)
            refine pure_ (i:=32) (N:=some 44) (v:=?_) (a':=?_) ba33_ rfl rfl (any_of HT_.out (by kernel_rfl)) id3_ (Or.inl ⟨by rfl,?_⟩) ?_ ?_
            rotate_left;(intro w';go_simp;with_reducible rfl)
            rotate_left;(simp only [Act.put,z0_,z1_,z2_,i64_w,i32_w];rfl)
            refine pure_ (i:=33) (N:=some 45) (v:=?_) (a':=?_) ba34_ rfl rfl (any_of HT_.out (by kernel_rfl)) id3_ (Or.inl ⟨by rfl,?_⟩) ?_ ?_
            rotate_left;(intro w';go_simp;with_reducible rfl)
            rotate_left;(simp only [Act.put,z0_,z1_,z2_,i64_w,i32_w];rfl)
            refine pure_ (i:=34) (N:=some 46) (v:=?_) (a':=?_) ba35_ rfl rfl (any_of HT_.out (by kernel_rfl)) id3_ (Or.inl ⟨by rfl,?_⟩) ?_ ?_
            rotate_left;(intro w';go_simp;with_reducible rfl)
            rotate_left;(simp only [Act.put,z0_,z1_,z2_,i64_w,i32_w];rfl)
            refine pure_ (i:=35) (N:=some 47) (v:=?_) (a':=?_) ba36_ rfl rfl (any_of HT_.out (by kernel_rfl)) id3_ (Or.inl ⟨by rfl,?_⟩) ?_ ?_
            rotate_left;(intro w';go_simp;with_reducible rfl)
            rotate_left;(simp only [Act.put,z0_,z1_,z2_,i64_w,i32_w];rfl)
            refine pure_ (i:=36) (N:=some 48) (v:=?_) (a':=?_) ba37_ rfl rfl (any_of HT_.out (by kernel_rfl)) id3_ (Or.inl ⟨by rfl,?_⟩) ?_ ?_
            rotate_left;(intro w';go_simp;with_reducible rfl)
            rotate_left;(simp only [Act.put,z0_,z1_,z2_,i64_w,i32_w];rfl)
            refine pure_ (i:=37) (N:=some 49) (v:=?_) (a':=?_) ba38_ rfl rfl (any_of HT_.out (by kernel_rfl)) id3_ (Or.inl ⟨by rfl,?_⟩) ?_ ?_
            rotate_left;(intro w';go_simp;with_reducible rfl)
            rotate_left;(simp only [Act.put,z0_,z1_,z2_,i64_w,i32_w];rfl)
            refine pure_ (i:=38) (N:=some 50) (v:=?_) (a':=?_) ba39_ rfl rfl (any_of HT_.out (by kernel_rfl)) id3_ (Or.inl ⟨by rfl,?_⟩) ?_ ?_
            rotate_left;(intro w';go_simp;with_reducible rfl)
            rotate_left;(simp only [Act.put,z0_,z1_,z2_,i64_w,i32_w];rfl)
            refine pure_ (i:=39) (N:=some 51) (v:=?_) (a':=?_) ba40_ rfl rfl (any_of HT_.out (by kernel_rfl)) id3_ (Or.inl ⟨by rfl,?_⟩) ?_ ?_
            rotate_left;(intro w';go_simp;with_reducible rfl)
            rotate_left;(simp only [Act.put,z0_,z1_,z2_,i64_w,i32_w];rfl)
            refine pure_ (i:=40) (N:=some 52) (v:=?_) (a':=?_) ba41_ rfl rfl (any_of HT_.out (by kernel_rfl)) id3_ (Or.inl ⟨by rfl,?_⟩) ?_ ?_
            rotate_left;(intro w';go_simp;with_reducible rfl)
            rotate_left;(simp only [Act.put,z0_,z1_,z2_,i64_w,i32_w];rfl)
            refine pure_ (i:=42) (N:=some 54) (v:=?_) (a':=?_) ba51_ rfl rfl (any_of HT_.out (by kernel_rfl)) id3_ (Or.inl ⟨by rfl,?_⟩) ?_ ?_
            rotate_left;(intro w';go_simp;with_reducible rfl)
            rotate_left;(simp only [Act.put,z0_,z1_,z2_,i64_w,i32_w];rfl)
            refine pure_ (i:=43) (N:=some 55) (v:=?_) (a':=?_) ba52_ rfl rfl (any_of HT_.out (by kernel_rfl)) id3_ (Or.inl ⟨by rfl,?_⟩) ?_ ?_
            rotate_left;(intro w';go_simp;with_reducible rfl)
            rotate_left;(simp only [Act.put,z0_,z1_,z2_,i64_w,i32_w];rfl)
            refine pure_ (i:=44) (N:=some 56) (v:=?_) (a':=?_) ba53_ rfl rfl (any_of HT_.out (by kernel_rfl)) id3_ (Or.inl ⟨by rfl,?_⟩) ?_ ?_
            rotate_left;(intro w';go_simp;with_reducible rfl)
            rotate_left;(simp only [Act.put,z0_,z1_,z2_,i64_w,i32_w];rfl)
            refine take_ (i:=41) (N:=some 53) (v:=?_) (a':=?_) ba45_ rfl rfl (take_ofW HT_.out HW_.out (by kernel_rfl)) id3_ (Or.inl ⟨by rfl,?_⟩) hHeld ?_ ?_
            rotate_left
            ·rintro w' ⟨s0,s1,s2,s3,s4,s5,s6,s7,s8,s9,s10,s11⟩
             go_simp
             with_reducible rfl
            rotate_left;(simp only [Act.put,z0_,z1_,z2_,i64_w,i32_w];rfl)
            refine take_ (i:=45) (N:=some 57) (v:=?_) (a':=?_) ba46_ rfl rfl (take_ofW HT_.out HW_.out (by kernel_rfl)) id3_ (Or.inl ⟨by rfl,?_⟩) hHeld ?_ ?_
            rotate_left
            ·rintro w' ⟨s0,s1,s2,s3,s4,s5,s6,s7,s8,s9,s10,s11⟩
             go_simp
             with_reducible rfl
            rotate_left;(simp only [Act.put,z0_,z1_,z2_,i64_w,i32_w];rfl)
            refine one_ (i:=46) (N:=some 58) ba47_ rfl rfl (one_of HT_.out (by kernel_rfl)) (by decide) (fun K hK=>?_)
            refine goes_ Try.func156 (by kernel_rfl) rfl #[.agg #[.int .i64 ((rd_T72 l1 (ji12)).f0),.int .i64 ((rd_T72 l1 (ji12)).f1)],.agg #[.int .i64 ((rd_T72 l1 x5_1).f0),.int .i64 ((rd_T72 l1 x5_1).f1)]] (by rfl) rfl rfl (by (try simp only [List.map_toArray,List.map_cons,List.map_nil]);first|done|(simp only [hji12];rfl)|rfl|(simp only [List.length_drop,List.length_take];rfl)) ?_
            with_reducible refine (spec_l4Before.calls ((rd_T72 l1 (ji12)).f0) ((rd_T72 l1 (ji12)).f1) ((rd_T72 l1 x5_1).f0) ((rd_T72 l1 x5_1).f1) false _ A15.out).mono ?_
            rintro e w20 ⟨rfl,hb⟩
            refine ⟨_,rfl,?_⟩
            replace HB:=Aside0.mk (below_step zb hb)
            (try clear hb)
            (try clear hb2)
            (try clear hk)
            (try clear hi)
            refine hK.out _ _ ⟨((HB.out.cell (World.block_lt_of_cell? w _ hw107_0)).trans hw107_0),((HB.out.cell (World.block_lt_of_cell? w _ hw107_1)).trans hw107_1),((HB.out.cell (World.block_lt_of_cell? w _ hw109_0)).trans hw109_0),((HB.out.cell (World.block_lt_of_cell? w _ hw109_1)).trans hw109_1),((HB.out.cell (World.block_lt_of_cell? w _ hw111_0)).trans hw111_0),((HB.out.cell (World.block_lt_of_cell? w _ hw111_1)).trans hw111_1),((HB.out.cell (World.block_lt_of_cell? w _ hw112_0)).trans hw112_0),((HB.out.cell (World.block_lt_of_cell? w _ hw112_1)).trans hw112_1),((HB.out.cell (World.block_lt_of_cell? w _ hw113_0)).trans hw113_0),((HB.out.cell (World.block_lt_of_cell? w _ hw113_1)).trans hw113_1),((HB.out.cell (World.block_lt_of_cell? w _ hw114_0)).trans hw114_0),((HB.out.cell (World.block_lt_of_cell? w _ hw114_1)).trans hw114_1)⟩ (fun hHeld=>?_)
            clear hK K
            refine norm_ (a':=?_) ?_ ?_
            rotate_left
            ·show Act.put _ (some 58) _=_
             simp only [Act.put,z0_,z1_,z2_,i64_w,i32_w]
             rfl
            refine pure_ (i:=47) (N:=some 59) (v:=?_) (a':=?_) ba48_ rfl rfl (any_of HT_.out (by kernel_rfl)) id3_ (Or.inl ⟨by rfl,?_⟩) ?_ ?_
            rotate_left;(intro w';go_simp;with_reducible rfl)
            rotate_left;(simp only [Act.put,z0_,z1_,z2_,i64_w,i32_w];rfl)
            refine pure_ (i:=48) (N:=some 60) (v:=?_) (a':=?_) ba49_ rfl rfl (any_of HT_.out (by kernel_rfl)) id3_ (Or.inl ⟨by rfl,?_⟩) ?_ ?_
            rotate_left;(intro w';go_simp;with_reducible rfl)
            rotate_left;(simp only [Act.put,z0_,z1_,z2_,i64_w,i32_w];rfl)
            refine pure_ (i:=49) (N:=some 61) (v:=?_) (a':=?_) ba50_ rfl rfl (any_of HT_.out (by kernel_rfl)) id3_ (Or.inl ⟨by rfl,?_⟩) ?_ ?_
            rotate_left;(intro w';go_simp;with_reducible rfl)
            rotate_left;(simp only [Act.put,z0_,z1_,z2_,i64_w,i32_w];rfl)
            refine done_ (done_of HT_.out (by kernel_rfl)) ?_
            try go_wp2
            go_ret
            exact ⟨by first|rfl|(simp [errW_none,errW_some] <;> rfl)|(simp only [←hji12];first|rfl|(simp [errW_none,errW_some] <;> rfl))|(simp [*,errW_none,errW_some] <;> rfl),zb⟩
          ·rw [if_neg c14] at H
           exact absurd H (by simp)
         ·rw [if_neg c13] at H
          exact absurd H (by simp)
        ·rw [if_neg c11] at H
         have c11b0:decide (0<x5_1)=false:=decide_eq_false c11
         clear c11
         have H':=Aside0.mk H
         clear H
         try go_wp2
         replace HB:=Aside0.mk (below_drew1 HB.out)
         have p107:0≤(x5_1:Int):=of_decide_eq_true za
         have q107:x5_1<(l1.length:Int):=of_decide_eq_true za
         obtain ⟨ad107,e107,hx107_0,hx107_1⟩:=at_T72 HR1.out x5_1 p107 q107
         have hw107_1:=hx107_1
         have hw107_0:=hx107_0
         cases e107
         replace hx107_0:=(HB.out.cell (World.block_lt_of_cell? w _ hx107_0)).trans hx107_0
         replace hx107_1:=(HB.out.cell (World.block_lt_of_cell? w _ hx107_1)).trans hx107_1
         replace p107:=eq_true p107
         replace q107:=eq_true q107
         have p109:0≤(x5_1:Int):=of_decide_eq_true za
         have q109:x5_1<(l1.length:Int):=of_decide_eq_true za
         obtain ⟨ad109,e109,hx109_0,hx109_1⟩:=at_T72 HR1.out x5_1 p109 q109
         have hw109_1:=hx109_1
         have hw109_0:=hx109_0
         obtain rfl:ad107=ad109:=(by injection e109)
         replace hx109_0:=(HB.out.cell (World.block_lt_of_cell? w _ hx109_0)).trans hx109_0
         replace hx109_1:=(HB.out.cell (World.block_lt_of_cell? w _ hx109_1)).trans hx109_1
         replace p109:=eq_true p109
         replace q109:=eq_true q109
         have p111:0≤(x5_1:Int):=of_decide_eq_true za
         have q111:x5_1<(l1.length:Int):=of_decide_eq_true za
         obtain ⟨ad111,e111,hx111_0,hx111_1⟩:=at_T72 HR1.out x5_1 p111 q111
         have hw111_1:=hx111_1
         have hw111_0:=hx111_0
         obtain rfl:ad107=ad111:=(by injection e111)
         replace hx111_0:=(HB.out.cell (World.block_lt_of_cell? w _ hx111_0)).trans hx111_0
         replace hx111_1:=(HB.out.cell (World.block_lt_of_cell? w _ hx111_1)).trans hx111_1
         replace p111:=eq_true p111
         replace q111:=eq_true q111
         have p112:0≤(x5_1:Int):=of_decide_eq_true za
         have q112:x5_1<(l1.length:Int):=of_decide_eq_true za
         obtain ⟨ad112,e112,hx112_0,hx112_1⟩:=at_T72 HR1.out x5_1 p112 q112
         have hw112_1:=hx112_1
         have hw112_0:=hx112_0
         obtain rfl:ad107=ad112:=(by injection e112)
         replace hx112_0:=(HB.out.cell (World.block_lt_of_cell? w _ hx112_0)).trans hx112_0
         replace hx112_1:=(HB.out.cell (World.block_lt_of_cell? w _ hx112_1)).trans hx112_1
         replace p112:=eq_true p112
         replace q112:=eq_true q112
         refine start_ (n:=50) (S:=fun w'=>w'.cell? (ad107.add ((x5_1).toNat * 2))=some (.int .i64 ((rd_T72 l1 x5_1).f0))∧w'.cell? ⟨(ad107.add ((x5_1).toNat * 2)).block,(ad107.add ((x5_1).toNat * 2)).off + 1,none⟩=some (.int .i64 ((rd_T72 l1 x5_1).f1))∧w'.cell? (ad107.add ((x5_1).toNat * 2))=some (.int .i64 ((rd_T72 l1 x5_1).f0))∧w'.cell? ⟨(ad107.add ((x5_1).toNat * 2)).block,(ad107.add ((x5_1).toNat * 2)).off + 1,none⟩=some (.int .i64 ((rd_T72 l1 x5_1).f1))∧w'.cell? (ad107.add ((x5_1).toNat * 2))=some (.int .i64 ((rd_T72 l1 x5_1).f0))∧w'.cell? ⟨(ad107.add ((x5_1).toNat * 2)).block,(ad107.add ((x5_1).toNat * 2)).off + 1,none⟩=some (.int .i64 ((rd_T72 l1 x5_1).f1))∧w'.cell? (ad107.add ((x5_1).toNat * 2))=some (.int .i64 ((rd_T72 l1 x5_1).f0))∧w'.cell? ⟨(ad107.add ((x5_1).toNat * 2)).block,(ad107.add ((x5_1).toNat * 2)).off + 1,none⟩=some (.int .i64 ((rd_T72 l1 x5_1).f1))) (ds:=[]) ba0_ (by kernel_rfl) rfl rfl ⟨((HB.out.cell (World.block_lt_of_cell? w _ hw107_0)).trans hw107_0),((HB.out.cell (World.block_lt_of_cell? w _ hw107_1)).trans hw107_1),((HB.out.cell (World.block_lt_of_cell? w _ hw109_0)).trans hw109_0),((HB.out.cell (World.block_lt_of_cell? w _ hw109_1)).trans hw109_1),((HB.out.cell (World.block_lt_of_cell? w _ hw111_0)).trans hw111_0),((HB.out.cell (World.block_lt_of_cell? w _ hw111_1)).trans hw111_1),((HB.out.cell (World.block_lt_of_cell? w _ hw112_0)).trans hw112_0),((HB.out.cell (World.block_lt_of_cell? w _ hw112_1)).trans hw112_1)⟩ (fun hHeld=>?_);refine with_tabW spec_l4Pairs.tab4 spec_l4Pairs.bits4 (fun HT_ HW_=>?_)
         generalize wr.drew=w21 at HB hx107_0 hx107_1 hx109_0 hx109_1 hx111_0 hx111_1 hx112_0 hx112_1 hHeld ⊢
         refine pure_ (i:=0) (N:=some 12) (v:=?_) (a':=?_) ba1_ rfl rfl (any_of HT_.out (by kernel_rfl)) id3_ (Or.inl ⟨by rfl,?_⟩) ?_ ?_
         rotate_left;(intro w';go_simp;with_reducible rfl)
         rotate_left;(simp only [Act.put,z0_,z1_,z2_,i64_w,i32_w];rfl)
         refine pure_ (i:=1) (N:=some 13) (v:=?_) (a':=?_) ba2_ rfl rfl (any_of HT_.out (by kernel_rfl)) id3_ (Or.inl ⟨by rfl,?_⟩) ?_ ?_
         rotate_left;(intro w';go_simp;with_reducible rfl)
         rotate_left;(simp only [Act.put,z0_,z1_,z2_,i64_w,i32_w];rfl)
         refine pure_ (i:=2) (N:=some 14) (v:=?_) (a':=?_) ba3_ rfl rfl (any_of HT_.out (by kernel_rfl)) id3_ (Or.inl ⟨by rfl,?_⟩) ?_ ?_
         rotate_left;(intro w';go_simp;with_reducible rfl)
         rotate_left;(simp only [Act.put,z0_,z1_,z2_,i64_w,i32_w];rfl)
         refine pure_ (i:=3) (N:=some 15) (v:=?_) (a':=?_) ba4_ rfl rfl (any_of HT_.out (by kernel_rfl)) id3_ (Or.inl ⟨by rfl,?_⟩) ?_ ?_
         rotate_left;(intro w';go_simp;with_reducible rfl)
         rotate_left;(simp only [Act.put,z0_,z1_,z2_,i64_w,i32_w];rfl)
         refine pure_ (i:=5) (N:=some 17) (v:=?_) (a':=?_) ba5_ rfl rfl (any_of HT_.out (by kernel_rfl)) id3_ (Or.inl ⟨by rfl,?_⟩) ?_ ?_
         rotate_left;(intro w';go_simp;with_reducible rfl)
         rotate_left;(simp only [Act.put,z0_,z1_,z2_,i64_w,i32_w];rfl)
         refine pure_ (i:=6) (N:=some 18) (v:=?_) (a':=?_) ba6_ rfl rfl (any_of HT_.out (by kernel_rfl)) id3_ (Or.inl ⟨by rfl,?_⟩) ?_ ?_
         rotate_left;(intro w';go_simp;with_reducible rfl)
         rotate_left;(simp only [Act.put,z0_,z1_,z2_,i64_w,i32_w];rfl)
         refine take_ (i:=4) (N:=some 16) (v:=?_) (a':=?_) ba7_ rfl rfl (take_ofW HT_.out HW_.out (by kernel_rfl)) id3_ (Or.inl ⟨by rfl,?_⟩) hHeld ?_ ?_
         rotate_left
         ·rintro w' ⟨s0,s1,s2,s3,s4,s5,s6,s7⟩
          go_simp
          with_reducible rfl
         rotate_left;(simp only [Act.put,z0_,z1_,z2_,i64_w,i32_w];rfl)
         refine one_ (i:=7) (N:=some 19) ba8_ rfl rfl (one_of HT_.out (by kernel_rfl)) (by decide) (fun K hK=>?_)
         refine goes_ Try.func120 (by kernel_rfl) rfl #[.int .i64 ((rd_T72 l1 x5_1).f0),.int .i64 0,.int .i64 (wrap64 (a0 - 1))] (by rfl) rfl rfl zl ?_
         with_reducible refine (spec_l1In.calls ((rd_T72 l1 x5_1).f0) 0 (wrap64 (a0 - 1)) true _ A5.out).mono ?_
         rintro e w' ⟨rfl,⟨nd,rfl⟩⟩
         refine ⟨_,rfl,?_⟩
         refine hK.out _ _ ⟨((HB.out.cell (World.block_lt_of_cell? w _ hw107_0)).trans hw107_0),((HB.out.cell (World.block_lt_of_cell? w _ hw107_1)).trans hw107_1),((HB.out.cell (World.block_lt_of_cell? w _ hw109_0)).trans hw109_0),((HB.out.cell (World.block_lt_of_cell? w _ hw109_1)).trans hw109_1),((HB.out.cell (World.block_lt_of_cell? w _ hw111_0)).trans hw111_0),((HB.out.cell (World.block_lt_of_cell? w _ hw111_1)).trans hw111_1),((HB.out.cell (World.block_lt_of_cell? w _ hw112_0)).trans hw112_0),((HB.out.cell (World.block_lt_of_cell? w _ hw112_1)).trans hw112_1)⟩ (fun hHeld=>?_)
         clear hK K
         refine norm_ (a':=?_) ?_ ?_
         rotate_left
         ·show Act.put _ (some 19) _=_
          simp only [Act.put,z0_,z1_,z2_,i64_w,i32_w]
          rfl
         refine pure_ (i:=8) (N:=some 20) (v:=?_) (a':=?_) ba9_ rfl rfl (any_of HT_.out (by kernel_rfl)) id3_ (Or.inl ⟨by rfl,?_⟩) ?_ ?_
         rotate_left;(intro w';go_simp;with_reducible rfl)
         rotate_left;(simp only [Act.put,z0_,z1_,z2_,i64_w,i32_w];rfl)
         refine pure_ (i:=9) (N:=some 21) (v:=?_) (a':=?_) ba10_ rfl rfl (any_of HT_.out (by kernel_rfl)) id3_ (Or.inl ⟨by rfl,?_⟩) ?_ ?_
         rotate_left;(intro w';go_simp;with_reducible rfl)
         rotate_left;(simp only [Act.put,z0_,z1_,z2_,i64_w,i32_w];rfl)
         refine pure_ (i:=10) (N:=some 22) (v:=?_) (a':=?_) ba11_ rfl rfl (any_of HT_.out (by kernel_rfl)) id3_ (Or.inl ⟨by rfl,?_⟩) ?_ ?_
         rotate_left;(intro w';go_simp;with_reducible rfl)
         rotate_left;(simp only [Act.put,z0_,z1_,z2_,i64_w,i32_w];rfl)
         refine pure_ (i:=11) (N:=some 23) (v:=?_) (a':=?_) ba12_ rfl rfl (any_of HT_.out (by kernel_rfl)) id3_ (Or.inl ⟨by rfl,?_⟩) ?_ ?_
         rotate_left;(intro w';go_simp;with_reducible rfl)
         rotate_left;(simp only [Act.put,z0_,z1_,z2_,i64_w,i32_w];rfl)
         refine pure_ (i:=12) (N:=some 24) (v:=?_) (a':=?_) ba13_ rfl rfl (any_of HT_.out (by kernel_rfl)) id3_ (Or.inl ⟨by rfl,?_⟩) ?_ ?_
         rotate_left;(intro w';go_simp;with_reducible rfl)
         rotate_left;(simp only [Act.put,z0_,z1_,z2_,i64_w,i32_w];rfl)
         refine pure_ (i:=13) (N:=some 25) (v:=?_) (a':=?_) ba14_ rfl rfl (any_of HT_.out (by kernel_rfl)) id3_ (Or.inl ⟨by rfl,?_⟩) ?_ ?_
         rotate_left;(intro w';go_simp;with_reducible rfl)
         rotate_left;(simp only [Act.put,z0_,z1_,z2_,i64_w,i32_w];rfl)
         refine pure_ (i:=15) (N:=some 27) (v:=?_) (a':=?_) ba15_ rfl rfl (any_of HT_.out (by kernel_rfl)) id3_ (Or.inl ⟨by rfl,?_⟩) ?_ ?_
         rotate_left;(intro w';go_simp;with_reducible rfl)
         rotate_left;(simp only [Act.put,z0_,z1_,z2_,i64_w,i32_w];rfl)
         refine pure_ (i:=16) (N:=some 28) (v:=?_) (a':=?_) ba16_ rfl rfl (any_of HT_.out (by kernel_rfl)) id3_ (Or.inl ⟨by rfl,?_⟩) ?_ ?_
         rotate_left;(intro w';go_simp;with_reducible rfl)
         rotate_left;(simp only [Act.put,z0_,z1_,z2_,i64_w,i32_w];rfl)
         refine take_ (i:=14) (N:=some 26) (v:=?_) (a':=?_) ba17_ rfl rfl (take_ofW HT_.out HW_.out (by kernel_rfl)) id3_ (Or.inl ⟨by rfl,?_⟩) hHeld ?_ ?_
         rotate_left
         ·rintro w' ⟨s0,s1,s2,s3,s4,s5,s6,s7⟩
          go_simp
          with_reducible rfl
         rotate_left;(simp only [Act.put,z0_,z1_,z2_,i64_w,i32_w];rfl)
         refine one_ (i:=17) (N:=some 29) ba18_ rfl rfl (one_of HT_.out (by kernel_rfl)) (by decide) (fun K hK=>?_)
         refine goes_ Try.func120 (by kernel_rfl) rfl #[.int .i64 ((rd_T72 l1 x5_1).f1),.int .i64 0,.int .i64 (wrap64 (a0 - 1))] (by rfl) rfl rfl zl ?_
         with_reducible refine (spec_l1In.calls ((rd_T72 l1 x5_1).f1) 0 (wrap64 (a0 - 1)) true _ A7.out).mono ?_
         rintro e w' ⟨rfl,⟨nd,rfl⟩⟩
         refine ⟨_,rfl,?_⟩
         refine hK.out _ _ ⟨((HB.out.cell (World.block_lt_of_cell? w _ hw107_0)).trans hw107_0),((HB.out.cell (World.block_lt_of_cell? w _ hw107_1)).trans hw107_1),((HB.out.cell (World.block_lt_of_cell? w _ hw109_0)).trans hw109_0),((HB.out.cell (World.block_lt_of_cell? w _ hw109_1)).trans hw109_1),((HB.out.cell (World.block_lt_of_cell? w _ hw111_0)).trans hw111_0),((HB.out.cell (World.block_lt_of_cell? w _ hw111_1)).trans hw111_1),((HB.out.cell (World.block_lt_of_cell? w _ hw112_0)).trans hw112_0),((HB.out.cell (World.block_lt_of_cell? w _ hw112_1)).trans hw112_1)⟩ (fun hHeld=>?_)
         clear hK K
         refine norm_ (a':=?_) ?_ ?_
         rotate_left
         ·show Act.put _ (some 29) _=_
          simp only [Act.put,z0_,z1_,z2_,i64_w,i32_w]
          rfl
         refine pure_ (i:=18) (N:=some 30) (v:=?_) (a':=?_) ba19_ rfl rfl (any_of HT_.out (by kernel_rfl)) id3_ (Or.inl ⟨by rfl,?_⟩) ?_ ?_
         rotate_left;(intro w';go_simp;with_reducible rfl)
         rotate_left;(simp only [Act.put,z0_,z1_,z2_,i64_w,i32_w];rfl)
         refine pure_ (i:=19) (N:=some 31) (v:=?_) (a':=?_) ba20_ rfl rfl (any_of HT_.out (by kernel_rfl)) id3_ (Or.inl ⟨by rfl,?_⟩) ?_ ?_
         rotate_left;(intro w';go_simp;with_reducible rfl)
         rotate_left;(simp only [Act.put,z0_,z1_,z2_,i64_w,i32_w];rfl)
         refine pure_ (i:=20) (N:=some 32) (v:=?_) (a':=?_) ba21_ rfl rfl (any_of HT_.out (by kernel_rfl)) id3_ (Or.inl ⟨by rfl,?_⟩) ?_ ?_
         rotate_left;(intro w';go_simp;with_reducible rfl)
         rotate_left;(simp only [Act.put,z0_,z1_,z2_,i64_w,i32_w];rfl)
         refine pure_ (i:=21) (N:=some 33) (v:=?_) (a':=?_) ba22_ rfl rfl (any_of HT_.out (by kernel_rfl)) id3_ (Or.inl ⟨by rfl,?_⟩) ?_ ?_
         rotate_left;(intro w';go_simp;with_reducible rfl)
         rotate_left;(simp only [Act.put,z0_,z1_,z2_,i64_w,i32_w];rfl)
         refine pure_ (i:=22) (N:=some 34) (v:=?_) (a':=?_) ba23_ rfl rfl (any_of HT_.out (by kernel_rfl)) id3_ (Or.inl ⟨by rfl,?_⟩) ?_ ?_
         rotate_left;(intro w';go_simp;with_reducible rfl)
         rotate_left;(simp only [Act.put,z0_,z1_,z2_,i64_w,i32_w];rfl)
         refine pure_ (i:=23) (N:=some 35) (v:=?_) (a':=?_) ba24_ rfl rfl (any_of HT_.out (by kernel_rfl)) id3_ (Or.inl ⟨by rfl,?_⟩) ?_ ?_
         rotate_left;(intro w';go_simp;with_reducible rfl)
         rotate_left;(simp only [Act.put,z0_,z1_,z2_,i64_w,i32_w];rfl)
         refine pure_ (i:=24) (N:=some 36) (v:=?_) (a':=?_) ba25_ rfl rfl (any_of HT_.out (by kernel_rfl)) id3_ (Or.inl ⟨by rfl,?_⟩) ?_ ?_
         rotate_left;(intro w';go_simp;with_reducible rfl)
         rotate_left;(simp only [Act.put,z0_,z1_,z2_,i64_w,i32_w];rfl)
         refine pure_ (i:=26) (N:=some 38) (v:=?_) (a':=?_) ba26_ rfl rfl (any_of HT_.out (by kernel_rfl)) id3_ (Or.inl ⟨by rfl,?_⟩) ?_ ?_
         rotate_left;(intro w';go_simp;with_reducible rfl)
         rotate_left;(simp only [Act.put,z0_,z1_,z2_,i64_w,i32_w];rfl)
         refine pure_ (i:=27) (N:=some 39) (v:=?_) (a':=?_) ba27_ rfl rfl (any_of HT_.out (by kernel_rfl)) id3_ (Or.inl ⟨by rfl,?_⟩) ?_ ?_
         rotate_left;(intro w';go_simp;with_reducible rfl)
         rotate_left;(simp only [Act.put,z0_,z1_,z2_,i64_w,i32_w];rfl)
         refine pure_ (i:=28) (N:=some 40) (v:=?_) (a':=?_) ba28_ rfl rfl (any_of HT_.out (by kernel_rfl)) id3_ (Or.inl ⟨by rfl,?_⟩) ?_ ?_
         rotate_left;(intro w';go_simp;with_reducible rfl)
         rotate_left;(simp only [Act.put,z0_,z1_,z2_,i64_w,i32_w];rfl)
         refine pure_ (i:=29) (N:=some 41) (v:=?_) (a':=?_) ba29_ rfl rfl (any_of HT_.out (by kernel_rfl)) id3_ (Or.inl ⟨by rfl,?_⟩) ?_ ?_
         rotate_left;(intro w';go_simp;with_reducible rfl)
         rotate_left;(simp only [Act.put,z0_,z1_,z2_,i64_w,i32_w];rfl)
         refine take_ (i:=25) (N:=some 37) (v:=?_) (a':=?_) ba30_ rfl rfl (take_ofW HT_.out HW_.out (by kernel_rfl)) id3_ (Or.inl ⟨by rfl,?_⟩) hHeld ?_ ?_
         rotate_left
         ·rintro w' ⟨s0,s1,s2,s3,s4,s5,s6,s7⟩
          go_simp
          with_reducible rfl
         rotate_left;(simp only [Act.put,z0_,z1_,z2_,i64_w,i32_w];rfl)
         refine take_ (i:=30) (N:=some 42) (v:=?_) (a':=?_) ba31_ rfl rfl (take_ofW HT_.out HW_.out (by kernel_rfl)) id3_ (Or.inl ⟨by rfl,?_⟩) hHeld ?_ ?_
         rotate_left
         ·rintro w' ⟨s0,s1,s2,s3,s4,s5,s6,s7⟩
          go_simp
          with_reducible rfl
         rotate_left;(simp only [Act.put,z0_,z1_,z2_,i64_w,i32_w];rfl)
         refine pure_ (i:=31) (N:=some 43) (v:=?_) (a':=?_) ba32_ rfl rfl (any_of HT_.out (by kernel_rfl)) id3_ (Or.inl ⟨by rfl,?_⟩) ?_ ?_
         rotate_left;(intro w';go_simp;with_reducible rfl)
         rotate_left;(simp only [Act.put,z0_,z1_,z2_,i64_w,i32_w];rfl)
         refine pure_ (i:=32) (N:=some 44) (v:=?_) (a':=?_) ba33_ rfl rfl (any_of HT_.out (by kernel_rfl)) id3_ (Or.inl ⟨by rfl,?_⟩) ?_ ?_
         rotate_left;(intro w';go_simp;with_reducible rfl)
         rotate_left;(simp only [Act.put,z0_,z1_,z2_,i64_w,i32_w];rfl)
         refine pure_ (i:=33) (N:=some 45) (v:=?_) (a':=?_) ba34_ rfl rfl (any_of HT_.out (by kernel_rfl)) id3_ (Or.inl ⟨by rfl,?_⟩) ?_ ?_
         rotate_left;(intro w';go_simp;with_reducible rfl)
         rotate_left;(simp only [Act.put,z0_,z1_,z2_,i64_w,i32_w];rfl)
         refine pure_ (i:=34) (N:=some 46) (v:=?_) (a':=?_) ba35_ rfl rfl (any_of HT_.out (by kernel_rfl)) id3_ (Or.inl ⟨by rfl,?_⟩) ?_ ?_
         rotate_left;(intro w';go_simp;with_reducible rfl)
         rotate_left;(simp only [Act.put,z0_,z1_,z2_,i64_w,i32_w];rfl)
         refine pure_ (i:=35) (N:=some 47) (v:=?_) (a':=?_) ba36_ rfl rfl (any_of HT_.out (by kernel_rfl)) id3_ (Or.inl ⟨by rfl,?_⟩) ?_ ?_
         rotate_left;(intro w';go_simp;with_reducible rfl)
         rotate_left;(simp only [Act.put,z0_,z1_,z2_,i64_w,i32_w];rfl)
         refine pure_ (i:=36) (N:=some 48) (v:=?_) (a':=?_) ba37_ rfl rfl (any_of HT_.out (by kernel_rfl)) id3_ (Or.inl ⟨by rfl,?_⟩) ?_ ?_
         rotate_left;(intro w';go_simp;with_reducible rfl)
         rotate_left;(simp only [Act.put,z0_,z1_,z2_,i64_w,i32_w];rfl)
         refine pure_ (i:=37) (N:=some 49) (v:=undef) (a':=?_) ba38_ rfl rfl (any_of HT_.out (by kernel_rfl)) id3_ (Or.inr ⟨by rfl,rfl⟩) ?_ ?_
         rotate_left;(simp only [Act.put,z0_,z1_,z2_,i64_w,i32_w];rfl)
         refine pure_ (i:=38) (N:=some 50) (v:=undef) (a':=?_) ba39_ rfl rfl (any_of HT_.out (by kernel_rfl)) id3_ (Or.inr ⟨by rfl,rfl⟩) ?_ ?_
         rotate_left;(simp only [Act.put,z0_,z1_,z2_,i64_w,i32_w];rfl)
         refine pure_ (i:=39) (N:=some 51) (v:=undef) (a':=?_) ba40_ rfl rfl (any_of HT_.out (by kernel_rfl)) id3_ (Or.inr ⟨by rfl,rfl⟩) ?_ ?_
         rotate_left;(simp only [Act.put,z0_,z1_,z2_,i64_w,i32_w];rfl)
         refine pure_ (i:=40) (N:=some 52) (v:=undef) (a':=?_) ba41_ rfl rfl (any_of HT_.out (by kernel_rfl)) id3_ (Or.inr ⟨by rfl,rfl⟩) ?_ ?_
         rotate_left;(simp only [Act.put,z0_,z1_,z2_,i64_w,i32_w];rfl)
         refine pure_ (i:=41) (N:=some 53) (v:=undef) (a':=?_) ba42_ rfl rfl (any_of HT_.out (by kernel_rfl)) id3_ (Or.inr ⟨by rfl,rfl⟩) ?_ ?_
         rotate_left;(simp only [Act.put,z0_,z1_,z2_,i64_w,i32_w];rfl)
         refine pure_ (i:=42) (N:=some 54) (v:=undef) (a':=?_) ba43_ rfl rfl (any_of HT_.out (by kernel_rfl)) id3_ (Or.inr ⟨by rfl,rfl⟩) ?_ ?_
         rotate_left;(simp only [Act.put,z0_,z1_,z2_,i64_w,i32_w];rfl)
         refine pure_ (i:=43) (N:=some 55) (v:=undef) (a':=?_) ba44_ rfl rfl (any_of HT_.out (by kernel_rfl)) id3_ (Or.inr ⟨by rfl,rfl⟩) ?_ ?_
         rotate_left;(simp only [Act.put,z0_,z1_,z2_,i64_w,i32_w];rfl)
         refine pure_ (i:=44) (N:=some 56) (v:=undef) (a':=?_) ba45_ rfl rfl (any_of HT_.out (by kernel_rfl)) id3_ (Or.inr ⟨by rfl,rfl⟩) ?_ ?_
         rotate_left;(simp only [Act.put,z0_,z1_,z2_,i64_w,i32_w];rfl)
         refine pure_ (i:=45) (N:=some 57) (v:=undef) (a':=?_) ba46_ rfl rfl (any_of HT_.out (by kernel_rfl)) id3_ (Or.inr ⟨by rfl,rfl⟩) ?_ ?_
         rotate_left;(simp only [Act.put,z0_,z1_,z2_,i64_w,i32_w];rfl)
         refine pure_ (i:=46) (N:=some 58) (v:=undef) (a':=?_) ba47_ rfl rfl (any_of HT_.out (by kernel_rfl)) id3_ (Or.inr ⟨by rfl,rfl⟩) ?_ ?_
         rotate_left;(simp only [Act.put,z0_,z1_,z2_,i64_w,i32_w];rfl)
         refine pure_ (i:=47) (N:=some 59) (v:=undef) (a':=?_) ba48_ rfl rfl (any_of HT_.out (by kernel_rfl)) id3_ (Or.inr ⟨by rfl,rfl⟩) ?_ ?_
         rotate_left;(simp only [Act.put,z0_,z1_,z2_,i64_w,i32_w];rfl)
         refine pure_ (i:=48) (N:=some 60) (v:=?_) (a':=?_) ba49_ rfl rfl (any_of HT_.out (by kernel_rfl)) id3_ (Or.inl ⟨by rfl,?_⟩) ?_ ?_
         rotate_left;(intro w';go_simp;with_reducible rfl)
         rotate_left;(simp only [Act.put,z0_,z1_,z2_,i64_w,i32_w];rfl)
         refine pure_ (i:=49) (N:=some 61) (v:=?_) (a':=?_) ba50_ rfl rfl (any_of HT_.out (by kernel_rfl)) id3_ (Or.inl ⟨by rfl,?_⟩) ?_ ?_
         rotate_left;(intro w';go_simp;with_reducible rfl)
         rotate_left;(simp only [Act.put,z0_,z1_,z2_,i64_w,i32_w];rfl)
         refine done_ (done_of HT_.out (by kernel_rfl)) ?_
         try go_wp2
         go_roundg k1
         case measure=>have:=HK1.out;omega
         case rel=>exact ⟨(wrap64 (x5_1 + 1)),zo,H',⟨by have:=HK1.out;omega⟩,⟨zb⟩⟩
      ·replace c8:=Bool.eq_false_iff.mpr c8
       subst c8
       have H1:(some false)=some r:=by rw [if_neg (show ¬ (false=true) by decide)] at H;exact H
       clear H
       have H:=H1
       clear H1
       obtain rfl:=Option.some.inj H
       try go_wp2
       replace HB:=Aside0.mk (below_drew1 HB.out)
       have p107:0≤(x5_1:Int):=of_decide_eq_true za
       have q107:x5_1<(l1.length:Int):=of_decide_eq_true za
       obtain ⟨ad107,e107,hx107_0,hx107_1⟩:=at_T72 HR1.out x5_1 p107 q107
       have hw107_1:=hx107_1
       have hw107_0:=hx107_0
       cases e107
       replace hx107_0:=(HB.out.cell (World.block_lt_of_cell? w _ hx107_0)).trans hx107_0
       replace hx107_1:=(HB.out.cell (World.block_lt_of_cell? w _ hx107_1)).trans hx107_1
       replace p107:=eq_true p107
       replace q107:=eq_true q107
       have p109:0≤(x5_1:Int):=of_decide_eq_true za
       have q109:x5_1<(l1.length:Int):=of_decide_eq_true za
       obtain ⟨ad109,e109,hx109_0,hx109_1⟩:=at_T72 HR1.out x5_1 p109 q109
       have hw109_1:=hx109_1
       have hw109_0:=hx109_0
       obtain rfl:ad107=ad109:=(by injection e109)
       replace hx109_0:=(HB.out.cell (World.block_lt_of_cell? w _ hx109_0)).trans hx109_0
       replace hx109_1:=(HB.out.cell (World.block_lt_of_cell? w _ hx109_1)).trans hx109_1
       replace p109:=eq_true p109
       replace q109:=eq_true q109
       refine start_ (n:=50) (S:=fun w'=>w'.cell? (ad107.add ((x5_1).toNat * 2))=some (.int .i64 ((rd_T72 l1 x5_1).f0))∧w'.cell? ⟨(ad107.add ((x5_1).toNat * 2)).block,(ad107.add ((x5_1).toNat * 2)).off + 1,none⟩=some (.int .i64 ((rd_T72 l1 x5_1).f1))∧w'.cell? (ad107.add ((x5_1).toNat * 2))=some (.int .i64 ((rd_T72 l1 x5_1).f0))∧w'.cell? ⟨(ad107.add ((x5_1).toNat * 2)).block,(ad107.add ((x5_1).toNat * 2)).off + 1,none⟩=some (.int .i64 ((rd_T72 l1 x5_1).f1))) (ds:=[]) ba0_ (by kernel_rfl) rfl rfl ⟨((HB.out.cell (World.block_lt_of_cell? w _ hw107_0)).trans hw107_0),((HB.out.cell (World.block_lt_of_cell? w _ hw107_1)).trans hw107_1),((HB.out.cell (World.block_lt_of_cell? w _ hw109_0)).trans hw109_0),((HB.out.cell (World.block_lt_of_cell? w _ hw109_1)).trans hw109_1)⟩ (fun hHeld=>?_);refine with_tabW spec_l4Pairs.tab4 spec_l4Pairs.bits4 (fun HT_ HW_=>?_)
       generalize wr.drew=w22 at HB hx107_0 hx107_1 hx109_0 hx109_1 hHeld ⊢
       refine pure_ (i:=0) (N:=some 12) (v:=?_) (a':=?_) ba1_ rfl rfl (any_of HT_.out (by kernel_rfl)) id3_ (Or.inl ⟨by rfl,?_⟩) ?_ ?_
       rotate_left;(intro w';go_simp;with_reducible rfl)
       rotate_left;(simp only [Act.put,z0_,z1_,z2_,i64_w,i32_w];rfl)
       refine pure_ (i:=1) (N:=some 13) (v:=?_) (a':=?_) ba2_ rfl rfl (any_of HT_.out (by kernel_rfl)) id3_ (Or.inl ⟨by rfl,?_⟩) ?_ ?_
       rotate_left;(intro w';go_simp;with_reducible rfl)
       rotate_left;(simp only [Act.put,z0_,z1_,z2_,i64_w,i32_w];rfl)
       refine pure_ (i:=2) (N:=some 14) (v:=?_) (a':=?_) ba3_ rfl rfl (any_of HT_.out (by kernel_rfl)) id3_ (Or.inl ⟨by rfl,?_⟩) ?_ ?_
       rotate_left;(intro w';go_simp;with_reducible rfl)
       rotate_left;(simp only [Act.put,z0_,z1_,z2_,i64_w,i32_w];rfl)
       refine pure_ (i:=3) (N:=some 15) (v:=?_) (a':=?_) ba4_ rfl rfl (any_of HT_.out (by kernel_rfl)) id3_ (Or.inl ⟨by rfl,?_⟩) ?_ ?_
       rotate_left;(intro w';go_simp;with_reducible rfl)
       rotate_left;(simp only [Act.put,z0_,z1_,z2_,i64_w,i32_w];rfl)
       refine pure_ (i:=5) (N:=some 17) (v:=?_) (a':=?_) ba5_ rfl rfl (any_of HT_.out (by kernel_rfl)) id3_ (Or.inl ⟨by rfl,?_⟩) ?_ ?_
       rotate_left;(intro w';go_simp;with_reducible rfl)
       rotate_left;(simp only [Act.put,z0_,z1_,z2_,i64_w,i32_w];rfl)
       refine pure_ (i:=6) (N:=some 18) (v:=?_) (a':=?_) ba6_ rfl rfl (any_of HT_.out (by kernel_rfl)) id3_ (Or.inl ⟨by rfl,?_⟩) ?_ ?_
       rotate_left;(intro w';go_simp;with_reducible rfl)
       rotate_left;(simp only [Act.put,z0_,z1_,z2_,i64_w,i32_w];rfl)
       refine take_ (i:=4) (N:=some 16) (v:=?_) (a':=?_) ba7_ rfl rfl (take_ofW HT_.out HW_.out (by kernel_rfl)) id3_ (Or.inl ⟨by rfl,?_⟩) hHeld ?_ ?_
       rotate_left
       ·rintro w' ⟨s0,s1,s2,s3⟩
        go_simp
        with_reducible rfl
       rotate_left;(simp only [Act.put,z0_,z1_,z2_,i64_w,i32_w];rfl)
       refine one_ (i:=7) (N:=some 19) ba8_ rfl rfl (one_of HT_.out (by kernel_rfl)) (by decide) (fun K hK=>?_)
       refine goes_ Try.func120 (by kernel_rfl) rfl #[.int .i64 ((rd_T72 l1 x5_1).f0),.int .i64 0,.int .i64 (wrap64 (a0 - 1))] (by rfl) rfl rfl zl ?_
       with_reducible refine (spec_l1In.calls ((rd_T72 l1 x5_1).f0) 0 (wrap64 (a0 - 1)) true _ A5.out).mono ?_
       rintro e w' ⟨rfl,⟨nd,rfl⟩⟩
       refine ⟨_,rfl,?_⟩
       refine hK.out _ _ ⟨((HB.out.cell (World.block_lt_of_cell? w _ hw107_0)).trans hw107_0),((HB.out.cell (World.block_lt_of_cell? w _ hw107_1)).trans hw107_1),((HB.out.cell (World.block_lt_of_cell? w _ hw109_0)).trans hw109_0),((HB.out.cell (World.block_lt_of_cell? w _ hw109_1)).trans hw109_1)⟩ (fun hHeld=>?_)
       clear hK K
       refine norm_ (a':=?_) ?_ ?_
       rotate_left
       ·show Act.put _ (some 19) _=_
        simp only [Act.put,z0_,z1_,z2_,i64_w,i32_w]
        rfl
       refine pure_ (i:=8) (N:=some 20) (v:=?_) (a':=?_) ba9_ rfl rfl (any_of HT_.out (by kernel_rfl)) id3_ (Or.inl ⟨by rfl,?_⟩) ?_ ?_
       rotate_left;(intro w';go_simp;with_reducible rfl)
       rotate_left;(simp only [Act.put,z0_,z1_,z2_,i64_w,i32_w];rfl)
       refine pure_ (i:=9) (N:=some 21) (v:=?_) (a':=?_) ba10_ rfl rfl (any_of HT_.out (by kernel_rfl)) id3_ (Or.inl ⟨by rfl,?_⟩) ?_ ?_
       rotate_left;(intro w';go_simp;with_reducible rfl)
       rotate_left;(simp only [Act.put,z0_,z1_,z2_,i64_w,i32_w];rfl)
       refine pure_ (i:=10) (N:=some 22) (v:=?_) (a':=?_) ba11_ rfl rfl (any_of HT_.out (by kernel_rfl)) id3_ (Or.inl ⟨by rfl,?_⟩) ?_ ?_
       rotate_left;(intro w';go_simp;with_reducible rfl)
       rotate_left;(simp only [Act.put,z0_,z1_,z2_,i64_w,i32_w];rfl)
       refine pure_ (i:=11) (N:=some 23) (v:=?_) (a':=?_) ba12_ rfl rfl (any_of HT_.out (by kernel_rfl)) id3_ (Or.inl ⟨by rfl,?_⟩) ?_ ?_
       rotate_left;(intro w';go_simp;with_reducible rfl)
       rotate_left;(simp only [Act.put,z0_,z1_,z2_,i64_w,i32_w];rfl)
       refine pure_ (i:=12) (N:=some 24) (v:=?_) (a':=?_) ba13_ rfl rfl (any_of HT_.out (by kernel_rfl)) id3_ (Or.inl ⟨by rfl,?_⟩) ?_ ?_
       rotate_left;(intro w';go_simp;with_reducible rfl)
       rotate_left;(simp only [Act.put,z0_,z1_,z2_,i64_w,i32_w];rfl)
       refine pure_ (i:=13) (N:=some 25) (v:=?_) (a':=?_) ba14_ rfl rfl (any_of HT_.out (by kernel_rfl)) id3_ (Or.inl ⟨by rfl,?_⟩) ?_ ?_
       rotate_left;(intro w';go_simp;with_reducible rfl)
       rotate_left;(simp only [Act.put,z0_,z1_,z2_,i64_w,i32_w];rfl)
       refine pure_ (i:=15) (N:=some 27) (v:=?_) (a':=?_) ba15_ rfl rfl (any_of HT_.out (by kernel_rfl)) id3_ (Or.inl ⟨by rfl,?_⟩) ?_ ?_
       rotate_left;(intro w';go_simp;with_reducible rfl)
       rotate_left;(simp only [Act.put,z0_,z1_,z2_,i64_w,i32_w];rfl)
       refine pure_ (i:=16) (N:=some 28) (v:=?_) (a':=?_) ba16_ rfl rfl (any_of HT_.out (by kernel_rfl)) id3_ (Or.inl ⟨by rfl,?_⟩) ?_ ?_
       rotate_left;(intro w';go_simp;with_reducible rfl)
       rotate_left;(simp only [Act.put,z0_,z1_,z2_,i64_w,i32_w];rfl)
       refine take_ (i:=14) (N:=some 26) (v:=?_) (a':=?_) ba17_ rfl rfl (take_ofW HT_.out HW_.out (by kernel_rfl)) id3_ (Or.inl ⟨by rfl,?_⟩) hHeld ?_ ?_
       rotate_left
       ·rintro w' ⟨s0,s1,s2,s3⟩
        go_simp
        with_reducible rfl
       rotate_left;(simp only [Act.put,z0_,z1_,z2_,i64_w,i32_w];rfl)
       refine one_ (i:=17) (N:=some 29) ba18_ rfl rfl (one_of HT_.out (by kernel_rfl)) (by decide) (fun K hK=>?_)
       refine goes_ Try.func120 (by kernel_rfl) rfl #[.int .i64 ((rd_T72 l1 x5_1).f1),.int .i64 0,.int .i64 (wrap64 (a0 - 1))] (by rfl) rfl rfl zl ?_
       with_reducible refine (spec_l1In.calls ((rd_T72 l1 x5_1).f1) 0 (wrap64 (a0 - 1)) false _ A7.out).mono ?_
       rintro e w' ⟨rfl,⟨nd,rfl⟩⟩
       refine ⟨_,rfl,?_⟩
       refine hK.out _ _ ⟨((HB.out.cell (World.block_lt_of_cell? w _ hw107_0)).trans hw107_0),((HB.out.cell (World.block_lt_of_cell? w _ hw107_1)).trans hw107_1),((HB.out.cell (World.block_lt_of_cell? w _ hw109_0)).trans hw109_0),((HB.out.cell (World.block_lt_of_cell? w _ hw109_1)).trans hw109_1)⟩ (fun hHeld=>?_)
       clear hK K
       refine norm_ (a':=?_) ?_ ?_
       rotate_left
       ·show Act.put _ (some 29) _=_
        simp only [Act.put,z0_,z1_,z2_,i64_w,i32_w]
        rfl
       refine pure_ (i:=18) (N:=some 30) (v:=?_) (a':=?_) ba19_ rfl rfl (any_of HT_.out (by kernel_rfl)) id3_ (Or.inl ⟨by rfl,?_⟩) ?_ ?_
       rotate_left;(intro w';go_simp;with_reducible rfl)
       rotate_left;(simp only [Act.put,z0_,z1_,z2_,i64_w,i32_w];rfl)
       refine pure_ (i:=19) (N:=some 31) (v:=?_) (a':=?_) ba20_ rfl rfl (any_of HT_.out (by kernel_rfl)) id3_ (Or.inl ⟨by rfl,?_⟩) ?_ ?_
       rotate_left;(intro w';go_simp;with_reducible rfl)
       rotate_left;(simp only [Act.put,z0_,z1_,z2_,i64_w,i32_w];rfl)
       refine pure_ (i:=20) (N:=some 32) (v:=?_) (a':=?_) ba21_ rfl rfl (any_of HT_.out (by kernel_rfl)) id3_ (Or.inl ⟨by rfl,?_⟩) ?_ ?_
       rotate_left;(intro w';go_simp;with_reducible rfl)
       rotate_left;(simp only [Act.put,z0_,z1_,z2_,i64_w,i32_w];rfl)
       refine pure_ (i:=21) (N:=some 33) (v:=undef) (a':=?_) ba22_ rfl rfl (any_of HT_.out (by kernel_rfl)) id3_ (Or.inr ⟨by rfl,rfl⟩) ?_ ?_
       rotate_left;(simp only [Act.put,z0_,z1_,z2_,i64_w,i32_w];rfl)
       refine pure_ (i:=22) (N:=some 34) (v:=undef) (a':=?_) ba23_ rfl rfl (any_of HT_.out (by kernel_rfl)) id3_ (Or.inr ⟨by rfl,rfl⟩) ?_ ?_
       rotate_left;(simp only [Act.put,z0_,z1_,z2_,i64_w,i32_w];rfl)
       refine pure_ (i:=23) (N:=some 35) (v:=undef) (a':=?_) ba24_ rfl rfl (any_of HT_.out (by kernel_rfl)) id3_ (Or.inr ⟨by rfl,rfl⟩) ?_ ?_
       rotate_left;(simp only [Act.put,z0_,z1_,z2_,i64_w,i32_w];rfl)
       refine pure_ (i:=24) (N:=some 36) (v:=undef) (a':=?_) ba25_ rfl rfl (any_of HT_.out (by kernel_rfl)) id3_ (Or.inr ⟨by rfl,rfl⟩) ?_ ?_
       rotate_left;(simp only [Act.put,z0_,z1_,z2_,i64_w,i32_w];rfl)
       refine pure_ (i:=25) (N:=some 37) (v:=undef) (a':=?_) ba54_ rfl rfl (any_of HT_.out (by kernel_rfl)) id3_ (Or.inr ⟨by rfl,rfl⟩) ?_ ?_
       rotate_left;(simp only [Act.put,z0_,z1_,z2_,i64_w,i32_w];rfl)
       refine pure_ (i:=26) (N:=some 38) (v:=undef) (a':=?_) ba55_ rfl rfl (any_of HT_.out (by kernel_rfl)) id3_ (Or.inr ⟨by rfl,rfl⟩) ?_ ?_
       rotate_left;(simp only [Act.put,z0_,z1_,z2_,i64_w,i32_w];rfl)
       refine pure_ (i:=27) (N:=some 39) (v:=undef) (a':=?_) ba56_ rfl rfl (any_of HT_.out (by kernel_rfl)) id3_ (Or.inr ⟨by rfl,rfl⟩) ?_ ?_
       rotate_left;(simp only [Act.put,z0_,z1_,z2_,i64_w,i32_w];rfl)
       refine pure_ (i:=28) (N:=some 40) (v:=undef) (a':=?_) ba57_ rfl rfl (any_of HT_.out (by kernel_rfl)) id3_ (Or.inr ⟨by rfl,rfl⟩) ?_ ?_
       rotate_left;(simp only [Act.put,z0_,z1_,z2_,i64_w,i32_w];rfl)
       refine pure_ (i:=29) (N:=some 41) (v:=undef) (a':=?_) ba30_ rfl rfl (any_of HT_.out (by kernel_rfl)) id3_ (Or.inr ⟨by rfl,rfl⟩) ?_ ?_
       rotate_left;(simp only [Act.put,z0_,z1_,z2_,i64_w,i32_w];rfl)
       refine pure_ (i:=30) (N:=some 42) (v:=undef) (a':=?_) ba31_ rfl rfl (any_of HT_.out (by kernel_rfl)) id3_ (Or.inr ⟨by rfl,rfl⟩) ?_ ?_
       rotate_left;(simp only [Act.put,z0_,z1_,z2_,i64_w,i32_w];rfl)
       refine pure_ (i:=31) (N:=some 43) (v:=undef) (a':=?_) ba32_ rfl rfl (any_of HT_.out (by kernel_rfl)) id3_ (Or.inr ⟨by rfl,rfl⟩) ?_ ?_
       rotate_left;(simp only [Act.put,z0_,z1_,z2_,i64_w,i32_w];rfl)
       refine pure_ (i:=32) (N:=some 44) (v:=?_) (a':=?_) ba33_ rfl rfl (any_of HT_.out (by kernel_rfl)) id3_ (Or.inl ⟨by rfl,?_⟩) ?_ ?_
       rotate_left;(intro w';go_simp;with_reducible rfl)
       rotate_left;(simp only [Act.put,z0_,z1_,z2_,i64_w,i32_w];rfl)
       refine pure_ (i:=33) (N:=some 45) (v:=?_) (a':=?_) ba34_ rfl rfl (any_of HT_.out (by kernel_rfl)) id3_ (Or.inl ⟨by rfl,?_⟩) ?_ ?_
       rotate_left;(intro w';go_simp;with_reducible rfl)
       rotate_left;(simp only [Act.put,z0_,z1_,z2_,i64_w,i32_w];rfl)
       refine pure_ (i:=34) (N:=some 46) (v:=undef) (a':=?_) ba35_ rfl rfl (any_of HT_.out (by kernel_rfl)) id3_ (Or.inr ⟨by rfl,rfl⟩) ?_ ?_
       rotate_left;(simp only [Act.put,z0_,z1_,z2_,i64_w,i32_w];rfl)
       refine pure_ (i:=35) (N:=some 47) (v:=undef) (a':=?_) ba36_ rfl rfl (any_of HT_.out (by kernel_rfl)) id3_ (Or.inr ⟨by rfl,rfl⟩) ?_ ?_
       rotate_left;(simp only [Act.put,z0_,z1_,z2_,i64_w,i32_w];rfl)
       refine pure_ (i:=36) (N:=some 48) (v:=undef) (a':=?_) ba37_ rfl rfl (any_of HT_.out (by kernel_rfl)) id3_ (Or.inr ⟨by rfl,rfl⟩) ?_ ?_
       rotate_left;(simp only [Act.put,z0_,z1_,z2_,i64_w,i32_w];rfl)
       refine pure_ (i:=37) (N:=some 49) (v:=undef) (a':=?_) ba38_ rfl rfl (any_of HT_.out (by kernel_rfl)) id3_ (Or.inr ⟨by rfl,rfl⟩) ?_ ?_
       rotate_left;(simp only [Act.put,z0_,z1_,z2_,i64_w,i32_w];rfl)
       refine pure_ (i:=38) (N:=some 50) (v:=undef) (a':=?_) ba39_ rfl rfl (any_of HT_.out (by kernel_rfl)) id3_ (Or.inr ⟨by rfl,rfl⟩) ?_ ?_
       rotate_left;(simp only [Act.put,z0_,z1_,z2_,i64_w,i32_w];rfl)
       refine pure_ (i:=39) (N:=some 51) (v:=undef) (a':=?_) ba40_ rfl rfl (any_of HT_.out (by kernel_rfl)) id3_ (Or.inr ⟨by rfl,rfl⟩) ?_ ?_
       rotate_left;(simp only [Act.put,z0_,z1_,z2_,i64_w,i32_w];rfl)
       refine pure_ (i:=40) (N:=some 52) (v:=undef) (a':=?_) ba41_ rfl rfl (any_of HT_.out (by kernel_rfl)) id3_ (Or.inr ⟨by rfl,rfl⟩) ?_ ?_
       rotate_left;(simp only [Act.put,z0_,z1_,z2_,i64_w,i32_w];rfl)
       refine pure_ (i:=41) (N:=some 53) (v:=undef) (a':=?_) ba42_ rfl rfl (any_of HT_.out (by kernel_rfl)) id3_ (Or.inr ⟨by rfl,rfl⟩) ?_ ?_
       rotate_left;(simp only [Act.put,z0_,z1_,z2_,i64_w,i32_w];rfl)
       refine pure_ (i:=42) (N:=some 54) (v:=undef) (a':=?_) ba43_ rfl rfl (any_of HT_.out (by kernel_rfl)) id3_ (Or.inr ⟨by rfl,rfl⟩) ?_ ?_
       rotate_left;(simp only [Act.put,z0_,z1_,z2_,i64_w,i32_w];rfl)
       refine pure_ (i:=43) (N:=some 55) (v:=undef) (a':=?_) ba44_ rfl rfl (any_of HT_.out (by kernel_rfl)) id3_ (Or.inr ⟨by rfl,rfl⟩) ?_ ?_
       rotate_left;(simp only [Act.put,z0_,z1_,z2_,i64_w,i32_w];rfl)
       refine pure_ (i:=44) (N:=some 56) (v:=undef) (a':=?_) ba45_ rfl rfl (any_of HT_.out (by kernel_rfl)) id3_ (Or.inr ⟨by rfl,rfl⟩) ?_ ?_
       rotate_left;(simp only [Act.put,z0_,z1_,z2_,i64_w,i32_w];rfl)
       refine pure_ (i:=45) (N:=some 57) (v:=undef) (a':=?_) ba46_ rfl rfl (any_of HT_.out (by kernel_rfl)) id3_ (Or.inr ⟨by rfl,rfl⟩) ?_ ?_
       rotate_left;(simp only [Act.put,z0_,z1_,z2_,i64_w,i32_w];rfl)
       refine pure_ (i:=46) (N:=some 58) (v:=undef) (a':=?_) ba47_ rfl rfl (any_of HT_.out (by kernel_rfl)) id3_ (Or.inr ⟨by rfl,rfl⟩) ?_ ?_
       rotate_left;(simp only [Act.put,z0_,z1_,z2_,i64_w,i32_w];rfl)
       refine pure_ (i:=47) (N:=some 59) (v:=undef) (a':=?_) ba48_ rfl rfl (any_of HT_.out (by kernel_rfl)) id3_ (Or.inr ⟨by rfl,rfl⟩) ?_ ?_
       rotate_left;(simp only [Act.put,z0_,z1_,z2_,i64_w,i32_w];rfl)
       refine pure_ (i:=48) (N:=some 60) (v:=undef) (a':=?_) ba49_ rfl rfl (any_of HT_.out (by kernel_rfl)) id3_ (Or.inr ⟨by rfl,rfl⟩) ?_ ?_
       rotate_left;(simp only [Act.put,z0_,z1_,z2_,i64_w,i32_w];rfl)
       refine pure_ (i:=49) (N:=some 61) (v:=?_) (a':=?_) ba50_ rfl rfl (any_of HT_.out (by kernel_rfl)) id3_ (Or.inl ⟨by rfl,?_⟩) ?_ ?_
       rotate_left;(intro w';go_simp;with_reducible rfl)
       rotate_left;(simp only [Act.put,z0_,z1_,z2_,i64_w,i32_w];rfl)
       refine done_ (done_of HT_.out (by kernel_rfl)) ?_
       try go_wp2
       go_ret
       exact ⟨by first|rfl|(simp [errW_none,errW_some] <;> rfl)|(simp [*,errW_none,errW_some] <;> rfl),zb⟩
     ·replace c6:=Bool.eq_false_iff.mpr c6
      subst c6
      have H1:(some false)=some r:=by rw [if_neg (show ¬ (false=true) by decide)] at H;exact H
      clear H
      have H:=H1
      clear H1
      obtain rfl:=Option.some.inj H
      try go_wp2
      replace HB:=Aside0.mk (below_drew1 HB.out)
      have p107:0≤(x5_1:Int):=of_decide_eq_true za
      have q107:x5_1<(l1.length:Int):=of_decide_eq_true za
      obtain ⟨ad107,e107,hx107_0,hx107_1⟩:=at_T72 HR1.out x5_1 p107 q107
      have hw107_1:=hx107_1
      have hw107_0:=hx107_0
      cases e107
      replace hx107_0:=(HB.out.cell (World.block_lt_of_cell? w _ hx107_0)).trans hx107_0
      replace hx107_1:=(HB.out.cell (World.block_lt_of_cell? w _ hx107_1)).trans hx107_1
      replace p107:=eq_true p107
      replace q107:=eq_true q107
      refine start_ (n:=50) (S:=fun w'=>w'.cell? (ad107.add ((x5_1).toNat * 2))=some (.int .i64 ((rd_T72 l1 x5_1).f0))∧w'.cell? ⟨(ad107.add ((x5_1).toNat * 2)).block,(ad107.add ((x5_1).toNat * 2)).off + 1,none⟩=some (.int .i64 ((rd_T72 l1 x5_1).f1))) (ds:=[]) ba0_ (by kernel_rfl) rfl rfl ⟨((HB.out.cell (World.block_lt_of_cell? w _ hw107_0)).trans hw107_0),((HB.out.cell (World.block_lt_of_cell? w _ hw107_1)).trans hw107_1)⟩ (fun hHeld=>?_);refine with_tabW spec_l4Pairs.tab4 spec_l4Pairs.bits4 (fun HT_ HW_=>?_)
      generalize wr.drew=w23 at HB hx107_0 hx107_1 hHeld ⊢
      refine pure_ (i:=0) (N:=some 12) (v:=?_) (a':=?_) ba1_ rfl rfl (any_of HT_.out (by kernel_rfl)) id3_ (Or.inl ⟨by rfl,?_⟩) ?_ ?_
      rotate_left;(intro w';go_simp;with_reducible rfl)
      rotate_left;(simp only [Act.put,z0_,z1_,z2_,i64_w,i32_w];rfl)
      refine pure_ (i:=1) (N:=some 13) (v:=?_) (a':=?_) ba2_ rfl rfl (any_of HT_.out (by kernel_rfl)) id3_ (Or.inl ⟨by rfl,?_⟩) ?_ ?_
      rotate_left;(intro w';go_simp;with_reducible rfl)
      rotate_left;(simp only [Act.put,z0_,z1_,z2_,i64_w,i32_w];rfl)
      refine pure_ (i:=2) (N:=some 14) (v:=?_) (a':=?_) ba3_ rfl rfl (any_of HT_.out (by kernel_rfl)) id3_ (Or.inl ⟨by rfl,?_⟩) ?_ ?_
      rotate_left;(intro w';go_simp;with_reducible rfl)
      rotate_left;(simp only [Act.put,z0_,z1_,z2_,i64_w,i32_w];rfl)
      refine pure_ (i:=3) (N:=some 15) (v:=?_) (a':=?_) ba4_ rfl rfl (any_of HT_.out (by kernel_rfl)) id3_ (Or.inl ⟨by rfl,?_⟩) ?_ ?_
      rotate_left;(intro w';go_simp;with_reducible rfl)
      rotate_left;(simp only [Act.put,z0_,z1_,z2_,i64_w,i32_w];rfl)
      refine pure_ (i:=5) (N:=some 17) (v:=?_) (a':=?_) ba5_ rfl rfl (any_of HT_.out (by kernel_rfl)) id3_ (Or.inl ⟨by rfl,?_⟩) ?_ ?_
      rotate_left;(intro w';go_simp;with_reducible rfl)
      rotate_left;(simp only [Act.put,z0_,z1_,z2_,i64_w,i32_w];rfl)
      refine pure_ (i:=6) (N:=some 18) (v:=?_) (a':=?_) ba6_ rfl rfl (any_of HT_.out (by kernel_rfl)) id3_ (Or.inl ⟨by rfl,?_⟩) ?_ ?_
      rotate_left;(intro w';go_simp;with_reducible rfl)
      rotate_left;(simp only [Act.put,z0_,z1_,z2_,i64_w,i32_w];rfl)
      refine take_ (i:=4) (N:=some 16) (v:=?_) (a':=?_) ba7_ rfl rfl (take_ofW HT_.out HW_.out (by kernel_rfl)) id3_ (Or.inl ⟨by rfl,?_⟩) hHeld ?_ ?_
      rotate_left
      ·rintro w' ⟨s0,s1⟩
       go_simp
       with_reducible rfl
      rotate_left;(simp only [Act.put,z0_,z1_,z2_,i64_w,i32_w];rfl)
      refine one_ (i:=7) (N:=some 19) ba8_ rfl rfl (one_of HT_.out (by kernel_rfl)) (by decide) (fun K hK=>?_)
      refine goes_ Try.func120 (by kernel_rfl) rfl #[.int .i64 ((rd_T72 l1 x5_1).f0),.int .i64 0,.int .i64 (wrap64 (a0 - 1))] (by rfl) rfl rfl zl ?_
      with_reducible refine (spec_l1In.calls ((rd_T72 l1 x5_1).f0) 0 (wrap64 (a0 - 1)) false _ A5.out).mono ?_
      rintro e w' ⟨rfl,⟨nd,rfl⟩⟩
      refine ⟨_,rfl,?_⟩
      refine hK.out _ _ ⟨((HB.out.cell (World.block_lt_of_cell? w _ hw107_0)).trans hw107_0),((HB.out.cell (World.block_lt_of_cell? w _ hw107_1)).trans hw107_1)⟩ (fun hHeld=>?_)
      clear hK K
      refine norm_ (a':=?_) ?_ ?_
      rotate_left
      ·show Act.put _ (some 19) _=_
       simp only [Act.put,z0_,z1_,z2_,i64_w,i32_w]
       rfl
      refine pure_ (i:=8) (N:=some 20) (v:=?_) (a':=?_) ba9_ rfl rfl (any_of HT_.out (by kernel_rfl)) id3_ (Or.inl ⟨by rfl,?_⟩) ?_ ?_
      rotate_left;(intro w';go_simp;with_reducible rfl)
      rotate_left;(simp only [Act.put,z0_,z1_,z2_,i64_w,i32_w];rfl)
      refine pure_ (i:=9) (N:=some 21) (v:=?_) (a':=?_) ba10_ rfl rfl (any_of HT_.out (by kernel_rfl)) id3_ (Or.inl ⟨by rfl,?_⟩) ?_ ?_
      rotate_left;(intro w';go_simp;with_reducible rfl)
      rotate_left;(simp only [Act.put,z0_,z1_,z2_,i64_w,i32_w];rfl)
      refine pure_ (i:=10) (N:=some 22) (v:=undef) (a':=?_) ba11_ rfl rfl (any_of HT_.out (by kernel_rfl)) id3_ (Or.inr ⟨by rfl,rfl⟩) ?_ ?_
      rotate_left;(simp only [Act.put,z0_,z1_,z2_,i64_w,i32_w];rfl)
      refine pure_ (i:=11) (N:=some 23) (v:=undef) (a':=?_) ba12_ rfl rfl (any_of HT_.out (by kernel_rfl)) id3_ (Or.inr ⟨by rfl,rfl⟩) ?_ ?_
      rotate_left;(simp only [Act.put,z0_,z1_,z2_,i64_w,i32_w];rfl)
      refine pure_ (i:=12) (N:=some 24) (v:=undef) (a':=?_) ba13_ rfl rfl (any_of HT_.out (by kernel_rfl)) id3_ (Or.inr ⟨by rfl,rfl⟩) ?_ ?_
      rotate_left;(simp only [Act.put,z0_,z1_,z2_,i64_w,i32_w];rfl)
      refine pure_ (i:=13) (N:=some 25) (v:=undef) (a':=?_) ba14_ rfl rfl (any_of HT_.out (by kernel_rfl)) id3_ (Or.inr ⟨by rfl,rfl⟩) ?_ ?_
      rotate_left;(simp only [Act.put,z0_,z1_,z2_,i64_w,i32_w];rfl)
      refine pure_ (i:=14) (N:=some 26) (v:=undef) (a':=?_) ba58_ rfl rfl (any_of HT_.out (by kernel_rfl)) id3_ (Or.inr ⟨by rfl,rfl⟩) ?_ ?_
      rotate_left;(simp only [Act.put,z0_,z1_,z2_,i64_w,i32_w];rfl)
      refine pure_ (i:=15) (N:=some 27) (v:=undef) (a':=?_) ba59_ rfl rfl (any_of HT_.out (by kernel_rfl)) id3_ (Or.inr ⟨by rfl,rfl⟩) ?_ ?_
      rotate_left;(simp only [Act.put,z0_,z1_,z2_,i64_w,i32_w];rfl)
      refine pure_ (i:=16) (N:=some 28) (v:=undef) (a':=?_) ba17_ rfl rfl (any_of HT_.out (by kernel_rfl)) id3_ (Or.inr ⟨by rfl,rfl⟩) ?_ ?_
      rotate_left;(simp only [Act.put,z0_,z1_,z2_,i64_w,i32_w];rfl)
      refine pure_ (i:=17) (N:=some 29) (v:=undef) (a':=?_) ba18_ rfl rfl (any_of HT_.out (by kernel_rfl)) id3_ (Or.inr ⟨by rfl,rfl⟩) ?_ ?_
      rotate_left;(simp only [Act.put,z0_,z1_,z2_,i64_w,i32_w];rfl)
      refine pure_ (i:=18) (N:=some 30) (v:=undef) (a':=?_) ba19_ rfl rfl (any_of HT_.out (by kernel_rfl)) id3_ (Or.inr ⟨by rfl,rfl⟩) ?_ ?_
      rotate_left;(simp only [Act.put,z0_,z1_,z2_,i64_w,i32_w];rfl)
      refine pure_ (i:=19) (N:=some 31) (v:=?_) (a':=?_) ba20_ rfl rfl (any_of HT_.out (by kernel_rfl)) id3_ (Or.inl ⟨by rfl,?_⟩) ?_ ?_
      rotate_left;(intro w';go_simp;with_reducible rfl)
      rotate_left;(simp only [Act.put,z0_,z1_,z2_,i64_w,i32_w];rfl)
      refine pure_ (i:=20) (N:=some 32) (v:=?_) (a':=?_) ba21_ rfl rfl (any_of HT_.out (by kernel_rfl)) id3_ (Or.inl ⟨by rfl,?_⟩) ?_ ?_
      rotate_left;(intro w';go_simp;with_reducible rfl)
      rotate_left;(simp only [Act.put,z0_,z1_,z2_,i64_w,i32_w];rfl)
      refine pure_ (i:=21) (N:=some 33) (v:=undef) (a':=?_) ba22_ rfl rfl (any_of HT_.out (by kernel_rfl)) id3_ (Or.inr ⟨by rfl,rfl⟩) ?_ ?_
      rotate_left;(simp only [Act.put,z0_,z1_,z2_,i64_w,i32_w];rfl)
      refine pure_ (i:=22) (N:=some 34) (v:=undef) (a':=?_) ba23_ rfl rfl (any_of HT_.out (by kernel_rfl)) id3_ (Or.inr ⟨by rfl,rfl⟩) ?_ ?_
      rotate_left;(simp only [Act.put,z0_,z1_,z2_,i64_w,i32_w];rfl)
      refine pure_ (i:=23) (N:=some 35) (v:=undef) (a':=?_) ba24_ rfl rfl (any_of HT_.out (by kernel_rfl)) id3_ (Or.inr ⟨by rfl,rfl⟩) ?_ ?_
      rotate_left;(simp only [Act.put,z0_,z1_,z2_,i64_w,i32_w];rfl)
      refine pure_ (i:=24) (N:=some 36) (v:=undef) (a':=?_) ba25_ rfl rfl (any_of HT_.out (by kernel_rfl)) id3_ (Or.inr ⟨by rfl,rfl⟩) ?_ ?_
      rotate_left;(simp only [Act.put,z0_,z1_,z2_,i64_w,i32_w];rfl)
      refine pure_ (i:=25) (N:=some 37) (v:=undef) (a':=?_) ba54_ rfl rfl (any_of HT_.out (by kernel_rfl)) id3_ (Or.inr ⟨by rfl,rfl⟩) ?_ ?_
      rotate_left;(simp only [Act.put,z0_,z1_,z2_,i64_w,i32_w];rfl)
      refine pure_ (i:=26) (N:=some 38) (v:=undef) (a':=?_) ba55_ rfl rfl (any_of HT_.out (by kernel_rfl)) id3_ (Or.inr ⟨by rfl,rfl⟩) ?_ ?_
      rotate_left;(simp only [Act.put,z0_,z1_,z2_,i64_w,i32_w];rfl)
      refine pure_ (i:=27) (N:=some 39) (v:=undef) (a':=?_) ba56_ rfl rfl (any_of HT_.out (by kernel_rfl)) id3_ (Or.inr ⟨by rfl,rfl⟩) ?_ ?_
      rotate_left;(simp only [Act.put,z0_,z1_,z2_,i64_w,i32_w];rfl)
      refine pure_ (i:=28) (N:=some 40) (v:=undef) (a':=?_) ba57_ rfl rfl (any_of HT_.out (by kernel_rfl)) id3_ (Or.inr ⟨by rfl,rfl⟩) ?_ ?_
      rotate_left;(simp only [Act.put,z0_,z1_,z2_,i64_w,i32_w];rfl)
      refine pure_ (i:=29) (N:=some 41) (v:=undef) (a':=?_) ba30_ rfl rfl (any_of HT_.out (by kernel_rfl)) id3_ (Or.inr ⟨by rfl,rfl⟩) ?_ ?_
      rotate_left;(simp only [Act.put,z0_,z1_,z2_,i64_w,i32_w];rfl)
      refine pure_ (i:=30) (N:=some 42) (v:=undef) (a':=?_) ba31_ rfl rfl (any_of HT_.out (by kernel_rfl)) id3_ (Or.inr ⟨by rfl,rfl⟩) ?_ ?_
      rotate_left;(simp only [Act.put,z0_,z1_,z2_,i64_w,i32_w];rfl)
      refine pure_ (i:=31) (N:=some 43) (v:=undef) (a':=?_) ba32_ rfl rfl (any_of HT_.out (by kernel_rfl)) id3_ (Or.inr ⟨by rfl,rfl⟩) ?_ ?_
      rotate_left;(simp only [Act.put,z0_,z1_,z2_,i64_w,i32_w];rfl)
      refine pure_ (i:=32) (N:=some 44) (v:=?_) (a':=?_) ba33_ rfl rfl (any_of HT_.out (by kernel_rfl)) id3_ (Or.inl ⟨by rfl,?_⟩) ?_ ?_
      rotate_left;(intro w';go_simp;with_reducible rfl)
      rotate_left;(simp only [Act.put,z0_,z1_,z2_,i64_w,i32_w];rfl)
      refine pure_ (i:=33) (N:=some 45) (v:=?_) (a':=?_) ba34_ rfl rfl (any_of HT_.out (by kernel_rfl)) id3_ (Or.inl ⟨by rfl,?_⟩) ?_ ?_
      rotate_left;(intro w';go_simp;with_reducible rfl)
      rotate_left;(simp only [Act.put,z0_,z1_,z2_,i64_w,i32_w];rfl)
      refine pure_ (i:=34) (N:=some 46) (v:=undef) (a':=?_) ba35_ rfl rfl (any_of HT_.out (by kernel_rfl)) id3_ (Or.inr ⟨by rfl,rfl⟩) ?_ ?_
      rotate_left;(simp only [Act.put,z0_,z1_,z2_,i64_w,i32_w];rfl)
      refine pure_ (i:=35) (N:=some 47) (v:=undef) (a':=?_) ba36_ rfl rfl (any_of HT_.out (by kernel_rfl)) id3_ (Or.inr ⟨by rfl,rfl⟩) ?_ ?_
      rotate_left;(simp only [Act.put,z0_,z1_,z2_,i64_w,i32_w];rfl)
      refine pure_ (i:=36) (N:=some 48) (v:=undef) (a':=?_) ba37_ rfl rfl (any_of HT_.out (by kernel_rfl)) id3_ (Or.inr ⟨by rfl,rfl⟩) ?_ ?_
      rotate_left;(simp only [Act.put,z0_,z1_,z2_,i64_w,i32_w];rfl)
      refine pure_ (i:=37) (N:=some 49) (v:=undef) (a':=?_) ba38_ rfl rfl (any_of HT_.out (by kernel_rfl)) id3_ (Or.inr ⟨by rfl,rfl⟩) ?_ ?_
      rotate_left;(simp only [Act.put,z0_,z1_,z2_,i64_w,i32_w];rfl)
      refine pure_ (i:=38) (N:=some 50) (v:=undef) (a':=?_) ba39_ rfl rfl (any_of HT_.out (by kernel_rfl)) id3_ (Or.inr ⟨by rfl,rfl⟩) ?_ ?_
      rotate_left;(simp only [Act.put,z0_,z1_,z2_,i64_w,i32_w];rfl)
      refine pure_ (i:=39) (N:=some 51) (v:=undef) (a':=?_) ba40_ rfl rfl (any_of HT_.out (by kernel_rfl)) id3_ (Or.inr ⟨by rfl,rfl⟩) ?_ ?_
      rotate_left;(simp only [Act.put,z0_,z1_,z2_,i64_w,i32_w];rfl)
      refine pure_ (i:=40) (N:=some 52) (v:=undef) (a':=?_) ba41_ rfl rfl (any_of HT_.out (by kernel_rfl)) id3_ (Or.inr ⟨by rfl,rfl⟩) ?_ ?_
      rotate_left;(simp only [Act.put,z0_,z1_,z2_,i64_w,i32_w];rfl)
      refine pure_ (i:=41) (N:=some 53) (v:=undef) (a':=?_) ba42_ rfl rfl (any_of HT_.out (by kernel_rfl)) id3_ (Or.inr ⟨by rfl,rfl⟩) ?_ ?_
      rotate_left;(simp only [Act.put,z0_,z1_,z2_,i64_w,i32_w];rfl)
      refine pure_ (i:=42) (N:=some 54) (v:=undef) (a':=?_) ba43_ rfl rfl (any_of HT_.out (by kernel_rfl)) id3_ (Or.inr ⟨by rfl,rfl⟩) ?_ ?_
      rotate_left;(simp only [Act.put,z0_,z1_,z2_,i64_w,i32_w];rfl)
      refine pure_ (i:=43) (N:=some 55) (v:=undef) (a':=?_) ba44_ rfl rfl (any_of HT_.out (by kernel_rfl)) id3_ (Or.inr ⟨by rfl,rfl⟩) ?_ ?_
      rotate_left;(simp only [Act.put,z0_,z1_,z2_,i64_w,i32_w];rfl)
      refine pure_ (i:=44) (N:=some 56) (v:=undef) (a':=?_) ba45_ rfl rfl (any_of HT_.out (by kernel_rfl)) id3_ (Or.inr ⟨by rfl,rfl⟩) ?_ ?_
      rotate_left;(simp only [Act.put,z0_,z1_,z2_,i64_w,i32_w];rfl)
      refine pure_ (i:=45) (N:=some 57) (v:=undef) (a':=?_) ba46_ rfl rfl (any_of HT_.out (by kernel_rfl)) id3_ (Or.inr ⟨by rfl,rfl⟩) ?_ ?_
      rotate_left;(simp only [Act.put,z0_,z1_,z2_,i64_w,i32_w];rfl)
      refine pure_ (i:=46) (N:=some 58) (v:=undef) (a':=?_) ba47_ rfl rfl (any_of HT_.out (by kernel_rfl)) id3_ (Or.inr ⟨by rfl,rfl⟩) ?_ ?_
      rotate_left;(simp only [Act.put,z0_,z1_,z2_,i64_w,i32_w];rfl)
      refine pure_ (i:=47) (N:=some 59) (v:=undef) (a':=?_) ba48_ rfl rfl (any_of HT_.out (by kernel_rfl)) id3_ (Or.inr ⟨by rfl,rfl⟩) ?_ ?_
      rotate_left;(simp only [Act.put,z0_,z1_,z2_,i64_w,i32_w];rfl)
      refine pure_ (i:=48) (N:=some 60) (v:=undef) (a':=?_) ba49_ rfl rfl (any_of HT_.out (by kernel_rfl)) id3_ (Or.inr ⟨by rfl,rfl⟩) ?_ ?_
      rotate_left;(simp only [Act.put,z0_,z1_,z2_,i64_w,i32_w];rfl)
      refine pure_ (i:=49) (N:=some 61) (v:=?_) (a':=?_) ba50_ rfl rfl (any_of HT_.out (by kernel_rfl)) id3_ (Or.inl ⟨by rfl,?_⟩) ?_ ?_
      rotate_left;(intro w';go_simp;with_reducible rfl)
      rotate_left;(simp only [Act.put,z0_,z1_,z2_,i64_w,i32_w];rfl)
      refine done_ (done_of HT_.out (by kernel_rfl)) ?_
      try go_wp2
      go_ret
      exact ⟨by first|rfl|(simp [errW_none,errW_some] <;> rfl)|(simp [*,errW_none,errW_some] <;> rfl),zb⟩
    ·rw [if_neg c4] at H
     exact absurd H (by simp)
   ·rw [if_neg c3] at H
    have c3b0:decide (x5_1<(l1.length:Int))=false:=decide_eq_false c3
    clear c3
    replace H:=Option.bind_eq_some_iff.mp H
    obtain ⟨t106,A240,H⟩:=H
    replace H:(if t106=true then (some (decide ((l1.length:Int)≤28))) else (some false))=some r:=H
    have A24:=Aside0.mk A240
    clear A240
    by_cases c25:t106=true
    ·subst c25
     have H1:(some (decide ((l1.length:Int)≤28)))=some r:=by rw [if_pos rfl] at H;exact H
     clear H
     have H:=H1
     clear H1
     obtain rfl:=Option.some.inj H
     go_wp2_with (first|((with_reducible refine gate_callee (f:=120) rfl ?_);refine goesL_ (some 63) rfl rfl Try.func120 (by kernel_rfl) rfl #[.int .i64 a0,.int .i64 0,.int .i64 8] rfl zl ?_;(with_reducible refine (spec_l1In.calls a0 0 8 true _ A24.out).mono ?_);rintro e w' ⟨rfl,⟨nd,rfl⟩⟩;refine ⟨_,rfl,?_⟩))
     go_ret
     exact ⟨by first|rfl|(simp [errW_none,errW_some] <;> rfl)|(simp [*,errW_none,errW_some] <;> rfl),zb⟩
    ·replace c25:=Bool.eq_false_iff.mpr c25
     subst c25
     have H1:(some false)=some r:=by rw [if_neg (show ¬ (false=true) by decide)] at H;exact H
     clear H
     have H:=H1
     clear H1
     obtain rfl:=Option.some.inj H
     go_wp2_with (first|((with_reducible refine gate_callee (f:=120) rfl ?_);refine goesL_ (some 63) rfl rfl Try.func120 (by kernel_rfl) rfl #[.int .i64 a0,.int .i64 0,.int .i64 8] rfl zl ?_;(with_reducible refine (spec_l1In.calls a0 0 8 false _ A24.out).mono ?_);rintro e w' ⟨rfl,⟨nd,rfl⟩⟩;refine ⟨_,rfl,?_⟩))
     go_ret
     exact ⟨by first|rfl|(simp [errW_none,errW_some] <;> rfl)|(simp [*,errW_none,errW_some] <;> rfl),zb⟩

end Go.Proofs.Ytbcfmegepkhlpaa.XFnExactLabelPlan
-- minified
