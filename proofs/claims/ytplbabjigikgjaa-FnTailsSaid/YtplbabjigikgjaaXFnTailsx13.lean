-- Written by a program of this session (the kit's print, widened). Proved here: what each function answers, for the arguments that its contract names.
import Derived.Test.YtplbabjigikgjaaXFnTailsx0
import Derived.Test.YtplbabjigikgjaaXFnTailsx9
import Derived.Test.YtplbabjigikgjaaXFnTailsx12
namespace Go.Proofs.Ytplbabjigikgjaa.XFnTails
open Go.RowKit Go.Proofs.YtplbabjigikgjaaW.PrintWords Go.Proofs.YtplbabjigikgjaaW.PrintLast Go.Proofs.YtplbabjigikgjaaW.PrintMore
attribute [local go_sem] max2_int min2_int max_two min_two max_three min_three max_four min_four   -- for this text's walks alone
attribute [local go_sem] idxA_45_0 idxA_45_1 fldS_94_0 fldS_94_1 fldS_94_2 fldS_125_0 fldS_125_1 fldS_125_2
set_option linter.unusedVariables false
set_option linter.unusedSimpArgs false

/-! ### spec_l4Pairs: function 149 -/
def spec_l4Pairs.l0:Nat→Int→List (S45)→Int→Option (Bool)
 | 0,_,_,_=>none
 | k + 1,x0,x1,x5=>if x5<(x1.length:Int) then (if 0≤x5 then ((spec_l1In.f ((rd_T45 x1 x5).f0) 0 (wrap64 (x0 - 1))).bind fun t425=>(if t425=true then ((spec_l1In.f ((rd_T45 x1 x5).f1) 0 (wrap64 (x0 - 1))).bind fun t427=>(if t427=true then (if ((rd_T45 x1 x5).f0)=((rd_T45 x1 x5).f1) then (some false) else (if x5>0 then (if 0≤(wrap64 (x5 - 1)) then (if (wrap64 (x5 - 1))<(x1.length:Int) then ((spec_l4Before.f ((rd_T45 x1 (wrap64 (x5 - 1))).f0) ((rd_T45 x1 (wrap64 (x5 - 1))).f1) ((rd_T45 x1 x5).f0) ((rd_T45 x1 x5).f1)).bind fun t432=>(if t432=true then (spec_l4Pairs.l0 k x0 x1 (wrap64 (x5 + 1))) else (some false))) else (none)) else (none)) else (spec_l4Pairs.l0 k x0 x1 (wrap64 (x5 + 1))))) else (some false))) else (some false))) else (none)) else ((spec_l1In.f x0 0 8).bind fun t423=>(if t423=true then (some (decide ((x1.length:Int)≤28))) else (some false)))
def spec_l4Pairs.f (k:Nat) (a0:Int) (l1:List (S45)):Option (Bool):=spec_l4Pairs.l0 k a0 l1 0
theorem spec_l4Pairs.mono_l:∀ k,(∀ y0 y1 y2,LeO (spec_l4Pairs.l0 k y0 y1 y2) (spec_l4Pairs.l0 (k + 1) y0 y1 y2))
 | 0=>fun _ _ _ r h=>by simp [spec_l4Pairs.l0] at h
 | k + 1=>by
  have ih0:=spec_l4Pairs.mono_l k
  ·intro y0 y1 y2
   unfold spec_l4Pairs.l0
   repeat' first
   | (with_reducible exact ih0 _ _ _)
   | (with_reducible exact LeO.refl _)
   | (with_reducible exact LeO.none _)
   | (with_reducible refine LeO.ite ?_ ?_)
   | (with_reducible refine LeO.bind ?_ (fun _=>?_))
   | exact ih0 _ _ _
   | exact LeO.none _
   | refine LeO.ite ?_ ?_
   | refine LeO.bind ?_ (fun _=>?_)
theorem spec_l4Pairs.mono:∀ a0 a1 k,LeO (spec_l4Pairs.f k a0 a1) (spec_l4Pairs.f (k + 1) a0 a1):=by
 intro a0 a1 k
 have ih0:=spec_l4Pairs.mono_l k
 unfold spec_l4Pairs.f
 repeat' first
   | (with_reducible exact ih0 _ _ _)
   | (with_reducible exact LeO.refl _)
   | (with_reducible exact LeO.none _)
   | (with_reducible refine LeO.ite ?_ ?_)
   | (with_reducible refine LeO.bind ?_ (fun _=>?_))
   | exact ih0 _ _ _
   | exact LeO.none _
   | refine LeO.ite ?_ ?_
   | refine LeO.bind ?_ (fun _=>?_)
def spec_l4Pairs.T4:Bool × List (List Nat × List Nat):=(true,[([],[]),([],[]),([0,1],[0,1]),([2],[2]),([3],[3]),([],[]),([5],[5]),([4,6],[4,6]),([7],[7]),([8,7],[8]),([9],[9]),([9],[9]),([10,11,9],[9,10,11]),([12,9],[9,12]),([13,9],[9,13]),([9],[9]),([15,9],[9,15]),([14,16,9,9],[9,14,16]),([17,9],[9,17]),([9,18],[9,18]),([19,17],[19]),([20],[20]),([20],[20]),([21,22,20],[20,21,22]),([23,20],[20,23]),([24,20],[20,24]),([20],[20]),([20],[20]),([26,27,20],[20,26,27]),([28,20],[20,28]),([29,20],[20,29]),([25,30,20],[20,25,30]),([20,31],[20,31]),([32,20],[32]),([33],[33]),([34,33],[33,34]),([35,33,33],[33,35]),([36],[36]),([36],[36]),([38,36],[36,38]),([37,39,36],[36,37,39]),([40,36],[36,40]),([36],[36]),([36],[36]),([42,43,36],[36,42,43]),([44,36],[36,44]),([41,45,36,36],[36,41,45]),([46,36],[36,46]),([36,47,33],[33,36,47]),([33,48],[33,48])])
def spec_l4Pairs.B4:List Nat:=[0,0,3,7,15,0,32,127,255,511,1023,1023,4095,8191,16383,1023,33791,131071,262143,524287,1048575,2097151,2097151,8388607,16777215,33554431,2097151,2097151,203423743,471859199,1008730111,2147483647,4294967295,8589934591,17179869183,34359738367,68719476735,137438953471,137438953471,412316860415,1099511627775,2199023255551,137438953471,137438953471,13331578486783,30923764531199,70368744177663,140737488355327,281474976710655,562949953421311]
theorem spec_l4Pairs.tab4:rtab .any (opsOf Try.f149 4)=spec_l4Pairs.T4:=by kernel_rfl
theorem spec_l4Pairs.bits4:waitsOk spec_l4Pairs.T4.2 spec_l4Pairs.B4=true:=by kernel_rfl
set_option maxHeartbeats 8000000 in
set_option maxRecDepth 100000 in
theorem spec_l4Pairs.calls (k:Nat) (a0:Int) (A1:Option Addr) (c1:Nat) (l1:List (S45)) (r:Bool) (w:World) (hr1:Kd.C k45 w A1 l1.length l1) (hc1:l1.length≤c1) (h:spec_l4Pairs.f k a0 l1=some r) :
  Calls Try.prog 149 #[.int .i64 a0,.slice A1 l1.length c1] w fun e w'=>e=.returned (.bool r)∧Below w.heap.size w w':=by
 have hu45:=Try.underlying45
 have HR1:=Aside0.mk hr1
 have HC1:=Aside0.mk hc1
 clear hr1 hc1
 have HB:=Aside0.mk (Below.refl w.heap.size w)
 have H:(spec_l4Pairs.l0 k a0 l1 0)=some r:=h
 clear h
 have H':=Aside0.mk H
 clear H
 go_enter Try.func149,Try.ntmps149
 go_wp2
 go_loopg [5] k (fun kq v5 w'=>∃ (x5_1:Int),v5=.int .i64 x5_1∧Aside0 (spec_l4Pairs.l0 kq a0 l1 x5_1=some r)∧Aside0 (kq≤k)∧Aside0 (Below w.heap.size w w'))
 case atStart=>exact ⟨(0),zo,H',⟨Nat.le_refl _⟩,⟨zb⟩⟩
 case round=>
  clear H'
  (try clear c1);(try clear p2)
  obtain ⟨x5_1,rfl,HA,HK1,HB⟩:=hrel
  cases gk with
  | zero=>exact absurd HA.out (by simp [spec_l4Pairs.l0])
  | succ k1=>
   have H:=HA.out
   clear HA
   simp only [spec_l4Pairs.l0] at H
   by_cases c3:x5_1<(l1.length:Int)
   ·rw [if_pos c3] at H
    have c3b0:decide (x5_1<(l1.length:Int))=true:=decide_eq_true c3
    clear c3
    by_cases c4:0≤x5_1
    ·rw [if_pos c4] at H
     have c4b0:decide (0≤x5_1)=true:=decide_eq_true c4
     clear c4
     replace H:=Option.bind_eq_some_iff.mp H
     obtain ⟨t425,A50,H⟩:=H
     try dsimp only at H
     have A5:=Aside0.mk A50
     clear A50
     by_cases c6:t425=true
     ·subst c6
      rw [if_pos rfl] at H
      replace H:=Option.bind_eq_some_iff.mp H
      obtain ⟨t427,A70,H⟩:=H
      try dsimp only at H
      have A7:=Aside0.mk A70
      clear A70
      by_cases c8:t427=true
      ·subst c8
       rw [if_pos rfl] at H
       by_cases c9:((rd_T45 l1 x5_1).f0)=((rd_T45 l1 x5_1).f1)
       ·rw [if_pos c9] at H
        have c9b0:(((rd_T45 l1 x5_1).f0) == ((rd_T45 l1 x5_1).f1))=true:=beq_iff_eq.mpr c9
        have c9b1:(((rd_T45 l1 x5_1).f0) != ((rd_T45 l1 x5_1).f1))=false:=bne_eq_false_iff_eq.mpr c9
        clear c9
        obtain rfl:=Option.some.inj H
        try go_wp2
        replace HB:=Aside0.mk (below_drew1 HB.out)
        have p424:0≤(x5_1:Int):=of_decide_eq_true za
        have q424:x5_1<(l1.length:Int):=of_decide_eq_true za
        obtain ⟨ad424,e424,hx424_0,hx424_1⟩:=at_T45 HR1.out x5_1 p424 q424
        have hw424_1:=hx424_1
        have hw424_0:=hx424_0
        cases e424
        replace hx424_0:=(HB.out.cell (World.block_lt_of_cell? w _ hx424_0)).trans hx424_0
        replace hx424_1:=(HB.out.cell (World.block_lt_of_cell? w _ hx424_1)).trans hx424_1
        replace p424:=eq_true p424
        replace q424:=eq_true q424
        have p426:0≤(x5_1:Int):=of_decide_eq_true za
        have q426:x5_1<(l1.length:Int):=of_decide_eq_true za
        obtain ⟨ad426,e426,hx426_0,hx426_1⟩:=at_T45 HR1.out x5_1 p426 q426
        have hw426_1:=hx426_1
        have hw426_0:=hx426_0
        obtain rfl:ad424=ad426:=(by injection e426)
        replace hx426_0:=(HB.out.cell (World.block_lt_of_cell? w _ hx426_0)).trans hx426_0
        replace hx426_1:=(HB.out.cell (World.block_lt_of_cell? w _ hx426_1)).trans hx426_1
        replace p426:=eq_true p426
        replace q426:=eq_true q426
        have p428:0≤(x5_1:Int):=of_decide_eq_true za
        have q428:x5_1<(l1.length:Int):=of_decide_eq_true za
        obtain ⟨ad428,e428,hx428_0,hx428_1⟩:=at_T45 HR1.out x5_1 p428 q428
        have hw428_1:=hx428_1
        have hw428_0:=hx428_0
        obtain rfl:ad424=ad428:=(by injection e428)
        replace hx428_0:=(HB.out.cell (World.block_lt_of_cell? w _ hx428_0)).trans hx428_0
        replace hx428_1:=(HB.out.cell (World.block_lt_of_cell? w _ hx428_1)).trans hx428_1
        replace p428:=eq_true p428
        replace q428:=eq_true q428
        have p429:0≤(x5_1:Int):=of_decide_eq_true za
        have q429:x5_1<(l1.length:Int):=of_decide_eq_true za
        obtain ⟨ad429,e429,hx429_0,hx429_1⟩:=at_T45 HR1.out x5_1 p429 q429
        have hw429_1:=hx429_1
        have hw429_0:=hx429_0
        obtain rfl:ad424=ad429:=(by injection e429)
        replace hx429_0:=(HB.out.cell (World.block_lt_of_cell? w _ hx429_0)).trans hx429_0
        replace hx429_1:=(HB.out.cell (World.block_lt_of_cell? w _ hx429_1)).trans hx429_1
        replace p429:=eq_true p429
        replace q429:=eq_true q429
        refine start_ (n:=50) (S:=fun w'=>w'.cell? (ad424.add ((x5_1).toNat * 2))=some (.int .i64 ((rd_T45 l1 x5_1).f0))∧w'.cell? ⟨(ad424.add ((x5_1).toNat * 2)).block,(ad424.add ((x5_1).toNat * 2)).off + 1,none⟩=some (.int .i64 ((rd_T45 l1 x5_1).f1))∧w'.cell? (ad424.add ((x5_1).toNat * 2))=some (.int .i64 ((rd_T45 l1 x5_1).f0))∧w'.cell? ⟨(ad424.add ((x5_1).toNat * 2)).block,(ad424.add ((x5_1).toNat * 2)).off + 1,none⟩=some (.int .i64 ((rd_T45 l1 x5_1).f1))∧w'.cell? (ad424.add ((x5_1).toNat * 2))=some (.int .i64 ((rd_T45 l1 x5_1).f0))∧w'.cell? ⟨(ad424.add ((x5_1).toNat * 2)).block,(ad424.add ((x5_1).toNat * 2)).off + 1,none⟩=some (.int .i64 ((rd_T45 l1 x5_1).f1))∧w'.cell? (ad424.add ((x5_1).toNat * 2))=some (.int .i64 ((rd_T45 l1 x5_1).f0))∧w'.cell? ⟨(ad424.add ((x5_1).toNat * 2)).block,(ad424.add ((x5_1).toNat * 2)).off + 1,none⟩=some (.int .i64 ((rd_T45 l1 x5_1).f1))) (ds:=[]) ba0_ (by kernel_rfl) rfl rfl ⟨((HB.out.cell (World.block_lt_of_cell? w _ hw424_0)).trans hw424_0),((HB.out.cell (World.block_lt_of_cell? w _ hw424_1)).trans hw424_1),((HB.out.cell (World.block_lt_of_cell? w _ hw426_0)).trans hw426_0),((HB.out.cell (World.block_lt_of_cell? w _ hw426_1)).trans hw426_1),((HB.out.cell (World.block_lt_of_cell? w _ hw428_0)).trans hw428_0),((HB.out.cell (World.block_lt_of_cell? w _ hw428_1)).trans hw428_1),((HB.out.cell (World.block_lt_of_cell? w _ hw429_0)).trans hw429_0),((HB.out.cell (World.block_lt_of_cell? w _ hw429_1)).trans hw429_1)⟩ (fun hHeld=>?_);refine with_tabW spec_l4Pairs.tab4 spec_l4Pairs.bits4 (fun HT_ HW_=>?_)
        generalize wr.drew=w10 at HB hx424_0 hx424_1 hx426_0 hx426_1 hx428_0 hx428_1 hx429_0 hx429_1 hHeld ⊢
        refine pure_ (i:=0) (N:=some 12) (v:=?_) (a':=?_) ba1_ rfl rfl (any_of HT_.out (by kernel_rfl)) id3_ (Or.inl ⟨by rfl,?_⟩) ?_ ?_
        rotate_left;(intro w';go_simp;with_reducible rfl)
        rotate_left;(simp only [Act.put,z0_,z1_,z2_,i64_w,i32_w];rfl)
        refine pure_ (i:=1) (N:=some 13) (v:=?_) (a':=?_) ba2_ rfl rfl (any_of HT_.out (by kernel_rfl)) id3_ (Or.inl ⟨by rfl,?_⟩) ?_ ?_
        rotate_left;(intro w';go_simp;with_reducible rfl)
        rotate_left;(simp only [Act.put,z0_,z1_,z2_,i64_w,i32_w];rfl)
        refine pure_ (i:=2) (N:=some 14) (v:=?_) (a':=?_) ba3_ rfl rfl (any_of HT_.out (by kernel_rfl)) id3_ (Or.inl ⟨by rfl,?_⟩) ?_ ?_
        rotate_left;(intro w';go_simp;with_reducible rfl)
        rotate_left;(simp only [Act.put,z0_,z1_,z2_,i64_w,i32_w];rfl)
        refine pure_ (i:=3) (N:=some 15) (v:=?_) (a':=?_) ba4_ rfl rfl (any_of HT_.out (by kernel_rfl)) id3_ (Or.inl ⟨by rfl,?_⟩) ?_ ?_
        rotate_left;(intro w';go_simp;with_reducible rfl)
        rotate_left;(simp only [Act.put,z0_,z1_,z2_,i64_w,i32_w];rfl)
        refine pure_ (i:=5) (N:=some 17) (v:=?_) (a':=?_) ba5_ rfl rfl (any_of HT_.out (by kernel_rfl)) id3_ (Or.inl ⟨by rfl,?_⟩) ?_ ?_
        rotate_left;(intro w';go_simp;with_reducible rfl)
        rotate_left;(simp only [Act.put,z0_,z1_,z2_,i64_w,i32_w];rfl)
        refine pure_ (i:=6) (N:=some 18) (v:=?_) (a':=?_) ba6_ rfl rfl (any_of HT_.out (by kernel_rfl)) id3_ (Or.inl ⟨by rfl,?_⟩) ?_ ?_
        rotate_left;(intro w';go_simp;with_reducible rfl)
        rotate_left;(simp only [Act.put,z0_,z1_,z2_,i64_w,i32_w];rfl)
        refine take_ (i:=4) (N:=some 16) (v:=?_) (a':=?_) ba7_ rfl rfl (take_ofW HT_.out HW_.out (by kernel_rfl)) id3_ (Or.inl ⟨by rfl,?_⟩) hHeld ?_ ?_
        rotate_left
        ·rintro w' ⟨s0,s1,s2,s3,s4,s5,s6,s7⟩
         go_simp
         with_reducible rfl
        rotate_left;(simp only [Act.put,z0_,z1_,z2_,i64_w,i32_w];rfl)
        refine one_ (i:=7) (N:=some 19) ba8_ rfl rfl (one_of HT_.out (by kernel_rfl)) (by decide) (fun K hK=>?_)
        refine goes_ Try.func107 (by kernel_rfl) rfl #[.int .i64 ((rd_T45 l1 x5_1).f0),.int .i64 0,.int .i64 (wrap64 (a0 - 1))] (by rfl) rfl rfl zl ?_
        with_reducible refine (spec_l1In.calls ((rd_T45 l1 x5_1).f0) 0 (wrap64 (a0 - 1)) true _ A5.out).mono ?_
        rintro e w' ⟨rfl,⟨nd,rfl⟩⟩
        refine ⟨_,rfl,?_⟩
        refine hK.out _ _ ⟨((HB.out.cell (World.block_lt_of_cell? w _ hw424_0)).trans hw424_0),((HB.out.cell (World.block_lt_of_cell? w _ hw424_1)).trans hw424_1),((HB.out.cell (World.block_lt_of_cell? w _ hw426_0)).trans hw426_0),((HB.out.cell (World.block_lt_of_cell? w _ hw426_1)).trans hw426_1),((HB.out.cell (World.block_lt_of_cell? w _ hw428_0)).trans hw428_0),((HB.out.cell (World.block_lt_of_cell? w _ hw428_1)).trans hw428_1),((HB.out.cell (World.block_lt_of_cell? w _ hw429_0)).trans hw429_0),((HB.out.cell (World.block_lt_of_cell? w _ hw429_1)).trans hw429_1)⟩ (fun hHeld=>?_)
        clear hK K
        refine norm_ (a':=?_) ?_ ?_
        rotate_left
        ·show Act.put _ (some 19) _=_
         simp only [Act.put,z0_,z1_,z2_,i64_w,i32_w]
         rfl
        refine pure_ (i:=8) (N:=some 20) (v:=?_) (a':=?_) ba9_ rfl rfl (any_of HT_.out (by kernel_rfl)) id3_ (Or.inl ⟨by rfl,?_⟩) ?_ ?_
        rotate_left;(intro w';go_simp;with_reducible rfl)
        rotate_left;(simp only [Act.put,z0_,z1_,z2_,i64_w,i32_w];rfl)
        refine pure_ (i:=9) (N:=some 21) (v:=?_) (a':=?_) ba10_ rfl rfl (any_of HT_.out (by kernel_rfl)) id3_ (Or.inl ⟨by rfl,?_⟩) ?_ ?_
        rotate_left;(intro w';go_simp;with_reducible rfl)
        rotate_left;(simp only [Act.put,z0_,z1_,z2_,i64_w,i32_w];rfl)
        refine pure_ (i:=10) (N:=some 22) (v:=?_) (a':=?_) ba11_ rfl rfl (any_of HT_.out (by kernel_rfl)) id3_ (Or.inl ⟨by rfl,?_⟩) ?_ ?_
        rotate_left;(intro w';go_simp;with_reducible rfl)
        rotate_left;(simp only [Act.put,z0_,z1_,z2_,i64_w,i32_w];rfl)
        refine pure_ (i:=11) (N:=some 23) (v:=?_) (a':=?_) ba12_ rfl rfl (any_of HT_.out (by kernel_rfl)) id3_ (Or.inl ⟨by rfl,?_⟩) ?_ ?_
        rotate_left;(intro w';go_simp;with_reducible rfl)
        rotate_left;(simp only [Act.put,z0_,z1_,z2_,i64_w,i32_w];rfl)
        refine pure_ (i:=12) (N:=some 24) (v:=?_) (a':=?_) ba13_ rfl rfl (any_of HT_.out (by kernel_rfl)) id3_ (Or.inl ⟨by rfl,?_⟩) ?_ ?_
        rotate_left;(intro w';go_simp;with_reducible rfl)
        rotate_left;(simp only [Act.put,z0_,z1_,z2_,i64_w,i32_w];rfl)
        refine pure_ (i:=13) (N:=some 25) (v:=?_) (a':=?_) ba14_ rfl rfl (any_of HT_.out (by kernel_rfl)) id3_ (Or.inl ⟨by rfl,?_⟩) ?_ ?_
        rotate_left;(intro w';go_simp;with_reducible rfl)
        rotate_left;(simp only [Act.put,z0_,z1_,z2_,i64_w,i32_w];rfl)
        refine pure_ (i:=15) (N:=some 27) (v:=?_) (a':=?_) ba15_ rfl rfl (any_of HT_.out (by kernel_rfl)) id3_ (Or.inl ⟨by rfl,?_⟩) ?_ ?_
        rotate_left;(intro w';go_simp;with_reducible rfl)
        rotate_left;(simp only [Act.put,z0_,z1_,z2_,i64_w,i32_w];rfl)
        refine pure_ (i:=16) (N:=some 28) (v:=?_) (a':=?_) ba16_ rfl rfl (any_of HT_.out (by kernel_rfl)) id3_ (Or.inl ⟨by rfl,?_⟩) ?_ ?_
        rotate_left;(intro w';go_simp;with_reducible rfl)
        rotate_left;(simp only [Act.put,z0_,z1_,z2_,i64_w,i32_w];rfl)
        refine take_ (i:=14) (N:=some 26) (v:=?_) (a':=?_) ba17_ rfl rfl (take_ofW HT_.out HW_.out (by kernel_rfl)) id3_ (Or.inl ⟨by rfl,?_⟩) hHeld ?_ ?_
        rotate_left
        ·rintro w' ⟨s0,s1,s2,s3,s4,s5,s6,s7⟩
         go_simp
         with_reducible rfl
        rotate_left;(simp only [Act.put,z0_,z1_,z2_,i64_w,i32_w];rfl)
        refine one_ (i:=17) (N:=some 29) ba18_ rfl rfl (one_of HT_.out (by kernel_rfl)) (by decide) (fun K hK=>?_)
        refine goes_ Try.func107 (by kernel_rfl) rfl #[.int .i64 ((rd_T45 l1 x5_1).f1),.int .i64 0,.int .i64 (wrap64 (a0 - 1))] (by rfl) rfl rfl zl ?_
        with_reducible refine (spec_l1In.calls ((rd_T45 l1 x5_1).f1) 0 (wrap64 (a0 - 1)) true _ A7.out).mono ?_
        rintro e w' ⟨rfl,⟨nd,rfl⟩⟩
        refine ⟨_,rfl,?_⟩
        refine hK.out _ _ ⟨((HB.out.cell (World.block_lt_of_cell? w _ hw424_0)).trans hw424_0),((HB.out.cell (World.block_lt_of_cell? w _ hw424_1)).trans hw424_1),((HB.out.cell (World.block_lt_of_cell? w _ hw426_0)).trans hw426_0),((HB.out.cell (World.block_lt_of_cell? w _ hw426_1)).trans hw426_1),((HB.out.cell (World.block_lt_of_cell? w _ hw428_0)).trans hw428_0),((HB.out.cell (World.block_lt_of_cell? w _ hw428_1)).trans hw428_1),((HB.out.cell (World.block_lt_of_cell? w _ hw429_0)).trans hw429_0),((HB.out.cell (World.block_lt_of_cell? w _ hw429_1)).trans hw429_1)⟩ (fun hHeld=>?_)
        clear hK K
        refine norm_ (a':=?_) ?_ ?_
        rotate_left
        ·show Act.put _ (some 29) _=_
         simp only [Act.put,z0_,z1_,z2_,i64_w,i32_w]
         rfl
        refine pure_ (i:=18) (N:=some 30) (v:=?_) (a':=?_) ba19_ rfl rfl (any_of HT_.out (by kernel_rfl)) id3_ (Or.inl ⟨by rfl,?_⟩) ?_ ?_
        rotate_left;(intro w';go_simp;with_reducible rfl)
        rotate_left;(simp only [Act.put,z0_,z1_,z2_,i64_w,i32_w];rfl)
        refine pure_ (i:=19) (N:=some 31) (v:=?_) (a':=?_) ba20_ rfl rfl (any_of HT_.out (by kernel_rfl)) id3_ (Or.inl ⟨by rfl,?_⟩) ?_ ?_
        rotate_left;(intro w';go_simp;with_reducible rfl)
        rotate_left;(simp only [Act.put,z0_,z1_,z2_,i64_w,i32_w];rfl)
        refine pure_ (i:=20) (N:=some 32) (v:=?_) (a':=?_) ba21_ rfl rfl (any_of HT_.out (by kernel_rfl)) id3_ (Or.inl ⟨by rfl,?_⟩) ?_ ?_
        rotate_left;(intro w';go_simp;with_reducible rfl)
        rotate_left;(simp only [Act.put,z0_,z1_,z2_,i64_w,i32_w];rfl)
        refine pure_ (i:=21) (N:=some 33) (v:=?_) (a':=?_) ba22_ rfl rfl (any_of HT_.out (by kernel_rfl)) id3_ (Or.inl ⟨by rfl,?_⟩) ?_ ?_
        rotate_left;(intro w';go_simp;with_reducible rfl)
        rotate_left;(simp only [Act.put,z0_,z1_,z2_,i64_w,i32_w];rfl)
        refine pure_ (i:=22) (N:=some 34) (v:=?_) (a':=?_) ba23_ rfl rfl (any_of HT_.out (by kernel_rfl)) id3_ (Or.inl ⟨by rfl,?_⟩) ?_ ?_
        rotate_left;(intro w';go_simp;with_reducible rfl)
        rotate_left;(simp only [Act.put,z0_,z1_,z2_,i64_w,i32_w];rfl)
        refine pure_ (i:=23) (N:=some 35) (v:=?_) (a':=?_) ba24_ rfl rfl (any_of HT_.out (by kernel_rfl)) id3_ (Or.inl ⟨by rfl,?_⟩) ?_ ?_
        rotate_left;(intro w';go_simp;with_reducible rfl)
        rotate_left;(simp only [Act.put,z0_,z1_,z2_,i64_w,i32_w];rfl)
        refine pure_ (i:=24) (N:=some 36) (v:=?_) (a':=?_) ba25_ rfl rfl (any_of HT_.out (by kernel_rfl)) id3_ (Or.inl ⟨by rfl,?_⟩) ?_ ?_
        rotate_left;(intro w';go_simp;with_reducible rfl)
        rotate_left;(simp only [Act.put,z0_,z1_,z2_,i64_w,i32_w];rfl)
        refine pure_ (i:=26) (N:=some 38) (v:=?_) (a':=?_) ba26_ rfl rfl (any_of HT_.out (by kernel_rfl)) id3_ (Or.inl ⟨by rfl,?_⟩) ?_ ?_
        rotate_left;(intro w';go_simp;with_reducible rfl)
        rotate_left;(simp only [Act.put,z0_,z1_,z2_,i64_w,i32_w];rfl)
        refine pure_ (i:=27) (N:=some 39) (v:=?_) (a':=?_) ba27_ rfl rfl (any_of HT_.out (by kernel_rfl)) id3_ (Or.inl ⟨by rfl,?_⟩) ?_ ?_
        rotate_left;(intro w';go_simp;with_reducible rfl)
        rotate_left;(simp only [Act.put,z0_,z1_,z2_,i64_w,i32_w];rfl)
        refine pure_ (i:=28) (N:=some 40) (v:=?_) (a':=?_) ba28_ rfl rfl (any_of HT_.out (by kernel_rfl)) id3_ (Or.inl ⟨by rfl,?_⟩) ?_ ?_
        rotate_left;(intro w';go_simp;with_reducible rfl)
        rotate_left;(simp only [Act.put,z0_,z1_,z2_,i64_w,i32_w];rfl)
        refine pure_ (i:=29) (N:=some 41) (v:=?_) (a':=?_) ba29_ rfl rfl (any_of HT_.out (by kernel_rfl)) id3_ (Or.inl ⟨by rfl,?_⟩) ?_ ?_
        rotate_left;(intro w';go_simp;with_reducible rfl)
        rotate_left;(simp only [Act.put,z0_,z1_,z2_,i64_w,i32_w];rfl)
        refine take_ (i:=25) (N:=some 37) (v:=?_) (a':=?_) ba30_ rfl rfl (take_ofW HT_.out HW_.out (by kernel_rfl)) id3_ (Or.inl ⟨by rfl,?_⟩) hHeld ?_ ?_
        rotate_left
        ·rintro w' ⟨s0,s1,s2,s3,s4,s5,s6,s7⟩
         go_simp
         with_reducible rfl
        rotate_left;(simp only [Act.put,z0_,z1_,z2_,i64_w,i32_w];rfl)
        refine take_ (i:=30) (N:=some 42) (v:=?_) (a':=?_) ba31_ rfl rfl (take_ofW HT_.out HW_.out (by kernel_rfl)) id3_ (Or.inl ⟨by rfl,?_⟩) hHeld ?_ ?_
        rotate_left
        ·rintro w' ⟨s0,s1,s2,s3,s4,s5,s6,s7⟩
         go_simp
         with_reducible rfl
        rotate_left;(simp only [Act.put,z0_,z1_,z2_,i64_w,i32_w];rfl)
        refine pure_ (i:=31) (N:=some 43) (v:=?_) (a':=?_) ba32_ rfl rfl (any_of HT_.out (by kernel_rfl)) id3_ (Or.inl ⟨by rfl,?_⟩) ?_ ?_
        rotate_left;(intro w';go_simp;with_reducible rfl)
        rotate_left;(simp only [Act.put,z0_,z1_,z2_,i64_w,i32_w];rfl)
        refine pure_ (i:=32) (N:=some 44) (v:=?_) (a':=?_) ba33_ rfl rfl (any_of HT_.out (by kernel_rfl)) id3_ (Or.inl ⟨by rfl,?_⟩) ?_ ?_
        rotate_left;(intro w';go_simp;with_reducible rfl)
        rotate_left;(simp only [Act.put,z0_,z1_,z2_,i64_w,i32_w];rfl)
        refine pure_ (i:=33) (N:=some 45) (v:=?_) (a':=?_) ba34_ rfl rfl (any_of HT_.out (by kernel_rfl)) id3_ (Or.inl ⟨by rfl,?_⟩) ?_ ?_
        rotate_left;(intro w';go_simp;with_reducible rfl)
        rotate_left;(simp only [Act.put,z0_,z1_,z2_,i64_w,i32_w];rfl)
        refine pure_ (i:=34) (N:=some 46) (v:=undef) (a':=?_) ba35_ rfl rfl (any_of HT_.out (by kernel_rfl)) id3_ (Or.inr ⟨by rfl,rfl⟩) ?_ ?_
        rotate_left;(simp only [Act.put,z0_,z1_,z2_,i64_w,i32_w];rfl)
        refine pure_ (i:=35) (N:=some 47) (v:=undef) (a':=?_) ba36_ rfl rfl (any_of HT_.out (by kernel_rfl)) id3_ (Or.inr ⟨by rfl,rfl⟩) ?_ ?_
        rotate_left;(simp only [Act.put,z0_,z1_,z2_,i64_w,i32_w];rfl)
        refine pure_ (i:=36) (N:=some 48) (v:=undef) (a':=?_) ba37_ rfl rfl (any_of HT_.out (by kernel_rfl)) id3_ (Or.inr ⟨by rfl,rfl⟩) ?_ ?_
        rotate_left;(simp only [Act.put,z0_,z1_,z2_,i64_w,i32_w];rfl)
        refine pure_ (i:=37) (N:=some 49) (v:=undef) (a':=?_) ba38_ rfl rfl (any_of HT_.out (by kernel_rfl)) id3_ (Or.inr ⟨by rfl,rfl⟩) ?_ ?_
        rotate_left;(simp only [Act.put,z0_,z1_,z2_,i64_w,i32_w];rfl)
        refine pure_ (i:=38) (N:=some 50) (v:=undef) (a':=?_) ba39_ rfl rfl (any_of HT_.out (by kernel_rfl)) id3_ (Or.inr ⟨by rfl,rfl⟩) ?_ ?_
        rotate_left;(simp only [Act.put,z0_,z1_,z2_,i64_w,i32_w];rfl)
        refine pure_ (i:=39) (N:=some 51) (v:=undef) (a':=?_) ba40_ rfl rfl (any_of HT_.out (by kernel_rfl)) id3_ (Or.inr ⟨by rfl,rfl⟩) ?_ ?_
        rotate_left;(simp only [Act.put,z0_,z1_,z2_,i64_w,i32_w];rfl)
        refine pure_ (i:=40) (N:=some 52) (v:=undef) (a':=?_) ba41_ rfl rfl (any_of HT_.out (by kernel_rfl)) id3_ (Or.inr ⟨by rfl,rfl⟩) ?_ ?_
        rotate_left;(simp only [Act.put,z0_,z1_,z2_,i64_w,i32_w];rfl)
        refine pure_ (i:=41) (N:=some 53) (v:=undef) (a':=?_) ba42_ rfl rfl (any_of HT_.out (by kernel_rfl)) id3_ (Or.inr ⟨by rfl,rfl⟩) ?_ ?_
        rotate_left;(simp only [Act.put,z0_,z1_,z2_,i64_w,i32_w];rfl)
        refine pure_ (i:=42) (N:=some 54) (v:=undef) (a':=?_) ba43_ rfl rfl (any_of HT_.out (by kernel_rfl)) id3_ (Or.inr ⟨by rfl,rfl⟩) ?_ ?_
        rotate_left;(simp only [Act.put,z0_,z1_,z2_,i64_w,i32_w];rfl)
        refine pure_ (i:=43) (N:=some 55) (v:=undef) (a':=?_) ba44_ rfl rfl (any_of HT_.out (by kernel_rfl)) id3_ (Or.inr ⟨by rfl,rfl⟩) ?_ ?_
        rotate_left;(simp only [Act.put,z0_,z1_,z2_,i64_w,i32_w];rfl)
        refine pure_ (i:=44) (N:=some 56) (v:=undef) (a':=?_) ba45_ rfl rfl (any_of HT_.out (by kernel_rfl)) id3_ (Or.inr ⟨by rfl,rfl⟩) ?_ ?_
        rotate_left;(simp only [Act.put,z0_,z1_,z2_,i64_w,i32_w];rfl)
        refine pure_ (i:=45) (N:=some 57) (v:=undef) (a':=?_) ba46_ rfl rfl (any_of HT_.out (by kernel_rfl)) id3_ (Or.inr ⟨by rfl,rfl⟩) ?_ ?_
        rotate_left;(simp only [Act.put,z0_,z1_,z2_,i64_w,i32_w];rfl)
        refine pure_ (i:=46) (N:=some 58) (v:=undef) (a':=?_) ba47_ rfl rfl (any_of HT_.out (by kernel_rfl)) id3_ (Or.inr ⟨by rfl,rfl⟩) ?_ ?_
        rotate_left;(simp only [Act.put,z0_,z1_,z2_,i64_w,i32_w];rfl)
        refine pure_ (i:=47) (N:=some 59) (v:=undef) (a':=?_) ba48_ rfl rfl (any_of HT_.out (by kernel_rfl)) id3_ (Or.inr ⟨by rfl,rfl⟩) ?_ ?_
        rotate_left;(simp only [Act.put,z0_,z1_,z2_,i64_w,i32_w];rfl)
        refine pure_ (i:=48) (N:=some 60) (v:=undef) (a':=?_) ba49_ rfl rfl (any_of HT_.out (by kernel_rfl)) id3_ (Or.inr ⟨by rfl,rfl⟩) ?_ ?_
        rotate_left;(simp only [Act.put,z0_,z1_,z2_,i64_w,i32_w];rfl)
        refine pure_ (i:=49) (N:=some 61) (v:=?_) (a':=?_) ba50_ rfl rfl (any_of HT_.out (by kernel_rfl)) id3_ (Or.inl ⟨by rfl,?_⟩) ?_ ?_
        rotate_left;(intro w';go_simp;with_reducible rfl)
        rotate_left;(simp only [Act.put,z0_,z1_,z2_,i64_w,i32_w];rfl)
        refine done_ (done_of HT_.out (by kernel_rfl)) ?_
        try go_wp2
        go_ret
        exact ⟨by first|rfl|(simp [errW_none,errW_some] <;> rfl)|(simp [*,errW_none,errW_some] <;> rfl),zb⟩
       ·rw [if_neg c9] at H
        have c9b0:(((rd_T45 l1 x5_1).f0) == ((rd_T45 l1 x5_1).f1))=false:=beq_eq_false_iff_ne.mpr c9
        have c9b1:(((rd_T45 l1 x5_1).f0) != ((rd_T45 l1 x5_1).f1))=true:=bne_iff_ne.mpr c9
        by_cases c11:x5_1>0
        ·rw [if_pos c11] at H
         have c11b0:decide (0<x5_1)=true:=decide_eq_true c11
         clear c11
         obtain ⟨ji12,hji12⟩:∃ j_:Int,(wrap64 (x5_1 - 1))=j_:=⟨_,rfl⟩
         replace H:(if 0≤(ji12) then (if (ji12)<(l1.length:Int) then ((spec_l4Before.f ((rd_T45 l1 (ji12)).f0) ((rd_T45 l1 (ji12)).f1) ((rd_T45 l1 x5_1).f0) ((rd_T45 l1 x5_1).f1)).bind fun t432=>(if t432=true then (spec_l4Pairs.l0 k1 a0 l1 (wrap64 (x5_1 + 1))) else (some false))) else (none)) else (none))=some r:=by first|(rw [hji12] at H;exact H)|(simp only [hji12] at H ⊢;exact H)
         (try rw [hji12] at A5)
         (try rw [hji12] at A7)
         have hji12w:(IntKind.i64.wrap (x5_1 - 1))=ji12:=(i64_w _).trans hji12
         by_cases c13:0≤(ji12)
         ·rw [if_pos c13] at H
          have c13b0:decide (0≤(ji12))=true:=decide_eq_true c13
          clear c13
          by_cases c14:(ji12)<(l1.length:Int)
          ·rw [if_pos c14] at H
           have c14b0:decide ((ji12)<(l1.length:Int))=true:=decide_eq_true c14
           clear c14
           replace H:=Option.bind_eq_some_iff.mp H
           obtain ⟨t432,A150,H⟩:=H
           try dsimp only at H
           have A15:=Aside0.mk A150
           clear A150
           by_cases c16:t432=true
           ·subst c16
            rw [if_pos rfl] at H
            have H':=Aside0.mk H
            clear H
            try go_wp2
            replace HB:=Aside0.mk (below_drew1 HB.out)
            have p424:0≤(x5_1:Int):=of_decide_eq_true za
            have q424:x5_1<(l1.length:Int):=of_decide_eq_true za
            obtain ⟨ad424,e424,hx424_0,hx424_1⟩:=at_T45 HR1.out x5_1 p424 q424
            have hw424_1:=hx424_1
            have hw424_0:=hx424_0
            cases e424
            replace hx424_0:=(HB.out.cell (World.block_lt_of_cell? w _ hx424_0)).trans hx424_0
            replace hx424_1:=(HB.out.cell (World.block_lt_of_cell? w _ hx424_1)).trans hx424_1
            replace p424:=eq_true p424
            replace q424:=eq_true q424
            have p426:0≤(x5_1:Int):=of_decide_eq_true za
            have q426:x5_1<(l1.length:Int):=of_decide_eq_true za
            obtain ⟨ad426,e426,hx426_0,hx426_1⟩:=at_T45 HR1.out x5_1 p426 q426
            have hw426_1:=hx426_1
            have hw426_0:=hx426_0
            obtain rfl:ad424=ad426:=(by injection e426)
            replace hx426_0:=(HB.out.cell (World.block_lt_of_cell? w _ hx426_0)).trans hx426_0
            replace hx426_1:=(HB.out.cell (World.block_lt_of_cell? w _ hx426_1)).trans hx426_1
            replace p426:=eq_true p426
            replace q426:=eq_true q426
            have p428:0≤(x5_1:Int):=of_decide_eq_true za
            have q428:x5_1<(l1.length:Int):=of_decide_eq_true za
            obtain ⟨ad428,e428,hx428_0,hx428_1⟩:=at_T45 HR1.out x5_1 p428 q428
            have hw428_1:=hx428_1
            have hw428_0:=hx428_0
            obtain rfl:ad424=ad428:=(by injection e428)
            replace hx428_0:=(HB.out.cell (World.block_lt_of_cell? w _ hx428_0)).trans hx428_0
            replace hx428_1:=(HB.out.cell (World.block_lt_of_cell? w _ hx428_1)).trans hx428_1
            replace p428:=eq_true p428
            replace q428:=eq_true q428
            have p429:0≤(x5_1:Int):=of_decide_eq_true za
            have q429:x5_1<(l1.length:Int):=of_decide_eq_true za
            obtain ⟨ad429,e429,hx429_0,hx429_1⟩:=at_T45 HR1.out x5_1 p429 q429
            have hw429_1:=hx429_1
            have hw429_0:=hx429_0
            obtain rfl:ad424=ad429:=(by injection e429)
            replace hx429_0:=(HB.out.cell (World.block_lt_of_cell? w _ hx429_0)).trans hx429_0
            replace hx429_1:=(HB.out.cell (World.block_lt_of_cell? w _ hx429_1)).trans hx429_1
            replace p429:=eq_true p429
            replace q429:=eq_true q429
            have p430:0≤((ji12):Int):=of_decide_eq_true za
            have q430:(ji12)<(l1.length:Int):=of_decide_eq_true za
            obtain ⟨ad430,e430,hx430_0,hx430_1⟩:=at_T45 HR1.out (ji12) p430 q430
            have hw430_1:=hx430_1
            have hw430_0:=hx430_0
            obtain rfl:ad424=ad430:=(by injection e430)
            replace hx430_0:=(HB.out.cell (World.block_lt_of_cell? w _ hx430_0)).trans hx430_0
            replace hx430_1:=(HB.out.cell (World.block_lt_of_cell? w _ hx430_1)).trans hx430_1
            replace p430:=eq_true p430
            replace q430:=eq_true q430
            have p431:0≤(x5_1:Int):=of_decide_eq_true za
            have q431:x5_1<(l1.length:Int):=of_decide_eq_true za
            obtain ⟨ad431,e431,hx431_0,hx431_1⟩:=at_T45 HR1.out x5_1 p431 q431
            have hw431_1:=hx431_1
            have hw431_0:=hx431_0
            obtain rfl:ad424=ad431:=(by injection e431)
            replace hx431_0:=(HB.out.cell (World.block_lt_of_cell? w _ hx431_0)).trans hx431_0
            replace hx431_1:=(HB.out.cell (World.block_lt_of_cell? w _ hx431_1)).trans hx431_1
            replace p431:=eq_true p431
            replace q431:=eq_true q431
            refine start_ (n:=50) (S:=fun w'=>w'.cell? (ad424.add ((x5_1).toNat * 2))=some (.int .i64 ((rd_T45 l1 x5_1).f0))∧w'.cell? ⟨(ad424.add ((x5_1).toNat * 2)).block,(ad424.add ((x5_1).toNat * 2)).off + 1,none⟩=some (.int .i64 ((rd_T45 l1 x5_1).f1))∧w'.cell? (ad424.add ((x5_1).toNat * 2))=some (.int .i64 ((rd_T45 l1 x5_1).f0))∧w'.cell? ⟨(ad424.add ((x5_1).toNat * 2)).block,(ad424.add ((x5_1).toNat * 2)).off + 1,none⟩=some (.int .i64 ((rd_T45 l1 x5_1).f1))∧w'.cell? (ad424.add ((x5_1).toNat * 2))=some (.int .i64 ((rd_T45 l1 x5_1).f0))∧w'.cell? ⟨(ad424.add ((x5_1).toNat * 2)).block,(ad424.add ((x5_1).toNat * 2)).off + 1,none⟩=some (.int .i64 ((rd_T45 l1 x5_1).f1))∧w'.cell? (ad424.add ((x5_1).toNat * 2))=some (.int .i64 ((rd_T45 l1 x5_1).f0))∧w'.cell? ⟨(ad424.add ((x5_1).toNat * 2)).block,(ad424.add ((x5_1).toNat * 2)).off + 1,none⟩=some (.int .i64 ((rd_T45 l1 x5_1).f1))∧w'.cell? (ad424.add (((ji12)).toNat * 2))=some (.int .i64 ((rd_T45 l1 (ji12)).f0))∧w'.cell? ⟨(ad424.add (((ji12)).toNat * 2)).block,(ad424.add (((ji12)).toNat * 2)).off + 1,none⟩=some (.int .i64 ((rd_T45 l1 (ji12)).f1))∧w'.cell? (ad424.add ((x5_1).toNat * 2))=some (.int .i64 ((rd_T45 l1 x5_1).f0))∧w'.cell? ⟨(ad424.add ((x5_1).toNat * 2)).block,(ad424.add ((x5_1).toNat * 2)).off + 1,none⟩=some (.int .i64 ((rd_T45 l1 x5_1).f1))) (ds:=[]) ba0_ (by kernel_rfl) rfl rfl ⟨((HB.out.cell (World.block_lt_of_cell? w _ hw424_0)).trans hw424_0),((HB.out.cell (World.block_lt_of_cell? w _ hw424_1)).trans hw424_1),((HB.out.cell (World.block_lt_of_cell? w _ hw426_0)).trans hw426_0),((HB.out.cell (World.block_lt_of_cell? w _ hw426_1)).trans hw426_1),((HB.out.cell (World.block_lt_of_cell? w _ hw428_0)).trans hw428_0),((HB.out.cell (World.block_lt_of_cell? w _ hw428_1)).trans hw428_1),((HB.out.cell (World.block_lt_of_cell? w _ hw429_0)).trans hw429_0),((HB.out.cell (World.block_lt_of_cell? w _ hw429_1)).trans hw429_1),((HB.out.cell (World.block_lt_of_cell? w _ hw430_0)).trans hw430_0),((HB.out.cell (World.block_lt_of_cell? w _ hw430_1)).trans hw430_1),((HB.out.cell (World.block_lt_of_cell? w _ hw431_0)).trans hw431_0),((HB.out.cell (World.block_lt_of_cell? w _ hw431_1)).trans hw431_1)⟩ (fun hHeld=>?_);refine with_tabW spec_l4Pairs.tab4 spec_l4Pairs.bits4 (fun HT_ HW_=>?_)
            generalize wr.drew=w17 at HB hx424_0 hx424_1 hx426_0 hx426_1 hx428_0 hx428_1 hx429_0 hx429_1 hx430_0 hx430_1 hx431_0 hx431_1 hHeld ⊢
            refine pure_ (i:=0) (N:=some 12) (v:=?_) (a':=?_) ba1_ rfl rfl (any_of HT_.out (by kernel_rfl)) id3_ (Or.inl ⟨by rfl,?_⟩) ?_ ?_
            rotate_left;(intro w';go_simp;with_reducible rfl)
            rotate_left;(simp only [Act.put,z0_,z1_,z2_,i64_w,i32_w];rfl)
            refine pure_ (i:=1) (N:=some 13) (v:=?_) (a':=?_) ba2_ rfl rfl (any_of HT_.out (by kernel_rfl)) id3_ (Or.inl ⟨by rfl,?_⟩) ?_ ?_
            rotate_left;(intro w';go_simp;with_reducible rfl)
            rotate_left;(simp only [Act.put,z0_,z1_,z2_,i64_w,i32_w];rfl)
            refine pure_ (i:=2) (N:=some 14) (v:=?_) (a':=?_) ba3_ rfl rfl (any_of HT_.out (by kernel_rfl)) id3_ (Or.inl ⟨by rfl,?_⟩) ?_ ?_
            rotate_left;(intro w';go_simp;with_reducible rfl)
            rotate_left;(simp only [Act.put,z0_,z1_,z2_,i64_w,i32_w];rfl)
            refine pure_ (i:=3) (N:=some 15) (v:=?_) (a':=?_) ba4_ rfl rfl (any_of HT_.out (by kernel_rfl)) id3_ (Or.inl ⟨by rfl,?_⟩) ?_ ?_
            rotate_left;(intro w';go_simp;with_reducible rfl)
            rotate_left;(simp only [Act.put,z0_,z1_,z2_,i64_w,i32_w];rfl)
            refine pure_ (i:=5) (N:=some 17) (v:=?_) (a':=?_) ba5_ rfl rfl (any_of HT_.out (by kernel_rfl)) id3_ (Or.inl ⟨by rfl,?_⟩) ?_ ?_
            rotate_left;(intro w';go_simp;with_reducible rfl)
            rotate_left;(simp only [Act.put,z0_,z1_,z2_,i64_w,i32_w];rfl)
            refine pure_ (i:=6) (N:=some 18) (v:=?_) (a':=?_) ba6_ rfl rfl (any_of HT_.out (by kernel_rfl)) id3_ (Or.inl ⟨by rfl,?_⟩) ?_ ?_
            rotate_left;(intro w';go_simp;with_reducible rfl)
            rotate_left;(simp only [Act.put,z0_,z1_,z2_,i64_w,i32_w];rfl)
            refine take_ (i:=4) (N:=some 16) (v:=?_) (a':=?_) ba7_ rfl rfl (take_ofW HT_.out HW_.out (by kernel_rfl)) id3_ (Or.inl ⟨by rfl,?_⟩) hHeld ?_ ?_
            rotate_left
            ·rintro w' ⟨s0,s1,s2,s3,s4,s5,s6,s7,s8,s9,s10,s11⟩
             go_simp
             with_reducible rfl
            rotate_left;(simp only [Act.put,z0_,z1_,z2_,i64_w,i32_w];rfl)
            refine one_ (i:=7) (N:=some 19) ba8_ rfl rfl (one_of HT_.out (by kernel_rfl)) (by decide) (fun K hK=>?_)
            refine goes_ Try.func107 (by kernel_rfl) rfl #[.int .i64 ((rd_T45 l1 x5_1).f0),.int .i64 0,.int .i64 (wrap64 (a0 - 1))] (by rfl) rfl rfl zl ?_
            with_reducible refine (spec_l1In.calls ((rd_T45 l1 x5_1).f0) 0 (wrap64 (a0 - 1)) true _ A5.out).mono ?_
            rintro e w' ⟨rfl,⟨nd,rfl⟩⟩
            refine ⟨_,rfl,?_⟩
            refine hK.out _ _ ⟨((HB.out.cell (World.block_lt_of_cell? w _ hw424_0)).trans hw424_0),((HB.out.cell (World.block_lt_of_cell? w _ hw424_1)).trans hw424_1),((HB.out.cell (World.block_lt_of_cell? w _ hw426_0)).trans hw426_0),((HB.out.cell (World.block_lt_of_cell? w _ hw426_1)).trans hw426_1),((HB.out.cell (World.block_lt_of_cell? w _ hw428_0)).trans hw428_0),((HB.out.cell (World.block_lt_of_cell? w _ hw428_1)).trans hw428_1),((HB.out.cell (World.block_lt_of_cell? w _ hw429_0)).trans hw429_0),((HB.out.cell (World.block_lt_of_cell? w _ hw429_1)).trans hw429_1),((HB.out.cell (World.block_lt_of_cell? w _ hw430_0)).trans hw430_0),((HB.out.cell (World.block_lt_of_cell? w _ hw430_1)).trans hw430_1),((HB.out.cell (World.block_lt_of_cell? w _ hw431_0)).trans hw431_0),((HB.out.cell (World.block_lt_of_cell? w _ hw431_1)).trans hw431_1)⟩ (fun hHeld=>?_)
            clear hK K
            refine norm_ (a':=?_) ?_ ?_
            rotate_left
            ·show Act.put _ (some 19) _=_
             simp only [Act.put,z0_,z1_,z2_,i64_w,i32_w]
             rfl
            refine pure_ (i:=8) (N:=some 20) (v:=?_) (a':=?_) ba9_ rfl rfl (any_of HT_.out (by kernel_rfl)) id3_ (Or.inl ⟨by rfl,?_⟩) ?_ ?_
            rotate_left;(intro w';go_simp;with_reducible rfl)
            rotate_left;(simp only [Act.put,z0_,z1_,z2_,i64_w,i32_w];rfl)
            refine pure_ (i:=9) (N:=some 21) (v:=?_) (a':=?_) ba10_ rfl rfl (any_of HT_.out (by kernel_rfl)) id3_ (Or.inl ⟨by rfl,?_⟩) ?_ ?_
            rotate_left;(intro w';go_simp;with_reducible rfl)
            rotate_left;(simp only [Act.put,z0_,z1_,z2_,i64_w,i32_w];rfl)
            refine pure_ (i:=10) (N:=some 22) (v:=?_) (a':=?_) ba11_ rfl rfl (any_of HT_.out (by kernel_rfl)) id3_ (Or.inl ⟨by rfl,?_⟩) ?_ ?_
            rotate_left;(intro w';go_simp;with_reducible rfl)
            rotate_left;(simp only [Act.put,z0_,z1_,z2_,i64_w,i32_w];rfl)
            refine pure_ (i:=11) (N:=some 23) (v:=?_) (a':=?_) ba12_ rfl rfl (any_of HT_.out (by kernel_rfl)) id3_ (Or.inl ⟨by rfl,?_⟩) ?_ ?_
            rotate_left;(intro w';go_simp;with_reducible rfl)
            rotate_left;(simp only [Act.put,z0_,z1_,z2_,i64_w,i32_w];rfl)
            refine pure_ (i:=12) (N:=some 24) (v:=?_) (a':=?_) ba13_ rfl rfl (any_of HT_.out (by kernel_rfl)) id3_ (Or.inl ⟨by rfl,?_⟩) ?_ ?_
            rotate_left;(intro w';go_simp;with_reducible rfl)
            rotate_left;(simp only [Act.put,z0_,z1_,z2_,i64_w,i32_w];rfl)
            refine pure_ (i:=13) (N:=some 25) (v:=?_) (a':=?_) ba14_ rfl rfl (any_of HT_.out (by kernel_rfl)) id3_ (Or.inl ⟨by rfl,?_⟩) ?_ ?_
            rotate_left;(intro w';go_simp;with_reducible rfl)
            rotate_left;(simp only [Act.put,z0_,z1_,z2_,i64_w,i32_w];rfl)
            refine pure_ (i:=15) (N:=some 27) (v:=?_) (a':=?_) ba15_ rfl rfl (any_of HT_.out (by kernel_rfl)) id3_ (Or.inl ⟨by rfl,?_⟩) ?_ ?_
            rotate_left;(intro w';go_simp;with_reducible rfl)
            rotate_left;(simp only [Act.put,z0_,z1_,z2_,i64_w,i32_w];rfl)
            refine pure_ (i:=16) (N:=some 28) (v:=?_) (a':=?_) ba16_ rfl rfl (any_of HT_.out (by kernel_rfl)) id3_ (Or.inl ⟨by rfl,?_⟩) ?_ ?_
            rotate_left;(intro w';go_simp;with_reducible rfl)
            rotate_left;(simp only [Act.put,z0_,z1_,z2_,i64_w,i32_w];rfl)
            refine take_ (i:=14) (N:=some 26) (v:=?_) (a':=?_) ba17_ rfl rfl (take_ofW HT_.out HW_.out (by kernel_rfl)) id3_ (Or.inl ⟨by rfl,?_⟩) hHeld ?_ ?_
            rotate_left
            ·rintro w' ⟨s0,s1,s2,s3,s4,s5,s6,s7,s8,s9,s10,s11⟩
             go_simp
             with_reducible rfl
            rotate_left;(simp only [Act.put,z0_,z1_,z2_,i64_w,i32_w];rfl)
            refine one_ (i:=17) (N:=some 29) ba18_ rfl rfl (one_of HT_.out (by kernel_rfl)) (by decide) (fun K hK=>?_)
            refine goes_ Try.func107 (by kernel_rfl) rfl #[.int .i64 ((rd_T45 l1 x5_1).f1),.int .i64 0,.int .i64 (wrap64 (a0 - 1))] (by rfl) rfl rfl zl ?_
            with_reducible refine (spec_l1In.calls ((rd_T45 l1 x5_1).f1) 0 (wrap64 (a0 - 1)) true _ A7.out).mono ?_
            rintro e w' ⟨rfl,⟨nd,rfl⟩⟩
            refine ⟨_,rfl,?_⟩
            refine hK.out _ _ ⟨((HB.out.cell (World.block_lt_of_cell? w _ hw424_0)).trans hw424_0),((HB.out.cell (World.block_lt_of_cell? w _ hw424_1)).trans hw424_1),((HB.out.cell (World.block_lt_of_cell? w _ hw426_0)).trans hw426_0),((HB.out.cell (World.block_lt_of_cell? w _ hw426_1)).trans hw426_1),((HB.out.cell (World.block_lt_of_cell? w _ hw428_0)).trans hw428_0),((HB.out.cell (World.block_lt_of_cell? w _ hw428_1)).trans hw428_1),((HB.out.cell (World.block_lt_of_cell? w _ hw429_0)).trans hw429_0),((HB.out.cell (World.block_lt_of_cell? w _ hw429_1)).trans hw429_1),((HB.out.cell (World.block_lt_of_cell? w _ hw430_0)).trans hw430_0),((HB.out.cell (World.block_lt_of_cell? w _ hw430_1)).trans hw430_1),((HB.out.cell (World.block_lt_of_cell? w _ hw431_0)).trans hw431_0),((HB.out.cell (World.block_lt_of_cell? w _ hw431_1)).trans hw431_1)⟩ (fun hHeld=>?_)
            clear hK K
            refine norm_ (a':=?_) ?_ ?_
            rotate_left
            ·show Act.put _ (some 29) _=_
             simp only [Act.put,z0_,z1_,z2_,i64_w,i32_w]
             rfl
            refine pure_ (i:=18) (N:=some 30) (v:=?_) (a':=?_) ba19_ rfl rfl (any_of HT_.out (by kernel_rfl)) id3_ (Or.inl ⟨by rfl,?_⟩) ?_ ?_
            rotate_left;(intro w';go_simp;with_reducible rfl)
            rotate_left;(simp only [Act.put,z0_,z1_,z2_,i64_w,i32_w];rfl)
            refine pure_ (i:=19) (N:=some 31) (v:=?_) (a':=?_) ba20_ rfl rfl (any_of HT_.out (by kernel_rfl)) id3_ (Or.inl ⟨by rfl,?_⟩) ?_ ?_
            rotate_left;(intro w';go_simp;with_reducible rfl)
            rotate_left;(simp only [Act.put,z0_,z1_,z2_,i64_w,i32_w];rfl)
            refine pure_ (i:=20) (N:=some 32) (v:=?_) (a':=?_) ba21_ rfl rfl (any_of HT_.out (by kernel_rfl)) id3_ (Or.inl ⟨by rfl,?_⟩) ?_ ?_
            rotate_left;(intro w';go_simp;with_reducible rfl)
            rotate_left;(simp only [Act.put,z0_,z1_,z2_,i64_w,i32_w];rfl)
            refine pure_ (i:=21) (N:=some 33) (v:=?_) (a':=?_) ba22_ rfl rfl (any_of HT_.out (by kernel_rfl)) id3_ (Or.inl ⟨by rfl,?_⟩) ?_ ?_
            rotate_left;(intro w';go_simp;with_reducible rfl)
            rotate_left;(simp only [Act.put,z0_,z1_,z2_,i64_w,i32_w];rfl)
            refine pure_ (i:=22) (N:=some 34) (v:=?_) (a':=?_) ba23_ rfl rfl (any_of HT_.out (by kernel_rfl)) id3_ (Or.inl ⟨by rfl,?_⟩) ?_ ?_
            rotate_left;(intro w';go_simp;with_reducible rfl)
            rotate_left;(simp only [Act.put,z0_,z1_,z2_,i64_w,i32_w];rfl)
            refine pure_ (i:=23) (N:=some 35) (v:=?_) (a':=?_) ba24_ rfl rfl (any_of HT_.out (by kernel_rfl)) id3_ (Or.inl ⟨by rfl,?_⟩) ?_ ?_
            rotate_left;(intro w';go_simp;with_reducible rfl)
            rotate_left;(simp only [Act.put,z0_,z1_,z2_,i64_w,i32_w];rfl)
            refine pure_ (i:=24) (N:=some 36) (v:=?_) (a':=?_) ba25_ rfl rfl (any_of HT_.out (by kernel_rfl)) id3_ (Or.inl ⟨by rfl,?_⟩) ?_ ?_
            rotate_left;(intro w';go_simp;with_reducible rfl)
            rotate_left;(simp only [Act.put,z0_,z1_,z2_,i64_w,i32_w];rfl)
            refine pure_ (i:=26) (N:=some 38) (v:=?_) (a':=?_) ba26_ rfl rfl (any_of HT_.out (by kernel_rfl)) id3_ (Or.inl ⟨by rfl,?_⟩) ?_ ?_
            rotate_left;(intro w';go_simp;with_reducible rfl)
            rotate_left;(simp only [Act.put,z0_,z1_,z2_,i64_w,i32_w];rfl)
            refine pure_ (i:=27) (N:=some 39) (v:=?_) (a':=?_) ba27_ rfl rfl (any_of HT_.out (by kernel_rfl)) id3_ (Or.inl ⟨by rfl,?_⟩) ?_ ?_
            rotate_left;(intro w';go_simp;with_reducible rfl)
            rotate_left;(simp only [Act.put,z0_,z1_,z2_,i64_w,i32_w];rfl)
            refine pure_ (i:=28) (N:=some 40) (v:=?_) (a':=?_) ba28_ rfl rfl (any_of HT_.out (by kernel_rfl)) id3_ (Or.inl ⟨by rfl,?_⟩) ?_ ?_
            rotate_left;(intro w';go_simp;with_reducible rfl)
            rotate_left;(simp only [Act.put,z0_,z1_,z2_,i64_w,i32_w];rfl)
            refine pure_ (i:=29) (N:=some 41) (v:=?_) (a':=?_) ba29_ rfl rfl (any_of HT_.out (by kernel_rfl)) id3_ (Or.inl ⟨by rfl,?_⟩) ?_ ?_
            rotate_left;(intro w';go_simp;with_reducible rfl)
            rotate_left;(simp only [Act.put,z0_,z1_,z2_,i64_w,i32_w];rfl)
            refine take_ (i:=25) (N:=some 37) (v:=?_) (a':=?_) ba30_ rfl rfl (take_ofW HT_.out HW_.out (by kernel_rfl)) id3_ (Or.inl ⟨by rfl,?_⟩) hHeld ?_ ?_
            rotate_left
            ·rintro w' ⟨s0,s1,s2,s3,s4,s5,s6,s7,s8,s9,s10,s11⟩
             go_simp
             with_reducible rfl
            rotate_left;(simp only [Act.put,z0_,z1_,z2_,i64_w,i32_w];rfl)
            refine take_ (i:=30) (N:=some 42) (v:=?_) (a':=?_) ba31_ rfl rfl (take_ofW HT_.out HW_.out (by kernel_rfl)) id3_ (Or.inl ⟨by rfl,?_⟩) hHeld ?_ ?_
            rotate_left
            ·rintro w' ⟨s0,s1,s2,s3,s4,s5,s6,s7,s8,s9,s10,s11⟩
             go_simp
             with_reducible rfl
            rotate_left;(simp only [Act.put,z0_,z1_,z2_,i64_w,i32_w];rfl)
            refine pure_ (i:=31) (N:=some 43) (v:=?_) (a':=?_) ba32_ rfl rfl (any_of HT_.out (by kernel_rfl)) id3_ (Or.inl ⟨by rfl,?_⟩) ?_ ?_
            rotate_left;(intro w';go_simp;with_reducible rfl)
            rotate_left;(simp only [Act.put,z0_,z1_,z2_,i64_w,i32_w];rfl)
            refine pure_ (i:=32) (N:=some 44) (v:=?_) (a':=?_) ba33_ rfl rfl (any_of HT_.out (by kernel_rfl)) id3_ (Or.inl ⟨by rfl,?_⟩) ?_ ?_
            rotate_left;(intro w';go_simp;with_reducible rfl)
            rotate_left;(simp only [Act.put,z0_,z1_,z2_,i64_w,i32_w];rfl)
            refine pure_ (i:=33) (N:=some 45) (v:=?_) (a':=?_) ba34_ rfl rfl (any_of HT_.out (by kernel_rfl)) id3_ (Or.inl ⟨by rfl,?_⟩) ?_ ?_
            rotate_left;(intro w';go_simp;with_reducible rfl)
            rotate_left;(simp only [Act.put,z0_,z1_,z2_,i64_w,i32_w];rfl)
            refine pure_ (i:=34) (N:=some 46) (v:=?_) (a':=?_) ba35_ rfl rfl (any_of HT_.out (by kernel_rfl)) id3_ (Or.inl ⟨by rfl,?_⟩) ?_ ?_
            rotate_left;(intro w';go_simp;with_reducible rfl)
            rotate_left;(simp only [Act.put,z0_,z1_,z2_,i64_w,i32_w];rfl)
            refine pure_ (i:=35) (N:=some 47) (v:=?_) (a':=?_) ba36_ rfl rfl (any_of HT_.out (by kernel_rfl)) id3_ (Or.inl ⟨by rfl,?_⟩) ?_ ?_
            rotate_left;(intro w';go_simp;with_reducible rfl)
            rotate_left;(simp only [Act.put,z0_,z1_,z2_,i64_w,i32_w];rfl)
            refine pure_ (i:=36) (N:=some 48) (v:=?_) (a':=?_) ba37_ rfl rfl (any_of HT_.out (by kernel_rfl)) id3_ (Or.inl ⟨by rfl,?_⟩) ?_ ?_
            rotate_left;(intro w';go_simp;with_reducible rfl)
            rotate_left;(simp only [Act.put,z0_,z1_,z2_,i64_w,i32_w];rfl)
            refine pure_ (i:=37) (N:=some 49) (v:=?_) (a':=?_) ba38_ rfl rfl (any_of HT_.out (by kernel_rfl)) id3_ (Or.inl ⟨by rfl,?_⟩) ?_ ?_
            rotate_left;(intro w';go_simp;with_reducible rfl)
            rotate_left;(simp only [Act.put,z0_,z1_,z2_,i64_w,i32_w];rfl)
            refine pure_ (i:=38) (N:=some 50) (v:=?_) (a':=?_) ba39_ rfl rfl (any_of HT_.out (by kernel_rfl)) id3_ (Or.inl ⟨by rfl,?_⟩) ?_ ?_
            rotate_left;(intro w';go_simp;with_reducible rfl)
            rotate_left;(simp only [Act.put,z0_,z1_,z2_,i64_w,i32_w];rfl)
            refine pure_ (i:=39) (N:=some 51) (v:=?_) (a':=?_) ba40_ rfl rfl (any_of HT_.out (by kernel_rfl)) id3_ (Or.inl ⟨by rfl,?_⟩) ?_ ?_
            rotate_left;(intro w';go_simp;with_reducible rfl)
            rotate_left;(simp only [Act.put,z0_,z1_,z2_,i64_w,i32_w];rfl)
            refine pure_ (i:=40) (N:=some 52) (v:=?_) (a':=?_) ba41_ rfl rfl (any_of HT_.out (by kernel_rfl)) id3_ (Or.inl ⟨by rfl,?_⟩) ?_ ?_
            rotate_left;(intro w';go_simp;with_reducible rfl)
            rotate_left;(simp only [Act.put,z0_,z1_,z2_,i64_w,i32_w];rfl)
            refine pure_ (i:=42) (N:=some 54) (v:=?_) (a':=?_) ba51_ rfl rfl (any_of HT_.out (by kernel_rfl)) id3_ (Or.inl ⟨by rfl,?_⟩) ?_ ?_
            rotate_left;(intro w';go_simp;with_reducible rfl)
            rotate_left;(simp only [Act.put,z0_,z1_,z2_,i64_w,i32_w];rfl)
            refine pure_ (i:=43) (N:=some 55) (v:=?_) (a':=?_) ba52_ rfl rfl (any_of HT_.out (by kernel_rfl)) id3_ (Or.inl ⟨by rfl,?_⟩) ?_ ?_
            rotate_left;(intro w';go_simp;with_reducible rfl)
            rotate_left;(simp only [Act.put,z0_,z1_,z2_,i64_w,i32_w];rfl)
            refine pure_ (i:=44) (N:=some 56) (v:=?_) (a':=?_) ba53_ rfl rfl (any_of HT_.out (by kernel_rfl)) id3_ (Or.inl ⟨by rfl,?_⟩) ?_ ?_
            rotate_left;(intro w';go_simp;with_reducible rfl)
            rotate_left;(simp only [Act.put,z0_,z1_,z2_,i64_w,i32_w];rfl)
            refine take_ (i:=41) (N:=some 53) (v:=?_) (a':=?_) ba45_ rfl rfl (take_ofW HT_.out HW_.out (by kernel_rfl)) id3_ (Or.inl ⟨by rfl,?_⟩) hHeld ?_ ?_
            rotate_left
            ·rintro w' ⟨s0,s1,s2,s3,s4,s5,s6,s7,s8,s9,s10,s11⟩
             go_simp
             with_reducible rfl
            rotate_left;(simp only [Act.put,z0_,z1_,z2_,i64_w,i32_w];rfl)
            refine take_ (i:=45) (N:=some 57) (v:=?_) (a':=?_) ba46_ rfl rfl (take_ofW HT_.out HW_.out (by kernel_rfl)) id3_ (Or.inl ⟨by rfl,?_⟩) hHeld ?_ ?_
            rotate_left
            ·rintro w' ⟨s0,s1,s2,s3,s4,s5,s6,s7,s8,s9,s10,s11⟩
             go_simp
             with_reducible rfl
            rotate_left;(simp only [Act.put,z0_,z1_,z2_,i64_w,i32_w];rfl)
            refine one_ (i:=46) (N:=some 58) ba47_ rfl rfl (one_of HT_.out (by kernel_rfl)) (by decide) (fun K hK=>?_)
            refine goes_ Try.func159 (by kernel_rfl) rfl #[.agg #[.int .i64 ((rd_T45 l1 (ji12)).f0),.int .i64 ((rd_T45 l1 (ji12)).f1)],.agg #[.int .i64 ((rd_T45 l1 x5_1).f0),.int .i64 ((rd_T45 l1 x5_1).f1)]] (by rfl) rfl rfl (by (try simp only [List.map_toArray,List.map_cons,List.map_nil]);first|done|(simp only [hji12];rfl)|rfl|(simp only [List.length_drop,List.length_take];rfl)) ?_
            with_reducible refine (spec_l4Before.calls ((rd_T45 l1 (ji12)).f0) ((rd_T45 l1 (ji12)).f1) ((rd_T45 l1 x5_1).f0) ((rd_T45 l1 x5_1).f1) true _ A15.out).mono ?_
            rintro e w18 ⟨rfl,hb⟩
            refine ⟨_,rfl,?_⟩
            replace HB:=Aside0.mk (below_step zb hb)
            (try clear hb)
            (try clear hb2)
            (try clear hk)
            (try clear hi)
            refine hK.out _ _ ⟨((HB.out.cell (World.block_lt_of_cell? w _ hw424_0)).trans hw424_0),((HB.out.cell (World.block_lt_of_cell? w _ hw424_1)).trans hw424_1),((HB.out.cell (World.block_lt_of_cell? w _ hw426_0)).trans hw426_0),((HB.out.cell (World.block_lt_of_cell? w _ hw426_1)).trans hw426_1),((HB.out.cell (World.block_lt_of_cell? w _ hw428_0)).trans hw428_0),((HB.out.cell (World.block_lt_of_cell? w _ hw428_1)).trans hw428_1),((HB.out.cell (World.block_lt_of_cell? w _ hw429_0)).trans hw429_0),((HB.out.cell (World.block_lt_of_cell? w _ hw429_1)).trans hw429_1),((HB.out.cell (World.block_lt_of_cell? w _ hw430_0)).trans hw430_0),((HB.out.cell (World.block_lt_of_cell? w _ hw430_1)).trans hw430_1),((HB.out.cell (World.block_lt_of_cell? w _ hw431_0)).trans hw431_0),((HB.out.cell (World.block_lt_of_cell? w _ hw431_1)).trans hw431_1)⟩ (fun hHeld=>?_)
            clear hK K
            refine norm_ (a':=?_) ?_ ?_
            rotate_left
            ·show Act.put _ (some 58) _=_
             simp only [Act.put,z0_,z1_,z2_,i64_w,i32_w]
             rfl
            refine pure_ (i:=47) (N:=some 59) (v:=?_) (a':=?_) ba48_ rfl rfl (any_of HT_.out (by kernel_rfl)) id3_ (Or.inl ⟨by rfl,?_⟩) ?_ ?_
            rotate_left;(intro w';go_simp;with_reducible rfl)
            rotate_left;(simp only [Act.put,z0_,z1_,z2_,i64_w,i32_w];rfl)
            refine pure_ (i:=48) (N:=some 60) (v:=?_) (a':=?_) ba49_ rfl rfl (any_of HT_.out (by kernel_rfl)) id3_ (Or.inl ⟨by rfl,?_⟩) ?_ ?_
            rotate_left;(intro w';go_simp;with_reducible rfl)
            rotate_left;(simp only [Act.put,z0_,z1_,z2_,i64_w,i32_w];rfl)
            refine pure_ (i:=49) (N:=some 61) (v:=?_) (a':=?_) ba50_ rfl rfl (any_of HT_.out (by kernel_rfl)) id3_ (Or.inl ⟨by rfl,?_⟩) ?_ ?_
            rotate_left;(intro w';go_simp;with_reducible rfl)
            rotate_left;(simp only [Act.put,z0_,z1_,z2_,i64_w,i32_w];rfl)
            refine done_ (done_of HT_.out (by kernel_rfl)) ?_
            try go_wp2
            go_roundg k1
            case measure=>have:=HK1.out;omega
            case rel=>exact ⟨(wrap64 (x5_1 + 1)),zo,H',⟨by have:=HK1.out;omega⟩,⟨zb⟩⟩
           ·replace c16:=Bool.eq_false_iff.mpr c16
            subst c16
            rw [if_neg (show ¬ (false=true) by decide)] at H
            obtain rfl:=Option.some.inj H
            try go_wp2
            replace HB:=Aside0.mk (below_drew1 HB.out)
            have p424:0≤(x5_1:Int):=of_decide_eq_true za
            have q424:x5_1<(l1.length:Int):=of_decide_eq_true za
            obtain ⟨ad424,e424,hx424_0,hx424_1⟩:=at_T45 HR1.out x5_1 p424 q424
            have hw424_1:=hx424_1
            have hw424_0:=hx424_0
            cases e424
            replace hx424_0:=(HB.out.cell (World.block_lt_of_cell? w _ hx424_0)).trans hx424_0
            replace hx424_1:=(HB.out.cell (World.block_lt_of_cell? w _ hx424_1)).trans hx424_1
            replace p424:=eq_true p424
            replace q424:=eq_true q424
            have p426:0≤(x5_1:Int):=of_decide_eq_true za
            have q426:x5_1<(l1.length:Int):=of_decide_eq_true za
            obtain ⟨ad426,e426,hx426_0,hx426_1⟩:=at_T45 HR1.out x5_1 p426 q426
            have hw426_1:=hx426_1
            have hw426_0:=hx426_0
            obtain rfl:ad424=ad426:=(by injection e426)
            replace hx426_0:=(HB.out.cell (World.block_lt_of_cell? w _ hx426_0)).trans hx426_0
            replace hx426_1:=(HB.out.cell (World.block_lt_of_cell? w _ hx426_1)).trans hx426_1
            replace p426:=eq_true p426
            replace q426:=eq_true q426
            have p428:0≤(x5_1:Int):=of_decide_eq_true za
            have q428:x5_1<(l1.length:Int):=of_decide_eq_true za
            obtain ⟨ad428,e428,hx428_0,hx428_1⟩:=at_T45 HR1.out x5_1 p428 q428
            have hw428_1:=hx428_1
            have hw428_0:=hx428_0
            obtain rfl:ad424=ad428:=(by injection e428)
            replace hx428_0:=(HB.out.cell (World.block_lt_of_cell? w _ hx428_0)).trans hx428_0
            replace hx428_1:=(HB.out.cell (World.block_lt_of_cell? w _ hx428_1)).trans hx428_1
            replace p428:=eq_true p428
            replace q428:=eq_true q428
            have p429:0≤(x5_1:Int):=of_decide_eq_true za
            have q429:x5_1<(l1.length:Int):=of_decide_eq_true za
            obtain ⟨ad429,e429,hx429_0,hx429_1⟩:=at_T45 HR1.out x5_1 p429 q429
            have hw429_1:=hx429_1
            have hw429_0:=hx429_0
            obtain rfl:ad424=ad429:=(by injection e429)
            replace hx429_0:=(HB.out.cell (World.block_lt_of_cell? w _ hx429_0)).trans hx429_0
            replace hx429_1:=(HB.out.cell (World.block_lt_of_cell? w _ hx429_1)).trans hx429_1
            replace p429:=eq_true p429
            replace q429:=eq_true q429
            have p430:0≤((ji12):Int):=of_decide_eq_true za
            have q430:(ji12)<(l1.length:Int):=of_decide_eq_true za
            obtain ⟨ad430,e430,hx430_0,hx430_1⟩:=at_T45 HR1.out (ji12) p430 q430
            have hw430_1:=hx430_1
            have hw430_0:=hx430_0
            obtain rfl:ad424=ad430:=(by injection e430)
            replace hx430_0:=(HB.out.cell (World.block_lt_of_cell? w _ hx430_0)).trans hx430_0
            replace hx430_1:=(HB.out.cell (World.block_lt_of_cell? w _ hx430_1)).trans hx430_1
            replace p430:=eq_true p430
            replace q430:=eq_true q430
            have p431:0≤(x5_1:Int):=of_decide_eq_true za
            have q431:x5_1<(l1.length:Int):=of_decide_eq_true za
            obtain ⟨ad431,e431,hx431_0,hx431_1⟩:=at_T45 HR1.out x5_1 p431 q431
            have hw431_1:=hx431_1
            have hw431_0:=hx431_0
            obtain rfl:ad424=ad431:=(by injection e431)
            replace hx431_0:=(HB.out.cell (World.block_lt_of_cell? w _ hx431_0)).trans hx431_0
            replace hx431_1:=(HB.out.cell (World.block_lt_of_cell? w _ hx431_1)).trans hx431_1
            replace p431:=eq_true p431
            replace q431:=eq_true q431
            refine start_ (n:=50) (S:=fun w'=>w'.cell? (ad424.add ((x5_1).toNat * 2))=some (.int .i64 ((rd_T45 l1 x5_1).f0))∧w'.cell? ⟨(ad424.add ((x5_1).toNat * 2)).block,(ad424.add ((x5_1).toNat * 2)).off + 1,none⟩=some (.int .i64 ((rd_T45 l1 x5_1).f1))∧w'.cell? (ad424.add ((x5_1).toNat * 2))=some (.int .i64 ((rd_T45 l1 x5_1).f0))∧w'.cell? ⟨(ad424.add ((x5_1).toNat * 2)).block,(ad424.add ((x5_1).toNat * 2)).off + 1,none⟩=some (.int .i64 ((rd_T45 l1 x5_1).f1))∧w'.cell? (ad424.add ((x5_1).toNat * 2))=some (.int .i64 ((rd_T45 l1 x5_1).f0))∧w'.cell? ⟨(ad424.add ((x5_1).toNat * 2)).block,(ad424.add ((x5_1).toNat * 2)).off + 1,none⟩=some (.int .i64 ((rd_T45 l1 x5_1).f1))∧w'.cell? (ad424.add ((x5_1).toNat * 2))=some (.int .i64 ((rd_T45 l1 x5_1).f0))∧w'.cell? ⟨(ad424.add ((x5_1).toNat * 2)).block,(ad424.add ((x5_1).toNat * 2)).off + 1,none⟩=some (.int .i64 ((rd_T45 l1 x5_1).f1))∧w'.cell? (ad424.add (((ji12)).toNat * 2))=some (.int .i64 ((rd_T45 l1 (ji12)).f0))∧w'.cell? ⟨(ad424.add (((ji12)).toNat * 2)).block,(ad424.add (((ji12)).toNat * 2)).off + 1,none⟩=some (.int .i64 ((rd_T45 l1 (ji12)).f1))∧w'.cell? (ad424.add ((x5_1).toNat * 2))=some (.int .i64 ((rd_T45 l1 x5_1).f0))∧w'.cell? ⟨(ad424.add ((x5_1).toNat * 2)).block,(ad424.add ((x5_1).toNat * 2)).off + 1,none⟩=some (.int .i64 ((rd_T45 l1 x5_1).f1))) (ds:=[]) ba0_ (by kernel_rfl) rfl rfl ⟨((HB.out.cell (World.block_lt_of_cell? w _ hw424_0)).trans hw424_0),((HB.out.cell (World.block_lt_of_cell? w _ hw424_1)).trans hw424_1),((HB.out.cell (World.block_lt_of_cell? w _ hw426_0)).trans hw426_0),((HB.out.cell (World.block_lt_of_cell? w _ hw426_1)).trans hw426_1),((HB.out.cell (World.block_lt_of_cell? w _ hw428_0)).trans hw428_0),((HB.out.cell (World.block_lt_of_cell? w _ hw428_1)).trans hw428_1),((HB.out.cell (World.block_lt_of_cell? w _ hw429_0)).trans hw429_0),((HB.out.cell (World.block_lt_of_cell? w _ hw429_1)).trans hw429_1),((HB.out.cell (World.block_lt_of_cell? w _ hw430_0)).trans hw430_0),((HB.out.cell (World.block_lt_of_cell? w _ hw430_1)).trans hw430_1),((HB.out.cell (World.block_lt_of_cell? w _ hw431_0)).trans hw431_0),((HB.out.cell (World.block_lt_of_cell? w _ hw431_1)).trans hw431_1)⟩ (fun hHeld=>?_);refine with_tabW spec_l4Pairs.tab4 spec_l4Pairs.bits4 (fun HT_ HW_=>?_)
            generalize wr.drew=w19 at HB hx424_0 hx424_1 hx426_0 hx426_1 hx428_0 hx428_1 hx429_0 hx429_1 hx430_0 hx430_1 hx431_0 hx431_1 hHeld ⊢
            refine pure_ (i:=0) (N:=some 12) (v:=?_) (a':=?_) ba1_ rfl rfl (any_of HT_.out (by kernel_rfl)) id3_ (Or.inl ⟨by rfl,?_⟩) ?_ ?_
            rotate_left;(intro w';go_simp;with_reducible rfl)
            rotate_left;(simp only [Act.put,z0_,z1_,z2_,i64_w,i32_w];rfl)
            refine pure_ (i:=1) (N:=some 13) (v:=?_) (a':=?_) ba2_ rfl rfl (any_of HT_.out (by kernel_rfl)) id3_ (Or.inl ⟨by rfl,?_⟩) ?_ ?_
            rotate_left;(intro w';go_simp;with_reducible rfl)
            rotate_left;(simp only [Act.put,z0_,z1_,z2_,i64_w,i32_w];rfl)
            refine pure_ (i:=2) (N:=some 14) (v:=?_) (a':=?_) ba3_ rfl rfl (any_of HT_.out (by kernel_rfl)) id3_ (Or.inl ⟨by rfl,?_⟩) ?_ ?_
            rotate_left;(intro w';go_simp;with_reducible rfl)
            rotate_left;(simp only [Act.put,z0_,z1_,z2_,i64_w,i32_w];rfl)
            refine pure_ (i:=3) (N:=some 15) (v:=?_) (a':=?_) ba4_ rfl rfl (any_of HT_.out (by kernel_rfl)) id3_ (Or.inl ⟨by rfl,?_⟩) ?_ ?_
            rotate_left;(intro w';go_simp;with_reducible rfl)
            rotate_left;(simp only [Act.put,z0_,z1_,z2_,i64_w,i32_w];rfl)
            refine pure_ (i:=5) (N:=some 17) (v:=?_) (a':=?_) ba5_ rfl rfl (any_of HT_.out (by kernel_rfl)) id3_ (Or.inl ⟨by rfl,?_⟩) ?_ ?_
            rotate_left;(intro w';go_simp;with_reducible rfl)
            rotate_left;(simp only [Act.put,z0_,z1_,z2_,i64_w,i32_w];rfl)
            refine pure_ (i:=6) (N:=some 18) (v:=?_) (a':=?_) ba6_ rfl rfl (any_of HT_.out (by kernel_rfl)) id3_ (Or.inl ⟨by rfl,?_⟩) ?_ ?_
            rotate_left;(intro w';go_simp;with_reducible rfl)
            rotate_left;(simp only [Act.put,z0_,z1_,z2_,i64_w,i32_w];rfl)
            refine take_ (i:=4) (N:=some 16) (v:=?_) (a':=?_) ba7_ rfl rfl (take_ofW HT_.out HW_.out (by kernel_rfl)) id3_ (Or.inl ⟨by rfl,?_⟩) hHeld ?_ ?_
            rotate_left
            ·rintro w' ⟨s0,s1,s2,s3,s4,s5,s6,s7,s8,s9,s10,s11⟩
             go_simp
             with_reducible rfl
            rotate_left;(simp only [Act.put,z0_,z1_,z2_,i64_w,i32_w];rfl)
            refine one_ (i:=7) (N:=some 19) ba8_ rfl rfl (one_of HT_.out (by kernel_rfl)) (by decide) (fun K hK=>?_)
            refine goes_ Try.func107 (by kernel_rfl) rfl #[.int .i64 ((rd_T45 l1 x5_1).f0),.int .i64 0,.int .i64 (wrap64 (a0 - 1))] (by rfl) rfl rfl zl ?_
            with_reducible refine (spec_l1In.calls ((rd_T45 l1 x5_1).f0) 0 (wrap64 (a0 - 1)) true _ A5.out).mono ?_
            rintro e w' ⟨rfl,⟨nd,rfl⟩⟩
            refine ⟨_,rfl,?_⟩
            refine hK.out _ _ ⟨((HB.out.cell (World.block_lt_of_cell? w _ hw424_0)).trans hw424_0),((HB.out.cell (World.block_lt_of_cell? w _ hw424_1)).trans hw424_1),((HB.out.cell (World.block_lt_of_cell? w _ hw426_0)).trans hw426_0),((HB.out.cell (World.block_lt_of_cell? w _ hw426_1)).trans hw426_1),((HB.out.cell (World.block_lt_of_cell? w _ hw428_0)).trans hw428_0),((HB.out.cell (World.block_lt_of_cell? w _ hw428_1)).trans hw428_1),((HB.out.cell (World.block_lt_of_cell? w _ hw429_0)).trans hw429_0),((HB.out.cell (World.block_lt_of_cell? w _ hw429_1)).trans hw429_1),((HB.out.cell (World.block_lt_of_cell? w _ hw430_0)).trans hw430_0),((HB.out.cell (World.block_lt_of_cell? w _ hw430_1)).trans hw430_1),((HB.out.cell (World.block_lt_of_cell? w _ hw431_0)).trans hw431_0),((HB.out.cell (World.block_lt_of_cell? w _ hw431_1)).trans hw431_1)⟩ (fun hHeld=>?_)
            clear hK K
            refine norm_ (a':=?_) ?_ ?_
            rotate_left
            ·show Act.put _ (some 19) _=_
             simp only [Act.put,z0_,z1_,z2_,i64_w,i32_w]
             rfl
            refine pure_ (i:=8) (N:=some 20) (v:=?_) (a':=?_) ba9_ rfl rfl (any_of HT_.out (by kernel_rfl)) id3_ (Or.inl ⟨by rfl,?_⟩) ?_ ?_
            rotate_left;(intro w';go_simp;with_reducible rfl)
            rotate_left;(simp only [Act.put,z0_,z1_,z2_,i64_w,i32_w];rfl)
            refine pure_ (i:=9) (N:=some 21) (v:=?_) (a':=?_) ba10_ rfl rfl (any_of HT_.out (by kernel_rfl)) id3_ (Or.inl ⟨by rfl,?_⟩) ?_ ?_
            rotate_left;(intro w';go_simp;with_reducible rfl)
            rotate_left;(simp only [Act.put,z0_,z1_,z2_,i64_w,i32_w];rfl)
            refine pure_ (i:=10) (N:=some 22) (v:=?_) (a':=?_) ba11_ rfl rfl (any_of HT_.out (by kernel_rfl)) id3_ (Or.inl ⟨by rfl,?_⟩) ?_ ?_
            rotate_left;(intro w';go_simp;with_reducible rfl)
            rotate_left;(simp only [Act.put,z0_,z1_,z2_,i64_w,i32_w];rfl)
            refine pure_ (i:=11) (N:=some 23) (v:=?_) (a':=?_) ba12_ rfl rfl (any_of HT_.out (by kernel_rfl)) id3_ (Or.inl ⟨by rfl,?_⟩) ?_ ?_
            rotate_left;(intro w';go_simp;with_reducible rfl)
            rotate_left;(simp only [Act.put,z0_,z1_,z2_,i64_w,i32_w];rfl)
            refine pure_ (i:=12) (N:=some 24) (v:=?_) (a':=?_) ba13_ rfl rfl (any_of HT_.out (by kernel_rfl)) id3_ (Or.inl ⟨by rfl,?_⟩) ?_ ?_
            rotate_left;(intro w';go_simp;with_reducible rfl)
            rotate_left;(simp only [Act.put,z0_,z1_,z2_,i64_w,i32_w];rfl)
            refine pure_ (i:=13) (N:=some 25) (v:=?_) (a':=?_) ba14_ rfl rfl (any_of HT_.out (by kernel_rfl)) id3_ (Or.inl ⟨by rfl,?_⟩) ?_ ?_
            rotate_left;(intro w';go_simp;with_reducible rfl)
            rotate_left;(simp only [Act.put,z0_,z1_,z2_,i64_w,i32_w];rfl)
            refine pure_ (i:=15) (N:=some 27) (v:=?_) (a':=?_) ba15_ rfl rfl (any_of HT_.out (by kernel_rfl)) id3_ (Or.inl ⟨by rfl,?_⟩) ?_ ?_
            rotate_left;(intro w';go_simp;with_reducible rfl)
            rotate_left;(simp only [Act.put,z0_,z1_,z2_,i64_w,i32_w];rfl)
            refine pure_ (i:=16) (N:=some 28) (v:=?_) (a':=?_) ba16_ rfl rfl (any_of HT_.out (by kernel_rfl)) id3_ (Or.inl ⟨by rfl,?_⟩) ?_ ?_
            rotate_left;(intro w';go_simp;with_reducible rfl)
            rotate_left;(simp only [Act.put,z0_,z1_,z2_,i64_w,i32_w];rfl)
            refine take_ (i:=14) (N:=some 26) (v:=?_) (a':=?_) ba17_ rfl rfl (take_ofW HT_.out HW_.out (by kernel_rfl)) id3_ (Or.inl ⟨by rfl,?_⟩) hHeld ?_ ?_
            rotate_left
            ·rintro w' ⟨s0,s1,s2,s3,s4,s5,s6,s7,s8,s9,s10,s11⟩
             go_simp
             with_reducible rfl
            rotate_left;(simp only [Act.put,z0_,z1_,z2_,i64_w,i32_w];rfl)
            refine one_ (i:=17) (N:=some 29) ba18_ rfl rfl (one_of HT_.out (by kernel_rfl)) (by decide) (fun K hK=>?_)
            refine goes_ Try.func107 (by kernel_rfl) rfl #[.int .i64 ((rd_T45 l1 x5_1).f1),.int .i64 0,.int .i64 (wrap64 (a0 - 1))] (by rfl) rfl rfl zl ?_
            with_reducible refine (spec_l1In.calls ((rd_T45 l1 x5_1).f1) 0 (wrap64 (a0 - 1)) true _ A7.out).mono ?_
            rintro e w' ⟨rfl,⟨nd,rfl⟩⟩
            refine ⟨_,rfl,?_⟩
            refine hK.out _ _ ⟨((HB.out.cell (World.block_lt_of_cell? w _ hw424_0)).trans hw424_0),((HB.out.cell (World.block_lt_of_cell? w _ hw424_1)).trans hw424_1),((HB.out.cell (World.block_lt_of_cell? w _ hw426_0)).trans hw426_0),((HB.out.cell (World.block_lt_of_cell? w _ hw426_1)).trans hw426_1),((HB.out.cell (World.block_lt_of_cell? w _ hw428_0)).trans hw428_0),((HB.out.cell (World.block_lt_of_cell? w _ hw428_1)).trans hw428_1),((HB.out.cell (World.block_lt_of_cell? w _ hw429_0)).trans hw429_0),((HB.out.cell (World.block_lt_of_cell? w _ hw429_1)).trans hw429_1),((HB.out.cell (World.block_lt_of_cell? w _ hw430_0)).trans hw430_0),((HB.out.cell (World.block_lt_of_cell? w _ hw430_1)).trans hw430_1),((HB.out.cell (World.block_lt_of_cell? w _ hw431_0)).trans hw431_0),((HB.out.cell (World.block_lt_of_cell? w _ hw431_1)).trans hw431_1)⟩ (fun hHeld=>?_)
            clear hK K
            refine norm_ (a':=?_) ?_ ?_
            rotate_left
            ·show Act.put _ (some 29) _=_
             simp only [Act.put,z0_,z1_,z2_,i64_w,i32_w]
             rfl
            refine pure_ (i:=18) (N:=some 30) (v:=?_) (a':=?_) ba19_ rfl rfl (any_of HT_.out (by kernel_rfl)) id3_ (Or.inl ⟨by rfl,?_⟩) ?_ ?_
            rotate_left;(intro w';go_simp;with_reducible rfl)
            rotate_left;(simp only [Act.put,z0_,z1_,z2_,i64_w,i32_w];rfl)
            refine pure_ (i:=19) (N:=some 31) (v:=?_) (a':=?_) ba20_ rfl rfl (any_of HT_.out (by kernel_rfl)) id3_ (Or.inl ⟨by rfl,?_⟩) ?_ ?_
            rotate_left;(intro w';go_simp;with_reducible rfl)
            rotate_left;(simp only [Act.put,z0_,z1_,z2_,i64_w,i32_w];rfl)
            refine pure_ (i:=20) (N:=some 32) (v:=?_) (a':=?_) ba21_ rfl rfl (any_of HT_.out (by kernel_rfl)) id3_ (Or.inl ⟨by rfl,?_⟩) ?_ ?_
            rotate_left;(intro w';go_simp;with_reducible rfl)
            rotate_left;(simp only [Act.put,z0_,z1_,z2_,i64_w,i32_w];rfl)
            refine pure_ (i:=21) (N:=some 33) (v:=?_) (a':=?_) ba22_ rfl rfl (any_of HT_.out (by kernel_rfl)) id3_ (Or.inl ⟨by rfl,?_⟩) ?_ ?_
            rotate_left;(intro w';go_simp;with_reducible rfl)
            rotate_left;(simp only [Act.put,z0_,z1_,z2_,i64_w,i32_w];rfl)
            refine pure_ (i:=22) (N:=some 34) (v:=?_) (a':=?_) ba23_ rfl rfl (any_of HT_.out (by kernel_rfl)) id3_ (Or.inl ⟨by rfl,?_⟩) ?_ ?_
            rotate_left;(intro w';go_simp;with_reducible rfl)
            rotate_left;(simp only [Act.put,z0_,z1_,z2_,i64_w,i32_w];rfl)
            refine pure_ (i:=23) (N:=some 35) (v:=?_) (a':=?_) ba24_ rfl rfl (any_of HT_.out (by kernel_rfl)) id3_ (Or.inl ⟨by rfl,?_⟩) ?_ ?_
            rotate_left;(intro w';go_simp;with_reducible rfl)
            rotate_left;(simp only [Act.put,z0_,z1_,z2_,i64_w,i32_w];rfl)
            refine pure_ (i:=24) (N:=some 36) (v:=?_) (a':=?_) ba25_ rfl rfl (any_of HT_.out (by kernel_rfl)) id3_ (Or.inl ⟨by rfl,?_⟩) ?_ ?_
            rotate_left;(intro w';go_simp;with_reducible rfl)
            rotate_left;(simp only [Act.put,z0_,z1_,z2_,i64_w,i32_w];rfl)
            refine pure_ (i:=26) (N:=some 38) (v:=?_) (a':=?_) ba26_ rfl rfl (any_of HT_.out (by kernel_rfl)) id3_ (Or.inl ⟨by rfl,?_⟩) ?_ ?_
            rotate_left;(intro w';go_simp;with_reducible rfl)
            rotate_left;(simp only [Act.put,z0_,z1_,z2_,i64_w,i32_w];rfl)
            refine pure_ (i:=27) (N:=some 39) (v:=?_) (a':=?_) ba27_ rfl rfl (any_of HT_.out (by kernel_rfl)) id3_ (Or.inl ⟨by rfl,?_⟩) ?_ ?_
            rotate_left;(intro w';go_simp;with_reducible rfl)
            rotate_left;(simp only [Act.put,z0_,z1_,z2_,i64_w,i32_w];rfl)
            refine pure_ (i:=28) (N:=some 40) (v:=?_) (a':=?_) ba28_ rfl rfl (any_of HT_.out (by kernel_rfl)) id3_ (Or.inl ⟨by rfl,?_⟩) ?_ ?_
            rotate_left;(intro w';go_simp;with_reducible rfl)
            rotate_left;(simp only [Act.put,z0_,z1_,z2_,i64_w,i32_w];rfl)
            refine pure_ (i:=29) (N:=some 41) (v:=?_) (a':=?_) ba29_ rfl rfl (any_of HT_.out (by kernel_rfl)) id3_ (Or.inl ⟨by rfl,?_⟩) ?_ ?_
            rotate_left;(intro w';go_simp;with_reducible rfl)
            rotate_left;(simp only [Act.put,z0_,z1_,z2_,i64_w,i32_w];rfl)
            refine take_ (i:=25) (N:=some 37) (v:=?_) (a':=?_) ba30_ rfl rfl (take_ofW HT_.out HW_.out (by kernel_rfl)) id3_ (Or.inl ⟨by rfl,?_⟩) hHeld ?_ ?_
            rotate_left
            ·rintro w' ⟨s0,s1,s2,s3,s4,s5,s6,s7,s8,s9,s10,s11⟩
             go_simp
             with_reducible rfl
            rotate_left;(simp only [Act.put,z0_,z1_,z2_,i64_w,i32_w];rfl)
            refine take_ (i:=30) (N:=some 42) (v:=?_) (a':=?_) ba31_ rfl rfl (take_ofW HT_.out HW_.out (by kernel_rfl)) id3_ (Or.inl ⟨by rfl,?_⟩) hHeld ?_ ?_
            rotate_left
            ·rintro w' ⟨s0,s1,s2,s3,s4,s5,s6,s7,s8,s9,s10,s11⟩
             go_simp
             with_reducible rfl
            rotate_left;(simp only [Act.put,z0_,z1_,z2_,i64_w,i32_w];rfl)
            refine pure_ (i:=31) (N:=some 43) (v:=?_) (a':=?_) ba32_ rfl rfl (any_of HT_.out (by kernel_rfl)) id3_ (Or.inl ⟨by rfl,?_⟩) ?_ ?_
            rotate_left;(intro w';go_simp;with_reducible rfl)
            rotate_left;(simp only [Act.put,z0_,z1_,z2_,i64_w,i32_w];rfl)
            refine pure_ (i:=32) (N:=some 44) (v:=?_) (a':=?_) ba33_ rfl rfl (any_of HT_.out (by kernel_rfl)) id3_ (Or.inl ⟨by rfl,?_⟩) ?_ ?_
            rotate_left;(intro w';go_simp;with_reducible rfl)
            rotate_left;(simp only [Act.put,z0_,z1_,z2_,i64_w,i32_w];rfl)
            refine pure_ (i:=33) (N:=some 45) (v:=?_) (a':=?_) ba34_ rfl rfl (any_of HT_.out (by kernel_rfl)) id3_ (Or.inl ⟨by rfl,?_⟩) ?_ ?_
            rotate_left;(intro w';go_simp;with_reducible rfl)
            rotate_left;(simp only [Act.put,z0_,z1_,z2_,i64_w,i32_w];rfl)
            refine pure_ (i:=34) (N:=some 46) (v:=?_) (a':=?_) ba35_ rfl rfl (any_of HT_.out (by kernel_rfl)) id3_ (Or.inl ⟨by rfl,?_⟩) ?_ ?_
            rotate_left;(intro w';go_simp;with_reducible rfl)
            rotate_left;(simp only [Act.put,z0_,z1_,z2_,i64_w,i32_w];rfl)
            refine pure_ (i:=35) (N:=some 47) (v:=?_) (a':=?_) ba36_ rfl rfl (any_of HT_.out (by kernel_rfl)) id3_ (Or.inl ⟨by rfl,?_⟩) ?_ ?_
            rotate_left;(intro w';go_simp;with_reducible rfl)
            rotate_left;(simp only [Act.put,z0_,z1_,z2_,i64_w,i32_w];rfl)
            refine pure_ (i:=36) (N:=some 48) (v:=?_) (a':=?_) ba37_ rfl rfl (any_of HT_.out (by kernel_rfl)) id3_ (Or.inl ⟨by rfl,?_⟩) ?_ ?_
            rotate_left;(intro w';go_simp;with_reducible rfl)
            rotate_left;(simp only [Act.put,z0_,z1_,z2_,i64_w,i32_w];rfl)
            refine pure_ (i:=37) (N:=some 49) (v:=?_) (a':=?_) ba38_ rfl rfl (any_of HT_.out (by kernel_rfl)) id3_ (Or.inl ⟨by rfl,?_⟩) ?_ ?_
            rotate_left;(intro w';go_simp;with_reducible rfl)
            rotate_left;(simp only [Act.put,z0_,z1_,z2_,i64_w,i32_w];rfl)
            refine pure_ (i:=38) (N:=some 50) (v:=?_) (a':=?_) ba39_ rfl rfl (any_of HT_.out (by kernel_rfl)) id3_ (Or.inl ⟨by rfl,?_⟩) ?_ ?_
            rotate_left;(intro w';go_simp;with_reducible rfl)
            rotate_left;(simp only [Act.put,z0_,z1_,z2_,i64_w,i32_w];rfl)
            refine pure_ (i:=39) (N:=some 51) (v:=?_) (a':=?_) ba40_ rfl rfl (any_of HT_.out (by kernel_rfl)) id3_ (Or.inl ⟨by rfl,?_⟩) ?_ ?_
            rotate_left;(intro w';go_simp;with_reducible rfl)
            rotate_left;(simp only [Act.put,z0_,z1_,z2_,i64_w,i32_w];rfl)
            refine pure_ (i:=40) (N:=some 52) (v:=?_) (a':=?_) ba41_ rfl rfl (any_of HT_.out (by kernel_rfl)) id3_ (Or.inl ⟨by rfl,?_⟩) ?_ ?_
            rotate_left;(intro w';go_simp;with_reducible rfl)
            rotate_left;(simp only [Act.put,z0_,z1_,z2_,i64_w,i32_w];rfl)
            refine pure_ (i:=42) (N:=some 54) (v:=?_) (a':=?_) ba51_ rfl rfl (any_of HT_.out (by kernel_rfl)) id3_ (Or.inl ⟨by rfl,?_⟩) ?_ ?_
            rotate_left;(intro w';go_simp;with_reducible rfl)
            rotate_left;(simp only [Act.put,z0_,z1_,z2_,i64_w,i32_w];rfl)
            refine pure_ (i:=43) (N:=some 55) (v:=?_) (a':=?_) ba52_ rfl rfl (any_of HT_.out (by kernel_rfl)) id3_ (Or.inl ⟨by rfl,?_⟩) ?_ ?_
            rotate_left;(intro w';go_simp;with_reducible rfl)
            rotate_left;(simp only [Act.put,z0_,z1_,z2_,i64_w,i32_w];rfl)
            refine pure_ (i:=44) (N:=some 56) (v:=?_) (a':=?_) ba53_ rfl rfl (any_of HT_.out (by kernel_rfl)) id3_ (Or.inl ⟨by rfl,?_⟩) ?_ ?_
            rotate_left;(intro w';go_simp;with_reducible rfl)
            rotate_left;(simp only [Act.put,z0_,z1_,z2_,i64_w,i32_w];rfl)
            refine take_ (i:=41) (N:=some 53) (v:=?_) (a':=?_) ba45_ rfl rfl (take_ofW HT_.out HW_.out (by kernel_rfl)) id3_ (Or.inl ⟨by rfl,?_⟩) hHeld ?_ ?_
            rotate_left
            ·rintro w' ⟨s0,s1,s2,s3,s4,s5,s6,s7,s8,s9,s10,s11⟩
             go_simp
             with_reducible rfl
            rotate_left;(simp only [Act.put,z0_,z1_,z2_,i64_w,i32_w];rfl)
            refine take_ (i:=45) (N:=some 57) (v:=?_) (a':=?_) ba46_ rfl rfl (take_ofW HT_.out HW_.out (by kernel_rfl)) id3_ (Or.inl ⟨by rfl,?_⟩) hHeld ?_ ?_
            rotate_left
            ·rintro w' ⟨s0,s1,s2,s3,s4,s5,s6,s7,s8,s9,s10,s11⟩
             go_simp
             with_reducible rfl
            rotate_left;(simp only [Act.put,z0_,z1_,z2_,i64_w,i32_w];rfl)
            refine one_ (i:=46) (N:=some 58) ba47_ rfl rfl (one_of HT_.out (by kernel_rfl)) (by decide) (fun K hK=>?_)
            refine goes_ Try.func159 (by kernel_rfl) rfl #[.agg #[.int .i64 ((rd_T45 l1 (ji12)).f0),.int .i64 ((rd_T45 l1 (ji12)).f1)],.agg #[.int .i64 ((rd_T45 l1 x5_1).f0),.int .i64 ((rd_T45 l1 x5_1).f1)]] (by rfl) rfl rfl (by (try simp only [List.map_toArray,List.map_cons,List.map_nil]);first|done|(simp only [hji12];rfl)|rfl|(simp only [List.length_drop,List.length_take];rfl)) ?_
            with_reducible refine (spec_l4Before.calls ((rd_T45 l1 (ji12)).f0) ((rd_T45 l1 (ji12)).f1) ((rd_T45 l1 x5_1).f0) ((rd_T45 l1 x5_1).f1) false _ A15.out).mono ?_
            rintro e w20 ⟨rfl,hb⟩
            refine ⟨_,rfl,?_⟩
            replace HB:=Aside0.mk (below_step zb hb)
            (try clear hb)
            (try clear hb2)
            (try clear hk)
            (try clear hi)
            refine hK.out _ _ ⟨((HB.out.cell (World.block_lt_of_cell? w _ hw424_0)).trans hw424_0),((HB.out.cell (World.block_lt_of_cell? w _ hw424_1)).trans hw424_1),((HB.out.cell (World.block_lt_of_cell? w _ hw426_0)).trans hw426_0),((HB.out.cell (World.block_lt_of_cell? w _ hw426_1)).trans hw426_1),((HB.out.cell (World.block_lt_of_cell? w _ hw428_0)).trans hw428_0),((HB.out.cell (World.block_lt_of_cell? w _ hw428_1)).trans hw428_1),((HB.out.cell (World.block_lt_of_cell? w _ hw429_0)).trans hw429_0),((HB.out.cell (World.block_lt_of_cell? w _ hw429_1)).trans hw429_1),((HB.out.cell (World.block_lt_of_cell? w _ hw430_0)).trans hw430_0),((HB.out.cell (World.block_lt_of_cell? w _ hw430_1)).trans hw430_1),((HB.out.cell (World.block_lt_of_cell? w _ hw431_0)).trans hw431_0),((HB.out.cell (World.block_lt_of_cell? w _ hw431_1)).trans hw431_1)⟩ (fun hHeld=>?_)
            clear hK K
            refine norm_ (a':=?_) ?_ ?_
            rotate_left
            ·show Act.put _ (some 58) _=_
             simp only [Act.put,z0_,z1_,z2_,i64_w,i32_w]
             rfl
            refine pure_ (i:=47) (N:=some 59) (v:=?_) (a':=?_) ba48_ rfl rfl (any_of HT_.out (by kernel_rfl)) id3_ (Or.inl ⟨by rfl,?_⟩) ?_ ?_
            rotate_left;(intro w';go_simp;with_reducible rfl)
            rotate_left;(simp only [Act.put,z0_,z1_,z2_,i64_w,i32_w];rfl)
            refine pure_ (i:=48) (N:=some 60) (v:=?_) (a':=?_) ba49_ rfl rfl (any_of HT_.out (by kernel_rfl)) id3_ (Or.inl ⟨by rfl,?_⟩) ?_ ?_
            rotate_left;(intro w';go_simp;with_reducible rfl)
            rotate_left;(simp only [Act.put,z0_,z1_,z2_,i64_w,i32_w];rfl)
            refine pure_ (i:=49) (N:=some 61) (v:=?_) (a':=?_) ba50_ rfl rfl (any_of HT_.out (by kernel_rfl)) id3_ (Or.inl ⟨by rfl,?_⟩) ?_ ?_
            rotate_left;(intro w';go_simp;with_reducible rfl)
            rotate_left;(simp only [Act.put,z0_,z1_,z2_,i64_w,i32_w];rfl)
            refine done_ (done_of HT_.out (by kernel_rfl)) ?_
            try go_wp2
            go_ret
            exact ⟨by first|rfl|(simp [errW_none,errW_some] <;> rfl)|(simp only [←hji12];first|rfl|(simp [errW_none,errW_some] <;> rfl))|(simp [*,errW_none,errW_some] <;> rfl),zb⟩
          ·rw [if_neg c14] at H
           exact absurd H (by simp)
         ·rw [if_neg c13] at H
          exact absurd H (by simp)
        ·rw [if_neg c11] at H
         have c11b0:decide (0<x5_1)=false:=decide_eq_false c11
         clear c11
         have H':=Aside0.mk H
         clear H
         try go_wp2
         replace HB:=Aside0.mk (below_drew1 HB.out)
         have p424:0≤(x5_1:Int):=of_decide_eq_true za
         have q424:x5_1<(l1.length:Int):=of_decide_eq_true za
         obtain ⟨ad424,e424,hx424_0,hx424_1⟩:=at_T45 HR1.out x5_1 p424 q424
         have hw424_1:=hx424_1
         have hw424_0:=hx424_0
         cases e424
         replace hx424_0:=(HB.out.cell (World.block_lt_of_cell? w _ hx424_0)).trans hx424_0
         replace hx424_1:=(HB.out.cell (World.block_lt_of_cell? w _ hx424_1)).trans hx424_1
         replace p424:=eq_true p424
         replace q424:=eq_true q424
         have p426:0≤(x5_1:Int):=of_decide_eq_true za
         have q426:x5_1<(l1.length:Int):=of_decide_eq_true za
         obtain ⟨ad426,e426,hx426_0,hx426_1⟩:=at_T45 HR1.out x5_1 p426 q426
         have hw426_1:=hx426_1
         have hw426_0:=hx426_0
         obtain rfl:ad424=ad426:=(by injection e426)
         replace hx426_0:=(HB.out.cell (World.block_lt_of_cell? w _ hx426_0)).trans hx426_0
         replace hx426_1:=(HB.out.cell (World.block_lt_of_cell? w _ hx426_1)).trans hx426_1
         replace p426:=eq_true p426
         replace q426:=eq_true q426
         have p428:0≤(x5_1:Int):=of_decide_eq_true za
         have q428:x5_1<(l1.length:Int):=of_decide_eq_true za
         obtain ⟨ad428,e428,hx428_0,hx428_1⟩:=at_T45 HR1.out x5_1 p428 q428
         have hw428_1:=hx428_1
         have hw428_0:=hx428_0
         obtain rfl:ad424=ad428:=(by injection e428)
         replace hx428_0:=(HB.out.cell (World.block_lt_of_cell? w _ hx428_0)).trans hx428_0
         replace hx428_1:=(HB.out.cell (World.block_lt_of_cell? w _ hx428_1)).trans hx428_1
         replace p428:=eq_true p428
         replace q428:=eq_true q428
         have p429:0≤(x5_1:Int):=of_decide_eq_true za
         have q429:x5_1<(l1.length:Int):=of_decide_eq_true za
         obtain ⟨ad429,e429,hx429_0,hx429_1⟩:=at_T45 HR1.out x5_1 p429 q429
         have hw429_1:=hx429_1
         have hw429_0:=hx429_0
         obtain rfl:ad424=ad429:=(by injection e429)
         replace hx429_0:=(HB.out.cell (World.block_lt_of_cell? w _ hx429_0)).trans hx429_0
         replace hx429_1:=(HB.out.cell (World.block_lt_of_cell? w _ hx429_1)).trans hx429_1
         replace p429:=eq_true p429
         replace q429:=eq_true q429
         refine start_ (n:=50) (S:=fun w'=>w'.cell? (ad424.add ((x5_1).toNat * 2))=some (.int .i64 ((rd_T45 l1 x5_1).f0))∧w'.cell? ⟨(ad424.add ((x5_1).toNat * 2)).block,(ad424.add ((x5_1).toNat * 2)).off + 1,none⟩=some (.int .i64 ((rd_T45 l1 x5_1).f1))∧w'.cell? (ad424.add ((x5_1).toNat * 2))=some (.int .i64 ((rd_T45 l1 x5_1).f0))∧w'.cell? ⟨(ad424.add ((x5_1).toNat * 2)).block,(ad424.add ((x5_1).toNat * 2)).off + 1,none⟩=some (.int .i64 ((rd_T45 l1 x5_1).f1))∧w'.cell? (ad424.add ((x5_1).toNat * 2))=some (.int .i64 ((rd_T45 l1 x5_1).f0))∧w'.cell? ⟨(ad424.add ((x5_1).toNat * 2)).block,(ad424.add ((x5_1).toNat * 2)).off + 1,none⟩=some (.int .i64 ((rd_T45 l1 x5_1).f1))∧w'.cell? (ad424.add ((x5_1).toNat * 2))=some (.int .i64 ((rd_T45 l1 x5_1).f0))∧w'.cell? ⟨(ad424.add ((x5_1).toNat * 2)).block,(ad424.add ((x5_1).toNat * 2)).off + 1,none⟩=some (.int .i64 ((rd_T45 l1 x5_1).f1))) (ds:=[]) ba0_ (by kernel_rfl) rfl rfl ⟨((HB.out.cell (World.block_lt_of_cell? w _ hw424_0)).trans hw424_0),((HB.out.cell (World.block_lt_of_cell? w _ hw424_1)).trans hw424_1),((HB.out.cell (World.block_lt_of_cell? w _ hw426_0)).trans hw426_0),((HB.out.cell (World.block_lt_of_cell? w _ hw426_1)).trans hw426_1),((HB.out.cell (World.block_lt_of_cell? w _ hw428_0)).trans hw428_0),((HB.out.cell (World.block_lt_of_cell? w _ hw428_1)).trans hw428_1),((HB.out.cell (World.block_lt_of_cell? w _ hw429_0)).trans hw429_0),((HB.out.cell (World.block_lt_of_cell? w _ hw429_1)).trans hw429_1)⟩ (fun hHeld=>?_);refine with_tabW spec_l4Pairs.tab4 spec_l4Pairs.bits4 (fun HT_ HW_=>?_)
         generalize wr.drew=w21 at HB hx424_0 hx424_1 hx426_0 hx426_1 hx428_0 hx428_1 hx429_0 hx429_1 hHeld ⊢
         refine pure_ (i:=0) (N:=some 12) (v:=?_) (a':=?_) ba1_ rfl rfl (any_of HT_.out (by kernel_rfl)) id3_ (Or.inl ⟨by rfl,?_⟩) ?_ ?_
         rotate_left;(intro w';go_simp;with_reducible rfl)
         rotate_left;(simp only [Act.put,z0_,z1_,z2_,i64_w,i32_w];rfl)
         refine pure_ (i:=1) (N:=some 13) (v:=?_) (a':=?_) ba2_ rfl rfl (any_of HT_.out (by kernel_rfl)) id3_ (Or.inl ⟨by rfl,?_⟩) ?_ ?_
         rotate_left;(intro w';go_simp;with_reducible rfl)
         rotate_left;(simp only [Act.put,z0_,z1_,z2_,i64_w,i32_w];rfl)
         refine pure_ (i:=2) (N:=some 14) (v:=?_) (a':=?_) ba3_ rfl rfl (any_of HT_.out (by kernel_rfl)) id3_ (Or.inl ⟨by rfl,?_⟩) ?_ ?_
         rotate_left;(intro w';go_simp;with_reducible rfl)
         rotate_left;(simp only [Act.put,z0_,z1_,z2_,i64_w,i32_w];rfl)
         refine pure_ (i:=3) (N:=some 15) (v:=?_) (a':=?_) ba4_ rfl rfl (any_of HT_.out (by kernel_rfl)) id3_ (Or.inl ⟨by rfl,?_⟩) ?_ ?_
         rotate_left;(intro w';go_simp;with_reducible rfl)
         rotate_left;(simp only [Act.put,z0_,z1_,z2_,i64_w,i32_w];rfl)
         refine pure_ (i:=5) (N:=some 17) (v:=?_) (a':=?_) ba5_ rfl rfl (any_of HT_.out (by kernel_rfl)) id3_ (Or.inl ⟨by rfl,?_⟩) ?_ ?_
         rotate_left;(intro w';go_simp;with_reducible rfl)
         rotate_left;(simp only [Act.put,z0_,z1_,z2_,i64_w,i32_w];rfl)
         refine pure_ (i:=6) (N:=some 18) (v:=?_) (a':=?_) ba6_ rfl rfl (any_of HT_.out (by kernel_rfl)) id3_ (Or.inl ⟨by rfl,?_⟩) ?_ ?_
         rotate_left;(intro w';go_simp;with_reducible rfl)
         rotate_left;(simp only [Act.put,z0_,z1_,z2_,i64_w,i32_w];rfl)
         refine take_ (i:=4) (N:=some 16) (v:=?_) (a':=?_) ba7_ rfl rfl (take_ofW HT_.out HW_.out (by kernel_rfl)) id3_ (Or.inl ⟨by rfl,?_⟩) hHeld ?_ ?_
         rotate_left
         ·rintro w' ⟨s0,s1,s2,s3,s4,s5,s6,s7⟩
          go_simp
          with_reducible rfl
         rotate_left;(simp only [Act.put,z0_,z1_,z2_,i64_w,i32_w];rfl)
         refine one_ (i:=7) (N:=some 19) ba8_ rfl rfl (one_of HT_.out (by kernel_rfl)) (by decide) (fun K hK=>?_)
         refine goes_ Try.func107 (by kernel_rfl) rfl #[.int .i64 ((rd_T45 l1 x5_1).f0),.int .i64 0,.int .i64 (wrap64 (a0 - 1))] (by rfl) rfl rfl zl ?_
         with_reducible refine (spec_l1In.calls ((rd_T45 l1 x5_1).f0) 0 (wrap64 (a0 - 1)) true _ A5.out).mono ?_
         rintro e w' ⟨rfl,⟨nd,rfl⟩⟩
         refine ⟨_,rfl,?_⟩
         refine hK.out _ _ ⟨((HB.out.cell (World.block_lt_of_cell? w _ hw424_0)).trans hw424_0),((HB.out.cell (World.block_lt_of_cell? w _ hw424_1)).trans hw424_1),((HB.out.cell (World.block_lt_of_cell? w _ hw426_0)).trans hw426_0),((HB.out.cell (World.block_lt_of_cell? w _ hw426_1)).trans hw426_1),((HB.out.cell (World.block_lt_of_cell? w _ hw428_0)).trans hw428_0),((HB.out.cell (World.block_lt_of_cell? w _ hw428_1)).trans hw428_1),((HB.out.cell (World.block_lt_of_cell? w _ hw429_0)).trans hw429_0),((HB.out.cell (World.block_lt_of_cell? w _ hw429_1)).trans hw429_1)⟩ (fun hHeld=>?_)
         clear hK K
         refine norm_ (a':=?_) ?_ ?_
         rotate_left
         ·show Act.put _ (some 19) _=_
          simp only [Act.put,z0_,z1_,z2_,i64_w,i32_w]
          rfl
         refine pure_ (i:=8) (N:=some 20) (v:=?_) (a':=?_) ba9_ rfl rfl (any_of HT_.out (by kernel_rfl)) id3_ (Or.inl ⟨by rfl,?_⟩) ?_ ?_
         rotate_left;(intro w';go_simp;with_reducible rfl)
         rotate_left;(simp only [Act.put,z0_,z1_,z2_,i64_w,i32_w];rfl)
         refine pure_ (i:=9) (N:=some 21) (v:=?_) (a':=?_) ba10_ rfl rfl (any_of HT_.out (by kernel_rfl)) id3_ (Or.inl ⟨by rfl,?_⟩) ?_ ?_
         rotate_left;(intro w';go_simp;with_reducible rfl)
         rotate_left;(simp only [Act.put,z0_,z1_,z2_,i64_w,i32_w];rfl)
         refine pure_ (i:=10) (N:=some 22) (v:=?_) (a':=?_) ba11_ rfl rfl (any_of HT_.out (by kernel_rfl)) id3_ (Or.inl ⟨by rfl,?_⟩) ?_ ?_
         rotate_left;(intro w';go_simp;with_reducible rfl)
         rotate_left;(simp only [Act.put,z0_,z1_,z2_,i64_w,i32_w];rfl)
         refine pure_ (i:=11) (N:=some 23) (v:=?_) (a':=?_) ba12_ rfl rfl (any_of HT_.out (by kernel_rfl)) id3_ (Or.inl ⟨by rfl,?_⟩) ?_ ?_
         rotate_left;(intro w';go_simp;with_reducible rfl)
         rotate_left;(simp only [Act.put,z0_,z1_,z2_,i64_w,i32_w];rfl)
         refine pure_ (i:=12) (N:=some 24) (v:=?_) (a':=?_) ba13_ rfl rfl (any_of HT_.out (by kernel_rfl)) id3_ (Or.inl ⟨by rfl,?_⟩) ?_ ?_
         rotate_left;(intro w';go_simp;with_reducible rfl)
         rotate_left;(simp only [Act.put,z0_,z1_,z2_,i64_w,i32_w];rfl)
         refine pure_ (i:=13) (N:=some 25) (v:=?_) (a':=?_) ba14_ rfl rfl (any_of HT_.out (by kernel_rfl)) id3_ (Or.inl ⟨by rfl,?_⟩) ?_ ?_
         rotate_left;(intro w';go_simp;with_reducible rfl)
         rotate_left;(simp only [Act.put,z0_,z1_,z2_,i64_w,i32_w];rfl)
         refine pure_ (i:=15) (N:=some 27) (v:=?_) (a':=?_) ba15_ rfl rfl (any_of HT_.out (by kernel_rfl)) id3_ (Or.inl ⟨by rfl,?_⟩) ?_ ?_
         rotate_left;(intro w';go_simp;with_reducible rfl)
         rotate_left;(simp only [Act.put,z0_,z1_,z2_,i64_w,i32_w];rfl)
         refine pure_ (i:=16) (N:=some 28) (v:=?_) (a':=?_) ba16_ rfl rfl (any_of HT_.out (by kernel_rfl)) id3_ (Or.inl ⟨by rfl,?_⟩) ?_ ?_
         rotate_left;(intro w';go_simp;with_reducible rfl)
         rotate_left;(simp only [Act.put,z0_,z1_,z2_,i64_w,i32_w];rfl)
         refine take_ (i:=14) (N:=some 26) (v:=?_) (a':=?_) ba17_ rfl rfl (take_ofW HT_.out HW_.out (by kernel_rfl)) id3_ (Or.inl ⟨by rfl,?_⟩) hHeld ?_ ?_
         rotate_left
         ·rintro w' ⟨s0,s1,s2,s3,s4,s5,s6,s7⟩
          go_simp
          with_reducible rfl
         rotate_left;(simp only [Act.put,z0_,z1_,z2_,i64_w,i32_w];rfl)
         refine one_ (i:=17) (N:=some 29) ba18_ rfl rfl (one_of HT_.out (by kernel_rfl)) (by decide) (fun K hK=>?_)
         refine goes_ Try.func107 (by kernel_rfl) rfl #[.int .i64 ((rd_T45 l1 x5_1).f1),.int .i64 0,.int .i64 (wrap64 (a0 - 1))] (by rfl) rfl rfl zl ?_
         with_reducible refine (spec_l1In.calls ((rd_T45 l1 x5_1).f1) 0 (wrap64 (a0 - 1)) true _ A7.out).mono ?_
         rintro e w' ⟨rfl,⟨nd,rfl⟩⟩
         refine ⟨_,rfl,?_⟩
         refine hK.out _ _ ⟨((HB.out.cell (World.block_lt_of_cell? w _ hw424_0)).trans hw424_0),((HB.out.cell (World.block_lt_of_cell? w _ hw424_1)).trans hw424_1),((HB.out.cell (World.block_lt_of_cell? w _ hw426_0)).trans hw426_0),((HB.out.cell (World.block_lt_of_cell? w _ hw426_1)).trans hw426_1),((HB.out.cell (World.block_lt_of_cell? w _ hw428_0)).trans hw428_0),((HB.out.cell (World.block_lt_of_cell? w _ hw428_1)).trans hw428_1),((HB.out.cell (World.block_lt_of_cell? w _ hw429_0)).trans hw429_0),((HB.out.cell (World.block_lt_of_cell? w _ hw429_1)).trans hw429_1)⟩ (fun hHeld=>?_)
         clear hK K
         refine norm_ (a':=?_) ?_ ?_
         rotate_left
         ·show Act.put _ (some 29) _=_
          simp only [Act.put,z0_,z1_,z2_,i64_w,i32_w]
          rfl
         refine pure_ (i:=18) (N:=some 30) (v:=?_) (a':=?_) ba19_ rfl rfl (any_of HT_.out (by kernel_rfl)) id3_ (Or.inl ⟨by rfl,?_⟩) ?_ ?_
         rotate_left;(intro w';go_simp;with_reducible rfl)
         rotate_left;(simp only [Act.put,z0_,z1_,z2_,i64_w,i32_w];rfl)
         refine pure_ (i:=19) (N:=some 31) (v:=?_) (a':=?_) ba20_ rfl rfl (any_of HT_.out (by kernel_rfl)) id3_ (Or.inl ⟨by rfl,?_⟩) ?_ ?_
         rotate_left;(intro w';go_simp;with_reducible rfl)
         rotate_left;(simp only [Act.put,z0_,z1_,z2_,i64_w,i32_w];rfl)
         refine pure_ (i:=20) (N:=some 32) (v:=?_) (a':=?_) ba21_ rfl rfl (any_of HT_.out (by kernel_rfl)) id3_ (Or.inl ⟨by rfl,?_⟩) ?_ ?_
         rotate_left;(intro w';go_simp;with_reducible rfl)
         rotate_left;(simp only [Act.put,z0_,z1_,z2_,i64_w,i32_w];rfl)
         refine pure_ (i:=21) (N:=some 33) (v:=?_) (a':=?_) ba22_ rfl rfl (any_of HT_.out (by kernel_rfl)) id3_ (Or.inl ⟨by rfl,?_⟩) ?_ ?_
         rotate_left;(intro w';go_simp;with_reducible rfl)
         rotate_left;(simp only [Act.put,z0_,z1_,z2_,i64_w,i32_w];rfl)
         refine pure_ (i:=22) (N:=some 34) (v:=?_) (a':=?_) ba23_ rfl rfl (any_of HT_.out (by kernel_rfl)) id3_ (Or.inl ⟨by rfl,?_⟩) ?_ ?_
         rotate_left;(intro w';go_simp;with_reducible rfl)
         rotate_left;(simp only [Act.put,z0_,z1_,z2_,i64_w,i32_w];rfl)
         refine pure_ (i:=23) (N:=some 35) (v:=?_) (a':=?_) ba24_ rfl rfl (any_of HT_.out (by kernel_rfl)) id3_ (Or.inl ⟨by rfl,?_⟩) ?_ ?_
         rotate_left;(intro w';go_simp;with_reducible rfl)
         rotate_left;(simp only [Act.put,z0_,z1_,z2_,i64_w,i32_w];rfl)
         refine pure_ (i:=24) (N:=some 36) (v:=?_) (a':=?_) ba25_ rfl rfl (any_of HT_.out (by kernel_rfl)) id3_ (Or.inl ⟨by rfl,?_⟩) ?_ ?_
         rotate_left;(intro w';go_simp;with_reducible rfl)
         rotate_left;(simp only [Act.put,z0_,z1_,z2_,i64_w,i32_w];rfl)
         refine pure_ (i:=26) (N:=some 38) (v:=?_) (a':=?_) ba26_ rfl rfl (any_of HT_.out (by kernel_rfl)) id3_ (Or.inl ⟨by rfl,?_⟩) ?_ ?_
         rotate_left;(intro w';go_simp;with_reducible rfl)
         rotate_left;(simp only [Act.put,z0_,z1_,z2_,i64_w,i32_w];rfl)
         refine pure_ (i:=27) (N:=some 39) (v:=?_) (a':=?_) ba27_ rfl rfl (any_of HT_.out (by kernel_rfl)) id3_ (Or.inl ⟨by rfl,?_⟩) ?_ ?_
         rotate_left;(intro w';go_simp;with_reducible rfl)
         rotate_left;(simp only [Act.put,z0_,z1_,z2_,i64_w,i32_w];rfl)
         refine pure_ (i:=28) (N:=some 40) (v:=?_) (a':=?_) ba28_ rfl rfl (any_of HT_.out (by kernel_rfl)) id3_ (Or.inl ⟨by rfl,?_⟩) ?_ ?_
         rotate_left;(intro w';go_simp;with_reducible rfl)
         rotate_left;(simp only [Act.put,z0_,z1_,z2_,i64_w,i32_w];rfl)
         refine pure_ (i:=29) (N:=some 41) (v:=?_) (a':=?_) ba29_ rfl rfl (any_of HT_.out (by kernel_rfl)) id3_ (Or.inl ⟨by rfl,?_⟩) ?_ ?_
         rotate_left;(intro w';go_simp;with_reducible rfl)
         rotate_left;(simp only [Act.put,z0_,z1_,z2_,i64_w,i32_w];rfl)
         refine take_ (i:=25) (N:=some 37) (v:=?_) (a':=?_) ba30_ rfl rfl (take_ofW HT_.out HW_.out (by kernel_rfl)) id3_ (Or.inl ⟨by rfl,?_⟩) hHeld ?_ ?_
         rotate_left
         ·rintro w' ⟨s0,s1,s2,s3,s4,s5,s6,s7⟩
          go_simp
          with_reducible rfl
         rotate_left;(simp only [Act.put,z0_,z1_,z2_,i64_w,i32_w];rfl)
         refine take_ (i:=30) (N:=some 42) (v:=?_) (a':=?_) ba31_ rfl rfl (take_ofW HT_.out HW_.out (by kernel_rfl)) id3_ (Or.inl ⟨by rfl,?_⟩) hHeld ?_ ?_
         rotate_left
         ·rintro w' ⟨s0,s1,s2,s3,s4,s5,s6,s7⟩
          go_simp
          with_reducible rfl
         rotate_left;(simp only [Act.put,z0_,z1_,z2_,i64_w,i32_w];rfl)
         refine pure_ (i:=31) (N:=some 43) (v:=?_) (a':=?_) ba32_ rfl rfl (any_of HT_.out (by kernel_rfl)) id3_ (Or.inl ⟨by rfl,?_⟩) ?_ ?_
         rotate_left;(intro w';go_simp;with_reducible rfl)
         rotate_left;(simp only [Act.put,z0_,z1_,z2_,i64_w,i32_w];rfl)
         refine pure_ (i:=32) (N:=some 44) (v:=?_) (a':=?_) ba33_ rfl rfl (any_of HT_.out (by kernel_rfl)) id3_ (Or.inl ⟨by rfl,?_⟩) ?_ ?_
         rotate_left;(intro w';go_simp;with_reducible rfl)
         rotate_left;(simp only [Act.put,z0_,z1_,z2_,i64_w,i32_w];rfl)
         refine pure_ (i:=33) (N:=some 45) (v:=?_) (a':=?_) ba34_ rfl rfl (any_of HT_.out (by kernel_rfl)) id3_ (Or.inl ⟨by rfl,?_⟩) ?_ ?_
         rotate_left;(intro w';go_simp;with_reducible rfl)
         rotate_left;(simp only [Act.put,z0_,z1_,z2_,i64_w,i32_w];rfl)
         refine pure_ (i:=34) (N:=some 46) (v:=?_) (a':=?_) ba35_ rfl rfl (any_of HT_.out (by kernel_rfl)) id3_ (Or.inl ⟨by rfl,?_⟩) ?_ ?_
         rotate_left;(intro w';go_simp;with_reducible rfl)
         rotate_left;(simp only [Act.put,z0_,z1_,z2_,i64_w,i32_w];rfl)
         refine pure_ (i:=35) (N:=some 47) (v:=?_) (a':=?_) ba36_ rfl rfl (any_of HT_.out (by kernel_rfl)) id3_ (Or.inl ⟨by rfl,?_⟩) ?_ ?_
         rotate_left;(intro w';go_simp;with_reducible rfl)
         rotate_left;(simp only [Act.put,z0_,z1_,z2_,i64_w,i32_w];rfl)
         refine pure_ (i:=36) (N:=some 48) (v:=?_) (a':=?_) ba37_ rfl rfl (any_of HT_.out (by kernel_rfl)) id3_ (Or.inl ⟨by rfl,?_⟩) ?_ ?_
         rotate_left;(intro w';go_simp;with_reducible rfl)
         rotate_left;(simp only [Act.put,z0_,z1_,z2_,i64_w,i32_w];rfl)
         refine pure_ (i:=37) (N:=some 49) (v:=undef) (a':=?_) ba38_ rfl rfl (any_of HT_.out (by kernel_rfl)) id3_ (Or.inr ⟨by rfl,rfl⟩) ?_ ?_
         rotate_left;(simp only [Act.put,z0_,z1_,z2_,i64_w,i32_w];rfl)
         refine pure_ (i:=38) (N:=some 50) (v:=undef) (a':=?_) ba39_ rfl rfl (any_of HT_.out (by kernel_rfl)) id3_ (Or.inr ⟨by rfl,rfl⟩) ?_ ?_
         rotate_left;(simp only [Act.put,z0_,z1_,z2_,i64_w,i32_w];rfl)
         refine pure_ (i:=39) (N:=some 51) (v:=undef) (a':=?_) ba40_ rfl rfl (any_of HT_.out (by kernel_rfl)) id3_ (Or.inr ⟨by rfl,rfl⟩) ?_ ?_
         rotate_left;(simp only [Act.put,z0_,z1_,z2_,i64_w,i32_w];rfl)
         refine pure_ (i:=40) (N:=some 52) (v:=undef) (a':=?_) ba41_ rfl rfl (any_of HT_.out (by kernel_rfl)) id3_ (Or.inr ⟨by rfl,rfl⟩) ?_ ?_
         rotate_left;(simp only [Act.put,z0_,z1_,z2_,i64_w,i32_w];rfl)
         refine pure_ (i:=41) (N:=some 53) (v:=undef) (a':=?_) ba42_ rfl rfl (any_of HT_.out (by kernel_rfl)) id3_ (Or.inr ⟨by rfl,rfl⟩) ?_ ?_
         rotate_left;(simp only [Act.put,z0_,z1_,z2_,i64_w,i32_w];rfl)
         refine pure_ (i:=42) (N:=some 54) (v:=undef) (a':=?_) ba43_ rfl rfl (any_of HT_.out (by kernel_rfl)) id3_ (Or.inr ⟨by rfl,rfl⟩) ?_ ?_
         rotate_left;(simp only [Act.put,z0_,z1_,z2_,i64_w,i32_w];rfl)
         refine pure_ (i:=43) (N:=some 55) (v:=undef) (a':=?_) ba44_ rfl rfl (any_of HT_.out (by kernel_rfl)) id3_ (Or.inr ⟨by rfl,rfl⟩) ?_ ?_
         rotate_left;(simp only [Act.put,z0_,z1_,z2_,i64_w,i32_w];rfl)
         refine pure_ (i:=44) (N:=some 56) (v:=undef) (a':=?_) ba45_ rfl rfl (any_of HT_.out (by kernel_rfl)) id3_ (Or.inr ⟨by rfl,rfl⟩) ?_ ?_
         rotate_left;(simp only [Act.put,z0_,z1_,z2_,i64_w,i32_w];rfl)
         refine pure_ (i:=45) (N:=some 57) (v:=undef) (a':=?_) ba46_ rfl rfl (any_of HT_.out (by kernel_rfl)) id3_ (Or.inr ⟨by rfl,rfl⟩) ?_ ?_
         rotate_left;(simp only [Act.put,z0_,z1_,z2_,i64_w,i32_w];rfl)
         refine pure_ (i:=46) (N:=some 58) (v:=undef) (a':=?_) ba47_ rfl rfl (any_of HT_.out (by kernel_rfl)) id3_ (Or.inr ⟨by rfl,rfl⟩) ?_ ?_
         rotate_left;(simp only [Act.put,z0_,z1_,z2_,i64_w,i32_w];rfl)
         refine pure_ (i:=47) (N:=some 59) (v:=undef) (a':=?_) ba48_ rfl rfl (any_of HT_.out (by kernel_rfl)) id3_ (Or.inr ⟨by rfl,rfl⟩) ?_ ?_
         rotate_left;(simp only [Act.put,z0_,z1_,z2_,i64_w,i32_w];rfl)
         refine pure_ (i:=48) (N:=some 60) (v:=?_) (a':=?_) ba49_ rfl rfl (any_of HT_.out (by kernel_rfl)) id3_ (Or.inl ⟨by rfl,?_⟩) ?_ ?_
         rotate_left;(intro w';go_simp;with_reducible rfl)
         rotate_left;(simp only [Act.put,z0_,z1_,z2_,i64_w,i32_w];rfl)
         refine pure_ (i:=49) (N:=some 61) (v:=?_) (a':=?_) ba50_ rfl rfl (any_of HT_.out (by kernel_rfl)) id3_ (Or.inl ⟨by rfl,?_⟩) ?_ ?_
         rotate_left;(intro w';go_simp;with_reducible rfl)
         rotate_left;(simp only [Act.put,z0_,z1_,z2_,i64_w,i32_w];rfl)
         refine done_ (done_of HT_.out (by kernel_rfl)) ?_
         try go_wp2
         go_roundg k1
         case measure=>have:=HK1.out;omega
         case rel=>exact ⟨(wrap64 (x5_1 + 1)),zo,H',⟨by have:=HK1.out;omega⟩,⟨zb⟩⟩
      ·replace c8:=Bool.eq_false_iff.mpr c8
       subst c8
       rw [if_neg (show ¬ (false=true) by decide)] at H
       obtain rfl:=Option.some.inj H
       try go_wp2
       replace HB:=Aside0.mk (below_drew1 HB.out)
       have p424:0≤(x5_1:Int):=of_decide_eq_true za
       have q424:x5_1<(l1.length:Int):=of_decide_eq_true za
       obtain ⟨ad424,e424,hx424_0,hx424_1⟩:=at_T45 HR1.out x5_1 p424 q424
       have hw424_1:=hx424_1
       have hw424_0:=hx424_0
       cases e424
       replace hx424_0:=(HB.out.cell (World.block_lt_of_cell? w _ hx424_0)).trans hx424_0
       replace hx424_1:=(HB.out.cell (World.block_lt_of_cell? w _ hx424_1)).trans hx424_1
       replace p424:=eq_true p424
       replace q424:=eq_true q424
       have p426:0≤(x5_1:Int):=of_decide_eq_true za
       have q426:x5_1<(l1.length:Int):=of_decide_eq_true za
       obtain ⟨ad426,e426,hx426_0,hx426_1⟩:=at_T45 HR1.out x5_1 p426 q426
       have hw426_1:=hx426_1
       have hw426_0:=hx426_0
       obtain rfl:ad424=ad426:=(by injection e426)
       replace hx426_0:=(HB.out.cell (World.block_lt_of_cell? w _ hx426_0)).trans hx426_0
       replace hx426_1:=(HB.out.cell (World.block_lt_of_cell? w _ hx426_1)).trans hx426_1
       replace p426:=eq_true p426
       replace q426:=eq_true q426
       refine start_ (n:=50) (S:=fun w'=>w'.cell? (ad424.add ((x5_1).toNat * 2))=some (.int .i64 ((rd_T45 l1 x5_1).f0))∧w'.cell? ⟨(ad424.add ((x5_1).toNat * 2)).block,(ad424.add ((x5_1).toNat * 2)).off + 1,none⟩=some (.int .i64 ((rd_T45 l1 x5_1).f1))∧w'.cell? (ad424.add ((x5_1).toNat * 2))=some (.int .i64 ((rd_T45 l1 x5_1).f0))∧w'.cell? ⟨(ad424.add ((x5_1).toNat * 2)).block,(ad424.add ((x5_1).toNat * 2)).off + 1,none⟩=some (.int .i64 ((rd_T45 l1 x5_1).f1))) (ds:=[]) ba0_ (by kernel_rfl) rfl rfl ⟨((HB.out.cell (World.block_lt_of_cell? w _ hw424_0)).trans hw424_0),((HB.out.cell (World.block_lt_of_cell? w _ hw424_1)).trans hw424_1),((HB.out.cell (World.block_lt_of_cell? w _ hw426_0)).trans hw426_0),((HB.out.cell (World.block_lt_of_cell? w _ hw426_1)).trans hw426_1)⟩ (fun hHeld=>?_);refine with_tabW spec_l4Pairs.tab4 spec_l4Pairs.bits4 (fun HT_ HW_=>?_)
       generalize wr.drew=w22 at HB hx424_0 hx424_1 hx426_0 hx426_1 hHeld ⊢
       refine pure_ (i:=0) (N:=some 12) (v:=?_) (a':=?_) ba1_ rfl rfl (any_of HT_.out (by kernel_rfl)) id3_ (Or.inl ⟨by rfl,?_⟩) ?_ ?_
       rotate_left;(intro w';go_simp;with_reducible rfl)
       rotate_left;(simp only [Act.put,z0_,z1_,z2_,i64_w,i32_w];rfl)
       refine pure_ (i:=1) (N:=some 13) (v:=?_) (a':=?_) ba2_ rfl rfl (any_of HT_.out (by kernel_rfl)) id3_ (Or.inl ⟨by rfl,?_⟩) ?_ ?_
       rotate_left;(intro w';go_simp;with_reducible rfl)
       rotate_left;(simp only [Act.put,z0_,z1_,z2_,i64_w,i32_w];rfl)
       refine pure_ (i:=2) (N:=some 14) (v:=?_) (a':=?_) ba3_ rfl rfl (any_of HT_.out (by kernel_rfl)) id3_ (Or.inl ⟨by rfl,?_⟩) ?_ ?_
       rotate_left;(intro w';go_simp;with_reducible rfl)
       rotate_left;(simp only [Act.put,z0_,z1_,z2_,i64_w,i32_w];rfl)
       refine pure_ (i:=3) (N:=some 15) (v:=?_) (a':=?_) ba4_ rfl rfl (any_of HT_.out (by kernel_rfl)) id3_ (Or.inl ⟨by rfl,?_⟩) ?_ ?_
       rotate_left;(intro w';go_simp;with_reducible rfl)
       rotate_left;(simp only [Act.put,z0_,z1_,z2_,i64_w,i32_w];rfl)
       refine pure_ (i:=5) (N:=some 17) (v:=?_) (a':=?_) ba5_ rfl rfl (any_of HT_.out (by kernel_rfl)) id3_ (Or.inl ⟨by rfl,?_⟩) ?_ ?_
       rotate_left;(intro w';go_simp;with_reducible rfl)
       rotate_left;(simp only [Act.put,z0_,z1_,z2_,i64_w,i32_w];rfl)
       refine pure_ (i:=6) (N:=some 18) (v:=?_) (a':=?_) ba6_ rfl rfl (any_of HT_.out (by kernel_rfl)) id3_ (Or.inl ⟨by rfl,?_⟩) ?_ ?_
       rotate_left;(intro w';go_simp;with_reducible rfl)
       rotate_left;(simp only [Act.put,z0_,z1_,z2_,i64_w,i32_w];rfl)
       refine take_ (i:=4) (N:=some 16) (v:=?_) (a':=?_) ba7_ rfl rfl (take_ofW HT_.out HW_.out (by kernel_rfl)) id3_ (Or.inl ⟨by rfl,?_⟩) hHeld ?_ ?_
       rotate_left
       ·rintro w' ⟨s0,s1,s2,s3⟩
        go_simp
        with_reducible rfl
       rotate_left;(simp only [Act.put,z0_,z1_,z2_,i64_w,i32_w];rfl)
       refine one_ (i:=7) (N:=some 19) ba8_ rfl rfl (one_of HT_.out (by kernel_rfl)) (by decide) (fun K hK=>?_)
       refine goes_ Try.func107 (by kernel_rfl) rfl #[.int .i64 ((rd_T45 l1 x5_1).f0),.int .i64 0,.int .i64 (wrap64 (a0 - 1))] (by rfl) rfl rfl zl ?_
       with_reducible refine (spec_l1In.calls ((rd_T45 l1 x5_1).f0) 0 (wrap64 (a0 - 1)) true _ A5.out).mono ?_
       rintro e w' ⟨rfl,⟨nd,rfl⟩⟩
       refine ⟨_,rfl,?_⟩
       refine hK.out _ _ ⟨((HB.out.cell (World.block_lt_of_cell? w _ hw424_0)).trans hw424_0),((HB.out.cell (World.block_lt_of_cell? w _ hw424_1)).trans hw424_1),((HB.out.cell (World.block_lt_of_cell? w _ hw426_0)).trans hw426_0),((HB.out.cell (World.block_lt_of_cell? w _ hw426_1)).trans hw426_1)⟩ (fun hHeld=>?_)
       clear hK K
       refine norm_ (a':=?_) ?_ ?_
       rotate_left
       ·show Act.put _ (some 19) _=_
        simp only [Act.put,z0_,z1_,z2_,i64_w,i32_w]
        rfl
       refine pure_ (i:=8) (N:=some 20) (v:=?_) (a':=?_) ba9_ rfl rfl (any_of HT_.out (by kernel_rfl)) id3_ (Or.inl ⟨by rfl,?_⟩) ?_ ?_
       rotate_left;(intro w';go_simp;with_reducible rfl)
       rotate_left;(simp only [Act.put,z0_,z1_,z2_,i64_w,i32_w];rfl)
       refine pure_ (i:=9) (N:=some 21) (v:=?_) (a':=?_) ba10_ rfl rfl (any_of HT_.out (by kernel_rfl)) id3_ (Or.inl ⟨by rfl,?_⟩) ?_ ?_
       rotate_left;(intro w';go_simp;with_reducible rfl)
       rotate_left;(simp only [Act.put,z0_,z1_,z2_,i64_w,i32_w];rfl)
       refine pure_ (i:=10) (N:=some 22) (v:=?_) (a':=?_) ba11_ rfl rfl (any_of HT_.out (by kernel_rfl)) id3_ (Or.inl ⟨by rfl,?_⟩) ?_ ?_
       rotate_left;(intro w';go_simp;with_reducible rfl)
       rotate_left;(simp only [Act.put,z0_,z1_,z2_,i64_w,i32_w];rfl)
       refine pure_ (i:=11) (N:=some 23) (v:=?_) (a':=?_) ba12_ rfl rfl (any_of HT_.out (by kernel_rfl)) id3_ (Or.inl ⟨by rfl,?_⟩) ?_ ?_
       rotate_left;(intro w';go_simp;with_reducible rfl)
       rotate_left;(simp only [Act.put,z0_,z1_,z2_,i64_w,i32_w];rfl)
       refine pure_ (i:=12) (N:=some 24) (v:=?_) (a':=?_) ba13_ rfl rfl (any_of HT_.out (by kernel_rfl)) id3_ (Or.inl ⟨by rfl,?_⟩) ?_ ?_
       rotate_left;(intro w';go_simp;with_reducible rfl)
       rotate_left;(simp only [Act.put,z0_,z1_,z2_,i64_w,i32_w];rfl)
       refine pure_ (i:=13) (N:=some 25) (v:=?_) (a':=?_) ba14_ rfl rfl (any_of HT_.out (by kernel_rfl)) id3_ (Or.inl ⟨by rfl,?_⟩) ?_ ?_
       rotate_left;(intro w';go_simp;with_reducible rfl)
       rotate_left;(simp only [Act.put,z0_,z1_,z2_,i64_w,i32_w];rfl)
       refine pure_ (i:=15) (N:=some 27) (v:=?_) (a':=?_) ba15_ rfl rfl (any_of HT_.out (by kernel_rfl)) id3_ (Or.inl ⟨by rfl,?_⟩) ?_ ?_
       rotate_left;(intro w';go_simp;with_reducible rfl)
       rotate_left;(simp only [Act.put,z0_,z1_,z2_,i64_w,i32_w];rfl)
       refine pure_ (i:=16) (N:=some 28) (v:=?_) (a':=?_) ba16_ rfl rfl (any_of HT_.out (by kernel_rfl)) id3_ (Or.inl ⟨by rfl,?_⟩) ?_ ?_
       rotate_left;(intro w';go_simp;with_reducible rfl)
       rotate_left;(simp only [Act.put,z0_,z1_,z2_,i64_w,i32_w];rfl)
       refine take_ (i:=14) (N:=some 26) (v:=?_) (a':=?_) ba17_ rfl rfl (take_ofW HT_.out HW_.out (by kernel_rfl)) id3_ (Or.inl ⟨by rfl,?_⟩) hHeld ?_ ?_
       rotate_left
       ·rintro w' ⟨s0,s1,s2,s3⟩
        go_simp
        with_reducible rfl
       rotate_left;(simp only [Act.put,z0_,z1_,z2_,i64_w,i32_w];rfl)
       refine one_ (i:=17) (N:=some 29) ba18_ rfl rfl (one_of HT_.out (by kernel_rfl)) (by decide) (fun K hK=>?_)
       refine goes_ Try.func107 (by kernel_rfl) rfl #[.int .i64 ((rd_T45 l1 x5_1).f1),.int .i64 0,.int .i64 (wrap64 (a0 - 1))] (by rfl) rfl rfl zl ?_
       with_reducible refine (spec_l1In.calls ((rd_T45 l1 x5_1).f1) 0 (wrap64 (a0 - 1)) false _ A7.out).mono ?_
       rintro e w' ⟨rfl,⟨nd,rfl⟩⟩
       refine ⟨_,rfl,?_⟩
       refine hK.out _ _ ⟨((HB.out.cell (World.block_lt_of_cell? w _ hw424_0)).trans hw424_0),((HB.out.cell (World.block_lt_of_cell? w _ hw424_1)).trans hw424_1),((HB.out.cell (World.block_lt_of_cell? w _ hw426_0)).trans hw426_0),((HB.out.cell (World.block_lt_of_cell? w _ hw426_1)).trans hw426_1)⟩ (fun hHeld=>?_)
       clear hK K
       refine norm_ (a':=?_) ?_ ?_
       rotate_left
       ·show Act.put _ (some 29) _=_
        simp only [Act.put,z0_,z1_,z2_,i64_w,i32_w]
        rfl
       refine pure_ (i:=18) (N:=some 30) (v:=?_) (a':=?_) ba19_ rfl rfl (any_of HT_.out (by kernel_rfl)) id3_ (Or.inl ⟨by rfl,?_⟩) ?_ ?_
       rotate_left;(intro w';go_simp;with_reducible rfl)
       rotate_left;(simp only [Act.put,z0_,z1_,z2_,i64_w,i32_w];rfl)
       refine pure_ (i:=19) (N:=some 31) (v:=?_) (a':=?_) ba20_ rfl rfl (any_of HT_.out (by kernel_rfl)) id3_ (Or.inl ⟨by rfl,?_⟩) ?_ ?_
       rotate_left;(intro w';go_simp;with_reducible rfl)
       rotate_left;(simp only [Act.put,z0_,z1_,z2_,i64_w,i32_w];rfl)
       refine pure_ (i:=20) (N:=some 32) (v:=?_) (a':=?_) ba21_ rfl rfl (any_of HT_.out (by kernel_rfl)) id3_ (Or.inl ⟨by rfl,?_⟩) ?_ ?_
       rotate_left;(intro w';go_simp;with_reducible rfl)
       rotate_left;(simp only [Act.put,z0_,z1_,z2_,i64_w,i32_w];rfl)
       refine pure_ (i:=21) (N:=some 33) (v:=undef) (a':=?_) ba22_ rfl rfl (any_of HT_.out (by kernel_rfl)) id3_ (Or.inr ⟨by rfl,rfl⟩) ?_ ?_
       rotate_left;(simp only [Act.put,z0_,z1_,z2_,i64_w,i32_w];rfl)
       refine pure_ (i:=22) (N:=some 34) (v:=undef) (a':=?_) ba23_ rfl rfl (any_of HT_.out (by kernel_rfl)) id3_ (Or.inr ⟨by rfl,rfl⟩) ?_ ?_
       rotate_left;(simp only [Act.put,z0_,z1_,z2_,i64_w,i32_w];rfl)
       refine pure_ (i:=23) (N:=some 35) (v:=undef) (a':=?_) ba24_ rfl rfl (any_of HT_.out (by kernel_rfl)) id3_ (Or.inr ⟨by rfl,rfl⟩) ?_ ?_
       rotate_left;(simp only [Act.put,z0_,z1_,z2_,i64_w,i32_w];rfl)
       refine pure_ (i:=24) (N:=some 36) (v:=undef) (a':=?_) ba25_ rfl rfl (any_of HT_.out (by kernel_rfl)) id3_ (Or.inr ⟨by rfl,rfl⟩) ?_ ?_
       rotate_left;(simp only [Act.put,z0_,z1_,z2_,i64_w,i32_w];rfl)
       refine pure_ (i:=25) (N:=some 37) (v:=undef) (a':=?_) ba54_ rfl rfl (any_of HT_.out (by kernel_rfl)) id3_ (Or.inr ⟨by rfl,rfl⟩) ?_ ?_
       rotate_left;(simp only [Act.put,z0_,z1_,z2_,i64_w,i32_w];rfl)
       refine pure_ (i:=26) (N:=some 38) (v:=undef) (a':=?_) ba55_ rfl rfl (any_of HT_.out (by kernel_rfl)) id3_ (Or.inr ⟨by rfl,rfl⟩) ?_ ?_
       rotate_left;(simp only [Act.put,z0_,z1_,z2_,i64_w,i32_w];rfl)
       refine pure_ (i:=27) (N:=some 39) (v:=undef) (a':=?_) ba56_ rfl rfl (any_of HT_.out (by kernel_rfl)) id3_ (Or.inr ⟨by rfl,rfl⟩) ?_ ?_
       rotate_left;(simp only [Act.put,z0_,z1_,z2_,i64_w,i32_w];rfl)
       refine pure_ (i:=28) (N:=some 40) (v:=undef) (a':=?_) ba57_ rfl rfl (any_of HT_.out (by kernel_rfl)) id3_ (Or.inr ⟨by rfl,rfl⟩) ?_ ?_
       rotate_left;(simp only [Act.put,z0_,z1_,z2_,i64_w,i32_w];rfl)
       refine pure_ (i:=29) (N:=some 41) (v:=undef) (a':=?_) ba30_ rfl rfl (any_of HT_.out (by kernel_rfl)) id3_ (Or.inr ⟨by rfl,rfl⟩) ?_ ?_
       rotate_left;(simp only [Act.put,z0_,z1_,z2_,i64_w,i32_w];rfl)
       refine pure_ (i:=30) (N:=some 42) (v:=undef) (a':=?_) ba31_ rfl rfl (any_of HT_.out (by kernel_rfl)) id3_ (Or.inr ⟨by rfl,rfl⟩) ?_ ?_
       rotate_left;(simp only [Act.put,z0_,z1_,z2_,i64_w,i32_w];rfl)
       refine pure_ (i:=31) (N:=some 43) (v:=undef) (a':=?_) ba32_ rfl rfl (any_of HT_.out (by kernel_rfl)) id3_ (Or.inr ⟨by rfl,rfl⟩) ?_ ?_
       rotate_left;(simp only [Act.put,z0_,z1_,z2_,i64_w,i32_w];rfl)
       refine pure_ (i:=32) (N:=some 44) (v:=?_) (a':=?_) ba33_ rfl rfl (any_of HT_.out (by kernel_rfl)) id3_ (Or.inl ⟨by rfl,?_⟩) ?_ ?_
       rotate_left;(intro w';go_simp;with_reducible rfl)
       rotate_left;(simp only [Act.put,z0_,z1_,z2_,i64_w,i32_w];rfl)
       refine pure_ (i:=33) (N:=some 45) (v:=?_) (a':=?_) ba34_ rfl rfl (any_of HT_.out (by kernel_rfl)) id3_ (Or.inl ⟨by rfl,?_⟩) ?_ ?_
       rotate_left;(intro w';go_simp;with_reducible rfl)
       rotate_left;(simp only [Act.put,z0_,z1_,z2_,i64_w,i32_w];rfl)
       refine pure_ (i:=34) (N:=some 46) (v:=undef) (a':=?_) ba35_ rfl rfl (any_of HT_.out (by kernel_rfl)) id3_ (Or.inr ⟨by rfl,rfl⟩) ?_ ?_
       rotate_left;(simp only [Act.put,z0_,z1_,z2_,i64_w,i32_w];rfl)
       refine pure_ (i:=35) (N:=some 47) (v:=undef) (a':=?_) ba36_ rfl rfl (any_of HT_.out (by kernel_rfl)) id3_ (Or.inr ⟨by rfl,rfl⟩) ?_ ?_
       rotate_left;(simp only [Act.put,z0_,z1_,z2_,i64_w,i32_w];rfl)
       refine pure_ (i:=36) (N:=some 48) (v:=undef) (a':=?_) ba37_ rfl rfl (any_of HT_.out (by kernel_rfl)) id3_ (Or.inr ⟨by rfl,rfl⟩) ?_ ?_
       rotate_left;(simp only [Act.put,z0_,z1_,z2_,i64_w,i32_w];rfl)
       refine pure_ (i:=37) (N:=some 49) (v:=undef) (a':=?_) ba38_ rfl rfl (any_of HT_.out (by kernel_rfl)) id3_ (Or.inr ⟨by rfl,rfl⟩) ?_ ?_
       rotate_left;(simp only [Act.put,z0_,z1_,z2_,i64_w,i32_w];rfl)
       refine pure_ (i:=38) (N:=some 50) (v:=undef) (a':=?_) ba39_ rfl rfl (any_of HT_.out (by kernel_rfl)) id3_ (Or.inr ⟨by rfl,rfl⟩) ?_ ?_
       rotate_left;(simp only [Act.put,z0_,z1_,z2_,i64_w,i32_w];rfl)
       refine pure_ (i:=39) (N:=some 51) (v:=undef) (a':=?_) ba40_ rfl rfl (any_of HT_.out (by kernel_rfl)) id3_ (Or.inr ⟨by rfl,rfl⟩) ?_ ?_
       rotate_left;(simp only [Act.put,z0_,z1_,z2_,i64_w,i32_w];rfl)
       refine pure_ (i:=40) (N:=some 52) (v:=undef) (a':=?_) ba41_ rfl rfl (any_of HT_.out (by kernel_rfl)) id3_ (Or.inr ⟨by rfl,rfl⟩) ?_ ?_
       rotate_left;(simp only [Act.put,z0_,z1_,z2_,i64_w,i32_w];rfl)
       refine pure_ (i:=41) (N:=some 53) (v:=undef) (a':=?_) ba42_ rfl rfl (any_of HT_.out (by kernel_rfl)) id3_ (Or.inr ⟨by rfl,rfl⟩) ?_ ?_
       rotate_left;(simp only [Act.put,z0_,z1_,z2_,i64_w,i32_w];rfl)
       refine pure_ (i:=42) (N:=some 54) (v:=undef) (a':=?_) ba43_ rfl rfl (any_of HT_.out (by kernel_rfl)) id3_ (Or.inr ⟨by rfl,rfl⟩) ?_ ?_
       rotate_left;(simp only [Act.put,z0_,z1_,z2_,i64_w,i32_w];rfl)
       refine pure_ (i:=43) (N:=some 55) (v:=undef) (a':=?_) ba44_ rfl rfl (any_of HT_.out (by kernel_rfl)) id3_ (Or.inr ⟨by rfl,rfl⟩) ?_ ?_
       rotate_left;(simp only [Act.put,z0_,z1_,z2_,i64_w,i32_w];rfl)
       refine pure_ (i:=44) (N:=some 56) (v:=undef) (a':=?_) ba45_ rfl rfl (any_of HT_.out (by kernel_rfl)) id3_ (Or.inr ⟨by rfl,rfl⟩) ?_ ?_
       rotate_left;(simp only [Act.put,z0_,z1_,z2_,i64_w,i32_w];rfl)
       refine pure_ (i:=45) (N:=some 57) (v:=undef) (a':=?_) ba46_ rfl rfl (any_of HT_.out (by kernel_rfl)) id3_ (Or.inr ⟨by rfl,rfl⟩) ?_ ?_
       rotate_left;(simp only [Act.put,z0_,z1_,z2_,i64_w,i32_w];rfl)
       refine pure_ (i:=46) (N:=some 58) (v:=undef) (a':=?_) ba47_ rfl rfl (any_of HT_.out (by kernel_rfl)) id3_ (Or.inr ⟨by rfl,rfl⟩) ?_ ?_
       rotate_left;(simp only [Act.put,z0_,z1_,z2_,i64_w,i32_w];rfl)
       refine pure_ (i:=47) (N:=some 59) (v:=undef) (a':=?_) ba48_ rfl rfl (any_of HT_.out (by kernel_rfl)) id3_ (Or.inr ⟨by rfl,rfl⟩) ?_ ?_
       rotate_left;(simp only [Act.put,z0_,z1_,z2_,i64_w,i32_w];rfl)
       refine pure_ (i:=48) (N:=some 60) (v:=undef) (a':=?_) ba49_ rfl rfl (any_of HT_.out (by kernel_rfl)) id3_ (Or.inr ⟨by rfl,rfl⟩) ?_ ?_
       rotate_left;(simp only [Act.put,z0_,z1_,z2_,i64_w,i32_w];rfl)
       refine pure_ (i:=49) (N:=some 61) (v:=?_) (a':=?_) ba50_ rfl rfl (any_of HT_.out (by kernel_rfl)) id3_ (Or.inl ⟨by rfl,?_⟩) ?_ ?_
       rotate_left;(intro w';go_simp;with_reducible rfl)
       rotate_left;(simp only [Act.put,z0_,z1_,z2_,i64_w,i32_w];rfl)
       refine done_ (done_of HT_.out (by kernel_rfl)) ?_
       try go_wp2
       go_ret
       exact ⟨by first|rfl|(simp [errW_none,errW_some] <;> rfl)|(simp [*,errW_none,errW_some] <;> rfl),zb⟩
     ·replace c6:=Bool.eq_false_iff.mpr c6
      subst c6
      rw [if_neg (show ¬ (false=true) by decide)] at H
      obtain rfl:=Option.some.inj H
      try go_wp2
      replace HB:=Aside0.mk (below_drew1 HB.out)
      have p424:0≤(x5_1:Int):=of_decide_eq_true za
      have q424:x5_1<(l1.length:Int):=of_decide_eq_true za
      obtain ⟨ad424,e424,hx424_0,hx424_1⟩:=at_T45 HR1.out x5_1 p424 q424
      have hw424_1:=hx424_1
      have hw424_0:=hx424_0
      cases e424
      replace hx424_0:=(HB.out.cell (World.block_lt_of_cell? w _ hx424_0)).trans hx424_0
      replace hx424_1:=(HB.out.cell (World.block_lt_of_cell? w _ hx424_1)).trans hx424_1
      replace p424:=eq_true p424
      replace q424:=eq_true q424
      refine start_ (n:=50) (S:=fun w'=>w'.cell? (ad424.add ((x5_1).toNat * 2))=some (.int .i64 ((rd_T45 l1 x5_1).f0))∧w'.cell? ⟨(ad424.add ((x5_1).toNat * 2)).block,(ad424.add ((x5_1).toNat * 2)).off + 1,none⟩=some (.int .i64 ((rd_T45 l1 x5_1).f1))) (ds:=[]) ba0_ (by kernel_rfl) rfl rfl ⟨((HB.out.cell (World.block_lt_of_cell? w _ hw424_0)).trans hw424_0),((HB.out.cell (World.block_lt_of_cell? w _ hw424_1)).trans hw424_1)⟩ (fun hHeld=>?_);refine with_tabW spec_l4Pairs.tab4 spec_l4Pairs.bits4 (fun HT_ HW_=>?_)
      generalize wr.drew=w23 at HB hx424_0 hx424_1 hHeld ⊢
      refine pure_ (i:=0) (N:=some 12) (v:=?_) (a':=?_) ba1_ rfl rfl (any_of HT_.out (by kernel_rfl)) id3_ (Or.inl ⟨by rfl,?_⟩) ?_ ?_
      rotate_left;(intro w';go_simp;with_reducible rfl)
      rotate_left;(simp only [Act.put,z0_,z1_,z2_,i64_w,i32_w];rfl)
      refine pure_ (i:=1) (N:=some 13) (v:=?_) (a':=?_) ba2_ rfl rfl (any_of HT_.out (by kernel_rfl)) id3_ (Or.inl ⟨by rfl,?_⟩) ?_ ?_
      rotate_left;(intro w';go_simp;with_reducible rfl)
      rotate_left;(simp only [Act.put,z0_,z1_,z2_,i64_w,i32_w];rfl)
      refine pure_ (i:=2) (N:=some 14) (v:=?_) (a':=?_) ba3_ rfl rfl (any_of HT_.out (by kernel_rfl)) id3_ (Or.inl ⟨by rfl,?_⟩) ?_ ?_
      rotate_left;(intro w';go_simp;with_reducible rfl)
      rotate_left;(simp only [Act.put,z0_,z1_,z2_,i64_w,i32_w];rfl)
      refine pure_ (i:=3) (N:=some 15) (v:=?_) (a':=?_) ba4_ rfl rfl (any_of HT_.out (by kernel_rfl)) id3_ (Or.inl ⟨by rfl,?_⟩) ?_ ?_
      rotate_left;(intro w';go_simp;with_reducible rfl)
      rotate_left;(simp only [Act.put,z0_,z1_,z2_,i64_w,i32_w];rfl)
      refine pure_ (i:=5) (N:=some 17) (v:=?_) (a':=?_) ba5_ rfl rfl (any_of HT_.out (by kernel_rfl)) id3_ (Or.inl ⟨by rfl,?_⟩) ?_ ?_
      rotate_left;(intro w';go_simp;with_reducible rfl)
      rotate_left;(simp only [Act.put,z0_,z1_,z2_,i64_w,i32_w];rfl)
      refine pure_ (i:=6) (N:=some 18) (v:=?_) (a':=?_) ba6_ rfl rfl (any_of HT_.out (by kernel_rfl)) id3_ (Or.inl ⟨by rfl,?_⟩) ?_ ?_
      rotate_left;(intro w';go_simp;with_reducible rfl)
      rotate_left;(simp only [Act.put,z0_,z1_,z2_,i64_w,i32_w];rfl)
      refine take_ (i:=4) (N:=some 16) (v:=?_) (a':=?_) ba7_ rfl rfl (take_ofW HT_.out HW_.out (by kernel_rfl)) id3_ (Or.inl ⟨by rfl,?_⟩) hHeld ?_ ?_
      rotate_left
      ·rintro w' ⟨s0,s1⟩
       go_simp
       with_reducible rfl
      rotate_left;(simp only [Act.put,z0_,z1_,z2_,i64_w,i32_w];rfl)
      refine one_ (i:=7) (N:=some 19) ba8_ rfl rfl (one_of HT_.out (by kernel_rfl)) (by decide) (fun K hK=>?_)
      refine goes_ Try.func107 (by kernel_rfl) rfl #[.int .i64 ((rd_T45 l1 x5_1).f0),.int .i64 0,.int .i64 (wrap64 (a0 - 1))] (by rfl) rfl rfl zl ?_
      with_reducible refine (spec_l1In.calls ((rd_T45 l1 x5_1).f0) 0 (wrap64 (a0 - 1)) false _ A5.out).mono ?_
      rintro e w' ⟨rfl,⟨nd,rfl⟩⟩
      refine ⟨_,rfl,?_⟩
      refine hK.out _ _ ⟨((HB.out.cell (World.block_lt_of_cell? w _ hw424_0)).trans hw424_0),((HB.out.cell (World.block_lt_of_cell? w _ hw424_1)).trans hw424_1)⟩ (fun hHeld=>?_)
      clear hK K
      refine norm_ (a':=?_) ?_ ?_
      rotate_left
      ·show Act.put _ (some 19) _=_
       simp only [Act.put,z0_,z1_,z2_,i64_w,i32_w]
       rfl
      refine pure_ (i:=8) (N:=some 20) (v:=?_) (a':=?_) ba9_ rfl rfl (any_of HT_.out (by kernel_rfl)) id3_ (Or.inl ⟨by rfl,?_⟩) ?_ ?_
      rotate_left;(intro w';go_simp;with_reducible rfl)
      rotate_left;(simp only [Act.put,z0_,z1_,z2_,i64_w,i32_w];rfl)
      refine pure_ (i:=9) (N:=some 21) (v:=?_) (a':=?_) ba10_ rfl rfl (any_of HT_.out (by kernel_rfl)) id3_ (Or.inl ⟨by rfl,?_⟩) ?_ ?_
      rotate_left;(intro w';go_simp;with_reducible rfl)
      rotate_left;(simp only [Act.put,z0_,z1_,z2_,i64_w,i32_w];rfl)
      refine pure_ (i:=10) (N:=some 22) (v:=undef) (a':=?_) ba11_ rfl rfl (any_of HT_.out (by kernel_rfl)) id3_ (Or.inr ⟨by rfl,rfl⟩) ?_ ?_
      rotate_left;(simp only [Act.put,z0_,z1_,z2_,i64_w,i32_w];rfl)
      refine pure_ (i:=11) (N:=some 23) (v:=undef) (a':=?_) ba12_ rfl rfl (any_of HT_.out (by kernel_rfl)) id3_ (Or.inr ⟨by rfl,rfl⟩) ?_ ?_
      rotate_left;(simp only [Act.put,z0_,z1_,z2_,i64_w,i32_w];rfl)
      refine pure_ (i:=12) (N:=some 24) (v:=undef) (a':=?_) ba13_ rfl rfl (any_of HT_.out (by kernel_rfl)) id3_ (Or.inr ⟨by rfl,rfl⟩) ?_ ?_
      rotate_left;(simp only [Act.put,z0_,z1_,z2_,i64_w,i32_w];rfl)
      refine pure_ (i:=13) (N:=some 25) (v:=undef) (a':=?_) ba14_ rfl rfl (any_of HT_.out (by kernel_rfl)) id3_ (Or.inr ⟨by rfl,rfl⟩) ?_ ?_
      rotate_left;(simp only [Act.put,z0_,z1_,z2_,i64_w,i32_w];rfl)
      refine pure_ (i:=14) (N:=some 26) (v:=undef) (a':=?_) ba58_ rfl rfl (any_of HT_.out (by kernel_rfl)) id3_ (Or.inr ⟨by rfl,rfl⟩) ?_ ?_
      rotate_left;(simp only [Act.put,z0_,z1_,z2_,i64_w,i32_w];rfl)
      refine pure_ (i:=15) (N:=some 27) (v:=undef) (a':=?_) ba59_ rfl rfl (any_of HT_.out (by kernel_rfl)) id3_ (Or.inr ⟨by rfl,rfl⟩) ?_ ?_
      rotate_left;(simp only [Act.put,z0_,z1_,z2_,i64_w,i32_w];rfl)
      refine pure_ (i:=16) (N:=some 28) (v:=undef) (a':=?_) ba17_ rfl rfl (any_of HT_.out (by kernel_rfl)) id3_ (Or.inr ⟨by rfl,rfl⟩) ?_ ?_
      rotate_left;(simp only [Act.put,z0_,z1_,z2_,i64_w,i32_w];rfl)
      refine pure_ (i:=17) (N:=some 29) (v:=undef) (a':=?_) ba18_ rfl rfl (any_of HT_.out (by kernel_rfl)) id3_ (Or.inr ⟨by rfl,rfl⟩) ?_ ?_
      rotate_left;(simp only [Act.put,z0_,z1_,z2_,i64_w,i32_w];rfl)
      refine pure_ (i:=18) (N:=some 30) (v:=undef) (a':=?_) ba19_ rfl rfl (any_of HT_.out (by kernel_rfl)) id3_ (Or.inr ⟨by rfl,rfl⟩) ?_ ?_
      rotate_left;(simp only [Act.put,z0_,z1_,z2_,i64_w,i32_w];rfl)
      refine pure_ (i:=19) (N:=some 31) (v:=?_) (a':=?_) ba20_ rfl rfl (any_of HT_.out (by kernel_rfl)) id3_ (Or.inl ⟨by rfl,?_⟩) ?_ ?_
      rotate_left;(intro w';go_simp;with_reducible rfl)
      rotate_left;(simp only [Act.put,z0_,z1_,z2_,i64_w,i32_w];rfl)
      refine pure_ (i:=20) (N:=some 32) (v:=?_) (a':=?_) ba21_ rfl rfl (any_of HT_.out (by kernel_rfl)) id3_ (Or.inl ⟨by rfl,?_⟩) ?_ ?_
      rotate_left;(intro w';go_simp;with_reducible rfl)
      rotate_left;(simp only [Act.put,z0_,z1_,z2_,i64_w,i32_w];rfl)
      refine pure_ (i:=21) (N:=some 33) (v:=undef) (a':=?_) ba22_ rfl rfl (any_of HT_.out (by kernel_rfl)) id3_ (Or.inr ⟨by rfl,rfl⟩) ?_ ?_
      rotate_left;(simp only [Act.put,z0_,z1_,z2_,i64_w,i32_w];rfl)
      refine pure_ (i:=22) (N:=some 34) (v:=undef) (a':=?_) ba23_ rfl rfl (any_of HT_.out (by kernel_rfl)) id3_ (Or.inr ⟨by rfl,rfl⟩) ?_ ?_
      rotate_left;(simp only [Act.put,z0_,z1_,z2_,i64_w,i32_w];rfl)
      refine pure_ (i:=23) (N:=some 35) (v:=undef) (a':=?_) ba24_ rfl rfl (any_of HT_.out (by kernel_rfl)) id3_ (Or.inr ⟨by rfl,rfl⟩) ?_ ?_
      rotate_left;(simp only [Act.put,z0_,z1_,z2_,i64_w,i32_w];rfl)
      refine pure_ (i:=24) (N:=some 36) (v:=undef) (a':=?_) ba25_ rfl rfl (any_of HT_.out (by kernel_rfl)) id3_ (Or.inr ⟨by rfl,rfl⟩) ?_ ?_
      rotate_left;(simp only [Act.put,z0_,z1_,z2_,i64_w,i32_w];rfl)
      refine pure_ (i:=25) (N:=some 37) (v:=undef) (a':=?_) ba54_ rfl rfl (any_of HT_.out (by kernel_rfl)) id3_ (Or.inr ⟨by rfl,rfl⟩) ?_ ?_
      rotate_left;(simp only [Act.put,z0_,z1_,z2_,i64_w,i32_w];rfl)
      refine pure_ (i:=26) (N:=some 38) (v:=undef) (a':=?_) ba55_ rfl rfl (any_of HT_.out (by kernel_rfl)) id3_ (Or.inr ⟨by rfl,rfl⟩) ?_ ?_
      rotate_left;(simp only [Act.put,z0_,z1_,z2_,i64_w,i32_w];rfl)
      refine pure_ (i:=27) (N:=some 39) (v:=undef) (a':=?_) ba56_ rfl rfl (any_of HT_.out (by kernel_rfl)) id3_ (Or.inr ⟨by rfl,rfl⟩) ?_ ?_
      rotate_left;(simp only [Act.put,z0_,z1_,z2_,i64_w,i32_w];rfl)
      refine pure_ (i:=28) (N:=some 40) (v:=undef) (a':=?_) ba57_ rfl rfl (any_of HT_.out (by kernel_rfl)) id3_ (Or.inr ⟨by rfl,rfl⟩) ?_ ?_
      rotate_left;(simp only [Act.put,z0_,z1_,z2_,i64_w,i32_w];rfl)
      refine pure_ (i:=29) (N:=some 41) (v:=undef) (a':=?_) ba30_ rfl rfl (any_of HT_.out (by kernel_rfl)) id3_ (Or.inr ⟨by rfl,rfl⟩) ?_ ?_
      rotate_left;(simp only [Act.put,z0_,z1_,z2_,i64_w,i32_w];rfl)
      refine pure_ (i:=30) (N:=some 42) (v:=undef) (a':=?_) ba31_ rfl rfl (any_of HT_.out (by kernel_rfl)) id3_ (Or.inr ⟨by rfl,rfl⟩) ?_ ?_
      rotate_left;(simp only [Act.put,z0_,z1_,z2_,i64_w,i32_w];rfl)
      refine pure_ (i:=31) (N:=some 43) (v:=undef) (a':=?_) ba32_ rfl rfl (any_of HT_.out (by kernel_rfl)) id3_ (Or.inr ⟨by rfl,rfl⟩) ?_ ?_
      rotate_left;(simp only [Act.put,z0_,z1_,z2_,i64_w,i32_w];rfl)
      refine pure_ (i:=32) (N:=some 44) (v:=?_) (a':=?_) ba33_ rfl rfl (any_of HT_.out (by kernel_rfl)) id3_ (Or.inl ⟨by rfl,?_⟩) ?_ ?_
      rotate_left;(intro w';go_simp;with_reducible rfl)
      rotate_left;(simp only [Act.put,z0_,z1_,z2_,i64_w,i32_w];rfl)
      refine pure_ (i:=33) (N:=some 45) (v:=?_) (a':=?_) ba34_ rfl rfl (any_of HT_.out (by kernel_rfl)) id3_ (Or.inl ⟨by rfl,?_⟩) ?_ ?_
      rotate_left;(intro w';go_simp;with_reducible rfl)
      rotate_left;(simp only [Act.put,z0_,z1_,z2_,i64_w,i32_w];rfl)
      refine pure_ (i:=34) (N:=some 46) (v:=undef) (a':=?_) ba35_ rfl rfl (any_of HT_.out (by kernel_rfl)) id3_ (Or.inr ⟨by rfl,rfl⟩) ?_ ?_
      rotate_left;(simp only [Act.put,z0_,z1_,z2_,i64_w,i32_w];rfl)
      refine pure_ (i:=35) (N:=some 47) (v:=undef) (a':=?_) ba36_ rfl rfl (any_of HT_.out (by kernel_rfl)) id3_ (Or.inr ⟨by rfl,rfl⟩) ?_ ?_
      rotate_left;(simp only [Act.put,z0_,z1_,z2_,i64_w,i32_w];rfl)
      refine pure_ (i:=36) (N:=some 48) (v:=undef) (a':=?_) ba37_ rfl rfl (any_of HT_.out (by kernel_rfl)) id3_ (Or.inr ⟨by rfl,rfl⟩) ?_ ?_
      rotate_left;(simp only [Act.put,z0_,z1_,z2_,i64_w,i32_w];rfl)
      refine pure_ (i:=37) (N:=some 49) (v:=undef) (a':=?_) ba38_ rfl rfl (any_of HT_.out (by kernel_rfl)) id3_ (Or.inr ⟨by rfl,rfl⟩) ?_ ?_
      rotate_left;(simp only [Act.put,z0_,z1_,z2_,i64_w,i32_w];rfl)
      refine pure_ (i:=38) (N:=some 50) (v:=undef) (a':=?_) ba39_ rfl rfl (any_of HT_.out (by kernel_rfl)) id3_ (Or.inr ⟨by rfl,rfl⟩) ?_ ?_
      rotate_left;(simp only [Act.put,z0_,z1_,z2_,i64_w,i32_w];rfl)
      refine pure_ (i:=39) (N:=some 51) (v:=undef) (a':=?_) ba40_ rfl rfl (any_of HT_.out (by kernel_rfl)) id3_ (Or.inr ⟨by rfl,rfl⟩) ?_ ?_
      rotate_left;(simp only [Act.put,z0_,z1_,z2_,i64_w,i32_w];rfl)
      refine pure_ (i:=40) (N:=some 52) (v:=undef) (a':=?_) ba41_ rfl rfl (any_of HT_.out (by kernel_rfl)) id3_ (Or.inr ⟨by rfl,rfl⟩) ?_ ?_
      rotate_left;(simp only [Act.put,z0_,z1_,z2_,i64_w,i32_w];rfl)
      refine pure_ (i:=41) (N:=some 53) (v:=undef) (a':=?_) ba42_ rfl rfl (any_of HT_.out (by kernel_rfl)) id3_ (Or.inr ⟨by rfl,rfl⟩) ?_ ?_
      rotate_left;(simp only [Act.put,z0_,z1_,z2_,i64_w,i32_w];rfl)
      refine pure_ (i:=42) (N:=some 54) (v:=undef) (a':=?_) ba43_ rfl rfl (any_of HT_.out (by kernel_rfl)) id3_ (Or.inr ⟨by rfl,rfl⟩) ?_ ?_
      rotate_left;(simp only [Act.put,z0_,z1_,z2_,i64_w,i32_w];rfl)
      refine pure_ (i:=43) (N:=some 55) (v:=undef) (a':=?_) ba44_ rfl rfl (any_of HT_.out (by kernel_rfl)) id3_ (Or.inr ⟨by rfl,rfl⟩) ?_ ?_
      rotate_left;(simp only [Act.put,z0_,z1_,z2_,i64_w,i32_w];rfl)
      refine pure_ (i:=44) (N:=some 56) (v:=undef) (a':=?_) ba45_ rfl rfl (any_of HT_.out (by kernel_rfl)) id3_ (Or.inr ⟨by rfl,rfl⟩) ?_ ?_
      rotate_left;(simp only [Act.put,z0_,z1_,z2_,i64_w,i32_w];rfl)
      refine pure_ (i:=45) (N:=some 57) (v:=undef) (a':=?_) ba46_ rfl rfl (any_of HT_.out (by kernel_rfl)) id3_ (Or.inr ⟨by rfl,rfl⟩) ?_ ?_
      rotate_left;(simp only [Act.put,z0_,z1_,z2_,i64_w,i32_w];rfl)
      refine pure_ (i:=46) (N:=some 58) (v:=undef) (a':=?_) ba47_ rfl rfl (any_of HT_.out (by kernel_rfl)) id3_ (Or.inr ⟨by rfl,rfl⟩) ?_ ?_
      rotate_left;(simp only [Act.put,z0_,z1_,z2_,i64_w,i32_w];rfl)
      refine pure_ (i:=47) (N:=some 59) (v:=undef) (a':=?_) ba48_ rfl rfl (any_of HT_.out (by kernel_rfl)) id3_ (Or.inr ⟨by rfl,rfl⟩) ?_ ?_
      rotate_left;(simp only [Act.put,z0_,z1_,z2_,i64_w,i32_w];rfl)
      refine pure_ (i:=48) (N:=some 60) (v:=undef) (a':=?_) ba49_ rfl rfl (any_of HT_.out (by kernel_rfl)) id3_ (Or.inr ⟨by rfl,rfl⟩) ?_ ?_
      rotate_left;(simp only [Act.put,z0_,z1_,z2_,i64_w,i32_w];rfl)
      refine pure_ (i:=49) (N:=some 61) (v:=?_) (a':=?_) ba50_ rfl rfl (any_of HT_.out (by kernel_rfl)) id3_ (Or.inl ⟨by rfl,?_⟩) ?_ ?_
      rotate_left;(intro w';go_simp;with_reducible rfl)
      rotate_left;(simp only [Act.put,z0_,z1_,z2_,i64_w,i32_w];rfl)
      refine done_ (done_of HT_.out (by kernel_rfl)) ?_
      try go_wp2
      go_ret
      exact ⟨by first|rfl|(simp [errW_none,errW_some] <;> rfl)|(simp [*,errW_none,errW_some] <;> rfl),zb⟩
    ·rw [if_neg c4] at H
     exact absurd H (by simp)
   ·rw [if_neg c3] at H
    have c3b0:decide (x5_1<(l1.length:Int))=false:=decide_eq_false c3
    clear c3
    replace H:=Option.bind_eq_some_iff.mp H
    obtain ⟨t423,A240,H⟩:=H
    try dsimp only at H
    have A24:=Aside0.mk A240
    clear A240
    by_cases c25:t423=true
    ·subst c25
     rw [if_pos rfl] at H
     obtain rfl:=Option.some.inj H
     go_wp2_with (first|((with_reducible refine gate_callee (f:=107) rfl ?_);refine goesL_ (some 63) rfl rfl Try.func107 (by kernel_rfl) rfl #[.int .i64 a0,.int .i64 0,.int .i64 8] rfl zl ?_;(with_reducible refine (spec_l1In.calls a0 0 8 true _ A24.out).mono ?_);rintro e w' ⟨rfl,⟨nd,rfl⟩⟩;refine ⟨_,rfl,?_⟩))
     go_ret
     exact ⟨by first|rfl|(simp [errW_none,errW_some] <;> rfl)|(simp [*,errW_none,errW_some] <;> rfl),zb⟩
    ·replace c25:=Bool.eq_false_iff.mpr c25
     subst c25
     rw [if_neg (show ¬ (false=true) by decide)] at H
     obtain rfl:=Option.some.inj H
     go_wp2_with (first|((with_reducible refine gate_callee (f:=107) rfl ?_);refine goesL_ (some 63) rfl rfl Try.func107 (by kernel_rfl) rfl #[.int .i64 a0,.int .i64 0,.int .i64 8] rfl zl ?_;(with_reducible refine (spec_l1In.calls a0 0 8 false _ A24.out).mono ?_);rintro e w' ⟨rfl,⟨nd,rfl⟩⟩;refine ⟨_,rfl,?_⟩))
     go_ret
     exact ⟨by first|rfl|(simp [errW_none,errW_some] <;> rfl)|(simp [*,errW_none,errW_some] <;> rfl),zb⟩

end Go.Proofs.Ytplbabjigikgjaa.XFnTails
-- minified
