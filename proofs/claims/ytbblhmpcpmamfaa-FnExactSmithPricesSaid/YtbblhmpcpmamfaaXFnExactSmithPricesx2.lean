-- Written by a program of this session (the kit's print, widened). Proved here: what each function answers, for the arguments that its contract names.
import Derived.Test.YtbblhmpcpmamfaaXFnExactSmithPricesx0
namespace Go.Proofs.Ytbblhmpcpmamfaa.XFnExactSmithPrices
open Go.RowKit Go.Proofs.YtbblhmpcpmamfaaW.PrintWords Go.Proofs.YtbblhmpcpmamfaaW.PrintLast Go.Proofs.YtbblhmpcpmamfaaW.PrintMore
attribute [local go_sem] max2_int min2_int max_two min_two max_three min_three max_four min_four   -- for this text's walks alone
attribute [local go_sem] idxA_77_0 idxA_77_1 fldS_68_0 fldS_68_1 fldS_73_0 fldS_73_1 fldS_73_2
set_option linter.unusedVariables false
set_option linter.unusedSimpArgs false

/-! ### spec_l10Smith: function 86 -/
mutual
def spec_l10Smith.l0:Nat→List (S62)→List Int→Int→Option (List Int)
 | 0,_,_,_=>none
 | k + 1,x0,x3,x4=>if x4<(x0.length:Int) then (spec_l10Smith.l1 k x0 x3 x4 0) else (some x3)
def spec_l10Smith.l1:Nat→List (S62)→List Int→Int→Int→Option (List Int)
 | 0,_,_,_,_=>none
 | k + 1,x0,x3,x4,x5=>if x5<(x3.length:Int) then (if 0≤x5 then (if 0≤(rd x3 x5) then (if (rd x3 x5)<(x0.length:Int) then (if 0≤x4 then (if x4<(x0.length:Int) then (if (wrap64 (((rd_T62 x0 (rd x3 x5)).f1) * ((rd_T62 x0 x4).f0)))≥(wrap64 (((rd_T62 x0 x4).f1) * ((rd_T62 x0 (rd x3 x5)).f0))) then (spec_l10Smith.l1 k x0 x3 x4 (wrap64 (x5 + 1))) else ((some (([]:List Int):List Int)).bind fun y122=>(if x5≤(x3.length:Int) then ((some (x3.take (x5:Int).toNat:List Int)).bind fun y125=>(if y122.length + y125.length<17592186044416 then ((some (y122++y125:List Int)).bind fun y129=>((some (([x4]:List Int):List Int)).bind fun y132=>(if y129.length + y132.length<17592186044416 then ((some (y129++y132:List Int)).bind fun y135=>((some (x3.drop (x5:Int).toNat:List Int)).bind fun y138=>(if y135.length + y138.length<17592186044416 then (spec_l10Smith.l0 k x0 (y135++y138) (wrap64 (x4 + 1))) else (none)))) else (none)))) else (none))) else (none)))) else (none)) else (none)) else (none)) else (none)) else (none)) else ((some (([]:List Int):List Int)).bind fun y145=>(if 0≤x5 then (if x5≤(x3.length:Int) then ((some (x3.take (x5:Int).toNat:List Int)).bind fun y148=>(if y145.length + y148.length<17592186044416 then ((some (y145++y148:List Int)).bind fun y152=>((some (([x4]:List Int):List Int)).bind fun y155=>(if y152.length + y155.length<17592186044416 then ((some (y152++y155:List Int)).bind fun y158=>((some (x3.drop (x5:Int).toNat:List Int)).bind fun y161=>(if y158.length + y161.length<17592186044416 then (spec_l10Smith.l0 k x0 (y158++y161) (wrap64 (x4 + 1))) else (none)))) else (none)))) else (none))) else (none)) else (none)))
end
def spec_l10Smith.f (k:Nat) (l0:List (S62)):Option (List Int):=spec_l10Smith.l0 k l0 (([]:List Int)) 0
theorem spec_l10Smith.mono_l:∀ k,(∀ y0 y1 y2,LeO (spec_l10Smith.l0 k y0 y1 y2) (spec_l10Smith.l0 (k + 1) y0 y1 y2))∧(∀ y0 y1 y2 y3,LeO (spec_l10Smith.l1 k y0 y1 y2 y3) (spec_l10Smith.l1 (k + 1) y0 y1 y2 y3))
 | 0=>⟨fun _ _ _ r h=>by simp [spec_l10Smith.l0] at h,fun _ _ _ _ r h=>by simp [spec_l10Smith.l1] at h⟩
 | k + 1=>by
  obtain ⟨ih0,ih1⟩:=spec_l10Smith.mono_l k
  refine ⟨?_,?_⟩
  ·intro y0 y1 y2
   unfold spec_l10Smith.l0
   repeat' first
   | (with_reducible exact ih0 _ _ _)
   | (with_reducible exact ih1 _ _ _ _)
   | (with_reducible exact LeO.refl _)
   | (with_reducible exact LeO.none _)
   | (with_reducible refine LeO.ite ?_ ?_)
   | (with_reducible refine LeO.bind ?_ (fun _=>?_))
   | exact ih0 _ _ _
   | exact ih1 _ _ _ _
   | exact LeO.none _
   | refine LeO.ite ?_ ?_
   | refine LeO.bind ?_ (fun _=>?_)
  ·intro y0 y1 y2 y3
   unfold spec_l10Smith.l1
   repeat' first
   | (with_reducible exact ih0 _ _ _)
   | (with_reducible exact ih1 _ _ _ _)
   | (with_reducible exact LeO.refl _)
   | (with_reducible exact LeO.none _)
   | (with_reducible refine LeO.ite ?_ ?_)
   | (with_reducible refine LeO.bind ?_ (fun _=>?_))
   | exact ih0 _ _ _
   | exact ih1 _ _ _ _
   | exact LeO.none _
   | refine LeO.ite ?_ ?_
   | refine LeO.bind ?_ (fun _=>?_)
theorem spec_l10Smith.mono:∀ a0 k,LeO (spec_l10Smith.f k a0) (spec_l10Smith.f (k + 1) a0):=by
 intro a0 k
 obtain ⟨ih0,ih1⟩:=spec_l10Smith.mono_l k
 unfold spec_l10Smith.f
 repeat' first
   | (with_reducible exact ih0 _ _ _)
   | (with_reducible exact ih1 _ _ _ _)
   | (with_reducible exact LeO.refl _)
   | (with_reducible exact LeO.none _)
   | (with_reducible refine LeO.ite ?_ ?_)
   | (with_reducible refine LeO.bind ?_ (fun _=>?_))
   | exact ih0 _ _ _
   | exact ih1 _ _ _ _
   | exact LeO.none _
   | refine LeO.ite ?_ ?_
   | refine LeO.bind ?_ (fun _=>?_)
def spec_l10Smith.T6:Bool × List (List Nat × List Nat):=(true,[([],[]),([],[]),([1],[1]),([0,2],[0,2]),([3],[3]),([4],[4]),([4],[4]),([4],[4]),([6,7,4],[4,6,7]),([8,4],[4,8]),([5,9,4],[4,5,9]),([10,4],[4,10]),([11,4],[4,11]),([4],[4]),([4],[4]),([13,14,4],[4,13,14]),([15,4],[4,15]),([16,4],[4,16]),([12,17,4],[4,12,17]),([4],[4]),([4],[4]),([19,20,4],[4,19,20]),([21,4],[4,21]),([22,4],[4,22]),([4],[4]),([4],[4]),([4],[4]),([25,26,4],[4,25,26]),([27,4],[4,27]),([24,28,4],[4,24,28]),([29,4],[4,29]),([30,4],[4,30]),([23,31,4],[4,23,31]),([18,32,4],[4,18,32]),([4,33],[4,33])])
def spec_l10Smith.B6:List Nat:=[0,0,2,7,15,31,31,31,223,479,1023,2047,4095,31,31,24607,57375,122911,262143,31,31,1572895,3670047,7864351,31,31,31,100663327,234881055,520093727,1056964639,2130706463,4294443039,8589934591,17179869183]
theorem spec_l10Smith.tab6:rtab .any (opsOf Try.f86 6)=spec_l10Smith.T6:=by kernel_rfl
theorem spec_l10Smith.bits6:waitsOk spec_l10Smith.T6.2 spec_l10Smith.B6=true:=by kernel_rfl
def spec_l10Smith.T8:Bool × List (List Nat × List Nat):=(true,[([],[]),([],[]),([],[]),([1,2],[1,2]),([0,3],[0,3]),([],[]),([5],[5]),([4,6,4],[4,6]),([],[]),([],[]),([8,9],[8,9]),([7,10,7],[7,10]),([11,11,0,1,2,3,4,5,6,7,8,9,10,11],[1,8,11])])
def spec_l10Smith.B8:List Nat:=[0,0,0,6,15,0,32,127,0,0,768,2047,4095]
theorem spec_l10Smith.tab8:rtab .any (opsOf Try.f86 8)=spec_l10Smith.T8:=by kernel_rfl
theorem spec_l10Smith.bits8:waitsOk spec_l10Smith.T8.2 spec_l10Smith.B8=true:=by kernel_rfl
set_option maxHeartbeats 8000000 in
set_option maxRecDepth 100000 in
theorem spec_l10Smith.calls (k:Nat) (A0:Option Addr) (c0:Nat) (l0:List (S62)) (r:List Int) (w:World) (hr0:Kd.C k62 w A0 l0.length l0) (hc0:l0.length≤c0) (h:spec_l10Smith.f k l0=some r) :
  Calls Try.prog 86 #[.slice A0 l0.length c0] w fun e w'=>∃ v0_:Value,e=.returned (v0_)∧Kd.R (Kd.int .i64) 3 w' w.heap.size (fun _=>True) v0_ r∧Below w.heap.size w w':=by
 have HR0:=Aside0.mk hr0
 have HC0:=Aside0.mk hc0
 clear hr0 hc0
 have HB:=Aside0.mk (Below.refl w.heap.size w)
 have H:(spec_l10Smith.l0 k l0 (([]:List Int)) 0)=some r:=h
 clear h
 obtain ⟨y113,hy113⟩:∃ y_:List Int,y_=(([]:List Int)):=⟨_,rfl⟩
 replace H:(spec_l10Smith.l0 k l0 y113 0)=some r:=by first|(rw [hy113];with_reducible exact H)|(have H2_:=(Option.bind_some _ _).symm.trans H;rw [hy113];with_reducible exact H2_)|(have H2_:=(Option.bind_some _ _).symm.trans H;with_reducible exact H2_)|with_reducible exact H|(rw [hy113];exact H)|exact H
 have Ny113:=Aside0.mk hy113
 clear hy113
 have H':=Aside0.mk H
 clear H
 go_enter Try.func86,Try.ntmps86
 go_wp2_with (first|((with_reducible refine gate_dst (N:=6) rfl ?_);refine Kd.R_lit (Kd.int .i64) _ 3 ?hg (N:=6) ?hd (xs:=([]:List Int)) (inner:=[]) (ok:=fun _=>True) (okp:=fun _=>True) ?hr ?hp (fun _ hk=>hk) trivial (Below.refl _ _) (Nat.le_refl _) (by simp) ?_;(case hd=>rfl);(case hg=>rfl);(case hr=>first|(go_simp;done)|(go_simp;rfl));(case hp=>exact (Reps.none _ _));intro v114 w2 ho3 hb hg_ hnew_;clear hg_ hnew_;(first|rw [←Ny113.out] at ho3|(simp only [Int.reduceToNat] at ho3;rw [←Ny113.out] at ho3));have n0_:=Aside0.mk (Kd.R_lower ho3 (below_size (by repeat (first|(with_reducible first|exact HB.out|apply below_alloc|apply pw_below_drewN|apply below_drew1)|exact HB.out))));have n1_:=Aside0.mk (below_step (by repeat (first|(with_reducible first|exact HB.out|apply below_alloc|apply pw_below_drewN|apply below_drew1)|exact HB.out)) hb);clear HB;have HO115:=n0_;have HB:=n1_;clear n0_ n1_;clear hb ho3))
 go_loopg [3,4] k (fun kq v3 v4 w'=>∃ (x3_1:List Int) (x4_1:Int),v4=.int .i64 x4_1∧Aside0 (spec_l10Smith.l0 kq l0 x3_1 x4_1=some r)∧Aside0 (kq≤k)∧Aside0 (Kd.R (Kd.int .i64) 3 w' w.heap.size (fun _=>True) v3 x3_1)∧Aside0 (Below w.heap.size w w'))
 case atStart=>exact ⟨(y113),(0),(by first|rfl|(simp;done)|(simp [*];done)),H',⟨Nat.le_refl _⟩,⟨by (with_reducible repeat (first|apply Kd.R_alloc|apply Kd.R_drewN|apply Kd.R_drew));exact HO115.out⟩,⟨by repeat (first|(with_reducible first|exact HB.out|apply below_alloc|apply pw_below_drewN|apply below_drew1)|exact HB.out)⟩⟩
 case round=>
  clear H'
  try clear p2
  obtain ⟨x3_1,x4_1,rfl,HA,HK1,HO_3,HB⟩:=hrel
  cases gk with
  | zero=>exact absurd HA.out (by simp [spec_l10Smith.l0])
  | succ k1=>
   have H:=HA.out
   clear HA
   simp only [spec_l10Smith.l0] at H
   by_cases c4:x4_1<(l0.length:Int)
   ·rw [if_pos c4] at H
    have c4b0:decide (x4_1<(l0.length:Int))=true:=decide_eq_true c4
    clear c4
    have H':=Aside0.mk H
    clear H
    go_wp2
    go_loopg [5] k1 (fun kq v5 w'=>∃ (x5_2:Int),v5=.int .i64 x5_2∧Aside0 (spec_l10Smith.l1 kq l0 x3_1 x4_1 x5_2=some r)∧Aside0 (kq≤k1)∧Aside0 (Kd.R (Kd.int .i64) 3 w' w.heap.size (fun _=>True) u3 x3_1)∧Aside0 (Below w.heap.size w w'))
    case atStart=>exact ⟨(0),(by first|rfl|(simp;done)|(simp [*];done)),H',⟨Nat.le_refl _⟩,⟨by (with_reducible repeat (first|apply Kd.R_alloc|apply Kd.R_drewN|apply Kd.R_drew));exact HO_3.out⟩,⟨by repeat (first|(with_reducible first|exact HB.out|apply below_alloc|apply pw_below_drewN|apply below_drew1)|exact HB.out)⟩⟩
    case round=>
     clear H'
     try clear p2
     try clear c4
     try clear c4b0
     try clear p2
     obtain ⟨x5_2,rfl,HA,HK2,HO_3,HB⟩:=hrel
     cases gk with
     | zero=>exact absurd HA.out (by simp [spec_l10Smith.l1])
     | succ k2=>
      have H:=HA.out
      clear HA
      simp only [spec_l10Smith.l1] at H
      by_cases c5:x5_2<(x3_1.length:Int)
      ·rw [if_pos c5] at H
       have c5b0:decide (x5_2<(x3_1.length:Int))=true:=decide_eq_true c5
       clear c5
       by_cases c6:0≤x5_2
       ·rw [if_pos c6] at H
        have c6b0:decide (0≤x5_2)=true:=decide_eq_true c6
        clear c6
        by_cases c7:0≤(rd x3_1 x5_2)
        ·rw [if_pos c7] at H
         have c7b0:decide (0≤(rd x3_1 x5_2))=true:=decide_eq_true c7
         clear c7
         by_cases c8:(rd x3_1 x5_2)<(l0.length:Int)
         ·rw [if_pos c8] at H
          have c8b0:decide ((rd x3_1 x5_2)<(l0.length:Int))=true:=decide_eq_true c8
          clear c8
          by_cases c9:0≤x4_1
          ·rw [if_pos c9] at H
           have c9b0:decide (0≤x4_1)=true:=decide_eq_true c9
           clear c9
           by_cases c10:x4_1<(l0.length:Int)
           ·rw [if_pos c10] at H
            have c10b0:decide (x4_1<(l0.length:Int))=true:=decide_eq_true c10
            clear c10
            by_cases c11:(wrap64 (((rd_T62 l0 (rd x3_1 x5_2)).f1) * ((rd_T62 l0 x4_1).f0)))≥(wrap64 (((rd_T62 l0 x4_1).f1) * ((rd_T62 l0 (rd x3_1 x5_2)).f0)))
            ·rw [if_pos c11] at H
             have c11b0:decide ((wrap64 (((rd_T62 l0 x4_1).f1) * ((rd_T62 l0 (rd x3_1 x5_2)).f0)))≤(wrap64 (((rd_T62 l0 (rd x3_1 x5_2)).f1) * ((rd_T62 l0 x4_1).f0))))=true:=decide_eq_true c11
             clear c11
             have H':=Aside0.mk H
             clear H
             try go_wp2
             have n0_:=Aside0.mk (Kd.R_drew HO_3.out)
             have n1_:=Aside0.mk (below_drew1 HB.out)
             clear HO_3
             clear HB
             have HO_3:=n0_
             have HB:=n1_
             clear n0_ n1_
             obtain ⟨Ao13,co13,eo13⟩:=Kd.R_slice HO_3.out
             (first|subst eo13|(injection eo13 with f1_ f2_ f3_;have f4_:=f1_.symm;have f5_:=f3_.symm;clear f1_ f2_ f3_;subst f4_;subst f5_))
             have p116:0≤(x5_2:Int):=of_decide_eq_true (by first|(with_reducible assumption)|assumption)
             have q116:x5_2<(x3_1.length:Int):=of_decide_eq_true (by first|(with_reducible assumption)|assumption)
             obtain ⟨ad116,e116,hx116_0⟩:=Kd.at_int (Kd.R_reads' HO_3.out).2.2 x5_2 p116 q116
             cases e116
             replace p116:=eq_true p116
             replace q116:=eq_true q116
             have p117:0≤((rd x3_1 x5_2):Int):=of_decide_eq_true (by first|(with_reducible assumption)|assumption)
             have q117:(rd x3_1 x5_2)<(l0.length:Int):=of_decide_eq_true (by first|(with_reducible assumption)|assumption)
             obtain ⟨ad117,e117,hx117_0,hx117_1,hx117_2,hx117_3⟩:=at_T62 HR0.out (rd x3_1 x5_2) p117 q117
             have hw117_3:=hx117_3
             have hw117_2:=hx117_2
             have hw117_1:=hx117_1
             have hw117_0:=hx117_0
             cases e117
             replace hx117_0:=(HB.out.cell (World.block_lt_of_cell? w _ hx117_0)).trans hx117_0
             replace hx117_1:=(HB.out.cell (World.block_lt_of_cell? w _ hx117_1)).trans hx117_1
             replace hx117_2:=(HB.out.cell (World.block_lt_of_cell? w _ hx117_2)).trans hx117_2
             replace hx117_3:=(HB.out.cell (World.block_lt_of_cell? w _ hx117_3)).trans hx117_3
             replace p117:=eq_true p117
             replace q117:=eq_true q117
             have p118:0≤(x4_1:Int):=of_decide_eq_true (by first|(with_reducible assumption)|assumption)
             have q118:x4_1<(l0.length:Int):=of_decide_eq_true (by first|(with_reducible assumption)|assumption)
             obtain ⟨ad118,e118,hx118_0,hx118_1,hx118_2,hx118_3⟩:=at_T62 HR0.out x4_1 p118 q118
             have hw118_3:=hx118_3
             have hw118_2:=hx118_2
             have hw118_1:=hx118_1
             have hw118_0:=hx118_0
             obtain rfl:ad117=ad118:=(by injection e118)
             replace hx118_0:=(HB.out.cell (World.block_lt_of_cell? w _ hx118_0)).trans hx118_0
             replace hx118_1:=(HB.out.cell (World.block_lt_of_cell? w _ hx118_1)).trans hx118_1
             replace hx118_2:=(HB.out.cell (World.block_lt_of_cell? w _ hx118_2)).trans hx118_2
             replace hx118_3:=(HB.out.cell (World.block_lt_of_cell? w _ hx118_3)).trans hx118_3
             replace p118:=eq_true p118
             replace q118:=eq_true q118
             have p119:0≤(x4_1:Int):=of_decide_eq_true (by first|(with_reducible assumption)|assumption)
             have q119:x4_1<(l0.length:Int):=of_decide_eq_true (by first|(with_reducible assumption)|assumption)
             obtain ⟨ad119,e119,hx119_0,hx119_1,hx119_2,hx119_3⟩:=at_T62 HR0.out x4_1 p119 q119
             have hw119_3:=hx119_3
             have hw119_2:=hx119_2
             have hw119_1:=hx119_1
             have hw119_0:=hx119_0
             obtain rfl:ad117=ad119:=(by injection e119)
             replace hx119_0:=(HB.out.cell (World.block_lt_of_cell? w _ hx119_0)).trans hx119_0
             replace hx119_1:=(HB.out.cell (World.block_lt_of_cell? w _ hx119_1)).trans hx119_1
             replace hx119_2:=(HB.out.cell (World.block_lt_of_cell? w _ hx119_2)).trans hx119_2
             replace hx119_3:=(HB.out.cell (World.block_lt_of_cell? w _ hx119_3)).trans hx119_3
             replace p119:=eq_true p119
             replace q119:=eq_true q119
             have p120:0≤(x5_2:Int):=of_decide_eq_true (by first|(with_reducible assumption)|assumption)
             have q120:x5_2<(x3_1.length:Int):=of_decide_eq_true (by first|(with_reducible assumption)|assumption)
             obtain ⟨ad120,e120,hx120_0⟩:=Kd.at_int (Kd.R_reads' HO_3.out).2.2 x5_2 p120 q120
             obtain rfl:ad116=ad120:=(by injection e120)
             replace p120:=eq_true p120
             replace q120:=eq_true q120
             have p121:0≤((rd x3_1 x5_2):Int):=of_decide_eq_true (by first|(with_reducible assumption)|assumption)
             have q121:(rd x3_1 x5_2)<(l0.length:Int):=of_decide_eq_true (by first|(with_reducible assumption)|assumption)
             obtain ⟨ad121,e121,hx121_0,hx121_1,hx121_2,hx121_3⟩:=at_T62 HR0.out (rd x3_1 x5_2) p121 q121
             have hw121_3:=hx121_3
             have hw121_2:=hx121_2
             have hw121_1:=hx121_1
             have hw121_0:=hx121_0
             obtain rfl:ad117=ad121:=(by injection e121)
             replace hx121_0:=(HB.out.cell (World.block_lt_of_cell? w _ hx121_0)).trans hx121_0
             replace hx121_1:=(HB.out.cell (World.block_lt_of_cell? w _ hx121_1)).trans hx121_1
             replace hx121_2:=(HB.out.cell (World.block_lt_of_cell? w _ hx121_2)).trans hx121_2
             replace hx121_3:=(HB.out.cell (World.block_lt_of_cell? w _ hx121_3)).trans hx121_3
             replace p121:=eq_true p121
             replace q121:=eq_true q121
             refine start_ (n:=35) (S:=fun w'=>w'.cell? (ad116.add (x5_2).toNat)=some (.int .i64 (rd x3_1 x5_2))∧w'.cell? (ad117.add (((rd x3_1 x5_2)).toNat * 4))=some (.int .i64 ((rd_T62 l0 (rd x3_1 x5_2)).f0))∧w'.cell? ⟨(ad117.add (((rd x3_1 x5_2)).toNat * 4)).block,(ad117.add (((rd x3_1 x5_2)).toNat * 4)).off + 1,none⟩=some (.int .i64 ((rd_T62 l0 (rd x3_1 x5_2)).f1))∧w'.cell? ⟨(ad117.add (((rd x3_1 x5_2)).toNat * 4)).block,(ad117.add (((rd x3_1 x5_2)).toNat * 4)).off + 2,none⟩=some (.int .i64 ((rd_T62 l0 (rd x3_1 x5_2)).f2))∧w'.cell? ⟨(ad117.add (((rd x3_1 x5_2)).toNat * 4)).block,(ad117.add (((rd x3_1 x5_2)).toNat * 4)).off + 3,none⟩=some (.int .i64 ((rd_T62 l0 (rd x3_1 x5_2)).f3))∧w'.cell? (ad117.add ((x4_1).toNat * 4))=some (.int .i64 ((rd_T62 l0 x4_1).f0))∧w'.cell? ⟨(ad117.add ((x4_1).toNat * 4)).block,(ad117.add ((x4_1).toNat * 4)).off + 1,none⟩=some (.int .i64 ((rd_T62 l0 x4_1).f1))∧w'.cell? ⟨(ad117.add ((x4_1).toNat * 4)).block,(ad117.add ((x4_1).toNat * 4)).off + 2,none⟩=some (.int .i64 ((rd_T62 l0 x4_1).f2))∧w'.cell? ⟨(ad117.add ((x4_1).toNat * 4)).block,(ad117.add ((x4_1).toNat * 4)).off + 3,none⟩=some (.int .i64 ((rd_T62 l0 x4_1).f3))∧w'.cell? (ad117.add ((x4_1).toNat * 4))=some (.int .i64 ((rd_T62 l0 x4_1).f0))∧w'.cell? ⟨(ad117.add ((x4_1).toNat * 4)).block,(ad117.add ((x4_1).toNat * 4)).off + 1,none⟩=some (.int .i64 ((rd_T62 l0 x4_1).f1))∧w'.cell? ⟨(ad117.add ((x4_1).toNat * 4)).block,(ad117.add ((x4_1).toNat * 4)).off + 2,none⟩=some (.int .i64 ((rd_T62 l0 x4_1).f2))∧w'.cell? ⟨(ad117.add ((x4_1).toNat * 4)).block,(ad117.add ((x4_1).toNat * 4)).off + 3,none⟩=some (.int .i64 ((rd_T62 l0 x4_1).f3))∧w'.cell? (ad116.add (x5_2).toNat)=some (.int .i64 (rd x3_1 x5_2))∧w'.cell? (ad117.add (((rd x3_1 x5_2)).toNat * 4))=some (.int .i64 ((rd_T62 l0 (rd x3_1 x5_2)).f0))∧w'.cell? ⟨(ad117.add (((rd x3_1 x5_2)).toNat * 4)).block,(ad117.add (((rd x3_1 x5_2)).toNat * 4)).off + 1,none⟩=some (.int .i64 ((rd_T62 l0 (rd x3_1 x5_2)).f1))∧w'.cell? ⟨(ad117.add (((rd x3_1 x5_2)).toNat * 4)).block,(ad117.add (((rd x3_1 x5_2)).toNat * 4)).off + 2,none⟩=some (.int .i64 ((rd_T62 l0 (rd x3_1 x5_2)).f2))∧w'.cell? ⟨(ad117.add (((rd x3_1 x5_2)).toNat * 4)).block,(ad117.add (((rd x3_1 x5_2)).toNat * 4)).off + 3,none⟩=some (.int .i64 ((rd_T62 l0 (rd x3_1 x5_2)).f3))) (ds:=[]) #[false,false,false,false,false,false,false,false,false,false,false,false,false,false,false,false,false,false,false,false,false,false,false,false,false,false,false,false,false,false,false,false,false,false,false] (by kernel_rfl) rfl rfl ⟨hx116_0,((HB.out.cell (World.block_lt_of_cell? w _ hw117_0)).trans hw117_0),((HB.out.cell (World.block_lt_of_cell? w _ hw117_1)).trans hw117_1),((HB.out.cell (World.block_lt_of_cell? w _ hw117_2)).trans hw117_2),((HB.out.cell (World.block_lt_of_cell? w _ hw117_3)).trans hw117_3),((HB.out.cell (World.block_lt_of_cell? w _ hw118_0)).trans hw118_0),((HB.out.cell (World.block_lt_of_cell? w _ hw118_1)).trans hw118_1),((HB.out.cell (World.block_lt_of_cell? w _ hw118_2)).trans hw118_2),((HB.out.cell (World.block_lt_of_cell? w _ hw118_3)).trans hw118_3),((HB.out.cell (World.block_lt_of_cell? w _ hw119_0)).trans hw119_0),((HB.out.cell (World.block_lt_of_cell? w _ hw119_1)).trans hw119_1),((HB.out.cell (World.block_lt_of_cell? w _ hw119_2)).trans hw119_2),((HB.out.cell (World.block_lt_of_cell? w _ hw119_3)).trans hw119_3),hx120_0,((HB.out.cell (World.block_lt_of_cell? w _ hw121_0)).trans hw121_0),((HB.out.cell (World.block_lt_of_cell? w _ hw121_1)).trans hw121_1),((HB.out.cell (World.block_lt_of_cell? w _ hw121_2)).trans hw121_2),((HB.out.cell (World.block_lt_of_cell? w _ hw121_3)).trans hw121_3)⟩ (fun hHeld=>?_);refine with_tabW spec_l10Smith.tab6 spec_l10Smith.bits6 (fun HT_ HW_=>?_)
             generalize wr.drew=w12 at HO_3 HB hx116_0 hx117_0 hx117_1 hx117_2 hx117_3 hx118_0 hx118_1 hx118_2 hx118_3 hx119_0 hx119_1 hx119_2 hx119_3 hx120_0 hx121_0 hx121_1 hx121_2 hx121_3 hHeld ⊢
             refine pure_ (i:=0) (N:=some 13) (v:=?_) (a':=?_) #[true,false,false,false,false,false,false,false,false,false,false,false,false,false,false,false,false,false,false,false,false,false,false,false,false,false,false,false,false,false,false,false,false,false,false] rfl rfl (any_of HT_.out (by kernel_rfl)) (fun _ _ _ h=>h) (Or.inl ⟨by rfl,?_⟩) ?_ ?_
             rotate_left
             ·intro w'
              go_simp
              with_reducible rfl
             rotate_left
             ·simp only [Act.put,List.setIfInBounds_toArray,List.set_cons_zero,List.set_cons_succ,i64_w,i32_w]
              rfl
             refine pure_ (i:=1) (N:=some 14) (v:=?_) (a':=?_) #[true,true,false,false,false,false,false,false,false,false,false,false,false,false,false,false,false,false,false,false,false,false,false,false,false,false,false,false,false,false,false,false,false,false,false] rfl rfl (any_of HT_.out (by kernel_rfl)) (fun _ _ _ h=>h) (Or.inl ⟨by rfl,?_⟩) ?_ ?_
             rotate_left
             ·intro w'
              go_simp
              with_reducible rfl
             rotate_left
             ·simp only [Act.put,List.setIfInBounds_toArray,List.set_cons_zero,List.set_cons_succ,i64_w,i32_w]
              rfl
             refine pure_ (i:=2) (N:=some 15) (v:=?_) (a':=?_) #[true,true,true,false,false,false,false,false,false,false,false,false,false,false,false,false,false,false,false,false,false,false,false,false,false,false,false,false,false,false,false,false,false,false,false] rfl rfl (any_of HT_.out (by kernel_rfl)) (fun _ _ _ h=>h) (Or.inl ⟨by rfl,?_⟩) ?_ ?_
             rotate_left
             ·intro w'
              go_simp
              with_reducible rfl
             rotate_left
             ·simp only [Act.put,List.setIfInBounds_toArray,List.set_cons_zero,List.set_cons_succ,i64_w,i32_w]
              rfl
             refine pure_ (i:=3) (N:=some 16) (v:=?_) (a':=?_) #[true,true,true,true,false,false,false,false,false,false,false,false,false,false,false,false,false,false,false,false,false,false,false,false,false,false,false,false,false,false,false,false,false,false,false] rfl rfl (any_of HT_.out (by kernel_rfl)) (fun _ _ _ h=>h) (Or.inl ⟨by rfl,?_⟩) ?_ ?_
             rotate_left
             ·intro w'
              go_simp
              with_reducible rfl
             rotate_left
             ·simp only [Act.put,List.setIfInBounds_toArray,List.set_cons_zero,List.set_cons_succ,i64_w,i32_w]
              rfl
             refine pure_ (i:=4) (N:=some 17) (v:=?_) (a':=?_) #[true,true,true,true,true,false,false,false,false,false,false,false,false,false,false,false,false,false,false,false,false,false,false,false,false,false,false,false,false,false,false,false,false,false,false] rfl rfl (any_of HT_.out (by kernel_rfl)) (fun _ _ _ h=>h) (Or.inl ⟨by rfl,?_⟩) ?_ ?_
             rotate_left
             ·intro w'
              go_simp
              with_reducible rfl
             rotate_left
             ·simp only [Act.put,List.setIfInBounds_toArray,List.set_cons_zero,List.set_cons_succ,i64_w,i32_w]
              rfl
             refine pure_ (i:=5) (N:=some 18) (v:=?_) (a':=?_) #[true,true,true,true,true,true,false,false,false,false,false,false,false,false,false,false,false,false,false,false,false,false,false,false,false,false,false,false,false,false,false,false,false,false,false] rfl rfl (any_of HT_.out (by kernel_rfl)) (fun _ _ _ h=>h) (Or.inl ⟨by rfl,?_⟩) ?_ ?_
             rotate_left
             ·intro w'
              go_simp
              with_reducible rfl
             rotate_left
             ·simp only [Act.put,List.setIfInBounds_toArray,List.set_cons_zero,List.set_cons_succ,i64_w,i32_w]
              rfl
             refine pure_ (i:=6) (N:=some 19) (v:=?_) (a':=?_) #[true,true,true,true,true,true,true,false,false,false,false,false,false,false,false,false,false,false,false,false,false,false,false,false,false,false,false,false,false,false,false,false,false,false,false] rfl rfl (any_of HT_.out (by kernel_rfl)) (fun _ _ _ h=>h) (Or.inl ⟨by rfl,?_⟩) ?_ ?_
             rotate_left
             ·intro w'
              go_simp
              with_reducible rfl
             rotate_left
             ·simp only [Act.put,List.setIfInBounds_toArray,List.set_cons_zero,List.set_cons_succ,i64_w,i32_w]
              rfl
             refine pure_ (i:=7) (N:=some 20) (v:=?_) (a':=?_) #[true,true,true,true,true,true,true,true,false,false,false,false,false,false,false,false,false,false,false,false,false,false,false,false,false,false,false,false,false,false,false,false,false,false,false] rfl rfl (any_of HT_.out (by kernel_rfl)) (fun _ _ _ h=>h) (Or.inl ⟨by rfl,?_⟩) ?_ ?_
             rotate_left
             ·intro w'
              go_simp
              with_reducible rfl
             rotate_left
             ·simp only [Act.put,List.setIfInBounds_toArray,List.set_cons_zero,List.set_cons_succ,i64_w,i32_w]
              rfl
             refine pure_ (i:=8) (N:=some 21) (v:=?_) (a':=?_) #[true,true,true,true,true,true,true,true,true,false,false,false,false,false,false,false,false,false,false,false,false,false,false,false,false,false,false,false,false,false,false,false,false,false,false] rfl rfl (any_of HT_.out (by kernel_rfl)) (fun _ _ _ h=>h) (Or.inl ⟨by rfl,?_⟩) ?_ ?_
             rotate_left
             ·intro w'
              go_simp
              with_reducible rfl
             rotate_left
             ·simp only [Act.put,List.setIfInBounds_toArray,List.set_cons_zero,List.set_cons_succ,i64_w,i32_w]
              rfl
             refine pure_ (i:=13) (N:=some 26) (v:=?_) (a':=?_) #[true,true,true,true,true,true,true,true,true,false,false,false,false,true,false,false,false,false,false,false,false,false,false,false,false,false,false,false,false,false,false,false,false,false,false] rfl rfl (any_of HT_.out (by kernel_rfl)) (fun _ _ _ h=>h) (Or.inl ⟨by rfl,?_⟩) ?_ ?_
             rotate_left
             ·intro w'
              go_simp
              with_reducible rfl
             rotate_left
             ·simp only [Act.put,List.setIfInBounds_toArray,List.set_cons_zero,List.set_cons_succ,i64_w,i32_w]
              rfl
             refine pure_ (i:=14) (N:=some 27) (v:=?_) (a':=?_) #[true,true,true,true,true,true,true,true,true,false,false,false,false,true,true,false,false,false,false,false,false,false,false,false,false,false,false,false,false,false,false,false,false,false,false] rfl rfl (any_of HT_.out (by kernel_rfl)) (fun _ _ _ h=>h) (Or.inl ⟨by rfl,?_⟩) ?_ ?_
             rotate_left
             ·intro w'
              go_simp
              with_reducible rfl
             rotate_left
             ·simp only [Act.put,List.setIfInBounds_toArray,List.set_cons_zero,List.set_cons_succ,i64_w,i32_w]
              rfl
             refine pure_ (i:=15) (N:=some 28) (v:=?_) (a':=?_) #[true,true,true,true,true,true,true,true,true,false,false,false,false,true,true,true,false,false,false,false,false,false,false,false,false,false,false,false,false,false,false,false,false,false,false] rfl rfl (any_of HT_.out (by kernel_rfl)) (fun _ _ _ h=>h) (Or.inl ⟨by rfl,?_⟩) ?_ ?_
             rotate_left
             ·intro w'
              go_simp
              with_reducible rfl
             rotate_left
             ·simp only [Act.put,List.setIfInBounds_toArray,List.set_cons_zero,List.set_cons_succ,i64_w,i32_w]
              rfl
             refine pure_ (i:=16) (N:=some 29) (v:=?_) (a':=?_) #[true,true,true,true,true,true,true,true,true,false,false,false,false,true,true,true,true,false,false,false,false,false,false,false,false,false,false,false,false,false,false,false,false,false,false] rfl rfl (any_of HT_.out (by kernel_rfl)) (fun _ _ _ h=>h) (Or.inl ⟨by rfl,?_⟩) ?_ ?_
             rotate_left
             ·intro w'
              go_simp
              with_reducible rfl
             rotate_left
             ·simp only [Act.put,List.setIfInBounds_toArray,List.set_cons_zero,List.set_cons_succ,i64_w,i32_w]
              rfl
             refine pure_ (i:=19) (N:=some 32) (v:=?_) (a':=?_) #[true,true,true,true,true,true,true,true,true,false,false,false,false,true,true,true,true,false,false,true,false,false,false,false,false,false,false,false,false,false,false,false,false,false,false] rfl rfl (any_of HT_.out (by kernel_rfl)) (fun _ _ _ h=>h) (Or.inl ⟨by rfl,?_⟩) ?_ ?_
             rotate_left
             ·intro w'
              go_simp
              with_reducible rfl
             rotate_left
             ·simp only [Act.put,List.setIfInBounds_toArray,List.set_cons_zero,List.set_cons_succ,i64_w,i32_w]
              rfl
             refine pure_ (i:=20) (N:=some 33) (v:=?_) (a':=?_) #[true,true,true,true,true,true,true,true,true,false,false,false,false,true,true,true,true,false,false,true,true,false,false,false,false,false,false,false,false,false,false,false,false,false,false] rfl rfl (any_of HT_.out (by kernel_rfl)) (fun _ _ _ h=>h) (Or.inl ⟨by rfl,?_⟩) ?_ ?_
             rotate_left
             ·intro w'
              go_simp
              with_reducible rfl
             rotate_left
             ·simp only [Act.put,List.setIfInBounds_toArray,List.set_cons_zero,List.set_cons_succ,i64_w,i32_w]
              rfl
             refine pure_ (i:=21) (N:=some 34) (v:=?_) (a':=?_) #[true,true,true,true,true,true,true,true,true,false,false,false,false,true,true,true,true,false,false,true,true,true,false,false,false,false,false,false,false,false,false,false,false,false,false] rfl rfl (any_of HT_.out (by kernel_rfl)) (fun _ _ _ h=>h) (Or.inl ⟨by rfl,?_⟩) ?_ ?_
             rotate_left
             ·intro w'
              go_simp
              with_reducible rfl
             rotate_left
             ·simp only [Act.put,List.setIfInBounds_toArray,List.set_cons_zero,List.set_cons_succ,i64_w,i32_w]
              rfl
             refine pure_ (i:=22) (N:=some 35) (v:=?_) (a':=?_) #[true,true,true,true,true,true,true,true,true,false,false,false,false,true,true,true,true,false,false,true,true,true,true,false,false,false,false,false,false,false,false,false,false,false,false] rfl rfl (any_of HT_.out (by kernel_rfl)) (fun _ _ _ h=>h) (Or.inl ⟨by rfl,?_⟩) ?_ ?_
             rotate_left
             ·intro w'
              go_simp
              with_reducible rfl
             rotate_left
             ·simp only [Act.put,List.setIfInBounds_toArray,List.set_cons_zero,List.set_cons_succ,i64_w,i32_w]
              rfl
             refine pure_ (i:=24) (N:=some 37) (v:=?_) (a':=?_) #[true,true,true,true,true,true,true,true,true,false,false,false,false,true,true,true,true,false,false,true,true,true,true,false,true,false,false,false,false,false,false,false,false,false,false] rfl rfl (any_of HT_.out (by kernel_rfl)) (fun _ _ _ h=>h) (Or.inl ⟨by rfl,?_⟩) ?_ ?_
             rotate_left
             ·intro w'
              go_simp
              with_reducible rfl
             rotate_left
             ·simp only [Act.put,List.setIfInBounds_toArray,List.set_cons_zero,List.set_cons_succ,i64_w,i32_w]
              rfl
             refine pure_ (i:=25) (N:=some 38) (v:=?_) (a':=?_) #[true,true,true,true,true,true,true,true,true,false,false,false,false,true,true,true,true,false,false,true,true,true,true,false,true,true,false,false,false,false,false,false,false,false,false] rfl rfl (any_of HT_.out (by kernel_rfl)) (fun _ _ _ h=>h) (Or.inl ⟨by rfl,?_⟩) ?_ ?_
             rotate_left
             ·intro w'
              go_simp
              with_reducible rfl
             rotate_left
             ·simp only [Act.put,List.setIfInBounds_toArray,List.set_cons_zero,List.set_cons_succ,i64_w,i32_w]
              rfl
             refine pure_ (i:=26) (N:=some 39) (v:=?_) (a':=?_) #[true,true,true,true,true,true,true,true,true,false,false,false,false,true,true,true,true,false,false,true,true,true,true,false,true,true,true,false,false,false,false,false,false,false,false] rfl rfl (any_of HT_.out (by kernel_rfl)) (fun _ _ _ h=>h) (Or.inl ⟨by rfl,?_⟩) ?_ ?_
             rotate_left
             ·intro w'
              go_simp
              with_reducible rfl
             rotate_left
             ·simp only [Act.put,List.setIfInBounds_toArray,List.set_cons_zero,List.set_cons_succ,i64_w,i32_w]
              rfl
             refine pure_ (i:=27) (N:=some 40) (v:=?_) (a':=?_) #[true,true,true,true,true,true,true,true,true,false,false,false,false,true,true,true,true,false,false,true,true,true,true,false,true,true,true,true,false,false,false,false,false,false,false] rfl rfl (any_of HT_.out (by kernel_rfl)) (fun _ _ _ h=>h) (Or.inl ⟨by rfl,?_⟩) ?_ ?_
             rotate_left
             ·intro w'
              go_simp
              with_reducible rfl
             rotate_left
             ·simp only [Act.put,List.setIfInBounds_toArray,List.set_cons_zero,List.set_cons_succ,i64_w,i32_w]
              rfl
             refine take_ (i:=9) (N:=some 22) (v:=?_) (a':=?_) #[true,true,true,true,true,true,true,true,true,true,false,false,false,true,true,true,true,false,false,true,true,true,true,false,true,true,true,true,false,false,false,false,false,false,false] rfl rfl (take_ofW HT_.out HW_.out (by kernel_rfl)) (fun _ _ _ h=>h) (Or.inl ⟨by rfl,?_⟩) hHeld ?_ ?_
             rotate_left
             ·rintro w' ⟨s0,s1,s2,s3,s4,s5,s6,s7,s8,s9,s10,s11,s12,s13,s14,s15,s16,s17⟩
              go_simp
              with_reducible rfl
             rotate_left
             ·simp only [Act.put,List.setIfInBounds_toArray,List.set_cons_zero,List.set_cons_succ,i64_w,i32_w]
              rfl
             refine pure_ (i:=10) (N:=some 23) (v:=?_) (a':=?_) #[true,true,true,true,true,true,true,true,true,true,true,false,false,true,true,true,true,false,false,true,true,true,true,false,true,true,true,true,false,false,false,false,false,false,false] rfl rfl (any_of HT_.out (by kernel_rfl)) (fun _ _ _ h=>h) (Or.inl ⟨by rfl,?_⟩) ?_ ?_
             rotate_left
             ·intro w'
              go_simp
              with_reducible rfl
             rotate_left
             ·simp only [Act.put,List.setIfInBounds_toArray,List.set_cons_zero,List.set_cons_succ,i64_w,i32_w]
              rfl
             refine pure_ (i:=11) (N:=some 24) (v:=?_) (a':=?_) #[true,true,true,true,true,true,true,true,true,true,true,true,false,true,true,true,true,false,false,true,true,true,true,false,true,true,true,true,false,false,false,false,false,false,false] rfl rfl (any_of HT_.out (by kernel_rfl)) (fun _ _ _ h=>h) (Or.inl ⟨by rfl,?_⟩) ?_ ?_
             rotate_left
             ·intro w'
              go_simp
              with_reducible rfl
             rotate_left
             ·simp only [Act.put,List.setIfInBounds_toArray,List.set_cons_zero,List.set_cons_succ,i64_w,i32_w]
              rfl
             refine take_ (i:=12) (N:=some 25) (v:=?_) (a':=?_) #[true,true,true,true,true,true,true,true,true,true,true,true,true,true,true,true,true,false,false,true,true,true,true,false,true,true,true,true,false,false,false,false,false,false,false] rfl rfl (take_ofW HT_.out HW_.out (by kernel_rfl)) (fun _ _ _ h=>h) (Or.inl ⟨by rfl,?_⟩) hHeld ?_ ?_
             rotate_left
             ·rintro w' ⟨s0,s1,s2,s3,s4,s5,s6,s7,s8,s9,s10,s11,s12,s13,s14,s15,s16,s17⟩
              go_simp
              with_reducible rfl
             rotate_left
             ·simp only [Act.put,List.setIfInBounds_toArray,List.set_cons_zero,List.set_cons_succ,i64_w,i32_w]
              rfl
             refine take_ (i:=17) (N:=some 30) (v:=?_) (a':=?_) #[true,true,true,true,true,true,true,true,true,true,true,true,true,true,true,true,true,true,false,true,true,true,true,false,true,true,true,true,false,false,false,false,false,false,false] rfl rfl (take_ofW HT_.out HW_.out (by kernel_rfl)) (fun _ _ _ h=>h) (Or.inl ⟨by rfl,?_⟩) hHeld ?_ ?_
             rotate_left
             ·rintro w' ⟨s0,s1,s2,s3,s4,s5,s6,s7,s8,s9,s10,s11,s12,s13,s14,s15,s16,s17⟩
              go_simp
              with_reducible rfl
             rotate_left
             ·simp only [Act.put,List.setIfInBounds_toArray,List.set_cons_zero,List.set_cons_succ,i64_w,i32_w]
              rfl
             refine pure_ (i:=18) (N:=some 31) (v:=?_) (a':=?_) #[true,true,true,true,true,true,true,true,true,true,true,true,true,true,true,true,true,true,true,true,true,true,true,false,true,true,true,true,false,false,false,false,false,false,false] rfl rfl (any_of HT_.out (by kernel_rfl)) (fun _ _ _ h=>h) (Or.inl ⟨by rfl,?_⟩) ?_ ?_
             rotate_left
             ·intro w'
              go_simp
              with_reducible rfl
             rotate_left
             ·simp only [Act.put,List.setIfInBounds_toArray,List.set_cons_zero,List.set_cons_succ,i64_w,i32_w]
              rfl
             refine take_ (i:=23) (N:=some 36) (v:=?_) (a':=?_) #[true,true,true,true,true,true,true,true,true,true,true,true,true,true,true,true,true,true,true,true,true,true,true,true,true,true,true,true,false,false,false,false,false,false,false] rfl rfl (take_ofW HT_.out HW_.out (by kernel_rfl)) (fun _ _ _ h=>h) (Or.inl ⟨by rfl,?_⟩) hHeld ?_ ?_
             rotate_left
             ·rintro w' ⟨s0,s1,s2,s3,s4,s5,s6,s7,s8,s9,s10,s11,s12,s13,s14,s15,s16,s17⟩
              go_simp
              with_reducible rfl
             rotate_left
             ·simp only [Act.put,List.setIfInBounds_toArray,List.set_cons_zero,List.set_cons_succ,i64_w,i32_w]
              rfl
             refine take_ (i:=28) (N:=some 41) (v:=?_) (a':=?_) #[true,true,true,true,true,true,true,true,true,true,true,true,true,true,true,true,true,true,true,true,true,true,true,true,true,true,true,true,true,false,false,false,false,false,false] rfl rfl (take_ofW HT_.out HW_.out (by kernel_rfl)) (fun _ _ _ h=>h) (Or.inl ⟨by rfl,?_⟩) hHeld ?_ ?_
             rotate_left
             ·rintro w' ⟨s0,s1,s2,s3,s4,s5,s6,s7,s8,s9,s10,s11,s12,s13,s14,s15,s16,s17⟩
              go_simp
              with_reducible rfl
             rotate_left
             ·simp only [Act.put,List.setIfInBounds_toArray,List.set_cons_zero,List.set_cons_succ,i64_w,i32_w]
              rfl
             refine pure_ (i:=29) (N:=some 42) (v:=?_) (a':=?_) #[true,true,true,true,true,true,true,true,true,true,true,true,true,true,true,true,true,true,true,true,true,true,true,true,true,true,true,true,true,true,false,false,false,false,false] rfl rfl (any_of HT_.out (by kernel_rfl)) (fun _ _ _ h=>h) (Or.inl ⟨by rfl,?_⟩) ?_ ?_
             rotate_left
             ·intro w'
              go_simp
              with_reducible rfl
             rotate_left
             ·simp only [Act.put,List.setIfInBounds_toArray,List.set_cons_zero,List.set_cons_succ,i64_w,i32_w]
              rfl
             refine pure_ (i:=30) (N:=some 43) (v:=?_) (a':=?_) #[true,true,true,true,true,true,true,true,true,true,true,true,true,true,true,true,true,true,true,true,true,true,true,true,true,true,true,true,true,true,true,false,false,false,false] rfl rfl (any_of HT_.out (by kernel_rfl)) (fun _ _ _ h=>h) (Or.inl ⟨by rfl,?_⟩) ?_ ?_
             rotate_left
             ·intro w'
              go_simp
              with_reducible rfl
             rotate_left
             ·simp only [Act.put,List.setIfInBounds_toArray,List.set_cons_zero,List.set_cons_succ,i64_w,i32_w]
              rfl
             refine take_ (i:=31) (N:=some 44) (v:=?_) (a':=?_) #[true,true,true,true,true,true,true,true,true,true,true,true,true,true,true,true,true,true,true,true,true,true,true,true,true,true,true,true,true,true,true,true,false,false,false] rfl rfl (take_ofW HT_.out HW_.out (by kernel_rfl)) (fun _ _ _ h=>h) (Or.inl ⟨by rfl,?_⟩) hHeld ?_ ?_
             rotate_left
             ·rintro w' ⟨s0,s1,s2,s3,s4,s5,s6,s7,s8,s9,s10,s11,s12,s13,s14,s15,s16,s17⟩
              go_simp
              with_reducible rfl
             rotate_left
             ·simp only [Act.put,List.setIfInBounds_toArray,List.set_cons_zero,List.set_cons_succ,i64_w,i32_w]
              rfl
             refine pure_ (i:=32) (N:=some 45) (v:=?_) (a':=?_) #[true,true,true,true,true,true,true,true,true,true,true,true,true,true,true,true,true,true,true,true,true,true,true,true,true,true,true,true,true,true,true,true,true,false,false] rfl rfl (any_of HT_.out (by kernel_rfl)) (fun _ _ _ h=>h) (Or.inl ⟨by rfl,?_⟩) ?_ ?_
             rotate_left
             ·intro w'
              go_simp
              with_reducible rfl
             rotate_left
             ·simp only [Act.put,List.setIfInBounds_toArray,List.set_cons_zero,List.set_cons_succ,i64_w,i32_w]
              rfl
             refine pure_ (i:=33) (N:=some 46) (v:=?_) (a':=?_) #[true,true,true,true,true,true,true,true,true,true,true,true,true,true,true,true,true,true,true,true,true,true,true,true,true,true,true,true,true,true,true,true,true,true,false] rfl rfl (any_of HT_.out (by kernel_rfl)) (fun _ _ _ h=>h) (Or.inl ⟨by rfl,?_⟩) ?_ ?_
             rotate_left
             ·intro w'
              go_simp
              with_reducible rfl
             rotate_left
             ·simp only [Act.put,List.setIfInBounds_toArray,List.set_cons_zero,List.set_cons_succ,i64_w,i32_w]
              rfl
             refine pure_ (i:=34) (N:=some 47) (v:=?_) (a':=?_) #[true,true,true,true,true,true,true,true,true,true,true,true,true,true,true,true,true,true,true,true,true,true,true,true,true,true,true,true,true,true,true,true,true,true,true] rfl rfl (any_of HT_.out (by kernel_rfl)) (fun _ _ _ h=>h) (Or.inl ⟨by rfl,?_⟩) ?_ ?_
             rotate_left
             ·intro w'
              go_simp
              with_reducible rfl
             rotate_left
             ·simp only [Act.put,List.setIfInBounds_toArray,List.set_cons_zero,List.set_cons_succ,i64_w,i32_w]
              rfl
             refine done_ (done_of HT_.out (by kernel_rfl)) ?_
             try go_wp2
             go_roundg k2
             case measure=>have:=HK1.out;have:=HK2.out;omega
             case rel=>exact ⟨(wrap64 (x5_2 + 1)),(by first|rfl|(simp;done)|(simp [*];done)),H',⟨by have:=HK1.out;have:=HK2.out;omega⟩,⟨by (with_reducible repeat (first|apply Kd.R_alloc|apply Kd.R_drewN|apply Kd.R_drew));exact HO_3.out⟩,⟨by repeat (first|(with_reducible first|exact HB.out|apply below_alloc|apply pw_below_drewN|apply below_drew1)|exact HB.out)⟩⟩
            ·rw [if_neg c11] at H
             have c11b0:decide ((wrap64 (((rd_T62 l0 x4_1).f1) * ((rd_T62 l0 (rd x3_1 x5_2)).f0)))≤(wrap64 (((rd_T62 l0 (rd x3_1 x5_2)).f1) * ((rd_T62 l0 x4_1).f0))))=false:=decide_eq_false c11
             clear c11
             obtain ⟨y122,hy122⟩:∃ y_:List Int,y_=(([]:List Int)):=⟨_,rfl⟩
             replace H:(if x5_2≤(x3_1.length:Int) then ((some (x3_1.take (x5_2:Int).toNat:List Int)).bind fun y125=>(if y122.length + y125.length<17592186044416 then ((some (y122++y125:List Int)).bind fun y129=>((some (([x4_1]:List Int):List Int)).bind fun y132=>(if y129.length + y132.length<17592186044416 then ((some (y129++y132:List Int)).bind fun y135=>((some (x3_1.drop (x5_2:Int).toNat:List Int)).bind fun y138=>(if y135.length + y138.length<17592186044416 then (spec_l10Smith.l0 k2 l0 (y135++y138) (wrap64 (x4_1 + 1))) else (none)))) else (none)))) else (none))) else (none))=some r:=by first|(rw [hy122];with_reducible exact H)|(have H2_:=(Option.bind_some _ _).symm.trans H;rw [hy122];with_reducible exact H2_)|(have H2_:=(Option.bind_some _ _).symm.trans H;with_reducible exact H2_)|with_reducible exact H|(rw [hy122];exact H)|exact H
             have Ny122:=Aside0.mk hy122
             clear hy122
             have c14b0:=eq_true (of_decide_eq_true (by first|(with_reducible assumption)|assumption):0≤x5_2)
             by_cases c15:x5_2≤(x3_1.length:Int)
             ·rw [if_pos c15] at H
              have c15b0:=eq_true c15
              have c15b1:decide (x5_2≤(x3_1.length:Int))=true:=decide_eq_true c15
              clear c15
              obtain ⟨y125,hy125⟩:∃ y_:List Int,y_=(x3_1.take (x5_2:Int).toNat):=⟨_,rfl⟩
              replace H:(if y122.length + y125.length<17592186044416 then ((some (y122++y125:List Int)).bind fun y129=>((some (([x4_1]:List Int):List Int)).bind fun y132=>(if y129.length + y132.length<17592186044416 then ((some (y129++y132:List Int)).bind fun y135=>((some (x3_1.drop (x5_2:Int).toNat:List Int)).bind fun y138=>(if y135.length + y138.length<17592186044416 then (spec_l10Smith.l0 k2 l0 (y135++y138) (wrap64 (x4_1 + 1))) else (none)))) else (none)))) else (none))=some r:=by first|(rw [hy125];with_reducible exact H)|(have H2_:=(Option.bind_some _ _).symm.trans H;rw [hy125];with_reducible exact H2_)|(have H2_:=(Option.bind_some _ _).symm.trans H;with_reducible exact H2_)|with_reducible exact H|(rw [hy125];exact H)|exact H
              have Ny125:=Aside0.mk hy125
              clear hy125
              by_cases c16:y122.length + y125.length<17592186044416
              ·rw [if_pos c16] at H
               have LMc16:=Aside0.mk c16
               clear c16
               obtain ⟨y129,hy129⟩:∃ y_:List Int,y_=(y122++y125):=⟨_,rfl⟩
               replace H:((some (([x4_1]:List Int):List Int)).bind fun y132=>(if y129.length + y132.length<17592186044416 then ((some (y129++y132:List Int)).bind fun y135=>((some (x3_1.drop (x5_2:Int).toNat:List Int)).bind fun y138=>(if y135.length + y138.length<17592186044416 then (spec_l10Smith.l0 k2 l0 (y135++y138) (wrap64 (x4_1 + 1))) else (none)))) else (none)))=some r:=by first|(rw [hy129];with_reducible exact H)|(have H2_:=(Option.bind_some _ _).symm.trans H;rw [hy129];with_reducible exact H2_)|(have H2_:=(Option.bind_some _ _).symm.trans H;with_reducible exact H2_)|with_reducible exact H|(rw [hy129];exact H)|exact H
               have Ny129:=Aside0.mk hy129
               clear hy129
               obtain ⟨y132,hy132⟩:∃ y_:List Int,y_=(([x4_1]:List Int)):=⟨_,rfl⟩
               replace H:(if y129.length + y132.length<17592186044416 then ((some (y129++y132:List Int)).bind fun y135=>((some (x3_1.drop (x5_2:Int).toNat:List Int)).bind fun y138=>(if y135.length + y138.length<17592186044416 then (spec_l10Smith.l0 k2 l0 (y135++y138) (wrap64 (x4_1 + 1))) else (none)))) else (none))=some r:=by first|(rw [hy132];with_reducible exact H)|(have H2_:=(Option.bind_some _ _).symm.trans H;rw [hy132];with_reducible exact H2_)|(have H2_:=(Option.bind_some _ _).symm.trans H;with_reducible exact H2_)|with_reducible exact H|(rw [hy132];exact H)|exact H
               have Ny132:=Aside0.mk hy132
               clear hy132
               by_cases c17:y129.length + y132.length<17592186044416
               ·rw [if_pos c17] at H
                have LMc17:=Aside0.mk c17
                clear c17
                obtain ⟨y135,hy135⟩:∃ y_:List Int,y_=(y129++y132):=⟨_,rfl⟩
                replace H:((some (x3_1.drop (x5_2:Int).toNat:List Int)).bind fun y138=>(if y135.length + y138.length<17592186044416 then (spec_l10Smith.l0 k2 l0 (y135++y138) (wrap64 (x4_1 + 1))) else (none)))=some r:=by first|(rw [hy135];with_reducible exact H)|(have H2_:=(Option.bind_some _ _).symm.trans H;rw [hy135];with_reducible exact H2_)|(have H2_:=(Option.bind_some _ _).symm.trans H;with_reducible exact H2_)|with_reducible exact H|(rw [hy135];exact H)|exact H
                have Ny135:=Aside0.mk hy135
                clear hy135
                have c18b0:=eq_true (of_decide_eq_true (by first|(with_reducible assumption)|assumption):0≤x5_2)
                have c19b0:=eq_true (of_decide_eq_true (by first|(with_reducible assumption)|assumption):x5_2≤(x3_1.length:Int))
                obtain ⟨y138,hy138⟩:∃ y_:List Int,y_=(x3_1.drop (x5_2:Int).toNat):=⟨_,rfl⟩
                replace H:(if y135.length + y138.length<17592186044416 then (spec_l10Smith.l0 k2 l0 (y135++y138) (wrap64 (x4_1 + 1))) else (none))=some r:=by first|(rw [hy138];with_reducible exact H)|(have H2_:=(Option.bind_some _ _).symm.trans H;rw [hy138];with_reducible exact H2_)|(have H2_:=(Option.bind_some _ _).symm.trans H;with_reducible exact H2_)|with_reducible exact H|(rw [hy138];exact H)|exact H
                have Ny138:=Aside0.mk hy138
                clear hy138
                by_cases c20:y135.length + y138.length<17592186044416
                ·rw [if_pos c20] at H
                 have LMc20:=Aside0.mk c20
                 clear c20
                 obtain ⟨y142,hy142⟩:∃ y_:List Int,y_=(y135++y138):=⟨_,rfl⟩
                 replace H:(spec_l10Smith.l0 k2 l0 y142 (wrap64 (x4_1 + 1)))=some r:=by first|(rw [hy142];with_reducible exact H)|(have H2_:=(Option.bind_some _ _).symm.trans H;rw [hy142];with_reducible exact H2_)|(have H2_:=(Option.bind_some _ _).symm.trans H;with_reducible exact H2_)|with_reducible exact H|(rw [hy142];exact H)|exact H
                 have Ny142:=Aside0.mk hy142
                 clear hy142
                 have H':=Aside0.mk H
                 clear H
                 try go_wp2
                 have n0_:=Aside0.mk (Kd.R_drew HO_3.out)
                 have n1_:=Aside0.mk (below_drew1 HB.out)
                 clear HO_3
                 clear HB
                 have HO_3:=n0_
                 have HB:=n1_
                 clear n0_ n1_
                 obtain ⟨Ao22,co22,eo22⟩:=Kd.R_slice HO_3.out
                 (first|subst eo22|(injection eo22 with f1_ f2_ f3_;have f4_:=f1_.symm;have f5_:=f3_.symm;clear f1_ f2_ f3_;subst f4_;subst f5_))
                 have p116:0≤(x5_2:Int):=of_decide_eq_true (by first|(with_reducible assumption)|assumption)
                 have q116:x5_2<(x3_1.length:Int):=of_decide_eq_true (by first|(with_reducible assumption)|assumption)
                 obtain ⟨ad116,e116,hx116_0⟩:=Kd.at_int (Kd.R_reads' HO_3.out).2.2 x5_2 p116 q116
                 cases e116
                 replace p116:=eq_true p116
                 replace q116:=eq_true q116
                 have p117:0≤((rd x3_1 x5_2):Int):=of_decide_eq_true (by first|(with_reducible assumption)|assumption)
                 have q117:(rd x3_1 x5_2)<(l0.length:Int):=of_decide_eq_true (by first|(with_reducible assumption)|assumption)
                 obtain ⟨ad117,e117,hx117_0,hx117_1,hx117_2,hx117_3⟩:=at_T62 HR0.out (rd x3_1 x5_2) p117 q117
                 have hw117_3:=hx117_3
                 have hw117_2:=hx117_2
                 have hw117_1:=hx117_1
                 have hw117_0:=hx117_0
                 cases e117
                 replace hx117_0:=(HB.out.cell (World.block_lt_of_cell? w _ hx117_0)).trans hx117_0
                 replace hx117_1:=(HB.out.cell (World.block_lt_of_cell? w _ hx117_1)).trans hx117_1
                 replace hx117_2:=(HB.out.cell (World.block_lt_of_cell? w _ hx117_2)).trans hx117_2
                 replace hx117_3:=(HB.out.cell (World.block_lt_of_cell? w _ hx117_3)).trans hx117_3
                 replace p117:=eq_true p117
                 replace q117:=eq_true q117
                 have p118:0≤(x4_1:Int):=of_decide_eq_true (by first|(with_reducible assumption)|assumption)
                 have q118:x4_1<(l0.length:Int):=of_decide_eq_true (by first|(with_reducible assumption)|assumption)
                 obtain ⟨ad118,e118,hx118_0,hx118_1,hx118_2,hx118_3⟩:=at_T62 HR0.out x4_1 p118 q118
                 have hw118_3:=hx118_3
                 have hw118_2:=hx118_2
                 have hw118_1:=hx118_1
                 have hw118_0:=hx118_0
                 obtain rfl:ad117=ad118:=(by injection e118)
                 replace hx118_0:=(HB.out.cell (World.block_lt_of_cell? w _ hx118_0)).trans hx118_0
                 replace hx118_1:=(HB.out.cell (World.block_lt_of_cell? w _ hx118_1)).trans hx118_1
                 replace hx118_2:=(HB.out.cell (World.block_lt_of_cell? w _ hx118_2)).trans hx118_2
                 replace hx118_3:=(HB.out.cell (World.block_lt_of_cell? w _ hx118_3)).trans hx118_3
                 replace p118:=eq_true p118
                 replace q118:=eq_true q118
                 have p119:0≤(x4_1:Int):=of_decide_eq_true (by first|(with_reducible assumption)|assumption)
                 have q119:x4_1<(l0.length:Int):=of_decide_eq_true (by first|(with_reducible assumption)|assumption)
                 obtain ⟨ad119,e119,hx119_0,hx119_1,hx119_2,hx119_3⟩:=at_T62 HR0.out x4_1 p119 q119
                 have hw119_3:=hx119_3
                 have hw119_2:=hx119_2
                 have hw119_1:=hx119_1
                 have hw119_0:=hx119_0
                 obtain rfl:ad117=ad119:=(by injection e119)
                 replace hx119_0:=(HB.out.cell (World.block_lt_of_cell? w _ hx119_0)).trans hx119_0
                 replace hx119_1:=(HB.out.cell (World.block_lt_of_cell? w _ hx119_1)).trans hx119_1
                 replace hx119_2:=(HB.out.cell (World.block_lt_of_cell? w _ hx119_2)).trans hx119_2
                 replace hx119_3:=(HB.out.cell (World.block_lt_of_cell? w _ hx119_3)).trans hx119_3
                 replace p119:=eq_true p119
                 replace q119:=eq_true q119
                 have p120:0≤(x5_2:Int):=of_decide_eq_true (by first|(with_reducible assumption)|assumption)
                 have q120:x5_2<(x3_1.length:Int):=of_decide_eq_true (by first|(with_reducible assumption)|assumption)
                 obtain ⟨ad120,e120,hx120_0⟩:=Kd.at_int (Kd.R_reads' HO_3.out).2.2 x5_2 p120 q120
                 obtain rfl:ad116=ad120:=(by injection e120)
                 replace p120:=eq_true p120
                 replace q120:=eq_true q120
                 have p121:0≤((rd x3_1 x5_2):Int):=of_decide_eq_true (by first|(with_reducible assumption)|assumption)
                 have q121:(rd x3_1 x5_2)<(l0.length:Int):=of_decide_eq_true (by first|(with_reducible assumption)|assumption)
                 obtain ⟨ad121,e121,hx121_0,hx121_1,hx121_2,hx121_3⟩:=at_T62 HR0.out (rd x3_1 x5_2) p121 q121
                 have hw121_3:=hx121_3
                 have hw121_2:=hx121_2
                 have hw121_1:=hx121_1
                 have hw121_0:=hx121_0
                 obtain rfl:ad117=ad121:=(by injection e121)
                 replace hx121_0:=(HB.out.cell (World.block_lt_of_cell? w _ hx121_0)).trans hx121_0
                 replace hx121_1:=(HB.out.cell (World.block_lt_of_cell? w _ hx121_1)).trans hx121_1
                 replace hx121_2:=(HB.out.cell (World.block_lt_of_cell? w _ hx121_2)).trans hx121_2
                 replace hx121_3:=(HB.out.cell (World.block_lt_of_cell? w _ hx121_3)).trans hx121_3
                 replace p121:=eq_true p121
                 replace q121:=eq_true q121
                 refine start_ (n:=35) (S:=fun w'=>w'.cell? (ad116.add (x5_2).toNat)=some (.int .i64 (rd x3_1 x5_2))∧w'.cell? (ad117.add (((rd x3_1 x5_2)).toNat * 4))=some (.int .i64 ((rd_T62 l0 (rd x3_1 x5_2)).f0))∧w'.cell? ⟨(ad117.add (((rd x3_1 x5_2)).toNat * 4)).block,(ad117.add (((rd x3_1 x5_2)).toNat * 4)).off + 1,none⟩=some (.int .i64 ((rd_T62 l0 (rd x3_1 x5_2)).f1))∧w'.cell? ⟨(ad117.add (((rd x3_1 x5_2)).toNat * 4)).block,(ad117.add (((rd x3_1 x5_2)).toNat * 4)).off + 2,none⟩=some (.int .i64 ((rd_T62 l0 (rd x3_1 x5_2)).f2))∧w'.cell? ⟨(ad117.add (((rd x3_1 x5_2)).toNat * 4)).block,(ad117.add (((rd x3_1 x5_2)).toNat * 4)).off + 3,none⟩=some (.int .i64 ((rd_T62 l0 (rd x3_1 x5_2)).f3))∧w'.cell? (ad117.add ((x4_1).toNat * 4))=some (.int .i64 ((rd_T62 l0 x4_1).f0))∧w'.cell? ⟨(ad117.add ((x4_1).toNat * 4)).block,(ad117.add ((x4_1).toNat * 4)).off + 1,none⟩=some (.int .i64 ((rd_T62 l0 x4_1).f1))∧w'.cell? ⟨(ad117.add ((x4_1).toNat * 4)).block,(ad117.add ((x4_1).toNat * 4)).off + 2,none⟩=some (.int .i64 ((rd_T62 l0 x4_1).f2))∧w'.cell? ⟨(ad117.add ((x4_1).toNat * 4)).block,(ad117.add ((x4_1).toNat * 4)).off + 3,none⟩=some (.int .i64 ((rd_T62 l0 x4_1).f3))∧w'.cell? (ad117.add ((x4_1).toNat * 4))=some (.int .i64 ((rd_T62 l0 x4_1).f0))∧w'.cell? ⟨(ad117.add ((x4_1).toNat * 4)).block,(ad117.add ((x4_1).toNat * 4)).off + 1,none⟩=some (.int .i64 ((rd_T62 l0 x4_1).f1))∧w'.cell? ⟨(ad117.add ((x4_1).toNat * 4)).block,(ad117.add ((x4_1).toNat * 4)).off + 2,none⟩=some (.int .i64 ((rd_T62 l0 x4_1).f2))∧w'.cell? ⟨(ad117.add ((x4_1).toNat * 4)).block,(ad117.add ((x4_1).toNat * 4)).off + 3,none⟩=some (.int .i64 ((rd_T62 l0 x4_1).f3))∧w'.cell? (ad116.add (x5_2).toNat)=some (.int .i64 (rd x3_1 x5_2))∧w'.cell? (ad117.add (((rd x3_1 x5_2)).toNat * 4))=some (.int .i64 ((rd_T62 l0 (rd x3_1 x5_2)).f0))∧w'.cell? ⟨(ad117.add (((rd x3_1 x5_2)).toNat * 4)).block,(ad117.add (((rd x3_1 x5_2)).toNat * 4)).off + 1,none⟩=some (.int .i64 ((rd_T62 l0 (rd x3_1 x5_2)).f1))∧w'.cell? ⟨(ad117.add (((rd x3_1 x5_2)).toNat * 4)).block,(ad117.add (((rd x3_1 x5_2)).toNat * 4)).off + 2,none⟩=some (.int .i64 ((rd_T62 l0 (rd x3_1 x5_2)).f2))∧w'.cell? ⟨(ad117.add (((rd x3_1 x5_2)).toNat * 4)).block,(ad117.add (((rd x3_1 x5_2)).toNat * 4)).off + 3,none⟩=some (.int .i64 ((rd_T62 l0 (rd x3_1 x5_2)).f3))) (ds:=[]) #[false,false,false,false,false,false,false,false,false,false,false,false,false,false,false,false,false,false,false,false,false,false,false,false,false,false,false,false,false,false,false,false,false,false,false] (by kernel_rfl) rfl rfl ⟨hx116_0,((HB.out.cell (World.block_lt_of_cell? w _ hw117_0)).trans hw117_0),((HB.out.cell (World.block_lt_of_cell? w _ hw117_1)).trans hw117_1),((HB.out.cell (World.block_lt_of_cell? w _ hw117_2)).trans hw117_2),((HB.out.cell (World.block_lt_of_cell? w _ hw117_3)).trans hw117_3),((HB.out.cell (World.block_lt_of_cell? w _ hw118_0)).trans hw118_0),((HB.out.cell (World.block_lt_of_cell? w _ hw118_1)).trans hw118_1),((HB.out.cell (World.block_lt_of_cell? w _ hw118_2)).trans hw118_2),((HB.out.cell (World.block_lt_of_cell? w _ hw118_3)).trans hw118_3),((HB.out.cell (World.block_lt_of_cell? w _ hw119_0)).trans hw119_0),((HB.out.cell (World.block_lt_of_cell? w _ hw119_1)).trans hw119_1),((HB.out.cell (World.block_lt_of_cell? w _ hw119_2)).trans hw119_2),((HB.out.cell (World.block_lt_of_cell? w _ hw119_3)).trans hw119_3),hx120_0,((HB.out.cell (World.block_lt_of_cell? w _ hw121_0)).trans hw121_0),((HB.out.cell (World.block_lt_of_cell? w _ hw121_1)).trans hw121_1),((HB.out.cell (World.block_lt_of_cell? w _ hw121_2)).trans hw121_2),((HB.out.cell (World.block_lt_of_cell? w _ hw121_3)).trans hw121_3)⟩ (fun hHeld=>?_);refine with_tabW spec_l10Smith.tab6 spec_l10Smith.bits6 (fun HT_ HW_=>?_)
                 generalize wr.drew=w21 at HO_3 HB hx116_0 hx117_0 hx117_1 hx117_2 hx117_3 hx118_0 hx118_1 hx118_2 hx118_3 hx119_0 hx119_1 hx119_2 hx119_3 hx120_0 hx121_0 hx121_1 hx121_2 hx121_3 hHeld ⊢
                 refine pure_ (i:=0) (N:=some 13) (v:=?_) (a':=?_) #[true,false,false,false,false,false,false,false,false,false,false,false,false,false,false,false,false,false,false,false,false,false,false,false,false,false,false,false,false,false,false,false,false,false,false] rfl rfl (any_of HT_.out (by kernel_rfl)) (fun _ _ _ h=>h) (Or.inl ⟨by rfl,?_⟩) ?_ ?_
                 rotate_left
                 ·intro w'
                  go_simp
                  with_reducible rfl
                 rotate_left
                 ·simp only [Act.put,List.setIfInBounds_toArray,List.set_cons_zero,List.set_cons_succ,i64_w,i32_w]
                  rfl
                 refine pure_ (i:=1) (N:=some 14) (v:=?_) (a':=?_) #[true,true,false,false,false,false,false,false,false,false,false,false,false,false,false,false,false,false,false,false,false,false,false,false,false,false,false,false,false,false,false,false,false,false,false] rfl rfl (any_of HT_.out (by kernel_rfl)) (fun _ _ _ h=>h) (Or.inl ⟨by rfl,?_⟩) ?_ ?_
                 rotate_left
                 ·intro w'
                  go_simp
                  with_reducible rfl
                 rotate_left
                 ·simp only [Act.put,List.setIfInBounds_toArray,List.set_cons_zero,List.set_cons_succ,i64_w,i32_w]
                  rfl
                 refine pure_ (i:=2) (N:=some 15) (v:=?_) (a':=?_) #[true,true,true,false,false,false,false,false,false,false,false,false,false,false,false,false,false,false,false,false,false,false,false,false,false,false,false,false,false,false,false,false,false,false,false] rfl rfl (any_of HT_.out (by kernel_rfl)) (fun _ _ _ h=>h) (Or.inl ⟨by rfl,?_⟩) ?_ ?_
                 rotate_left
                 ·intro w'
                  go_simp
                  with_reducible rfl
                 rotate_left
                 ·simp only [Act.put,List.setIfInBounds_toArray,List.set_cons_zero,List.set_cons_succ,i64_w,i32_w]
                  rfl
                 refine pure_ (i:=3) (N:=some 16) (v:=?_) (a':=?_) #[true,true,true,true,false,false,false,false,false,false,false,false,false,false,false,false,false,false,false,false,false,false,false,false,false,false,false,false,false,false,false,false,false,false,false] rfl rfl (any_of HT_.out (by kernel_rfl)) (fun _ _ _ h=>h) (Or.inl ⟨by rfl,?_⟩) ?_ ?_
                 rotate_left
                 ·intro w'
                  go_simp
                  with_reducible rfl
                 rotate_left
                 ·simp only [Act.put,List.setIfInBounds_toArray,List.set_cons_zero,List.set_cons_succ,i64_w,i32_w]
                  rfl
                 refine pure_ (i:=4) (N:=some 17) (v:=?_) (a':=?_) #[true,true,true,true,true,false,false,false,false,false,false,false,false,false,false,false,false,false,false,false,false,false,false,false,false,false,false,false,false,false,false,false,false,false,false] rfl rfl (any_of HT_.out (by kernel_rfl)) (fun _ _ _ h=>h) (Or.inl ⟨by rfl,?_⟩) ?_ ?_
                 rotate_left
                 ·intro w'
                  go_simp
                  with_reducible rfl
                 rotate_left
                 ·simp only [Act.put,List.setIfInBounds_toArray,List.set_cons_zero,List.set_cons_succ,i64_w,i32_w]
                  rfl
                 refine pure_ (i:=5) (N:=some 18) (v:=?_) (a':=?_) #[true,true,true,true,true,true,false,false,false,false,false,false,false,false,false,false,false,false,false,false,false,false,false,false,false,false,false,false,false,false,false,false,false,false,false] rfl rfl (any_of HT_.out (by kernel_rfl)) (fun _ _ _ h=>h) (Or.inl ⟨by rfl,?_⟩) ?_ ?_
                 rotate_left
                 ·intro w'
                  go_simp
                  with_reducible rfl
                 rotate_left
                 ·simp only [Act.put,List.setIfInBounds_toArray,List.set_cons_zero,List.set_cons_succ,i64_w,i32_w]
                  rfl
                 refine pure_ (i:=6) (N:=some 19) (v:=?_) (a':=?_) #[true,true,true,true,true,true,true,false,false,false,false,false,false,false,false,false,false,false,false,false,false,false,false,false,false,false,false,false,false,false,false,false,false,false,false] rfl rfl (any_of HT_.out (by kernel_rfl)) (fun _ _ _ h=>h) (Or.inl ⟨by rfl,?_⟩) ?_ ?_
                 rotate_left
                 ·intro w'
                  go_simp
                  with_reducible rfl
                 rotate_left
                 ·simp only [Act.put,List.setIfInBounds_toArray,List.set_cons_zero,List.set_cons_succ,i64_w,i32_w]
                  rfl
                 refine pure_ (i:=7) (N:=some 20) (v:=?_) (a':=?_) #[true,true,true,true,true,true,true,true,false,false,false,false,false,false,false,false,false,false,false,false,false,false,false,false,false,false,false,false,false,false,false,false,false,false,false] rfl rfl (any_of HT_.out (by kernel_rfl)) (fun _ _ _ h=>h) (Or.inl ⟨by rfl,?_⟩) ?_ ?_
                 rotate_left
                 ·intro w'
                  go_simp
                  with_reducible rfl
                 rotate_left
                 ·simp only [Act.put,List.setIfInBounds_toArray,List.set_cons_zero,List.set_cons_succ,i64_w,i32_w]
                  rfl
                 refine pure_ (i:=8) (N:=some 21) (v:=?_) (a':=?_) #[true,true,true,true,true,true,true,true,true,false,false,false,false,false,false,false,false,false,false,false,false,false,false,false,false,false,false,false,false,false,false,false,false,false,false] rfl rfl (any_of HT_.out (by kernel_rfl)) (fun _ _ _ h=>h) (Or.inl ⟨by rfl,?_⟩) ?_ ?_
                 rotate_left
                 ·intro w'
                  go_simp
                  with_reducible rfl
                 rotate_left
                 ·simp only [Act.put,List.setIfInBounds_toArray,List.set_cons_zero,List.set_cons_succ,i64_w,i32_w]
                  rfl
                 refine pure_ (i:=13) (N:=some 26) (v:=?_) (a':=?_) #[true,true,true,true,true,true,true,true,true,false,false,false,false,true,false,false,false,false,false,false,false,false,false,false,false,false,false,false,false,false,false,false,false,false,false] rfl rfl (any_of HT_.out (by kernel_rfl)) (fun _ _ _ h=>h) (Or.inl ⟨by rfl,?_⟩) ?_ ?_
                 rotate_left
                 ·intro w'
                  go_simp
                  with_reducible rfl
                 rotate_left
                 ·simp only [Act.put,List.setIfInBounds_toArray,List.set_cons_zero,List.set_cons_succ,i64_w,i32_w]
                  rfl
                 refine pure_ (i:=14) (N:=some 27) (v:=?_) (a':=?_) #[true,true,true,true,true,true,true,true,true,false,false,false,false,true,true,false,false,false,false,false,false,false,false,false,false,false,false,false,false,false,false,false,false,false,false] rfl rfl (any_of HT_.out (by kernel_rfl)) (fun _ _ _ h=>h) (Or.inl ⟨by rfl,?_⟩) ?_ ?_
                 rotate_left
                 ·intro w'
                  go_simp
                  with_reducible rfl
                 rotate_left
                 ·simp only [Act.put,List.setIfInBounds_toArray,List.set_cons_zero,List.set_cons_succ,i64_w,i32_w]
                  rfl
                 refine pure_ (i:=15) (N:=some 28) (v:=?_) (a':=?_) #[true,true,true,true,true,true,true,true,true,false,false,false,false,true,true,true,false,false,false,false,false,false,false,false,false,false,false,false,false,false,false,false,false,false,false] rfl rfl (any_of HT_.out (by kernel_rfl)) (fun _ _ _ h=>h) (Or.inl ⟨by rfl,?_⟩) ?_ ?_
                 rotate_left
                 ·intro w'
                  go_simp
                  with_reducible rfl
                 rotate_left
                 ·simp only [Act.put,List.setIfInBounds_toArray,List.set_cons_zero,List.set_cons_succ,i64_w,i32_w]
                  rfl
                 refine pure_ (i:=16) (N:=some 29) (v:=?_) (a':=?_) #[true,true,true,true,true,true,true,true,true,false,false,false,false,true,true,true,true,false,false,false,false,false,false,false,false,false,false,false,false,false,false,false,false,false,false] rfl rfl (any_of HT_.out (by kernel_rfl)) (fun _ _ _ h=>h) (Or.inl ⟨by rfl,?_⟩) ?_ ?_
                 rotate_left
                 ·intro w'
                  go_simp
                  with_reducible rfl
                 rotate_left
                 ·simp only [Act.put,List.setIfInBounds_toArray,List.set_cons_zero,List.set_cons_succ,i64_w,i32_w]
                  rfl
                 refine pure_ (i:=19) (N:=some 32) (v:=?_) (a':=?_) #[true,true,true,true,true,true,true,true,true,false,false,false,false,true,true,true,true,false,false,true,false,false,false,false,false,false,false,false,false,false,false,false,false,false,false] rfl rfl (any_of HT_.out (by kernel_rfl)) (fun _ _ _ h=>h) (Or.inl ⟨by rfl,?_⟩) ?_ ?_
                 rotate_left
                 ·intro w'
                  go_simp
                  with_reducible rfl
                 rotate_left
                 ·simp only [Act.put,List.setIfInBounds_toArray,List.set_cons_zero,List.set_cons_succ,i64_w,i32_w]
                  rfl
                 refine pure_ (i:=20) (N:=some 33) (v:=?_) (a':=?_) #[true,true,true,true,true,true,true,true,true,false,false,false,false,true,true,true,true,false,false,true,true,false,false,false,false,false,false,false,false,false,false,false,false,false,false] rfl rfl (any_of HT_.out (by kernel_rfl)) (fun _ _ _ h=>h) (Or.inl ⟨by rfl,?_⟩) ?_ ?_
                 rotate_left
                 ·intro w'
                  go_simp
                  with_reducible rfl
                 rotate_left
                 ·simp only [Act.put,List.setIfInBounds_toArray,List.set_cons_zero,List.set_cons_succ,i64_w,i32_w]
                  rfl
                 refine pure_ (i:=21) (N:=some 34) (v:=?_) (a':=?_) #[true,true,true,true,true,true,true,true,true,false,false,false,false,true,true,true,true,false,false,true,true,true,false,false,false,false,false,false,false,false,false,false,false,false,false] rfl rfl (any_of HT_.out (by kernel_rfl)) (fun _ _ _ h=>h) (Or.inl ⟨by rfl,?_⟩) ?_ ?_
                 rotate_left
                 ·intro w'
                  go_simp
                  with_reducible rfl
                 rotate_left
                 ·simp only [Act.put,List.setIfInBounds_toArray,List.set_cons_zero,List.set_cons_succ,i64_w,i32_w]
                  rfl
                 refine pure_ (i:=22) (N:=some 35) (v:=?_) (a':=?_) #[true,true,true,true,true,true,true,true,true,false,false,false,false,true,true,true,true,false,false,true,true,true,true,false,false,false,false,false,false,false,false,false,false,false,false] rfl rfl (any_of HT_.out (by kernel_rfl)) (fun _ _ _ h=>h) (Or.inl ⟨by rfl,?_⟩) ?_ ?_
                 rotate_left
                 ·intro w'
                  go_simp
                  with_reducible rfl
                 rotate_left
                 ·simp only [Act.put,List.setIfInBounds_toArray,List.set_cons_zero,List.set_cons_succ,i64_w,i32_w]
                  rfl
                 refine pure_ (i:=24) (N:=some 37) (v:=?_) (a':=?_) #[true,true,true,true,true,true,true,true,true,false,false,false,false,true,true,true,true,false,false,true,true,true,true,false,true,false,false,false,false,false,false,false,false,false,false] rfl rfl (any_of HT_.out (by kernel_rfl)) (fun _ _ _ h=>h) (Or.inl ⟨by rfl,?_⟩) ?_ ?_
                 rotate_left
                 ·intro w'
                  go_simp
                  with_reducible rfl
                 rotate_left
                 ·simp only [Act.put,List.setIfInBounds_toArray,List.set_cons_zero,List.set_cons_succ,i64_w,i32_w]
                  rfl
                 refine pure_ (i:=25) (N:=some 38) (v:=?_) (a':=?_) #[true,true,true,true,true,true,true,true,true,false,false,false,false,true,true,true,true,false,false,true,true,true,true,false,true,true,false,false,false,false,false,false,false,false,false] rfl rfl (any_of HT_.out (by kernel_rfl)) (fun _ _ _ h=>h) (Or.inl ⟨by rfl,?_⟩) ?_ ?_
                 rotate_left
                 ·intro w'
                  go_simp
                  with_reducible rfl
                 rotate_left
                 ·simp only [Act.put,List.setIfInBounds_toArray,List.set_cons_zero,List.set_cons_succ,i64_w,i32_w]
                  rfl
                 refine pure_ (i:=26) (N:=some 39) (v:=?_) (a':=?_) #[true,true,true,true,true,true,true,true,true,false,false,false,false,true,true,true,true,false,false,true,true,true,true,false,true,true,true,false,false,false,false,false,false,false,false] rfl rfl (any_of HT_.out (by kernel_rfl)) (fun _ _ _ h=>h) (Or.inl ⟨by rfl,?_⟩) ?_ ?_
                 rotate_left
                 ·intro w'
                  go_simp
                  with_reducible rfl
                 rotate_left
                 ·simp only [Act.put,List.setIfInBounds_toArray,List.set_cons_zero,List.set_cons_succ,i64_w,i32_w]
                  rfl
                 refine pure_ (i:=27) (N:=some 40) (v:=?_) (a':=?_) #[true,true,true,true,true,true,true,true,true,false,false,false,false,true,true,true,true,false,false,true,true,true,true,false,true,true,true,true,false,false,false,false,false,false,false] rfl rfl (any_of HT_.out (by kernel_rfl)) (fun _ _ _ h=>h) (Or.inl ⟨by rfl,?_⟩) ?_ ?_
                 rotate_left
                 ·intro w'
                  go_simp
                  with_reducible rfl
                 rotate_left
                 ·simp only [Act.put,List.setIfInBounds_toArray,List.set_cons_zero,List.set_cons_succ,i64_w,i32_w]
                  rfl
                 refine take_ (i:=9) (N:=some 22) (v:=?_) (a':=?_) #[true,true,true,true,true,true,true,true,true,true,false,false,false,true,true,true,true,false,false,true,true,true,true,false,true,true,true,true,false,false,false,false,false,false,false] rfl rfl (take_ofW HT_.out HW_.out (by kernel_rfl)) (fun _ _ _ h=>h) (Or.inl ⟨by rfl,?_⟩) hHeld ?_ ?_
                 rotate_left
                 ·rintro w' ⟨s0,s1,s2,s3,s4,s5,s6,s7,s8,s9,s10,s11,s12,s13,s14,s15,s16,s17⟩
                  go_simp
                  with_reducible rfl
                 rotate_left
                 ·simp only [Act.put,List.setIfInBounds_toArray,List.set_cons_zero,List.set_cons_succ,i64_w,i32_w]
                  rfl
                 refine pure_ (i:=10) (N:=some 23) (v:=?_) (a':=?_) #[true,true,true,true,true,true,true,true,true,true,true,false,false,true,true,true,true,false,false,true,true,true,true,false,true,true,true,true,false,false,false,false,false,false,false] rfl rfl (any_of HT_.out (by kernel_rfl)) (fun _ _ _ h=>h) (Or.inl ⟨by rfl,?_⟩) ?_ ?_
                 rotate_left
                 ·intro w'
                  go_simp
                  with_reducible rfl
                 rotate_left
                 ·simp only [Act.put,List.setIfInBounds_toArray,List.set_cons_zero,List.set_cons_succ,i64_w,i32_w]
                  rfl
                 refine pure_ (i:=11) (N:=some 24) (v:=?_) (a':=?_) #[true,true,true,true,true,true,true,true,true,true,true,true,false,true,true,true,true,false,false,true,true,true,true,false,true,true,true,true,false,false,false,false,false,false,false] rfl rfl (any_of HT_.out (by kernel_rfl)) (fun _ _ _ h=>h) (Or.inl ⟨by rfl,?_⟩) ?_ ?_
                 rotate_left
                 ·intro w'
                  go_simp
                  with_reducible rfl
                 rotate_left
                 ·simp only [Act.put,List.setIfInBounds_toArray,List.set_cons_zero,List.set_cons_succ,i64_w,i32_w]
                  rfl
                 refine take_ (i:=12) (N:=some 25) (v:=?_) (a':=?_) #[true,true,true,true,true,true,true,true,true,true,true,true,true,true,true,true,true,false,false,true,true,true,true,false,true,true,true,true,false,false,false,false,false,false,false] rfl rfl (take_ofW HT_.out HW_.out (by kernel_rfl)) (fun _ _ _ h=>h) (Or.inl ⟨by rfl,?_⟩) hHeld ?_ ?_
                 rotate_left
                 ·rintro w' ⟨s0,s1,s2,s3,s4,s5,s6,s7,s8,s9,s10,s11,s12,s13,s14,s15,s16,s17⟩
                  go_simp
                  with_reducible rfl
                 rotate_left
                 ·simp only [Act.put,List.setIfInBounds_toArray,List.set_cons_zero,List.set_cons_succ,i64_w,i32_w]
                  rfl
                 refine take_ (i:=17) (N:=some 30) (v:=?_) (a':=?_) #[true,true,true,true,true,true,true,true,true,true,true,true,true,true,true,true,true,true,false,true,true,true,true,false,true,true,true,true,false,false,false,false,false,false,false] rfl rfl (take_ofW HT_.out HW_.out (by kernel_rfl)) (fun _ _ _ h=>h) (Or.inl ⟨by rfl,?_⟩) hHeld ?_ ?_
                 rotate_left
                 ·rintro w' ⟨s0,s1,s2,s3,s4,s5,s6,s7,s8,s9,s10,s11,s12,s13,s14,s15,s16,s17⟩
                  go_simp
                  with_reducible rfl
                 rotate_left
                 ·simp only [Act.put,List.setIfInBounds_toArray,List.set_cons_zero,List.set_cons_succ,i64_w,i32_w]
                  rfl
                 refine pure_ (i:=18) (N:=some 31) (v:=?_) (a':=?_) #[true,true,true,true,true,true,true,true,true,true,true,true,true,true,true,true,true,true,true,true,true,true,true,false,true,true,true,true,false,false,false,false,false,false,false] rfl rfl (any_of HT_.out (by kernel_rfl)) (fun _ _ _ h=>h) (Or.inl ⟨by rfl,?_⟩) ?_ ?_
                 rotate_left
                 ·intro w'
                  go_simp
                  with_reducible rfl
                 rotate_left
                 ·simp only [Act.put,List.setIfInBounds_toArray,List.set_cons_zero,List.set_cons_succ,i64_w,i32_w]
                  rfl
                 refine take_ (i:=23) (N:=some 36) (v:=?_) (a':=?_) #[true,true,true,true,true,true,true,true,true,true,true,true,true,true,true,true,true,true,true,true,true,true,true,true,true,true,true,true,false,false,false,false,false,false,false] rfl rfl (take_ofW HT_.out HW_.out (by kernel_rfl)) (fun _ _ _ h=>h) (Or.inl ⟨by rfl,?_⟩) hHeld ?_ ?_
                 rotate_left
                 ·rintro w' ⟨s0,s1,s2,s3,s4,s5,s6,s7,s8,s9,s10,s11,s12,s13,s14,s15,s16,s17⟩
                  go_simp
                  with_reducible rfl
                 rotate_left
                 ·simp only [Act.put,List.setIfInBounds_toArray,List.set_cons_zero,List.set_cons_succ,i64_w,i32_w]
                  rfl
                 refine take_ (i:=28) (N:=some 41) (v:=?_) (a':=?_) #[true,true,true,true,true,true,true,true,true,true,true,true,true,true,true,true,true,true,true,true,true,true,true,true,true,true,true,true,true,false,false,false,false,false,false] rfl rfl (take_ofW HT_.out HW_.out (by kernel_rfl)) (fun _ _ _ h=>h) (Or.inl ⟨by rfl,?_⟩) hHeld ?_ ?_
                 rotate_left
                 ·rintro w' ⟨s0,s1,s2,s3,s4,s5,s6,s7,s8,s9,s10,s11,s12,s13,s14,s15,s16,s17⟩
                  go_simp
                  with_reducible rfl
                 rotate_left
                 ·simp only [Act.put,List.setIfInBounds_toArray,List.set_cons_zero,List.set_cons_succ,i64_w,i32_w]
                  rfl
                 refine pure_ (i:=29) (N:=some 42) (v:=?_) (a':=?_) #[true,true,true,true,true,true,true,true,true,true,true,true,true,true,true,true,true,true,true,true,true,true,true,true,true,true,true,true,true,true,false,false,false,false,false] rfl rfl (any_of HT_.out (by kernel_rfl)) (fun _ _ _ h=>h) (Or.inl ⟨by rfl,?_⟩) ?_ ?_
                 rotate_left
                 ·intro w'
                  go_simp
                  with_reducible rfl
                 rotate_left
                 ·simp only [Act.put,List.setIfInBounds_toArray,List.set_cons_zero,List.set_cons_succ,i64_w,i32_w]
                  rfl
                 refine pure_ (i:=30) (N:=some 43) (v:=?_) (a':=?_) #[true,true,true,true,true,true,true,true,true,true,true,true,true,true,true,true,true,true,true,true,true,true,true,true,true,true,true,true,true,true,true,false,false,false,false] rfl rfl (any_of HT_.out (by kernel_rfl)) (fun _ _ _ h=>h) (Or.inl ⟨by rfl,?_⟩) ?_ ?_
                 rotate_left
                 ·intro w'
                  go_simp
                  with_reducible rfl
                 rotate_left
                 ·simp only [Act.put,List.setIfInBounds_toArray,List.set_cons_zero,List.set_cons_succ,i64_w,i32_w]
                  rfl
                 refine take_ (i:=31) (N:=some 44) (v:=?_) (a':=?_) #[true,true,true,true,true,true,true,true,true,true,true,true,true,true,true,true,true,true,true,true,true,true,true,true,true,true,true,true,true,true,true,true,false,false,false] rfl rfl (take_ofW HT_.out HW_.out (by kernel_rfl)) (fun _ _ _ h=>h) (Or.inl ⟨by rfl,?_⟩) hHeld ?_ ?_
                 rotate_left
                 ·rintro w' ⟨s0,s1,s2,s3,s4,s5,s6,s7,s8,s9,s10,s11,s12,s13,s14,s15,s16,s17⟩
                  go_simp
                  with_reducible rfl
                 rotate_left
                 ·simp only [Act.put,List.setIfInBounds_toArray,List.set_cons_zero,List.set_cons_succ,i64_w,i32_w]
                  rfl
                 refine pure_ (i:=32) (N:=some 45) (v:=?_) (a':=?_) #[true,true,true,true,true,true,true,true,true,true,true,true,true,true,true,true,true,true,true,true,true,true,true,true,true,true,true,true,true,true,true,true,true,false,false] rfl rfl (any_of HT_.out (by kernel_rfl)) (fun _ _ _ h=>h) (Or.inl ⟨by rfl,?_⟩) ?_ ?_
                 rotate_left
                 ·intro w'
                  go_simp
                  with_reducible rfl
                 rotate_left
                 ·simp only [Act.put,List.setIfInBounds_toArray,List.set_cons_zero,List.set_cons_succ,i64_w,i32_w]
                  rfl
                 refine pure_ (i:=33) (N:=some 46) (v:=?_) (a':=?_) #[true,true,true,true,true,true,true,true,true,true,true,true,true,true,true,true,true,true,true,true,true,true,true,true,true,true,true,true,true,true,true,true,true,true,false] rfl rfl (any_of HT_.out (by kernel_rfl)) (fun _ _ _ h=>h) (Or.inl ⟨by rfl,?_⟩) ?_ ?_
                 rotate_left
                 ·intro w'
                  go_simp
                  with_reducible rfl
                 rotate_left
                 ·simp only [Act.put,List.setIfInBounds_toArray,List.set_cons_zero,List.set_cons_succ,i64_w,i32_w]
                  rfl
                 refine pure_ (i:=34) (N:=some 47) (v:=?_) (a':=?_) #[true,true,true,true,true,true,true,true,true,true,true,true,true,true,true,true,true,true,true,true,true,true,true,true,true,true,true,true,true,true,true,true,true,true,true] rfl rfl (any_of HT_.out (by kernel_rfl)) (fun _ _ _ h=>h) (Or.inl ⟨by rfl,?_⟩) ?_ ?_
                 rotate_left
                 ·intro w'
                  go_simp
                  with_reducible rfl
                 rotate_left
                 ·simp only [Act.put,List.setIfInBounds_toArray,List.set_cons_zero,List.set_cons_succ,i64_w,i32_w]
                  rfl
                 refine done_ (done_of HT_.out (by kernel_rfl)) ?_
                 try go_wp2
                 have n0_:=Aside0.mk (Kd.R_drew HO_3.out)
                 have n1_:=Aside0.mk (below_drew1 HB.out)
                 clear HO_3
                 clear HB
                 have HO_3:=n0_
                 have HB:=n1_
                 clear n0_ n1_
                 have q24:(x5_2:Int)≤((x3_1.length:Int):Int):=of_decide_eq_true (by first|(with_reducible assumption)|assumption)
                 obtain ⟨i024,hi024,_,hsz24,_⟩:=info_parts info3
                 have hroom24:x3_1.length≤co22:=(Kd.R_reads' HO_3.out).2.1
                 have hC24:Kd.C (Kd.int .i64) _ (some ad116) x3_1.length x3_1:=(Kd.R_reads' HO_3.out).2.2
                 have hcut24:=cut_to (P:=Try.prog) 41 3 .i64 Try.underlying41 hi024 (some ad116) x3_1.length co22 x5_2 (of_decide_eq_true (by first|(with_reducible assumption)|assumption)) q24 hroom24
                 have hr24:=Kd.C_take (m:=(x5_2:Int).toNat) hC24 (by omega)
                 have hy24:y125.length=(x5_2:Int).toNat:=(by rw [Ny125.out,List.length_take];omega)
                 rw [←Ny125.out] at hr24
                 rw [←hy24] at hcut24
                 have HR128:=Aside0.mk hr24
                 have HC128:=Aside0.mk (show y125.length≤co22 from by omega)
                 clear hr24 hC24 hroom24 hi024 hsz24
                 have KY24:=Aside0.mk hy24
                 clear hy24
                 have KL24:=Aside0.mk (show (x5_2:Int).toNat≤x3_1.length from by omega)
                 replace q24:=eq_true q24
                 have q25:(x5_2:Int)≤((x3_1.length:Int):Int):=of_decide_eq_true (by first|(with_reducible assumption)|assumption)
                 obtain ⟨i025,hi025,_,hsz25,_⟩:=info_parts info3
                 have hroom25:x3_1.length≤co22:=(Kd.R_reads' HO_3.out).2.1
                 have hC25:Kd.C (Kd.int .i64) _ (some ad116) x3_1.length x3_1:=(Kd.R_reads' HO_3.out).2.2
                 have q025:(0:Int)≤(x5_2:Int):=of_decide_eq_true (by first|(with_reducible assumption)|assumption)
                 have hcut25:=cut_from (P:=Try.prog) 41 3 .i64 Try.underlying41 hi025 1 hsz25 (some ad116) x3_1.length co22 x5_2 q025 q25
                 have hr25:=Kd.C_drop (m:=(x5_2:Int).toNat) (c:=co22) hC25 (by omega) hroom25
                 obtain ⟨A25,hA25⟩:∃ Az_,Az_=(if co22=(x5_2:Int).toNat then (some ad116) else ((some ad116):Option Addr).map (·.add ((x5_2:Int).toNat * 1))):=⟨_,rfl⟩
                 obtain ⟨c25,hc25⟩:∃ cz_,cz_=co22 - (x5_2:Int).toNat:=⟨_,rfl⟩
                 have hy25:y138.length=x3_1.length - (x5_2:Int).toNat:=(by rw [Ny138.out,List.length_drop] <;> omega)
                 rw [show (x3_1).drop (x5_2:Int).toNat=y138 from Ny138.out.symm] at hr25
                 replace hr25:Kd.C (Kd.int .i64) _ A25 y138.length y138:=(by rw [hA25];exact hr25)
                 rw [←hy25,←hA25,←hc25] at hcut25
                 have HR141:=Aside0.mk hr25
                 have HC141:=Aside0.mk (show y138.length≤c25 from by rw [hy25,hc25];exact Nat.sub_le_sub_right hroom25 _)
                 clear hr25 hC25 hroom25 hi025 hsz25 hc25
                 have KY25:=Aside0.mk hy25
                 have KA25:=Aside0.mk hA25
                 clear hy25 hA25
                 have KL25:=Aside0.mk (show (x5_2:Int).toNat≤x3_1.length from by omega)
                 replace q25:=eq_true q25
                 refine start_ (n:=13) (S:=fun w'=>True) (ds:=[]) #[false,false,false,false,false,false,false,false,false,false,false,false,false] (by kernel_rfl) rfl rfl trivial (fun hHeld=>?_);refine with_tabW spec_l10Smith.tab8 spec_l10Smith.bits8 (fun HT_ HW_=>?_)
                 generalize w21.drew=w23 at HO_3 HB HR128 HR141 hHeld ⊢
                 refine pure_ (i:=1) (N:=some 51) (v:=?_) (a':=?_) #[false,true,false,false,false,false,false,false,false,false,false,false,false] rfl rfl (any_of HT_.out (by kernel_rfl)) (fun _ _ _ h=>h) (Or.inl ⟨by rfl,?_⟩) ?_ ?_
                 rotate_left
                 ·intro w'
                  go_simp
                  with_reducible rfl
                 rotate_left
                 ·simp only [Act.put,List.setIfInBounds_toArray,List.set_cons_zero,List.set_cons_succ,i64_w,i32_w]
                  rfl
                 refine pure_ (i:=2) (N:=some 52) (v:=?_) (a':=?_) #[false,true,true,false,false,false,false,false,false,false,false,false,false] rfl rfl (any_of HT_.out (by kernel_rfl)) (fun _ _ _ h=>h) (Or.inl ⟨by rfl,?_⟩) ?_ ?_
                 rotate_left
                 ·intro w'
                  go_simp
                  with_reducible rfl
                 rotate_left
                 ·simp only [Act.put,List.setIfInBounds_toArray,List.set_cons_zero,List.set_cons_succ,i64_w,i32_w]
                  rfl
                 refine pure_ (i:=3) (N:=some 53) (v:=?_) (a':=?_) #[false,true,true,true,false,false,false,false,false,false,false,false,false] rfl rfl (any_of HT_.out (by kernel_rfl)) (fun _ _ _ h=>h) (Or.inl ⟨by rfl,?_⟩) ?_ ?_
                 rotate_left
                 ·intro w'
                  go_simp
                  with_reducible rfl
                 rotate_left
                 ·simp only [Act.put,List.setIfInBounds_toArray,List.set_cons_zero,List.set_cons_succ,i64_w,i32_w]
                  rfl
                 refine pure_ (i:=5) (N:=some 55) (v:=?_) (a':=?_) #[false,true,true,true,false,true,false,false,false,false,false,false,false] rfl rfl (any_of HT_.out (by kernel_rfl)) (fun _ _ _ h=>h) (Or.inl ⟨by rfl,?_⟩) ?_ ?_
                 rotate_left
                 ·intro w'
                  go_simp
                  with_reducible rfl
                 rotate_left
                 ·simp only [Act.put,List.setIfInBounds_toArray,List.set_cons_zero,List.set_cons_succ,i64_w,i32_w]
                  rfl
                 refine pure_ (i:=8) (N:=some 58) (v:=?_) (a':=?_) #[false,true,true,true,false,true,false,false,true,false,false,false,false] rfl rfl (any_of HT_.out (by kernel_rfl)) (fun _ _ _ h=>h) (Or.inl ⟨by rfl,?_⟩) ?_ ?_
                 rotate_left
                 ·intro w'
                  go_simp
                  with_reducible rfl
                 rotate_left
                 ·simp only [Act.put,List.setIfInBounds_toArray,List.set_cons_zero,List.set_cons_succ,i64_w,i32_w]
                  rfl
                 refine pure_ (i:=9) (N:=some 59) (v:=?_) (a':=?_) #[false,true,true,true,false,true,false,false,true,true,false,false,false] rfl rfl (any_of HT_.out (by kernel_rfl)) (fun _ _ _ h=>h) (Or.inl ⟨by rfl,?_⟩) ?_ ?_
                 rotate_left
                 ·intro w'
                  go_simp
                  with_reducible rfl
                 rotate_left
                 ·simp only [Act.put,List.setIfInBounds_toArray,List.set_cons_zero,List.set_cons_succ,i64_w,i32_w]
                  rfl
                 refine pure_ (i:=10) (N:=some 60) (v:=?_) (a':=?_) #[false,true,true,true,false,true,false,false,true,true,true,false,false] rfl rfl (any_of HT_.out (by kernel_rfl)) (fun _ _ _ h=>h) (Or.inl ⟨by rfl,?_⟩) ?_ ?_
                 rotate_left
                 ·intro w'
                  go_simp
                  with_reducible rfl
                 rotate_left
                 ·simp only [Act.put,List.setIfInBounds_toArray,List.set_cons_zero,List.set_cons_succ,i64_w,i32_w]
                  rfl
                 refine join_ (σ:=Value × Value × Value) 3 #[true,true,true,true,true,true,true,false,true,true,true,false,false] (fun s_=>[(50,s_.1),(54,s_.2.1),(56,s_.2.2)]) (fun s_ w'=>(Kd.R (Kd.int .i64) 3 w' w.heap.size (fun k_=>some k_≠(s_.2.2:Value).ownBlock∧some k_≠(.slice (some ad116) x3_1.length co22:Value).ownBlock) s_.2.1 y129)∧(Kd.R (Kd.int .i64) 3 w' w.heap.size (fun k_=>some k_≠(s_.2.1:Value).ownBlock∧some k_≠(.slice (some ad116) x3_1.length co22:Value).ownBlock) s_.2.2 y132)∧(Kd.R (Kd.int .i64) 3 w' w.heap.size (fun k_=>some k_≠(s_.2.1:Value).ownBlock∧some k_≠(s_.2.2:Value).ownBlock) (.slice (some ad116) x3_1.length co22) x3_1)∧(Below w.heap.size w w')) ?_ ?_
                 rotate_left
                 ·intro hCont
                  refine two_ (i:=0) (j:=6) (Ni:=some 50) (Nj:=some 56) #[true,true,true,true,false,true,false,false,true,true,true,false,false] #[false,true,true,true,false,true,true,false,true,true,true,false,false] rfl rfl rfl rfl (two_of HT_.out (by kernel_rfl)) (by decide) (by decide) (fun K hK=>?_) (fun K hK=>?_)
                  ·skip
                   refine Kd.R_lit_step (Kd.int .i64) _ 3 ?hg (N:=50) ?hd (xs:=([]:List Int)) (inner:=[]) (ok:=fun _=>True) (okp:=fun _=>True) ?hr ?hp (fun _ hk=>hk) trivial (Below.refl _ _) (Nat.le_refl _) (by simp) ?_;(case hd=>rfl);(case hg=>rfl);(case hr=>first|(go_simp;done)|(go_simp;rfl));(case hp=>exact (Reps.none _ _))
                   intro v123 w26 ho27 hb hg_ hnew_
                   clear hg_ hnew_
                   (first|rw [←Ny122.out] at ho27|(simp only [Int.reduceToNat] at ho27;rw [←Ny122.out] at ho27))
                   have n0_:=Aside0.mk (Kd.R_elder' (by (with_reducible repeat (first|apply Kd.R_alloc|apply Kd.R_drewN|apply Kd.R_drew));exact HO_3.out) (Kd.R_base ho27) hb)
                   have n1_:=Aside0.mk (Kd.R_lower (Kd.R_new' ho27 (Kd.R_lt (by (with_reducible repeat (first|apply Kd.R_alloc|apply Kd.R_drewN|apply Kd.R_drew));exact HO_3.out))) (below_size (by repeat (first|(with_reducible first|exact HB.out|apply below_alloc|apply pw_below_drewN|apply below_drew1)|exact HB.out))))
                   have n2_:=Aside0.mk (Kd.C_below (by repeat (first|(with_reducible exact HR128.out)|(with_reducible refine Kd.C_alloc ?_ _)|(with_reducible refine Kd.C_drewN ?_ _)|(with_reducible refine Kd.C_drew ?_)|exact HR128.out)) hb)
                   have n3_:=Aside0.mk (Kd.C_below (by repeat (first|(with_reducible exact HR141.out)|(with_reducible refine Kd.C_alloc ?_ _)|(with_reducible refine Kd.C_drewN ?_ _)|(with_reducible refine Kd.C_drew ?_)|exact HR141.out)) hb)
                   have n4_:=Aside0.mk (below_step (by repeat (first|(with_reducible first|exact HB.out|apply below_alloc|apply pw_below_drewN|apply below_drew1)|exact HB.out)) hb)
                   clear HO_3
                   clear HR128
                   clear HR141
                   clear HB
                   have HO_3:=n0_
                   have HO124:=n1_
                   have HR128:=n2_
                   have HR141:=n3_
                   have HB:=n4_
                   clear n0_ n1_ n2_ n3_ n4_
                   clear hb ho27
                   refine hK.out _ _ trivial (fun hHeld=>?_)
                   clear hK K
                   refine norm_ (a':=?_) ?_ ?_
                   rotate_left
                   ·show Act.put _ (some 50) _=_
                    simp only [Act.put,List.setIfInBounds_toArray,List.set_cons_zero,List.set_cons_succ,i64_w,i32_w]
                    rfl
                   refine two_ (i:=4) (j:=6) (Ni:=some 54) (Nj:=some 56) #[true,true,true,true,true,true,false,false,true,true,true,false,false] #[true,true,true,true,false,true,true,false,true,true,true,false,false] rfl rfl rfl rfl (two_of HT_.out (by kernel_rfl)) (by decide) (by decide) (fun K hK=>?_) (fun K hK=>?_)
                   ·skip
                    refine Kd.R_append_rows_step (Kd.int .i64) (w0:=w) w.heap.size (by rfl) (.tmp 50) (.tmp 53) 41 3 (.int .i64 0) 8 rfl Try.underlying41 info3 rfl (by decide) (by omega) v123 y122 y125 _ _ _ (fun k_=>some k_≠(.slice (some ad116) x3_1.length co22:Value).ownBlock) (fun _=>False) rfl rfl ?aO ?aR (fun _ _ h=>h) (fun _ h=>h.elim) ?aF ?aB ?aS ?aL ?_
                    (case aR=>repeat (first|exact (by repeat (first|(with_reducible exact HR128.out)|(with_reducible refine Kd.C_alloc ?_ _)|(with_reducible refine Kd.C_drewN ?_ _)|(with_reducible refine Kd.C_drew ?_)|exact HR128.out))|(with_reducible refine Kd.C_alloc ?_ _)|(with_reducible refine Kd.C_drewN ?_ _)|(with_reducible refine Kd.C_drew ?_)))
                    (case aB=>exact (by repeat (first|(with_reducible first|exact HB.out|apply below_alloc|apply pw_below_drewN|apply below_drew1)|exact HB.out)))
                    (case aF=>exact (fun k_ hk=>Kd.fresh' (Kd.R_lt (by (with_reducible repeat (first|apply Kd.R_alloc|apply Kd.R_drewN|apply Kd.R_drew));exact HO_3.out)) k_ hk))
                    (case aO=>exact (by (with_reducible repeat (first|apply Kd.R_alloc|apply Kd.R_drewN|apply Kd.R_drew));exact Kd.R_mono HO124.out (fun _ hk=>hk.2)))
                    (case aS=>exact (below_size (by repeat (first|(with_reducible first|exact HB.out|apply below_alloc|apply pw_below_drewN|apply below_drew1)|exact HB.out))))
                    (case aL=>have:=LMc16.out;omega)
                    intro v130 w28 ho hb hg hat
                    rw [←Ny129.out] at ho
                    have n0_:=Aside0.mk (Kd.R_after (ok:=(fun _=>True)) (by (with_reducible repeat (first|apply Kd.R_alloc|apply Kd.R_drewN|apply Kd.R_drew));exact HO_3.out) hg hat)
                    have n1_:=Aside0.mk (hb)
                    have n2_:=Aside0.mk ((show Kd.C (Kd.int .i64) w28 (some ad116) y125.length y125 from by rw [Ny125.out];exact Kd.C_take (m:=(x5_2:Int).toNat) ((Kd.R_reads' (Kd.R_after (ok:=(fun _=>True)) (by (with_reducible repeat (first|apply Kd.R_alloc|apply Kd.R_drewN|apply Kd.R_drew));exact HO_3.out) hg hat)).2.2) KL24.out))
                    have n3_:=Aside0.mk ((show Kd.C (Kd.int .i64) w28 A25 y138.length y138 from by rw [Ny138.out,KA25.out];exact Kd.C_drop (m:=(x5_2:Int).toNat) (c:=co22) ((Kd.R_reads' (Kd.R_after (ok:=(fun _=>True)) (by (with_reducible repeat (first|apply Kd.R_alloc|apply Kd.R_drewN|apply Kd.R_drew));exact HO_3.out) hg hat)).2.2) KL25.out ((Kd.R_reads' (Kd.R_after (ok:=(fun _=>True)) (by (with_reducible repeat (first|apply Kd.R_alloc|apply Kd.R_drewN|apply Kd.R_drew));exact HO_3.out) hg hat)).2.1)))
                    have n4_:=Aside0.mk (ho)
                    clear HO_3
                    clear HB
                    clear HR128
                    clear HR141
                    clear HO124
                    have HO_3:=n0_
                    have HB:=n1_
                    have HR128:=n2_
                    have HR141:=n3_
                    have HO131:=n4_
                    clear n0_ n1_ n2_ n3_ n4_
                    clear ho hb hg hat
                    refine hK.out _ _ trivial (fun hHeld=>?_)
                    clear hK K
                    refine norm_ (a':=?_) ?_ ?_
                    rotate_left
                    ·show Act.put _ (some 54) _=_
                     simp only [Act.put,List.setIfInBounds_toArray,List.set_cons_zero,List.set_cons_succ,i64_w,i32_w]
                     rfl
                    refine one_ (i:=6) (N:=some 56) #[true,true,true,true,true,true,true,false,true,true,true,false,false] rfl rfl (one_of HT_.out (by kernel_rfl)) (by decide) (fun K hK=>?_)
                    refine Kd.R_lit_step (Kd.int .i64) _ 3 ?hg (N:=56) ?hd (xs:=([x4_1]:List Int)) (inner:=[.int .i64 x4_1]) (ok:=fun _=>True) (okp:=fun _=>True) ?hr ?hp (fun _ hk=>hk) trivial (Below.refl _ _) (Nat.le_refl _) (by simp) ?_;(case hd=>rfl);(case hg=>rfl);(case hr=>first|(go_simp;done)|(go_simp;rfl));(case hp=>exact (Reps.one (show Kd.M (Kd.int .i64) _ _ _ x4_1 [.int .i64 x4_1] from rfl) (Reps.none _ _)))
                    intro v133 w29 ho30 hb hg_ hnew_
                    clear hg_ hnew_
                    (first|rw [←Ny132.out] at ho30|(simp only [Int.reduceToNat] at ho30;rw [←Ny132.out] at ho30))
                    have n0_:=Aside0.mk (Kd.R_elder' (by (with_reducible repeat (first|apply Kd.R_alloc|apply Kd.R_drewN|apply Kd.R_drew));exact HO_3.out) (Kd.R_base ho30) hb)
                    have n1_:=Aside0.mk (Kd.R_elder' (by (with_reducible repeat (first|apply Kd.R_alloc|apply Kd.R_drewN|apply Kd.R_drew));exact HO131.out) (Kd.R_base ho30) hb)
                    have n2_:=Aside0.mk (Kd.R_lower (Kd.R_new' (Kd.R_new' ho30 (Kd.R_lt (by (with_reducible repeat (first|apply Kd.R_alloc|apply Kd.R_drewN|apply Kd.R_drew));exact HO_3.out))) (Kd.R_lt (by (with_reducible repeat (first|apply Kd.R_alloc|apply Kd.R_drewN|apply Kd.R_drew));exact HO131.out))) (below_size (by repeat (first|(with_reducible first|exact HB.out|apply below_alloc|apply pw_below_drewN|apply below_drew1)|exact HB.out))))
                    have n3_:=Aside0.mk (Kd.C_below (by repeat (first|(with_reducible exact HR128.out)|(with_reducible refine Kd.C_alloc ?_ _)|(with_reducible refine Kd.C_drewN ?_ _)|(with_reducible refine Kd.C_drew ?_)|exact HR128.out)) hb)
                    have n4_:=Aside0.mk (Kd.C_below (by repeat (first|(with_reducible exact HR141.out)|(with_reducible refine Kd.C_alloc ?_ _)|(with_reducible refine Kd.C_drewN ?_ _)|(with_reducible refine Kd.C_drew ?_)|exact HR141.out)) hb)
                    have n5_:=Aside0.mk (below_step (by repeat (first|(with_reducible first|exact HB.out|apply below_alloc|apply pw_below_drewN|apply below_drew1)|exact HB.out)) hb)
                    clear HO_3
                    clear HO131
                    clear HR128
                    clear HR141
                    clear HB
                    have HO_3:=n0_
                    have HO131:=n1_
                    have HO134:=n2_
                    have HR128:=n3_
                    have HR141:=n4_
                    have HB:=n5_
                    clear n0_ n1_ n2_ n3_ n4_ n5_
                    clear hb ho30
                    refine hK.out _ _ trivial (fun hHeld=>?_)
                    clear hK K
                    refine norm_ (a':=?_) ?_ ?_
                    rotate_left
                    ·show Act.put _ (some 56) _=_
                     simp only [Act.put,List.setIfInBounds_toArray,List.set_cons_zero,List.set_cons_succ,i64_w,i32_w]
                     rfl
                    exact norm_ (by simp only [putAll,Act.put,List.setIfInBounds_toArray,List.set_cons_zero,List.set_cons_succ]) (hCont (v123,v130,v133) _ ⟨(by (with_reducible repeat (first|apply Kd.R_alloc|apply Kd.R_drewN|apply Kd.R_drew));exact Kd.R_mono HO131.out (fun _ hk=>⟨hk.2,hk.1⟩)),(by (with_reducible repeat (first|apply Kd.R_alloc|apply Kd.R_drewN|apply Kd.R_drew));exact Kd.R_mono HO134.out (fun _ hk=>⟨hk.2,hk.1.2⟩)),(by (with_reducible repeat (first|apply Kd.R_alloc|apply Kd.R_drewN|apply Kd.R_drew));exact Kd.R_mono HO_3.out (fun _ hk=>⟨hk.1.2,hk.2⟩)),(by repeat (first|(with_reducible first|exact HB.out|apply below_alloc|apply pw_below_drewN|apply below_drew1)|exact HB.out))⟩)
                   ·skip
                    refine Kd.R_lit_step (Kd.int .i64) _ 3 ?hg (N:=56) ?hd (xs:=([x4_1]:List Int)) (inner:=[.int .i64 x4_1]) (ok:=fun _=>True) (okp:=fun _=>True) ?hr ?hp (fun _ hk=>hk) trivial (Below.refl _ _) (Nat.le_refl _) (by simp) ?_;(case hd=>rfl);(case hg=>rfl);(case hr=>first|(go_simp;done)|(go_simp;rfl));(case hp=>exact (Reps.one (show Kd.M (Kd.int .i64) _ _ _ x4_1 [.int .i64 x4_1] from rfl) (Reps.none _ _)))
                    intro v133 w28 ho29 hb hg_ hnew_
                    clear hg_ hnew_
                    (first|rw [←Ny132.out] at ho29|(simp only [Int.reduceToNat] at ho29;rw [←Ny132.out] at ho29))
                    have n0_:=Aside0.mk (Kd.R_elder' (by (with_reducible repeat (first|apply Kd.R_alloc|apply Kd.R_drewN|apply Kd.R_drew));exact HO_3.out) (Kd.R_base ho29) hb)
                    have n1_:=Aside0.mk (Kd.R_elder' (by (with_reducible repeat (first|apply Kd.R_alloc|apply Kd.R_drewN|apply Kd.R_drew));exact HO124.out) (Kd.R_base ho29) hb)
                    have n2_:=Aside0.mk (Kd.R_lower (Kd.R_new' (Kd.R_new' ho29 (Kd.R_lt (by (with_reducible repeat (first|apply Kd.R_alloc|apply Kd.R_drewN|apply Kd.R_drew));exact HO_3.out))) (Kd.R_lt (by (with_reducible repeat (first|apply Kd.R_alloc|apply Kd.R_drewN|apply Kd.R_drew));exact HO124.out))) (below_size (by repeat (first|(with_reducible first|exact HB.out|apply below_alloc|apply pw_below_drewN|apply below_drew1)|exact HB.out))))
                    have n3_:=Aside0.mk (Kd.C_below (by repeat (first|(with_reducible exact HR128.out)|(with_reducible refine Kd.C_alloc ?_ _)|(with_reducible refine Kd.C_drewN ?_ _)|(with_reducible refine Kd.C_drew ?_)|exact HR128.out)) hb)
                    have n4_:=Aside0.mk (Kd.C_below (by repeat (first|(with_reducible exact HR141.out)|(with_reducible refine Kd.C_alloc ?_ _)|(with_reducible refine Kd.C_drewN ?_ _)|(with_reducible refine Kd.C_drew ?_)|exact HR141.out)) hb)
                    have n5_:=Aside0.mk (below_step (by repeat (first|(with_reducible first|exact HB.out|apply below_alloc|apply pw_below_drewN|apply below_drew1)|exact HB.out)) hb)
                    clear HO_3
                    clear HO124
                    clear HR128
                    clear HR141
                    clear HB
                    have HO_3:=n0_
                    have HO124:=n1_
                    have HO134:=n2_
                    have HR128:=n3_
                    have HR141:=n4_
                    have HB:=n5_
                    clear n0_ n1_ n2_ n3_ n4_ n5_
                    clear hb ho29
                    refine hK.out _ _ trivial (fun hHeld=>?_)
                    clear hK K
                    refine norm_ (a':=?_) ?_ ?_
                    rotate_left
                    ·show Act.put _ (some 56) _=_
                     simp only [Act.put,List.setIfInBounds_toArray,List.set_cons_zero,List.set_cons_succ,i64_w,i32_w]
                     rfl
                    refine one_ (i:=4) (N:=some 54) #[true,true,true,true,true,true,true,false,true,true,true,false,false] rfl rfl (one_of HT_.out (by kernel_rfl)) (by decide) (fun K hK=>?_)
                    refine Kd.R_append_rows_step (Kd.int .i64) (w0:=w) w.heap.size (by rfl) (.tmp 50) (.tmp 53) 41 3 (.int .i64 0) 8 rfl Try.underlying41 info3 rfl (by decide) (by omega) v123 y122 y125 _ _ _ (fun k_=>some k_≠(.slice (some ad116) x3_1.length co22:Value).ownBlock∧some k_≠(v133:Value).ownBlock) (fun _=>False) rfl rfl ?aO ?aR (fun _ _ h=>h) (fun _ h=>h.elim) ?aF ?aB ?aS ?aL ?_
                    (case aR=>repeat (first|exact (by repeat (first|(with_reducible exact HR128.out)|(with_reducible refine Kd.C_alloc ?_ _)|(with_reducible refine Kd.C_drewN ?_ _)|(with_reducible refine Kd.C_drew ?_)|exact HR128.out))|(with_reducible refine Kd.C_alloc ?_ _)|(with_reducible refine Kd.C_drewN ?_ _)|(with_reducible refine Kd.C_drew ?_)))
                    (case aB=>exact (by repeat (first|(with_reducible first|exact HB.out|apply below_alloc|apply pw_below_drewN|apply below_drew1)|exact HB.out)))
                    (case aF=>exact (fun k_ hk=>⟨Kd.fresh' (Kd.R_lt (by (with_reducible repeat (first|apply Kd.R_alloc|apply Kd.R_drewN|apply Kd.R_drew));exact HO_3.out)) k_ hk,Kd.fresh' (Kd.R_lt (by (with_reducible repeat (first|apply Kd.R_alloc|apply Kd.R_drewN|apply Kd.R_drew));exact HO134.out)) k_ hk⟩))
                    (case aO=>exact (by (with_reducible repeat (first|apply Kd.R_alloc|apply Kd.R_drewN|apply Kd.R_drew));exact Kd.R_mono HO124.out (fun _ hk=>⟨hk.1.2,hk.2⟩)))
                    (case aS=>exact (below_size (by repeat (first|(with_reducible first|exact HB.out|apply below_alloc|apply pw_below_drewN|apply below_drew1)|exact HB.out))))
                    (case aL=>have:=LMc16.out;omega)
                    intro v130 w30 ho hb hg hat
                    rw [←Ny129.out] at ho
                    have n0_:=Aside0.mk (Kd.R_after (ok:=(fun k_=>some k_≠(v133:Value).ownBlock)) (by (with_reducible repeat (first|apply Kd.R_alloc|apply Kd.R_drewN|apply Kd.R_drew));exact Kd.R_mono HO_3.out (fun _ hk=>⟨hk.2,hk.1.2⟩)) hg hat)
                    have n1_:=Aside0.mk (Kd.R_after (ok:=(fun k_=>some k_≠(.slice (some ad116) x3_1.length co22:Value).ownBlock)) (by (with_reducible repeat (first|apply Kd.R_alloc|apply Kd.R_drewN|apply Kd.R_drew));exact Kd.R_mono HO134.out (fun _ hk=>⟨hk.1.2,hk.2⟩)) hg hat)
                    have n2_:=Aside0.mk (hb)
                    have n3_:=Aside0.mk ((show Kd.C (Kd.int .i64) w30 (some ad116) y125.length y125 from by rw [Ny125.out];exact Kd.C_take (m:=(x5_2:Int).toNat) ((Kd.R_reads' (Kd.R_after (ok:=(fun k_=>some k_≠(v133:Value).ownBlock)) (by (with_reducible repeat (first|apply Kd.R_alloc|apply Kd.R_drewN|apply Kd.R_drew));exact Kd.R_mono HO_3.out (fun _ hk=>⟨hk.2,hk.1.2⟩)) hg hat)).2.2) KL24.out))
                    have n4_:=Aside0.mk ((show Kd.C (Kd.int .i64) w30 A25 y138.length y138 from by rw [Ny138.out,KA25.out];exact Kd.C_drop (m:=(x5_2:Int).toNat) (c:=co22) ((Kd.R_reads' (Kd.R_after (ok:=(fun k_=>some k_≠(v133:Value).ownBlock)) (by (with_reducible repeat (first|apply Kd.R_alloc|apply Kd.R_drewN|apply Kd.R_drew));exact Kd.R_mono HO_3.out (fun _ hk=>⟨hk.2,hk.1.2⟩)) hg hat)).2.2) KL25.out ((Kd.R_reads' (Kd.R_after (ok:=(fun k_=>some k_≠(v133:Value).ownBlock)) (by (with_reducible repeat (first|apply Kd.R_alloc|apply Kd.R_drewN|apply Kd.R_drew));exact Kd.R_mono HO_3.out (fun _ hk=>⟨hk.2,hk.1.2⟩)) hg hat)).2.1)))
                    have n5_:=Aside0.mk (ho)
                    clear HO_3
                    clear HO134
                    clear HB
                    clear HR128
                    clear HR141
                    clear HO124
                    have HO_3:=n0_
                    have HO134:=n1_
                    have HB:=n2_
                    have HR128:=n3_
                    have HR141:=n4_
                    have HO131:=n5_
                    clear n0_ n1_ n2_ n3_ n4_ n5_
                    clear ho hb hg hat
                    refine hK.out _ _ trivial (fun hHeld=>?_)
                    clear hK K
                    refine norm_ (a':=?_) ?_ ?_
                    rotate_left
                    ·show Act.put _ (some 54) _=_
                     simp only [Act.put,List.setIfInBounds_toArray,List.set_cons_zero,List.set_cons_succ,i64_w,i32_w]
                     rfl
                    exact norm_ (by simp only [putAll,Act.put,List.setIfInBounds_toArray,List.set_cons_zero,List.set_cons_succ]) (hCont (v123,v130,v133) _ ⟨(by (with_reducible repeat (first|apply Kd.R_alloc|apply Kd.R_drewN|apply Kd.R_drew));exact Kd.R_mono HO131.out (fun _ hk=>⟨hk.2,hk.1⟩)),(by (with_reducible repeat (first|apply Kd.R_alloc|apply Kd.R_drewN|apply Kd.R_drew));exact Kd.R_mono HO134.out (fun _ hk=>⟨hk.2,hk.1⟩)),(by (with_reducible repeat (first|apply Kd.R_alloc|apply Kd.R_drewN|apply Kd.R_drew));exact Kd.R_mono HO_3.out (fun _ hk=>⟨hk.2,hk.1⟩)),(by repeat (first|(with_reducible first|exact HB.out|apply below_alloc|apply pw_below_drewN|apply below_drew1)|exact HB.out))⟩)
                  ·skip
                   refine Kd.R_lit_step (Kd.int .i64) _ 3 ?hg (N:=56) ?hd (xs:=([x4_1]:List Int)) (inner:=[.int .i64 x4_1]) (ok:=fun _=>True) (okp:=fun _=>True) ?hr ?hp (fun _ hk=>hk) trivial (Below.refl _ _) (Nat.le_refl _) (by simp) ?_;(case hd=>rfl);(case hg=>rfl);(case hr=>first|(go_simp;done)|(go_simp;rfl));(case hp=>exact (Reps.one (show Kd.M (Kd.int .i64) _ _ _ x4_1 [.int .i64 x4_1] from rfl) (Reps.none _ _)))
                   intro v133 w26 ho27 hb hg_ hnew_
                   clear hg_ hnew_
                   (first|rw [←Ny132.out] at ho27|(simp only [Int.reduceToNat] at ho27;rw [←Ny132.out] at ho27))
                   have n0_:=Aside0.mk (Kd.R_elder' (by (with_reducible repeat (first|apply Kd.R_alloc|apply Kd.R_drewN|apply Kd.R_drew));exact HO_3.out) (Kd.R_base ho27) hb)
                   have n1_:=Aside0.mk (Kd.R_lower (Kd.R_new' ho27 (Kd.R_lt (by (with_reducible repeat (first|apply Kd.R_alloc|apply Kd.R_drewN|apply Kd.R_drew));exact HO_3.out))) (below_size (by repeat (first|(with_reducible first|exact HB.out|apply below_alloc|apply pw_below_drewN|apply below_drew1)|exact HB.out))))
                   have n2_:=Aside0.mk (Kd.C_below (by repeat (first|(with_reducible exact HR128.out)|(with_reducible refine Kd.C_alloc ?_ _)|(with_reducible refine Kd.C_drewN ?_ _)|(with_reducible refine Kd.C_drew ?_)|exact HR128.out)) hb)
                   have n3_:=Aside0.mk (Kd.C_below (by repeat (first|(with_reducible exact HR141.out)|(with_reducible refine Kd.C_alloc ?_ _)|(with_reducible refine Kd.C_drewN ?_ _)|(with_reducible refine Kd.C_drew ?_)|exact HR141.out)) hb)
                   have n4_:=Aside0.mk (below_step (by repeat (first|(with_reducible first|exact HB.out|apply below_alloc|apply pw_below_drewN|apply below_drew1)|exact HB.out)) hb)
                   clear HO_3
                   clear HR128
                   clear HR141
                   clear HB
                   have HO_3:=n0_
                   have HO134:=n1_
                   have HR128:=n2_
                   have HR141:=n3_
                   have HB:=n4_
                   clear n0_ n1_ n2_ n3_ n4_
                   clear hb ho27
                   refine hK.out _ _ trivial (fun hHeld=>?_)
                   clear hK K
                   refine norm_ (a':=?_) ?_ ?_
                   rotate_left
                   ·show Act.put _ (some 56) _=_
                    simp only [Act.put,List.setIfInBounds_toArray,List.set_cons_zero,List.set_cons_succ,i64_w,i32_w]
                    rfl
                   refine one_ (i:=0) (N:=some 50) #[true,true,true,true,false,true,true,false,true,true,true,false,false] rfl rfl (one_of HT_.out (by kernel_rfl)) (by decide) (fun K hK=>?_)
                   refine Kd.R_lit_step (Kd.int .i64) _ 3 ?hg (N:=50) ?hd (xs:=([]:List Int)) (inner:=[]) (ok:=fun _=>True) (okp:=fun _=>True) ?hr ?hp (fun _ hk=>hk) trivial (Below.refl _ _) (Nat.le_refl _) (by simp) ?_;(case hd=>rfl);(case hg=>rfl);(case hr=>first|(go_simp;done)|(go_simp;rfl));(case hp=>exact (Reps.none _ _))
                   intro v123 w28 ho29 hb hg_ hnew_
                   clear hg_ hnew_
                   (first|rw [←Ny122.out] at ho29|(simp only [Int.reduceToNat] at ho29;rw [←Ny122.out] at ho29))
                   have n0_:=Aside0.mk (Kd.R_elder' (by (with_reducible repeat (first|apply Kd.R_alloc|apply Kd.R_drewN|apply Kd.R_drew));exact HO_3.out) (Kd.R_base ho29) hb)
                   have n1_:=Aside0.mk (Kd.R_elder' (by (with_reducible repeat (first|apply Kd.R_alloc|apply Kd.R_drewN|apply Kd.R_drew));exact HO134.out) (Kd.R_base ho29) hb)
                   have n2_:=Aside0.mk (Kd.R_lower (Kd.R_new' (Kd.R_new' ho29 (Kd.R_lt (by (with_reducible repeat (first|apply Kd.R_alloc|apply Kd.R_drewN|apply Kd.R_drew));exact HO_3.out))) (Kd.R_lt (by (with_reducible repeat (first|apply Kd.R_alloc|apply Kd.R_drewN|apply Kd.R_drew));exact HO134.out))) (below_size (by repeat (first|(with_reducible first|exact HB.out|apply below_alloc|apply pw_below_drewN|apply below_drew1)|exact HB.out))))
                   have n3_:=Aside0.mk (Kd.C_below (by repeat (first|(with_reducible exact HR128.out)|(with_reducible refine Kd.C_alloc ?_ _)|(with_reducible refine Kd.C_drewN ?_ _)|(with_reducible refine Kd.C_drew ?_)|exact HR128.out)) hb)
                   have n4_:=Aside0.mk (Kd.C_below (by repeat (first|(with_reducible exact HR141.out)|(with_reducible refine Kd.C_alloc ?_ _)|(with_reducible refine Kd.C_drewN ?_ _)|(with_reducible refine Kd.C_drew ?_)|exact HR141.out)) hb)
                   have n5_:=Aside0.mk (below_step (by repeat (first|(with_reducible first|exact HB.out|apply below_alloc|apply pw_below_drewN|apply below_drew1)|exact HB.out)) hb)
                   clear HO_3
                   clear HO134
                   clear HR128
                   clear HR141
                   clear HB
                   have HO_3:=n0_
                   have HO134:=n1_
                   have HO124:=n2_
                   have HR128:=n3_
                   have HR141:=n4_
                   have HB:=n5_
                   clear n0_ n1_ n2_ n3_ n4_ n5_
                   clear hb ho29
                   refine hK.out _ _ trivial (fun hHeld=>?_)
                   clear hK K
                   refine norm_ (a':=?_) ?_ ?_
                   rotate_left
                   ·show Act.put _ (some 50) _=_
                    simp only [Act.put,List.setIfInBounds_toArray,List.set_cons_zero,List.set_cons_succ,i64_w,i32_w]
                    rfl
                   refine one_ (i:=4) (N:=some 54) #[true,true,true,true,true,true,true,false,true,true,true,false,false] rfl rfl (one_of HT_.out (by kernel_rfl)) (by decide) (fun K hK=>?_)
                   refine Kd.R_append_rows_step (Kd.int .i64) (w0:=w) w.heap.size (by rfl) (.tmp 50) (.tmp 53) 41 3 (.int .i64 0) 8 rfl Try.underlying41 info3 rfl (by decide) (by omega) v123 y122 y125 _ _ _ (fun k_=>some k_≠(.slice (some ad116) x3_1.length co22:Value).ownBlock∧some k_≠(v133:Value).ownBlock) (fun _=>False) rfl rfl ?aO ?aR (fun _ _ h=>h) (fun _ h=>h.elim) ?aF ?aB ?aS ?aL ?_
                   (case aR=>repeat (first|exact (by repeat (first|(with_reducible exact HR128.out)|(with_reducible refine Kd.C_alloc ?_ _)|(with_reducible refine Kd.C_drewN ?_ _)|(with_reducible refine Kd.C_drew ?_)|exact HR128.out))|(with_reducible refine Kd.C_alloc ?_ _)|(with_reducible refine Kd.C_drewN ?_ _)|(with_reducible refine Kd.C_drew ?_)))
                   (case aB=>exact (by repeat (first|(with_reducible first|exact HB.out|apply below_alloc|apply pw_below_drewN|apply below_drew1)|exact HB.out)))
                   (case aF=>exact (fun k_ hk=>⟨Kd.fresh' (Kd.R_lt (by (with_reducible repeat (first|apply Kd.R_alloc|apply Kd.R_drewN|apply Kd.R_drew));exact HO_3.out)) k_ hk,Kd.fresh' (Kd.R_lt (by (with_reducible repeat (first|apply Kd.R_alloc|apply Kd.R_drewN|apply Kd.R_drew));exact HO134.out)) k_ hk⟩))
                   (case aO=>exact (by (with_reducible repeat (first|apply Kd.R_alloc|apply Kd.R_drewN|apply Kd.R_drew));exact Kd.R_mono HO124.out (fun _ hk=>⟨hk.1.2,hk.2⟩)))
                   (case aS=>exact (below_size (by repeat (first|(with_reducible first|exact HB.out|apply below_alloc|apply pw_below_drewN|apply below_drew1)|exact HB.out))))
                   (case aL=>have:=LMc16.out;omega)
                   intro v130 w30 ho hb hg hat
                   rw [←Ny129.out] at ho
                   have n0_:=Aside0.mk (Kd.R_after (ok:=(fun k_=>some k_≠(v133:Value).ownBlock)) (by (with_reducible repeat (first|apply Kd.R_alloc|apply Kd.R_drewN|apply Kd.R_drew));exact Kd.R_mono HO_3.out (fun _ hk=>⟨hk.1.2,hk.2⟩)) hg hat)
                   have n1_:=Aside0.mk (Kd.R_after (ok:=(fun k_=>some k_≠(.slice (some ad116) x3_1.length co22:Value).ownBlock)) (by (with_reducible repeat (first|apply Kd.R_alloc|apply Kd.R_drewN|apply Kd.R_drew));exact Kd.R_mono HO134.out (fun _ hk=>⟨hk.1.2,hk.2⟩)) hg hat)
                   have n2_:=Aside0.mk (hb)
                   have n3_:=Aside0.mk ((show Kd.C (Kd.int .i64) w30 (some ad116) y125.length y125 from by rw [Ny125.out];exact Kd.C_take (m:=(x5_2:Int).toNat) ((Kd.R_reads' (Kd.R_after (ok:=(fun k_=>some k_≠(v133:Value).ownBlock)) (by (with_reducible repeat (first|apply Kd.R_alloc|apply Kd.R_drewN|apply Kd.R_drew));exact Kd.R_mono HO_3.out (fun _ hk=>⟨hk.1.2,hk.2⟩)) hg hat)).2.2) KL24.out))
                   have n4_:=Aside0.mk ((show Kd.C (Kd.int .i64) w30 A25 y138.length y138 from by rw [Ny138.out,KA25.out];exact Kd.C_drop (m:=(x5_2:Int).toNat) (c:=co22) ((Kd.R_reads' (Kd.R_after (ok:=(fun k_=>some k_≠(v133:Value).ownBlock)) (by (with_reducible repeat (first|apply Kd.R_alloc|apply Kd.R_drewN|apply Kd.R_drew));exact Kd.R_mono HO_3.out (fun _ hk=>⟨hk.1.2,hk.2⟩)) hg hat)).2.2) KL25.out ((Kd.R_reads' (Kd.R_after (ok:=(fun k_=>some k_≠(v133:Value).ownBlock)) (by (with_reducible repeat (first|apply Kd.R_alloc|apply Kd.R_drewN|apply Kd.R_drew));exact Kd.R_mono HO_3.out (fun _ hk=>⟨hk.1.2,hk.2⟩)) hg hat)).2.1)))
                   have n5_:=Aside0.mk (ho)
                   clear HO_3
                   clear HO134
                   clear HB
                   clear HR128
                   clear HR141
                   clear HO124
                   have HO_3:=n0_
                   have HO134:=n1_
                   have HB:=n2_
                   have HR128:=n3_
                   have HR141:=n4_
                   have HO131:=n5_
                   clear n0_ n1_ n2_ n3_ n4_ n5_
                   clear ho hb hg hat
                   refine hK.out _ _ trivial (fun hHeld=>?_)
                   clear hK K
                   refine norm_ (a':=?_) ?_ ?_
                   rotate_left
                   ·show Act.put _ (some 54) _=_
                    simp only [Act.put,List.setIfInBounds_toArray,List.set_cons_zero,List.set_cons_succ,i64_w,i32_w]
                    rfl
                   exact norm_ (by simp only [putAll,Act.put,List.setIfInBounds_toArray,List.set_cons_zero,List.set_cons_succ]) (hCont (v123,v130,v133) _ ⟨(by (with_reducible repeat (first|apply Kd.R_alloc|apply Kd.R_drewN|apply Kd.R_drew));exact Kd.R_mono HO131.out (fun _ hk=>⟨hk.2,hk.1⟩)),(by (with_reducible repeat (first|apply Kd.R_alloc|apply Kd.R_drewN|apply Kd.R_drew));exact Kd.R_mono HO134.out (fun _ hk=>⟨hk.2,hk.1⟩)),(by (with_reducible repeat (first|apply Kd.R_alloc|apply Kd.R_drewN|apply Kd.R_drew));exact Kd.R_mono HO_3.out (fun _ hk=>⟨hk.2,hk.1⟩)),(by repeat (first|(with_reducible first|exact HB.out|apply below_alloc|apply pw_below_drewN|apply below_drew1)|exact HB.out))⟩)
                 rintro ⟨v123,v130,v133⟩ w31 ⟨h0_,h1_,h2_,h3_⟩
                 have n0_:Aside0 (Kd.R (Kd.int .i64) 3 w31 w.heap.size (fun k_=>some k_≠(v133:Value).ownBlock∧some k_≠(.slice (some ad116) x3_1.length co22:Value).ownBlock) v130 y129):=⟨h0_⟩
                 have n1_:Aside0 (Kd.R (Kd.int .i64) 3 w31 w.heap.size (fun k_=>some k_≠(v130:Value).ownBlock∧some k_≠(.slice (some ad116) x3_1.length co22:Value).ownBlock) v133 y132):=⟨h1_⟩
                 have n2_:Aside0 (Kd.R (Kd.int .i64) 3 w31 w.heap.size (fun k_=>some k_≠(v130:Value).ownBlock∧some k_≠(v133:Value).ownBlock) (.slice (some ad116) x3_1.length co22) x3_1):=⟨h2_⟩
                 have n3_:Aside0 (Below w.heap.size w w31):=⟨h3_⟩
                 clear HO_3
                 clear HB
                 clear h0_ h1_ h2_ h3_
                 have HO131:=n0_
                 have HO134:=n1_
                 have HO_3:=n2_
                 have HB:=n3_
                 clear n0_ n1_ n2_ n3_
                 have hHeld:=trivial
                 obtain ⟨Ao33,co33,eo33⟩:=Kd.R_slice HO134.out
                 (first|subst eo33|(injection eo33 with f1_ f2_ f3_;have f4_:=f1_.symm;have f5_:=f3_.symm;clear f1_ f2_ f3_;subst f4_;subst f5_))
                 refine norm_ (a':=?_) ?_ ?_
                 rotate_left
                 ·simp only [putAll,Act.put,List.setIfInBounds_toArray,List.set_cons_zero,List.set_cons_succ]
                  rfl
                 refine one_ (i:=7) (N:=some 57) #[true,true,true,true,true,true,true,true,true,true,true,false,false] rfl rfl (one_of HT_.out (by kernel_rfl)) (by decide) (fun K hK=>?_)
                 refine Kd.R_append_rows_step (Kd.int .i64) (w0:=w) w.heap.size (by rfl) (.tmp 54) (.tmp 56) 41 3 (.int .i64 0) 8 rfl Try.underlying41 info3 rfl (by decide) (by omega) v130 y129 y132 _ _ _ (fun k_=>some k_≠(.slice (some ad116) x3_1.length co22:Value).ownBlock∧some k_≠(.slice Ao33 y132.length co33:Value).ownBlock) (fun _=>False) rfl rfl ?aO ?aR (fun _ _ h=>h) (fun _ h=>h.elim) ?aF ?aB ?aS ?aL ?_
                 (case aR=>repeat (first|exact (Kd.R_reads' HO134.out).2.2|(with_reducible refine Kd.C_alloc ?_ _)|(with_reducible refine Kd.C_drewN ?_ _)|(with_reducible refine Kd.C_drew ?_)))
                 (case aB=>exact (by repeat (first|(with_reducible first|exact HB.out|apply below_alloc|apply pw_below_drewN|apply below_drew1)|exact HB.out)))
                 (case aF=>exact (fun k_ hk=>⟨Kd.fresh' (Kd.R_lt (by (with_reducible repeat (first|apply Kd.R_alloc|apply Kd.R_drewN|apply Kd.R_drew));exact HO_3.out)) k_ hk,Kd.fresh' (Kd.R_lt (by (with_reducible repeat (first|apply Kd.R_alloc|apply Kd.R_drewN|apply Kd.R_drew));exact HO134.out)) k_ hk⟩))
                 (case aO=>exact (by (with_reducible repeat (first|apply Kd.R_alloc|apply Kd.R_drewN|apply Kd.R_drew));exact Kd.R_mono HO131.out (fun _ hk=>⟨hk.2,hk.1⟩)))
                 (case aS=>exact (below_size (by repeat (first|(with_reducible first|exact HB.out|apply below_alloc|apply pw_below_drewN|apply below_drew1)|exact HB.out))))
                 (case aL=>have:=LMc17.out;omega)
                 intro v136 w32 ho hb hg hat
                 rw [←Ny135.out] at ho
                 have n0_:=Aside0.mk (Kd.R_after (ok:=(fun k_=>some k_≠(.slice Ao33 y132.length co33:Value).ownBlock)) (by (with_reducible repeat (first|apply Kd.R_alloc|apply Kd.R_drewN|apply Kd.R_drew));exact Kd.R_mono HO_3.out (fun _ hk=>⟨hk.2,hk.1⟩)) hg hat)
                 have n1_:=Aside0.mk (Kd.R_after (ok:=(fun k_=>some k_≠(.slice (some ad116) x3_1.length co22:Value).ownBlock)) (by (with_reducible repeat (first|apply Kd.R_alloc|apply Kd.R_drewN|apply Kd.R_drew));exact Kd.R_mono HO134.out (fun _ hk=>⟨hk.2,hk.1⟩)) hg hat)
                 have n2_:=Aside0.mk (hb)
                 have n3_:=Aside0.mk (ho)
                 clear HO_3
                 clear HO134
                 clear HB
                 clear HO131
                 have HO_3:=n0_
                 have HO134:=n1_
                 have HB:=n2_
                 have HO137:=n3_
                 clear n0_ n1_ n2_ n3_
                 clear ho hb hg hat
                 refine hK.out _ _ trivial (fun hHeld=>?_)
                 clear hK K
                 refine norm_ (a':=?_) ?_ ?_
                 rotate_left
                 ·show Act.put _ (some 57) _=_
                  simp only [Act.put,List.setIfInBounds_toArray,List.set_cons_zero,List.set_cons_succ,i64_w,i32_w]
                  rfl
                 refine one_ (i:=11) (N:=some 61) #[true,true,true,true,true,true,true,true,true,true,true,true,false] rfl rfl (one_of HT_.out (by kernel_rfl)) (by decide) (fun K hK=>?_)
                 refine Kd.R_append_rows_step (Kd.int .i64) (w0:=w) w.heap.size (by rfl) (.tmp 57) (.tmp 60) 41 3 (.int .i64 0) 8 rfl Try.underlying41 info3 rfl (by decide) (by omega) v136 y135 y138 _ _ _ (fun k_=>some k_≠(.slice (some ad116) x3_1.length co22:Value).ownBlock∧some k_≠(.slice Ao33 y132.length co33:Value).ownBlock) (fun _=>False) rfl rfl ?aO ?aR (fun _ _ h=>h) (fun _ h=>h.elim) ?aF ?aB ?aS ?aL ?_
                 (case aR=>exact (by rw [Ny138.out,KA25.out];first|exact Kd.C_drop (m:=(x5_2:Int).toNat) (c:=co22) ((Kd.R_reads' (HO_3.out)).2.2) KL25.out ((Kd.R_reads' (HO_3.out)).2.1)|exact Kd.C_drop (m:=(x5_2:Int).toNat) (c:=co22) ((Kd.R_reads' (by (with_reducible repeat (first|apply Kd.R_alloc|apply Kd.R_drewN|apply Kd.R_drew));exact HO_3.out)).2.2) KL25.out ((Kd.R_reads' (by (with_reducible repeat (first|apply Kd.R_alloc|apply Kd.R_drewN|apply Kd.R_drew));exact HO_3.out)).2.1)))
                 (case aB=>exact (by repeat (first|(with_reducible first|exact HB.out|apply below_alloc|apply pw_below_drewN|apply below_drew1)|exact HB.out)))
                 (case aF=>exact (fun k_ hk=>⟨Kd.fresh' (Kd.R_lt (by (with_reducible repeat (first|apply Kd.R_alloc|apply Kd.R_drewN|apply Kd.R_drew));exact HO_3.out)) k_ hk,Kd.fresh' (Kd.R_lt (by (with_reducible repeat (first|apply Kd.R_alloc|apply Kd.R_drewN|apply Kd.R_drew));exact HO134.out)) k_ hk⟩))
                 (case aO=>exact (by (with_reducible repeat (first|apply Kd.R_alloc|apply Kd.R_drewN|apply Kd.R_drew));exact HO137.out))
                 (case aS=>exact (below_size (by repeat (first|(with_reducible first|exact HB.out|apply below_alloc|apply pw_below_drewN|apply below_drew1)|exact HB.out))))
                 (case aL=>have:=LMc20.out;omega)
                 intro v143 w34 ho hb hg hat
                 rw [←Ny142.out] at ho
                 have n0_:=Aside0.mk (Kd.R_after (ok:=(fun k_=>some k_≠(.slice Ao33 y132.length co33:Value).ownBlock)) (by (with_reducible repeat (first|apply Kd.R_alloc|apply Kd.R_drewN|apply Kd.R_drew));exact HO_3.out) hg hat)
                 have n1_:=Aside0.mk (Kd.R_after (ok:=(fun k_=>some k_≠(.slice (some ad116) x3_1.length co22:Value).ownBlock)) (by (with_reducible repeat (first|apply Kd.R_alloc|apply Kd.R_drewN|apply Kd.R_drew));exact HO134.out) hg hat)
                 have n2_:=Aside0.mk (hb)
                 have n3_:=Aside0.mk (ho)
                 clear HO_3
                 clear HO134
                 clear HB
                 clear HO137
                 have HO_3:=n0_
                 have HO134:=n1_
                 have HB:=n2_
                 have HO144:=n3_
                 clear n0_ n1_ n2_ n3_
                 clear ho hb hg hat
                 refine hK.out _ _ trivial (fun hHeld=>?_)
                 clear hK K
                 refine norm_ (a':=?_) ?_ ?_
                 rotate_left
                 ·show Act.put _ (some 61) _=_
                  simp only [Act.put,List.setIfInBounds_toArray,List.set_cons_zero,List.set_cons_succ,i64_w,i32_w]
                  rfl
                 refine pure_ (i:=12) (N:=some 3) (v:=?_) (a':=?_) #[true,true,true,true,true,true,true,true,true,true,true,true,true] rfl rfl (any_of HT_.out (by kernel_rfl)) (fun _ _ _ h=>h) (Or.inl ⟨by rfl,?_⟩) ?_ ?_
                 rotate_left
                 ·intro w'
                  go_simp
                  with_reducible rfl
                 rotate_left
                 ·simp only [Act.put,List.setIfInBounds_toArray,List.set_cons_zero,List.set_cons_succ,i64_w,i32_w]
                  rfl
                 refine done_ (done_of HT_.out (by kernel_rfl)) ?_
                 try go_wp2
                 go_roundg k2
                 case measure=>have:=HK1.out;have:=HK2.out;omega
                 case rel=>exact ⟨(y142),(wrap64 (x4_1 + 1)),(by first|rfl|(simp;done)|(simp [*];done)),H',⟨by have:=HK1.out;have:=HK2.out;omega⟩,⟨by (with_reducible repeat (first|apply Kd.R_alloc|apply Kd.R_drewN|apply Kd.R_drew));exact Kd.R_mono HO144.out (fun _ hk=>trivial)⟩,⟨by repeat (first|(with_reducible first|exact HB.out|apply below_alloc|apply pw_below_drewN|apply below_drew1)|exact HB.out)⟩⟩
                ·rw [if_neg c20] at H
                 exact absurd H (by simp)
               ·rw [if_neg c17] at H
                exact absurd H (by simp)
              ·rw [if_neg c16] at H
               exact absurd H (by simp)
             ·rw [if_neg c15] at H
              exact absurd H (by simp)
           ·rw [if_neg c10] at H
            exact absurd H (by simp)
          ·rw [if_neg c9] at H
           exact absurd H (by simp)
         ·rw [if_neg c8] at H
          exact absurd H (by simp)
        ·rw [if_neg c7] at H
         exact absurd H (by simp)
       ·rw [if_neg c6] at H
        exact absurd H (by simp)
      ·rw [if_neg c5] at H
       have c5b0:decide (x5_2<(x3_1.length:Int))=false:=decide_eq_false c5
       clear c5
       obtain ⟨y145,hy145⟩:∃ y_:List Int,y_=(([]:List Int)):=⟨_,rfl⟩
       replace H:(if 0≤x5_2 then (if x5_2≤(x3_1.length:Int) then ((some (x3_1.take (x5_2:Int).toNat:List Int)).bind fun y148=>(if y145.length + y148.length<17592186044416 then ((some (y145++y148:List Int)).bind fun y152=>((some (([x4_1]:List Int):List Int)).bind fun y155=>(if y152.length + y155.length<17592186044416 then ((some (y152++y155:List Int)).bind fun y158=>((some (x3_1.drop (x5_2:Int).toNat:List Int)).bind fun y161=>(if y158.length + y161.length<17592186044416 then (spec_l10Smith.l0 k2 l0 (y158++y161) (wrap64 (x4_1 + 1))) else (none)))) else (none)))) else (none))) else (none)) else (none))=some r:=by first|(rw [hy145];with_reducible exact H)|(have H2_:=(Option.bind_some _ _).symm.trans H;rw [hy145];with_reducible exact H2_)|(have H2_:=(Option.bind_some _ _).symm.trans H;with_reducible exact H2_)|with_reducible exact H|(rw [hy145];exact H)|exact H
       have Ny145:=Aside0.mk hy145
       clear hy145
       by_cases c35:0≤x5_2
       ·rw [if_pos c35] at H
        have c35b0:=eq_true c35
        have c35b1:decide (0≤x5_2)=true:=decide_eq_true c35
        clear c35
        by_cases c36:x5_2≤(x3_1.length:Int)
        ·rw [if_pos c36] at H
         have c36b0:=eq_true c36
         have c36b1:decide (x5_2≤(x3_1.length:Int))=true:=decide_eq_true c36
         clear c36
         obtain ⟨y148,hy148⟩:∃ y_:List Int,y_=(x3_1.take (x5_2:Int).toNat):=⟨_,rfl⟩
         replace H:(if y145.length + y148.length<17592186044416 then ((some (y145++y148:List Int)).bind fun y152=>((some (([x4_1]:List Int):List Int)).bind fun y155=>(if y152.length + y155.length<17592186044416 then ((some (y152++y155:List Int)).bind fun y158=>((some (x3_1.drop (x5_2:Int).toNat:List Int)).bind fun y161=>(if y158.length + y161.length<17592186044416 then (spec_l10Smith.l0 k2 l0 (y158++y161) (wrap64 (x4_1 + 1))) else (none)))) else (none)))) else (none))=some r:=by first|(rw [hy148];with_reducible exact H)|(have H2_:=(Option.bind_some _ _).symm.trans H;rw [hy148];with_reducible exact H2_)|(have H2_:=(Option.bind_some _ _).symm.trans H;with_reducible exact H2_)|with_reducible exact H|(rw [hy148];exact H)|exact H
         have Ny148:=Aside0.mk hy148
         clear hy148
         by_cases c37:y145.length + y148.length<17592186044416
         ·rw [if_pos c37] at H
          have LMc37:=Aside0.mk c37
          clear c37
          obtain ⟨y152,hy152⟩:∃ y_:List Int,y_=(y145++y148):=⟨_,rfl⟩
          replace H:((some (([x4_1]:List Int):List Int)).bind fun y155=>(if y152.length + y155.length<17592186044416 then ((some (y152++y155:List Int)).bind fun y158=>((some (x3_1.drop (x5_2:Int).toNat:List Int)).bind fun y161=>(if y158.length + y161.length<17592186044416 then (spec_l10Smith.l0 k2 l0 (y158++y161) (wrap64 (x4_1 + 1))) else (none)))) else (none)))=some r:=by first|(rw [hy152];with_reducible exact H)|(have H2_:=(Option.bind_some _ _).symm.trans H;rw [hy152];with_reducible exact H2_)|(have H2_:=(Option.bind_some _ _).symm.trans H;with_reducible exact H2_)|with_reducible exact H|(rw [hy152];exact H)|exact H
          have Ny152:=Aside0.mk hy152
          clear hy152
          obtain ⟨y155,hy155⟩:∃ y_:List Int,y_=(([x4_1]:List Int)):=⟨_,rfl⟩
          replace H:(if y152.length + y155.length<17592186044416 then ((some (y152++y155:List Int)).bind fun y158=>((some (x3_1.drop (x5_2:Int).toNat:List Int)).bind fun y161=>(if y158.length + y161.length<17592186044416 then (spec_l10Smith.l0 k2 l0 (y158++y161) (wrap64 (x4_1 + 1))) else (none)))) else (none))=some r:=by first|(rw [hy155];with_reducible exact H)|(have H2_:=(Option.bind_some _ _).symm.trans H;rw [hy155];with_reducible exact H2_)|(have H2_:=(Option.bind_some _ _).symm.trans H;with_reducible exact H2_)|with_reducible exact H|(rw [hy155];exact H)|exact H
          have Ny155:=Aside0.mk hy155
          clear hy155
          by_cases c38:y152.length + y155.length<17592186044416
          ·rw [if_pos c38] at H
           have LMc38:=Aside0.mk c38
           clear c38
           obtain ⟨y158,hy158⟩:∃ y_:List Int,y_=(y152++y155):=⟨_,rfl⟩
           replace H:((some (x3_1.drop (x5_2:Int).toNat:List Int)).bind fun y161=>(if y158.length + y161.length<17592186044416 then (spec_l10Smith.l0 k2 l0 (y158++y161) (wrap64 (x4_1 + 1))) else (none)))=some r:=by first|(rw [hy158];with_reducible exact H)|(have H2_:=(Option.bind_some _ _).symm.trans H;rw [hy158];with_reducible exact H2_)|(have H2_:=(Option.bind_some _ _).symm.trans H;with_reducible exact H2_)|with_reducible exact H|(rw [hy158];exact H)|exact H
           have Ny158:=Aside0.mk hy158
           clear hy158
           have c39b0:=eq_true (of_decide_eq_true (by first|(with_reducible assumption)|assumption):0≤x5_2)
           have c40b0:=eq_true (of_decide_eq_true (by first|(with_reducible assumption)|assumption):x5_2≤(x3_1.length:Int))
           obtain ⟨y161,hy161⟩:∃ y_:List Int,y_=(x3_1.drop (x5_2:Int).toNat):=⟨_,rfl⟩
           replace H:(if y158.length + y161.length<17592186044416 then (spec_l10Smith.l0 k2 l0 (y158++y161) (wrap64 (x4_1 + 1))) else (none))=some r:=by first|(rw [hy161];with_reducible exact H)|(have H2_:=(Option.bind_some _ _).symm.trans H;rw [hy161];with_reducible exact H2_)|(have H2_:=(Option.bind_some _ _).symm.trans H;with_reducible exact H2_)|with_reducible exact H|(rw [hy161];exact H)|exact H
           have Ny161:=Aside0.mk hy161
           clear hy161
           by_cases c41:y158.length + y161.length<17592186044416
           ·rw [if_pos c41] at H
            have LMc41:=Aside0.mk c41
            clear c41
            obtain ⟨y165,hy165⟩:∃ y_:List Int,y_=(y158++y161):=⟨_,rfl⟩
            replace H:(spec_l10Smith.l0 k2 l0 y165 (wrap64 (x4_1 + 1)))=some r:=by first|(rw [hy165];with_reducible exact H)|(have H2_:=(Option.bind_some _ _).symm.trans H;rw [hy165];with_reducible exact H2_)|(have H2_:=(Option.bind_some _ _).symm.trans H;with_reducible exact H2_)|with_reducible exact H|(rw [hy165];exact H)|exact H
            have Ny165:=Aside0.mk hy165
            clear hy165
            have H':=Aside0.mk H
            clear H
            try go_wp2
            have n0_:=Aside0.mk (Kd.R_drew HO_3.out)
            have n1_:=Aside0.mk (below_drew1 HB.out)
            clear HO_3
            clear HB
            have HO_3:=n0_
            have HB:=n1_
            clear n0_ n1_
            obtain ⟨Ao43,co43,eo43⟩:=Kd.R_slice HO_3.out
            (first|subst eo43|(injection eo43 with f1_ f2_ f3_;have f4_:=f1_.symm;have f5_:=f3_.symm;clear f1_ f2_ f3_;subst f4_;subst f5_))
            refine start_ (n:=35) (S:=fun w'=>True) (ds:=[]) #[false,false,false,false,false,false,false,false,false,false,false,false,false,false,false,false,false,false,false,false,false,false,false,false,false,false,false,false,false,false,false,false,false,false,false] (by kernel_rfl) rfl rfl trivial (fun hHeld=>?_);refine with_tabW spec_l10Smith.tab6 spec_l10Smith.bits6 (fun HT_ HW_=>?_)
            generalize wr.drew=w42 at HO_3 HB hHeld ⊢
            refine pure_ (i:=0) (N:=some 13) (v:=?_) (a':=?_) #[true,false,false,false,false,false,false,false,false,false,false,false,false,false,false,false,false,false,false,false,false,false,false,false,false,false,false,false,false,false,false,false,false,false,false] rfl rfl (any_of HT_.out (by kernel_rfl)) (fun _ _ _ h=>h) (Or.inl ⟨by rfl,?_⟩) ?_ ?_
            rotate_left
            ·intro w'
             go_simp
             with_reducible rfl
            rotate_left
            ·simp only [Act.put,List.setIfInBounds_toArray,List.set_cons_zero,List.set_cons_succ,i64_w,i32_w]
             rfl
            refine pure_ (i:=1) (N:=some 14) (v:=?_) (a':=?_) #[true,true,false,false,false,false,false,false,false,false,false,false,false,false,false,false,false,false,false,false,false,false,false,false,false,false,false,false,false,false,false,false,false,false,false] rfl rfl (any_of HT_.out (by kernel_rfl)) (fun _ _ _ h=>h) (Or.inl ⟨by rfl,?_⟩) ?_ ?_
            rotate_left
            ·intro w'
             go_simp
             with_reducible rfl
            rotate_left
            ·simp only [Act.put,List.setIfInBounds_toArray,List.set_cons_zero,List.set_cons_succ,i64_w,i32_w]
             rfl
            refine pure_ (i:=2) (N:=some 15) (v:=?_) (a':=?_) #[true,true,true,false,false,false,false,false,false,false,false,false,false,false,false,false,false,false,false,false,false,false,false,false,false,false,false,false,false,false,false,false,false,false,false] rfl rfl (any_of HT_.out (by kernel_rfl)) (fun _ _ _ h=>h) (Or.inl ⟨by rfl,?_⟩) ?_ ?_
            rotate_left
            ·intro w'
             go_simp
             with_reducible rfl
            rotate_left
            ·simp only [Act.put,List.setIfInBounds_toArray,List.set_cons_zero,List.set_cons_succ,i64_w,i32_w]
             rfl
            refine pure_ (i:=3) (N:=some 16) (v:=?_) (a':=?_) #[true,true,true,true,false,false,false,false,false,false,false,false,false,false,false,false,false,false,false,false,false,false,false,false,false,false,false,false,false,false,false,false,false,false,false] rfl rfl (any_of HT_.out (by kernel_rfl)) (fun _ _ _ h=>h) (Or.inl ⟨by rfl,?_⟩) ?_ ?_
            rotate_left
            ·intro w'
             go_simp
             with_reducible rfl
            rotate_left
            ·simp only [Act.put,List.setIfInBounds_toArray,List.set_cons_zero,List.set_cons_succ,i64_w,i32_w]
             rfl
            refine pure_ (i:=4) (N:=some 17) (v:=?_) (a':=?_) #[true,true,true,true,true,false,false,false,false,false,false,false,false,false,false,false,false,false,false,false,false,false,false,false,false,false,false,false,false,false,false,false,false,false,false] rfl rfl (any_of HT_.out (by kernel_rfl)) (fun _ _ _ h=>h) (Or.inl ⟨by rfl,?_⟩) ?_ ?_
            rotate_left
            ·intro w'
             go_simp
             with_reducible rfl
            rotate_left
            ·simp only [Act.put,List.setIfInBounds_toArray,List.set_cons_zero,List.set_cons_succ,i64_w,i32_w]
             rfl
            refine pure_ (i:=5) (N:=some 18) (v:=undef) (a':=?_) #[true,true,true,true,true,true,false,false,false,false,false,false,false,false,false,false,false,false,false,false,false,false,false,false,false,false,false,false,false,false,false,false,false,false,false] rfl rfl (any_of HT_.out (by kernel_rfl)) (fun _ _ _ h=>h) (Or.inr ⟨by rfl,rfl⟩) ?_ ?_
            rotate_left
            ·simp only [Act.put,List.setIfInBounds_toArray,List.set_cons_zero,List.set_cons_succ,i64_w,i32_w]
             rfl
            refine pure_ (i:=6) (N:=some 19) (v:=undef) (a':=?_) #[true,true,true,true,true,true,true,false,false,false,false,false,false,false,false,false,false,false,false,false,false,false,false,false,false,false,false,false,false,false,false,false,false,false,false] rfl rfl (any_of HT_.out (by kernel_rfl)) (fun _ _ _ h=>h) (Or.inr ⟨by rfl,rfl⟩) ?_ ?_
            rotate_left
            ·simp only [Act.put,List.setIfInBounds_toArray,List.set_cons_zero,List.set_cons_succ,i64_w,i32_w]
             rfl
            refine pure_ (i:=7) (N:=some 20) (v:=undef) (a':=?_) #[true,true,true,true,true,true,true,true,false,false,false,false,false,false,false,false,false,false,false,false,false,false,false,false,false,false,false,false,false,false,false,false,false,false,false] rfl rfl (any_of HT_.out (by kernel_rfl)) (fun _ _ _ h=>h) (Or.inr ⟨by rfl,rfl⟩) ?_ ?_
            rotate_left
            ·simp only [Act.put,List.setIfInBounds_toArray,List.set_cons_zero,List.set_cons_succ,i64_w,i32_w]
             rfl
            refine pure_ (i:=8) (N:=some 21) (v:=undef) (a':=?_) #[true,true,true,true,true,true,true,true,true,false,false,false,false,false,false,false,false,false,false,false,false,false,false,false,false,false,false,false,false,false,false,false,false,false,false] rfl rfl (any_of HT_.out (by kernel_rfl)) (fun _ _ _ h=>h) (Or.inr ⟨by rfl,rfl⟩) ?_ ?_
            rotate_left
            ·simp only [Act.put,List.setIfInBounds_toArray,List.set_cons_zero,List.set_cons_succ,i64_w,i32_w]
             rfl
            refine pure_ (i:=9) (N:=some 22) (v:=undef) (a':=?_) #[true,true,true,true,true,true,true,true,true,true,false,false,false,false,false,false,false,false,false,false,false,false,false,false,false,false,false,false,false,false,false,false,false,false,false] rfl rfl (any_of HT_.out (by kernel_rfl)) (fun _ _ _ h=>h) (Or.inr ⟨by rfl,rfl⟩) ?_ ?_
            rotate_left
            ·simp only [Act.put,List.setIfInBounds_toArray,List.set_cons_zero,List.set_cons_succ,i64_w,i32_w]
             rfl
            refine pure_ (i:=10) (N:=some 23) (v:=undef) (a':=?_) #[true,true,true,true,true,true,true,true,true,true,true,false,false,false,false,false,false,false,false,false,false,false,false,false,false,false,false,false,false,false,false,false,false,false,false] rfl rfl (any_of HT_.out (by kernel_rfl)) (fun _ _ _ h=>h) (Or.inr ⟨by rfl,rfl⟩) ?_ ?_
            rotate_left
            ·simp only [Act.put,List.setIfInBounds_toArray,List.set_cons_zero,List.set_cons_succ,i64_w,i32_w]
             rfl
            refine pure_ (i:=11) (N:=some 24) (v:=undef) (a':=?_) #[true,true,true,true,true,true,true,true,true,true,true,true,false,false,false,false,false,false,false,false,false,false,false,false,false,false,false,false,false,false,false,false,false,false,false] rfl rfl (any_of HT_.out (by kernel_rfl)) (fun _ _ _ h=>h) (Or.inr ⟨by rfl,rfl⟩) ?_ ?_
            rotate_left
            ·simp only [Act.put,List.setIfInBounds_toArray,List.set_cons_zero,List.set_cons_succ,i64_w,i32_w]
             rfl
            refine pure_ (i:=12) (N:=some 25) (v:=undef) (a':=?_) #[true,true,true,true,true,true,true,true,true,true,true,true,true,false,false,false,false,false,false,false,false,false,false,false,false,false,false,false,false,false,false,false,false,false,false] rfl rfl (any_of HT_.out (by kernel_rfl)) (fun _ _ _ h=>h) (Or.inr ⟨by rfl,rfl⟩) ?_ ?_
            rotate_left
            ·simp only [Act.put,List.setIfInBounds_toArray,List.set_cons_zero,List.set_cons_succ,i64_w,i32_w]
             rfl
            refine pure_ (i:=13) (N:=some 26) (v:=undef) (a':=?_) #[true,true,true,true,true,true,true,true,true,true,true,true,true,true,false,false,false,false,false,false,false,false,false,false,false,false,false,false,false,false,false,false,false,false,false] rfl rfl (any_of HT_.out (by kernel_rfl)) (fun _ _ _ h=>h) (Or.inr ⟨by rfl,rfl⟩) ?_ ?_
            rotate_left
            ·simp only [Act.put,List.setIfInBounds_toArray,List.set_cons_zero,List.set_cons_succ,i64_w,i32_w]
             rfl
            refine pure_ (i:=14) (N:=some 27) (v:=undef) (a':=?_) #[true,true,true,true,true,true,true,true,true,true,true,true,true,true,true,false,false,false,false,false,false,false,false,false,false,false,false,false,false,false,false,false,false,false,false] rfl rfl (any_of HT_.out (by kernel_rfl)) (fun _ _ _ h=>h) (Or.inr ⟨by rfl,rfl⟩) ?_ ?_
            rotate_left
            ·simp only [Act.put,List.setIfInBounds_toArray,List.set_cons_zero,List.set_cons_succ,i64_w,i32_w]
             rfl
            refine pure_ (i:=15) (N:=some 28) (v:=undef) (a':=?_) #[true,true,true,true,true,true,true,true,true,true,true,true,true,true,true,true,false,false,false,false,false,false,false,false,false,false,false,false,false,false,false,false,false,false,false] rfl rfl (any_of HT_.out (by kernel_rfl)) (fun _ _ _ h=>h) (Or.inr ⟨by rfl,rfl⟩) ?_ ?_
            rotate_left
            ·simp only [Act.put,List.setIfInBounds_toArray,List.set_cons_zero,List.set_cons_succ,i64_w,i32_w]
             rfl
            refine pure_ (i:=16) (N:=some 29) (v:=undef) (a':=?_) #[true,true,true,true,true,true,true,true,true,true,true,true,true,true,true,true,true,false,false,false,false,false,false,false,false,false,false,false,false,false,false,false,false,false,false] rfl rfl (any_of HT_.out (by kernel_rfl)) (fun _ _ _ h=>h) (Or.inr ⟨by rfl,rfl⟩) ?_ ?_
            rotate_left
            ·simp only [Act.put,List.setIfInBounds_toArray,List.set_cons_zero,List.set_cons_succ,i64_w,i32_w]
             rfl
            refine pure_ (i:=17) (N:=some 30) (v:=undef) (a':=?_) #[true,true,true,true,true,true,true,true,true,true,true,true,true,true,true,true,true,true,false,false,false,false,false,false,false,false,false,false,false,false,false,false,false,false,false] rfl rfl (any_of HT_.out (by kernel_rfl)) (fun _ _ _ h=>h) (Or.inr ⟨by rfl,rfl⟩) ?_ ?_
            rotate_left
            ·simp only [Act.put,List.setIfInBounds_toArray,List.set_cons_zero,List.set_cons_succ,i64_w,i32_w]
             rfl
            refine pure_ (i:=18) (N:=some 31) (v:=undef) (a':=?_) #[true,true,true,true,true,true,true,true,true,true,true,true,true,true,true,true,true,true,true,false,false,false,false,false,false,false,false,false,false,false,false,false,false,false,false] rfl rfl (any_of HT_.out (by kernel_rfl)) (fun _ _ _ h=>h) (Or.inr ⟨by rfl,rfl⟩) ?_ ?_
            rotate_left
            ·simp only [Act.put,List.setIfInBounds_toArray,List.set_cons_zero,List.set_cons_succ,i64_w,i32_w]
             rfl
            refine pure_ (i:=19) (N:=some 32) (v:=undef) (a':=?_) #[true,true,true,true,true,true,true,true,true,true,true,true,true,true,true,true,true,true,true,true,false,false,false,false,false,false,false,false,false,false,false,false,false,false,false] rfl rfl (any_of HT_.out (by kernel_rfl)) (fun _ _ _ h=>h) (Or.inr ⟨by rfl,rfl⟩) ?_ ?_
            rotate_left
            ·simp only [Act.put,List.setIfInBounds_toArray,List.set_cons_zero,List.set_cons_succ,i64_w,i32_w]
             rfl
            refine pure_ (i:=20) (N:=some 33) (v:=undef) (a':=?_) #[true,true,true,true,true,true,true,true,true,true,true,true,true,true,true,true,true,true,true,true,true,false,false,false,false,false,false,false,false,false,false,false,false,false,false] rfl rfl (any_of HT_.out (by kernel_rfl)) (fun _ _ _ h=>h) (Or.inr ⟨by rfl,rfl⟩) ?_ ?_
            rotate_left
            ·simp only [Act.put,List.setIfInBounds_toArray,List.set_cons_zero,List.set_cons_succ,i64_w,i32_w]
             rfl
            refine pure_ (i:=21) (N:=some 34) (v:=undef) (a':=?_) #[true,true,true,true,true,true,true,true,true,true,true,true,true,true,true,true,true,true,true,true,true,true,false,false,false,false,false,false,false,false,false,false,false,false,false] rfl rfl (any_of HT_.out (by kernel_rfl)) (fun _ _ _ h=>h) (Or.inr ⟨by rfl,rfl⟩) ?_ ?_
            rotate_left
            ·simp only [Act.put,List.setIfInBounds_toArray,List.set_cons_zero,List.set_cons_succ,i64_w,i32_w]
             rfl
            refine pure_ (i:=22) (N:=some 35) (v:=undef) (a':=?_) #[true,true,true,true,true,true,true,true,true,true,true,true,true,true,true,true,true,true,true,true,true,true,true,false,false,false,false,false,false,false,false,false,false,false,false] rfl rfl (any_of HT_.out (by kernel_rfl)) (fun _ _ _ h=>h) (Or.inr ⟨by rfl,rfl⟩) ?_ ?_
            rotate_left
            ·simp only [Act.put,List.setIfInBounds_toArray,List.set_cons_zero,List.set_cons_succ,i64_w,i32_w]
             rfl
            refine pure_ (i:=23) (N:=some 36) (v:=undef) (a':=?_) #[true,true,true,true,true,true,true,true,true,true,true,true,true,true,true,true,true,true,true,true,true,true,true,true,false,false,false,false,false,false,false,false,false,false,false] rfl rfl (any_of HT_.out (by kernel_rfl)) (fun _ _ _ h=>h) (Or.inr ⟨by rfl,rfl⟩) ?_ ?_
            rotate_left
            ·simp only [Act.put,List.setIfInBounds_toArray,List.set_cons_zero,List.set_cons_succ,i64_w,i32_w]
             rfl
            refine pure_ (i:=24) (N:=some 37) (v:=undef) (a':=?_) #[true,true,true,true,true,true,true,true,true,true,true,true,true,true,true,true,true,true,true,true,true,true,true,true,true,false,false,false,false,false,false,false,false,false,false] rfl rfl (any_of HT_.out (by kernel_rfl)) (fun _ _ _ h=>h) (Or.inr ⟨by rfl,rfl⟩) ?_ ?_
            rotate_left
            ·simp only [Act.put,List.setIfInBounds_toArray,List.set_cons_zero,List.set_cons_succ,i64_w,i32_w]
             rfl
            refine pure_ (i:=25) (N:=some 38) (v:=undef) (a':=?_) #[true,true,true,true,true,true,true,true,true,true,true,true,true,true,true,true,true,true,true,true,true,true,true,true,true,true,false,false,false,false,false,false,false,false,false] rfl rfl (any_of HT_.out (by kernel_rfl)) (fun _ _ _ h=>h) (Or.inr ⟨by rfl,rfl⟩) ?_ ?_
            rotate_left
            ·simp only [Act.put,List.setIfInBounds_toArray,List.set_cons_zero,List.set_cons_succ,i64_w,i32_w]
             rfl
            refine pure_ (i:=26) (N:=some 39) (v:=undef) (a':=?_) #[true,true,true,true,true,true,true,true,true,true,true,true,true,true,true,true,true,true,true,true,true,true,true,true,true,true,true,false,false,false,false,false,false,false,false] rfl rfl (any_of HT_.out (by kernel_rfl)) (fun _ _ _ h=>h) (Or.inr ⟨by rfl,rfl⟩) ?_ ?_
            rotate_left
            ·simp only [Act.put,List.setIfInBounds_toArray,List.set_cons_zero,List.set_cons_succ,i64_w,i32_w]
             rfl
            refine pure_ (i:=27) (N:=some 40) (v:=undef) (a':=?_) #[true,true,true,true,true,true,true,true,true,true,true,true,true,true,true,true,true,true,true,true,true,true,true,true,true,true,true,true,false,false,false,false,false,false,false] rfl rfl (any_of HT_.out (by kernel_rfl)) (fun _ _ _ h=>h) (Or.inr ⟨by rfl,rfl⟩) ?_ ?_
            rotate_left
            ·simp only [Act.put,List.setIfInBounds_toArray,List.set_cons_zero,List.set_cons_succ,i64_w,i32_w]
             rfl
            refine pure_ (i:=28) (N:=some 41) (v:=undef) (a':=?_) #[true,true,true,true,true,true,true,true,true,true,true,true,true,true,true,true,true,true,true,true,true,true,true,true,true,true,true,true,true,false,false,false,false,false,false] rfl rfl (any_of HT_.out (by kernel_rfl)) (fun _ _ _ h=>h) (Or.inr ⟨by rfl,rfl⟩) ?_ ?_
            rotate_left
            ·simp only [Act.put,List.setIfInBounds_toArray,List.set_cons_zero,List.set_cons_succ,i64_w,i32_w]
             rfl
            refine pure_ (i:=29) (N:=some 42) (v:=undef) (a':=?_) #[true,true,true,true,true,true,true,true,true,true,true,true,true,true,true,true,true,true,true,true,true,true,true,true,true,true,true,true,true,true,false,false,false,false,false] rfl rfl (any_of HT_.out (by kernel_rfl)) (fun _ _ _ h=>h) (Or.inr ⟨by rfl,rfl⟩) ?_ ?_
            rotate_left
            ·simp only [Act.put,List.setIfInBounds_toArray,List.set_cons_zero,List.set_cons_succ,i64_w,i32_w]
             rfl
            refine pure_ (i:=30) (N:=some 43) (v:=undef) (a':=?_) #[true,true,true,true,true,true,true,true,true,true,true,true,true,true,true,true,true,true,true,true,true,true,true,true,true,true,true,true,true,true,true,false,false,false,false] rfl rfl (any_of HT_.out (by kernel_rfl)) (fun _ _ _ h=>h) (Or.inr ⟨by rfl,rfl⟩) ?_ ?_
            rotate_left
            ·simp only [Act.put,List.setIfInBounds_toArray,List.set_cons_zero,List.set_cons_succ,i64_w,i32_w]
             rfl
            refine pure_ (i:=31) (N:=some 44) (v:=undef) (a':=?_) #[true,true,true,true,true,true,true,true,true,true,true,true,true,true,true,true,true,true,true,true,true,true,true,true,true,true,true,true,true,true,true,true,false,false,false] rfl rfl (any_of HT_.out (by kernel_rfl)) (fun _ _ _ h=>h) (Or.inr ⟨by rfl,rfl⟩) ?_ ?_
            rotate_left
            ·simp only [Act.put,List.setIfInBounds_toArray,List.set_cons_zero,List.set_cons_succ,i64_w,i32_w]
             rfl
            refine pure_ (i:=32) (N:=some 45) (v:=undef) (a':=?_) #[true,true,true,true,true,true,true,true,true,true,true,true,true,true,true,true,true,true,true,true,true,true,true,true,true,true,true,true,true,true,true,true,true,false,false] rfl rfl (any_of HT_.out (by kernel_rfl)) (fun _ _ _ h=>h) (Or.inr ⟨by rfl,rfl⟩) ?_ ?_
            rotate_left
            ·simp only [Act.put,List.setIfInBounds_toArray,List.set_cons_zero,List.set_cons_succ,i64_w,i32_w]
             rfl
            refine pure_ (i:=33) (N:=some 46) (v:=undef) (a':=?_) #[true,true,true,true,true,true,true,true,true,true,true,true,true,true,true,true,true,true,true,true,true,true,true,true,true,true,true,true,true,true,true,true,true,true,false] rfl rfl (any_of HT_.out (by kernel_rfl)) (fun _ _ _ h=>h) (Or.inr ⟨by rfl,rfl⟩) ?_ ?_
            rotate_left
            ·simp only [Act.put,List.setIfInBounds_toArray,List.set_cons_zero,List.set_cons_succ,i64_w,i32_w]
             rfl
            refine pure_ (i:=34) (N:=some 47) (v:=?_) (a':=?_) #[true,true,true,true,true,true,true,true,true,true,true,true,true,true,true,true,true,true,true,true,true,true,true,true,true,true,true,true,true,true,true,true,true,true,true] rfl rfl (any_of HT_.out (by kernel_rfl)) (fun _ _ _ h=>h) (Or.inl ⟨by rfl,?_⟩) ?_ ?_
            rotate_left
            ·intro w'
             go_simp
             with_reducible rfl
            rotate_left
            ·simp only [Act.put,List.setIfInBounds_toArray,List.set_cons_zero,List.set_cons_succ,i64_w,i32_w]
             rfl
            refine done_ (done_of HT_.out (by kernel_rfl)) ?_
            try go_wp2
            have n0_:=Aside0.mk (Kd.R_drew HO_3.out)
            have n1_:=Aside0.mk (below_drew1 HB.out)
            clear HO_3
            clear HB
            have HO_3:=n0_
            have HB:=n1_
            clear n0_ n1_
            have q45:(x5_2:Int)≤((x3_1.length:Int):Int):=of_decide_eq_true (by first|(with_reducible assumption)|assumption)
            obtain ⟨i045,hi045,_,hsz45,_⟩:=info_parts info3
            have hroom45:x3_1.length≤co43:=(Kd.R_reads' HO_3.out).2.1
            have hC45:Kd.C (Kd.int .i64) _ Ao43 x3_1.length x3_1:=(Kd.R_reads' HO_3.out).2.2
            have hcut45:=cut_to (P:=Try.prog) 41 3 .i64 Try.underlying41 hi045 Ao43 x3_1.length co43 x5_2 (of_decide_eq_true (by first|(with_reducible assumption)|assumption)) q45 hroom45
            have hr45:=Kd.C_take (m:=(x5_2:Int).toNat) hC45 (by omega)
            have hy45:y148.length=(x5_2:Int).toNat:=(by rw [Ny148.out,List.length_take];omega)
            rw [←Ny148.out] at hr45
            rw [←hy45] at hcut45
            have HR151:=Aside0.mk hr45
            have HC151:=Aside0.mk (show y148.length≤co43 from by omega)
            clear hr45 hC45 hroom45 hi045 hsz45
            have KY45:=Aside0.mk hy45
            clear hy45
            have KL45:=Aside0.mk (show (x5_2:Int).toNat≤x3_1.length from by omega)
            replace q45:=eq_true q45
            have q46:(x5_2:Int)≤((x3_1.length:Int):Int):=of_decide_eq_true (by first|(with_reducible assumption)|assumption)
            obtain ⟨i046,hi046,_,hsz46,_⟩:=info_parts info3
            have hroom46:x3_1.length≤co43:=(Kd.R_reads' HO_3.out).2.1
            have hC46:Kd.C (Kd.int .i64) _ Ao43 x3_1.length x3_1:=(Kd.R_reads' HO_3.out).2.2
            have q046:(0:Int)≤(x5_2:Int):=of_decide_eq_true (by first|(with_reducible assumption)|assumption)
            have hcut46:=cut_from (P:=Try.prog) 41 3 .i64 Try.underlying41 hi046 1 hsz46 Ao43 x3_1.length co43 x5_2 q046 q46
            have hr46:=Kd.C_drop (m:=(x5_2:Int).toNat) (c:=co43) hC46 (by omega) hroom46
            obtain ⟨A46,hA46⟩:∃ Az_,Az_=(if co43=(x5_2:Int).toNat then Ao43 else (Ao43:Option Addr).map (·.add ((x5_2:Int).toNat * 1))):=⟨_,rfl⟩
            obtain ⟨c46,hc46⟩:∃ cz_,cz_=co43 - (x5_2:Int).toNat:=⟨_,rfl⟩
            have hy46:y161.length=x3_1.length - (x5_2:Int).toNat:=(by rw [Ny161.out,List.length_drop] <;> omega)
            rw [show (x3_1).drop (x5_2:Int).toNat=y161 from Ny161.out.symm] at hr46
            replace hr46:Kd.C (Kd.int .i64) _ A46 y161.length y161:=(by rw [hA46];exact hr46)
            rw [←hy46,←hA46,←hc46] at hcut46
            have HR164:=Aside0.mk hr46
            have HC164:=Aside0.mk (show y161.length≤c46 from by rw [hy46,hc46];exact Nat.sub_le_sub_right hroom46 _)
            clear hr46 hC46 hroom46 hi046 hsz46 hc46
            have KY46:=Aside0.mk hy46
            have KA46:=Aside0.mk hA46
            clear hy46 hA46
            have KL46:=Aside0.mk (show (x5_2:Int).toNat≤x3_1.length from by omega)
            replace q46:=eq_true q46
            refine start_ (n:=13) (S:=fun w'=>True) (ds:=[]) #[false,false,false,false,false,false,false,false,false,false,false,false,false] (by kernel_rfl) rfl rfl trivial (fun hHeld=>?_);refine with_tabW spec_l10Smith.tab8 spec_l10Smith.bits8 (fun HT_ HW_=>?_)
            generalize w42.drew=w44 at HO_3 HB HR151 HR164 hHeld ⊢
            refine pure_ (i:=1) (N:=some 51) (v:=?_) (a':=?_) #[false,true,false,false,false,false,false,false,false,false,false,false,false] rfl rfl (any_of HT_.out (by kernel_rfl)) (fun _ _ _ h=>h) (Or.inl ⟨by rfl,?_⟩) ?_ ?_
            rotate_left
            ·intro w'
             go_simp
             with_reducible rfl
            rotate_left
            ·simp only [Act.put,List.setIfInBounds_toArray,List.set_cons_zero,List.set_cons_succ,i64_w,i32_w]
             rfl
            refine pure_ (i:=2) (N:=some 52) (v:=?_) (a':=?_) #[false,true,true,false,false,false,false,false,false,false,false,false,false] rfl rfl (any_of HT_.out (by kernel_rfl)) (fun _ _ _ h=>h) (Or.inl ⟨by rfl,?_⟩) ?_ ?_
            rotate_left
            ·intro w'
             go_simp
             with_reducible rfl
            rotate_left
            ·simp only [Act.put,List.setIfInBounds_toArray,List.set_cons_zero,List.set_cons_succ,i64_w,i32_w]
             rfl
            refine pure_ (i:=3) (N:=some 53) (v:=?_) (a':=?_) #[false,true,true,true,false,false,false,false,false,false,false,false,false] rfl rfl (any_of HT_.out (by kernel_rfl)) (fun _ _ _ h=>h) (Or.inl ⟨by rfl,?_⟩) ?_ ?_
            rotate_left
            ·intro w'
             go_simp
             with_reducible rfl
            rotate_left
            ·simp only [Act.put,List.setIfInBounds_toArray,List.set_cons_zero,List.set_cons_succ,i64_w,i32_w]
             rfl
            refine pure_ (i:=5) (N:=some 55) (v:=?_) (a':=?_) #[false,true,true,true,false,true,false,false,false,false,false,false,false] rfl rfl (any_of HT_.out (by kernel_rfl)) (fun _ _ _ h=>h) (Or.inl ⟨by rfl,?_⟩) ?_ ?_
            rotate_left
            ·intro w'
             go_simp
             with_reducible rfl
            rotate_left
            ·simp only [Act.put,List.setIfInBounds_toArray,List.set_cons_zero,List.set_cons_succ,i64_w,i32_w]
             rfl
            refine pure_ (i:=8) (N:=some 58) (v:=?_) (a':=?_) #[false,true,true,true,false,true,false,false,true,false,false,false,false] rfl rfl (any_of HT_.out (by kernel_rfl)) (fun _ _ _ h=>h) (Or.inl ⟨by rfl,?_⟩) ?_ ?_
            rotate_left
            ·intro w'
             go_simp
             with_reducible rfl
            rotate_left
            ·simp only [Act.put,List.setIfInBounds_toArray,List.set_cons_zero,List.set_cons_succ,i64_w,i32_w]
             rfl
            refine pure_ (i:=9) (N:=some 59) (v:=?_) (a':=?_) #[false,true,true,true,false,true,false,false,true,true,false,false,false] rfl rfl (any_of HT_.out (by kernel_rfl)) (fun _ _ _ h=>h) (Or.inl ⟨by rfl,?_⟩) ?_ ?_
            rotate_left
            ·intro w'
             go_simp
             with_reducible rfl
            rotate_left
            ·simp only [Act.put,List.setIfInBounds_toArray,List.set_cons_zero,List.set_cons_succ,i64_w,i32_w]
             rfl
            refine pure_ (i:=10) (N:=some 60) (v:=?_) (a':=?_) #[false,true,true,true,false,true,false,false,true,true,true,false,false] rfl rfl (any_of HT_.out (by kernel_rfl)) (fun _ _ _ h=>h) (Or.inl ⟨by rfl,?_⟩) ?_ ?_
            rotate_left
            ·intro w'
             go_simp
             with_reducible rfl
            rotate_left
            ·simp only [Act.put,List.setIfInBounds_toArray,List.set_cons_zero,List.set_cons_succ,i64_w,i32_w]
             rfl
            refine join_ (σ:=Value × Value × Value) 3 #[true,true,true,true,true,true,true,false,true,true,true,false,false] (fun s_=>[(50,s_.1),(54,s_.2.1),(56,s_.2.2)]) (fun s_ w'=>(Kd.R (Kd.int .i64) 3 w' w.heap.size (fun k_=>some k_≠(s_.2.2:Value).ownBlock∧some k_≠(.slice Ao43 x3_1.length co43:Value).ownBlock) s_.2.1 y152)∧(Kd.R (Kd.int .i64) 3 w' w.heap.size (fun k_=>some k_≠(s_.2.1:Value).ownBlock∧some k_≠(.slice Ao43 x3_1.length co43:Value).ownBlock) s_.2.2 y155)∧(Kd.R (Kd.int .i64) 3 w' w.heap.size (fun k_=>some k_≠(s_.2.1:Value).ownBlock∧some k_≠(s_.2.2:Value).ownBlock) (.slice Ao43 x3_1.length co43) x3_1)∧(Below w.heap.size w w')) ?_ ?_
            rotate_left
            ·intro hCont
             refine two_ (i:=0) (j:=6) (Ni:=some 50) (Nj:=some 56) #[true,true,true,true,false,true,false,false,true,true,true,false,false] #[false,true,true,true,false,true,true,false,true,true,true,false,false] rfl rfl rfl rfl (two_of HT_.out (by kernel_rfl)) (by decide) (by decide) (fun K hK=>?_) (fun K hK=>?_)
             ·skip
              refine Kd.R_lit_step (Kd.int .i64) _ 3 ?hg (N:=50) ?hd (xs:=([]:List Int)) (inner:=[]) (ok:=fun _=>True) (okp:=fun _=>True) ?hr ?hp (fun _ hk=>hk) trivial (Below.refl _ _) (Nat.le_refl _) (by simp) ?_;(case hd=>rfl);(case hg=>rfl);(case hr=>first|(go_simp;done)|(go_simp;rfl));(case hp=>exact (Reps.none _ _))
              intro v146 w47 ho48 hb hg_ hnew_
              clear hg_ hnew_
              (first|rw [←Ny145.out] at ho48|(simp only [Int.reduceToNat] at ho48;rw [←Ny145.out] at ho48))
              have n0_:=Aside0.mk (Kd.R_elder' (by (with_reducible repeat (first|apply Kd.R_alloc|apply Kd.R_drewN|apply Kd.R_drew));exact HO_3.out) (Kd.R_base ho48) hb)
              have n1_:=Aside0.mk (Kd.R_lower (Kd.R_new' ho48 (Kd.R_lt (by (with_reducible repeat (first|apply Kd.R_alloc|apply Kd.R_drewN|apply Kd.R_drew));exact HO_3.out))) (below_size (by repeat (first|(with_reducible first|exact HB.out|apply below_alloc|apply pw_below_drewN|apply below_drew1)|exact HB.out))))
              have n2_:=Aside0.mk (Kd.C_below (by repeat (first|(with_reducible exact HR151.out)|(with_reducible refine Kd.C_alloc ?_ _)|(with_reducible refine Kd.C_drewN ?_ _)|(with_reducible refine Kd.C_drew ?_)|exact HR151.out)) hb)
              have n3_:=Aside0.mk (Kd.C_below (by repeat (first|(with_reducible exact HR164.out)|(with_reducible refine Kd.C_alloc ?_ _)|(with_reducible refine Kd.C_drewN ?_ _)|(with_reducible refine Kd.C_drew ?_)|exact HR164.out)) hb)
              have n4_:=Aside0.mk (below_step (by repeat (first|(with_reducible first|exact HB.out|apply below_alloc|apply pw_below_drewN|apply below_drew1)|exact HB.out)) hb)
              clear HO_3
              clear HR151
              clear HR164
              clear HB
              have HO_3:=n0_
              have HO147:=n1_
              have HR151:=n2_
              have HR164:=n3_
              have HB:=n4_
              clear n0_ n1_ n2_ n3_ n4_
              clear hb ho48
              refine hK.out _ _ trivial (fun hHeld=>?_)
              clear hK K
              refine norm_ (a':=?_) ?_ ?_
              rotate_left
              ·show Act.put _ (some 50) _=_
               simp only [Act.put,List.setIfInBounds_toArray,List.set_cons_zero,List.set_cons_succ,i64_w,i32_w]
               rfl
              refine two_ (i:=4) (j:=6) (Ni:=some 54) (Nj:=some 56) #[true,true,true,true,true,true,false,false,true,true,true,false,false] #[true,true,true,true,false,true,true,false,true,true,true,false,false] rfl rfl rfl rfl (two_of HT_.out (by kernel_rfl)) (by decide) (by decide) (fun K hK=>?_) (fun K hK=>?_)
              ·skip
               refine Kd.R_append_rows_step (Kd.int .i64) (w0:=w) w.heap.size (by rfl) (.tmp 50) (.tmp 53) 41 3 (.int .i64 0) 8 rfl Try.underlying41 info3 rfl (by decide) (by omega) v146 y145 y148 _ _ _ (fun k_=>some k_≠(.slice Ao43 x3_1.length co43:Value).ownBlock) (fun _=>False) rfl rfl ?aO ?aR (fun _ _ h=>h) (fun _ h=>h.elim) ?aF ?aB ?aS ?aL ?_
               (case aR=>repeat (first|exact (by repeat (first|(with_reducible exact HR151.out)|(with_reducible refine Kd.C_alloc ?_ _)|(with_reducible refine Kd.C_drewN ?_ _)|(with_reducible refine Kd.C_drew ?_)|exact HR151.out))|(with_reducible refine Kd.C_alloc ?_ _)|(with_reducible refine Kd.C_drewN ?_ _)|(with_reducible refine Kd.C_drew ?_)))
               (case aB=>exact (by repeat (first|(with_reducible first|exact HB.out|apply below_alloc|apply pw_below_drewN|apply below_drew1)|exact HB.out)))
               (case aF=>exact (fun k_ hk=>Kd.fresh' (Kd.R_lt (by (with_reducible repeat (first|apply Kd.R_alloc|apply Kd.R_drewN|apply Kd.R_drew));exact HO_3.out)) k_ hk))
               (case aO=>exact (by (with_reducible repeat (first|apply Kd.R_alloc|apply Kd.R_drewN|apply Kd.R_drew));exact Kd.R_mono HO147.out (fun _ hk=>hk.2)))
               (case aS=>exact (below_size (by repeat (first|(with_reducible first|exact HB.out|apply below_alloc|apply pw_below_drewN|apply below_drew1)|exact HB.out))))
               (case aL=>have:=LMc37.out;omega)
               intro v153 w49 ho hb hg hat
               rw [←Ny152.out] at ho
               have n0_:=Aside0.mk (Kd.R_after (ok:=(fun _=>True)) (by (with_reducible repeat (first|apply Kd.R_alloc|apply Kd.R_drewN|apply Kd.R_drew));exact HO_3.out) hg hat)
               have n1_:=Aside0.mk (hb)
               have n2_:=Aside0.mk ((show Kd.C (Kd.int .i64) w49 Ao43 y148.length y148 from by rw [Ny148.out];exact Kd.C_take (m:=(x5_2:Int).toNat) ((Kd.R_reads' (Kd.R_after (ok:=(fun _=>True)) (by (with_reducible repeat (first|apply Kd.R_alloc|apply Kd.R_drewN|apply Kd.R_drew));exact HO_3.out) hg hat)).2.2) KL45.out))
               have n3_:=Aside0.mk ((show Kd.C (Kd.int .i64) w49 A46 y161.length y161 from by rw [Ny161.out,KA46.out];exact Kd.C_drop (m:=(x5_2:Int).toNat) (c:=co43) ((Kd.R_reads' (Kd.R_after (ok:=(fun _=>True)) (by (with_reducible repeat (first|apply Kd.R_alloc|apply Kd.R_drewN|apply Kd.R_drew));exact HO_3.out) hg hat)).2.2) KL46.out ((Kd.R_reads' (Kd.R_after (ok:=(fun _=>True)) (by (with_reducible repeat (first|apply Kd.R_alloc|apply Kd.R_drewN|apply Kd.R_drew));exact HO_3.out) hg hat)).2.1)))
               have n4_:=Aside0.mk (ho)
               clear HO_3
               clear HB
               clear HR151
               clear HR164
               clear HO147
               have HO_3:=n0_
               have HB:=n1_
               have HR151:=n2_
               have HR164:=n3_
               have HO154:=n4_
               clear n0_ n1_ n2_ n3_ n4_
               clear ho hb hg hat
               refine hK.out _ _ trivial (fun hHeld=>?_)
               clear hK K
               refine norm_ (a':=?_) ?_ ?_
               rotate_left
               ·show Act.put _ (some 54) _=_
                simp only [Act.put,List.setIfInBounds_toArray,List.set_cons_zero,List.set_cons_succ,i64_w,i32_w]
                rfl
               refine one_ (i:=6) (N:=some 56) #[true,true,true,true,true,true,true,false,true,true,true,false,false] rfl rfl (one_of HT_.out (by kernel_rfl)) (by decide) (fun K hK=>?_)
               refine Kd.R_lit_step (Kd.int .i64) _ 3 ?hg (N:=56) ?hd (xs:=([x4_1]:List Int)) (inner:=[.int .i64 x4_1]) (ok:=fun _=>True) (okp:=fun _=>True) ?hr ?hp (fun _ hk=>hk) trivial (Below.refl _ _) (Nat.le_refl _) (by simp) ?_;(case hd=>rfl);(case hg=>rfl);(case hr=>first|(go_simp;done)|(go_simp;rfl));(case hp=>exact (Reps.one (show Kd.M (Kd.int .i64) _ _ _ x4_1 [.int .i64 x4_1] from rfl) (Reps.none _ _)))
               intro v156 w50 ho51 hb hg_ hnew_
               clear hg_ hnew_
               (first|rw [←Ny155.out] at ho51|(simp only [Int.reduceToNat] at ho51;rw [←Ny155.out] at ho51))
               have n0_:=Aside0.mk (Kd.R_elder' (by (with_reducible repeat (first|apply Kd.R_alloc|apply Kd.R_drewN|apply Kd.R_drew));exact HO_3.out) (Kd.R_base ho51) hb)
               have n1_:=Aside0.mk (Kd.R_elder' (by (with_reducible repeat (first|apply Kd.R_alloc|apply Kd.R_drewN|apply Kd.R_drew));exact HO154.out) (Kd.R_base ho51) hb)
               have n2_:=Aside0.mk (Kd.R_lower (Kd.R_new' (Kd.R_new' ho51 (Kd.R_lt (by (with_reducible repeat (first|apply Kd.R_alloc|apply Kd.R_drewN|apply Kd.R_drew));exact HO_3.out))) (Kd.R_lt (by (with_reducible repeat (first|apply Kd.R_alloc|apply Kd.R_drewN|apply Kd.R_drew));exact HO154.out))) (below_size (by repeat (first|(with_reducible first|exact HB.out|apply below_alloc|apply pw_below_drewN|apply below_drew1)|exact HB.out))))
               have n3_:=Aside0.mk (Kd.C_below (by repeat (first|(with_reducible exact HR151.out)|(with_reducible refine Kd.C_alloc ?_ _)|(with_reducible refine Kd.C_drewN ?_ _)|(with_reducible refine Kd.C_drew ?_)|exact HR151.out)) hb)
               have n4_:=Aside0.mk (Kd.C_below (by repeat (first|(with_reducible exact HR164.out)|(with_reducible refine Kd.C_alloc ?_ _)|(with_reducible refine Kd.C_drewN ?_ _)|(with_reducible refine Kd.C_drew ?_)|exact HR164.out)) hb)
               have n5_:=Aside0.mk (below_step (by repeat (first|(with_reducible first|exact HB.out|apply below_alloc|apply pw_below_drewN|apply below_drew1)|exact HB.out)) hb)
               clear HO_3
               clear HO154
               clear HR151
               clear HR164
               clear HB
               have HO_3:=n0_
               have HO154:=n1_
               have HO157:=n2_
               have HR151:=n3_
               have HR164:=n4_
               have HB:=n5_
               clear n0_ n1_ n2_ n3_ n4_ n5_
               clear hb ho51
               refine hK.out _ _ trivial (fun hHeld=>?_)
               clear hK K
               refine norm_ (a':=?_) ?_ ?_
               rotate_left
               ·show Act.put _ (some 56) _=_
                simp only [Act.put,List.setIfInBounds_toArray,List.set_cons_zero,List.set_cons_succ,i64_w,i32_w]
                rfl
               exact norm_ (by simp only [putAll,Act.put,List.setIfInBounds_toArray,List.set_cons_zero,List.set_cons_succ]) (hCont (v146,v153,v156) _ ⟨(by (with_reducible repeat (first|apply Kd.R_alloc|apply Kd.R_drewN|apply Kd.R_drew));exact Kd.R_mono HO154.out (fun _ hk=>⟨hk.2,hk.1⟩)),(by (with_reducible repeat (first|apply Kd.R_alloc|apply Kd.R_drewN|apply Kd.R_drew));exact Kd.R_mono HO157.out (fun _ hk=>⟨hk.2,hk.1.2⟩)),(by (with_reducible repeat (first|apply Kd.R_alloc|apply Kd.R_drewN|apply Kd.R_drew));exact Kd.R_mono HO_3.out (fun _ hk=>⟨hk.1.2,hk.2⟩)),(by repeat (first|(with_reducible first|exact HB.out|apply below_alloc|apply pw_below_drewN|apply below_drew1)|exact HB.out))⟩)
              ·skip
               refine Kd.R_lit_step (Kd.int .i64) _ 3 ?hg (N:=56) ?hd (xs:=([x4_1]:List Int)) (inner:=[.int .i64 x4_1]) (ok:=fun _=>True) (okp:=fun _=>True) ?hr ?hp (fun _ hk=>hk) trivial (Below.refl _ _) (Nat.le_refl _) (by simp) ?_;(case hd=>rfl);(case hg=>rfl);(case hr=>first|(go_simp;done)|(go_simp;rfl));(case hp=>exact (Reps.one (show Kd.M (Kd.int .i64) _ _ _ x4_1 [.int .i64 x4_1] from rfl) (Reps.none _ _)))
               intro v156 w49 ho50 hb hg_ hnew_
               clear hg_ hnew_
               (first|rw [←Ny155.out] at ho50|(simp only [Int.reduceToNat] at ho50;rw [←Ny155.out] at ho50))
               have n0_:=Aside0.mk (Kd.R_elder' (by (with_reducible repeat (first|apply Kd.R_alloc|apply Kd.R_drewN|apply Kd.R_drew));exact HO_3.out) (Kd.R_base ho50) hb)
               have n1_:=Aside0.mk (Kd.R_elder' (by (with_reducible repeat (first|apply Kd.R_alloc|apply Kd.R_drewN|apply Kd.R_drew));exact HO147.out) (Kd.R_base ho50) hb)
               have n2_:=Aside0.mk (Kd.R_lower (Kd.R_new' (Kd.R_new' ho50 (Kd.R_lt (by (with_reducible repeat (first|apply Kd.R_alloc|apply Kd.R_drewN|apply Kd.R_drew));exact HO_3.out))) (Kd.R_lt (by (with_reducible repeat (first|apply Kd.R_alloc|apply Kd.R_drewN|apply Kd.R_drew));exact HO147.out))) (below_size (by repeat (first|(with_reducible first|exact HB.out|apply below_alloc|apply pw_below_drewN|apply below_drew1)|exact HB.out))))
               have n3_:=Aside0.mk (Kd.C_below (by repeat (first|(with_reducible exact HR151.out)|(with_reducible refine Kd.C_alloc ?_ _)|(with_reducible refine Kd.C_drewN ?_ _)|(with_reducible refine Kd.C_drew ?_)|exact HR151.out)) hb)
               have n4_:=Aside0.mk (Kd.C_below (by repeat (first|(with_reducible exact HR164.out)|(with_reducible refine Kd.C_alloc ?_ _)|(with_reducible refine Kd.C_drewN ?_ _)|(with_reducible refine Kd.C_drew ?_)|exact HR164.out)) hb)
               have n5_:=Aside0.mk (below_step (by repeat (first|(with_reducible first|exact HB.out|apply below_alloc|apply pw_below_drewN|apply below_drew1)|exact HB.out)) hb)
               clear HO_3
               clear HO147
               clear HR151
               clear HR164
               clear HB
               have HO_3:=n0_
               have HO147:=n1_
               have HO157:=n2_
               have HR151:=n3_
               have HR164:=n4_
               have HB:=n5_
               clear n0_ n1_ n2_ n3_ n4_ n5_
               clear hb ho50
               refine hK.out _ _ trivial (fun hHeld=>?_)
               clear hK K
               refine norm_ (a':=?_) ?_ ?_
               rotate_left
               ·show Act.put _ (some 56) _=_
                simp only [Act.put,List.setIfInBounds_toArray,List.set_cons_zero,List.set_cons_succ,i64_w,i32_w]
                rfl
               refine one_ (i:=4) (N:=some 54) #[true,true,true,true,true,true,true,false,true,true,true,false,false] rfl rfl (one_of HT_.out (by kernel_rfl)) (by decide) (fun K hK=>?_)
               refine Kd.R_append_rows_step (Kd.int .i64) (w0:=w) w.heap.size (by rfl) (.tmp 50) (.tmp 53) 41 3 (.int .i64 0) 8 rfl Try.underlying41 info3 rfl (by decide) (by omega) v146 y145 y148 _ _ _ (fun k_=>some k_≠(.slice Ao43 x3_1.length co43:Value).ownBlock∧some k_≠(v156:Value).ownBlock) (fun _=>False) rfl rfl ?aO ?aR (fun _ _ h=>h) (fun _ h=>h.elim) ?aF ?aB ?aS ?aL ?_
               (case aR=>repeat (first|exact (by repeat (first|(with_reducible exact HR151.out)|(with_reducible refine Kd.C_alloc ?_ _)|(with_reducible refine Kd.C_drewN ?_ _)|(with_reducible refine Kd.C_drew ?_)|exact HR151.out))|(with_reducible refine Kd.C_alloc ?_ _)|(with_reducible refine Kd.C_drewN ?_ _)|(with_reducible refine Kd.C_drew ?_)))
               (case aB=>exact (by repeat (first|(with_reducible first|exact HB.out|apply below_alloc|apply pw_below_drewN|apply below_drew1)|exact HB.out)))
               (case aF=>exact (fun k_ hk=>⟨Kd.fresh' (Kd.R_lt (by (with_reducible repeat (first|apply Kd.R_alloc|apply Kd.R_drewN|apply Kd.R_drew));exact HO_3.out)) k_ hk,Kd.fresh' (Kd.R_lt (by (with_reducible repeat (first|apply Kd.R_alloc|apply Kd.R_drewN|apply Kd.R_drew));exact HO157.out)) k_ hk⟩))
               (case aO=>exact (by (with_reducible repeat (first|apply Kd.R_alloc|apply Kd.R_drewN|apply Kd.R_drew));exact Kd.R_mono HO147.out (fun _ hk=>⟨hk.1.2,hk.2⟩)))
               (case aS=>exact (below_size (by repeat (first|(with_reducible first|exact HB.out|apply below_alloc|apply pw_below_drewN|apply below_drew1)|exact HB.out))))
               (case aL=>have:=LMc37.out;omega)
               intro v153 w51 ho hb hg hat
               rw [←Ny152.out] at ho
               have n0_:=Aside0.mk (Kd.R_after (ok:=(fun k_=>some k_≠(v156:Value).ownBlock)) (by (with_reducible repeat (first|apply Kd.R_alloc|apply Kd.R_drewN|apply Kd.R_drew));exact Kd.R_mono HO_3.out (fun _ hk=>⟨hk.2,hk.1.2⟩)) hg hat)
               have n1_:=Aside0.mk (Kd.R_after (ok:=(fun k_=>some k_≠(.slice Ao43 x3_1.length co43:Value).ownBlock)) (by (with_reducible repeat (first|apply Kd.R_alloc|apply Kd.R_drewN|apply Kd.R_drew));exact Kd.R_mono HO157.out (fun _ hk=>⟨hk.1.2,hk.2⟩)) hg hat)
               have n2_:=Aside0.mk (hb)
               have n3_:=Aside0.mk ((show Kd.C (Kd.int .i64) w51 Ao43 y148.length y148 from by rw [Ny148.out];exact Kd.C_take (m:=(x5_2:Int).toNat) ((Kd.R_reads' (Kd.R_after (ok:=(fun k_=>some k_≠(v156:Value).ownBlock)) (by (with_reducible repeat (first|apply Kd.R_alloc|apply Kd.R_drewN|apply Kd.R_drew));exact Kd.R_mono HO_3.out (fun _ hk=>⟨hk.2,hk.1.2⟩)) hg hat)).2.2) KL45.out))
               have n4_:=Aside0.mk ((show Kd.C (Kd.int .i64) w51 A46 y161.length y161 from by rw [Ny161.out,KA46.out];exact Kd.C_drop (m:=(x5_2:Int).toNat) (c:=co43) ((Kd.R_reads' (Kd.R_after (ok:=(fun k_=>some k_≠(v156:Value).ownBlock)) (by (with_reducible repeat (first|apply Kd.R_alloc|apply Kd.R_drewN|apply Kd.R_drew));exact Kd.R_mono HO_3.out (fun _ hk=>⟨hk.2,hk.1.2⟩)) hg hat)).2.2) KL46.out ((Kd.R_reads' (Kd.R_after (ok:=(fun k_=>some k_≠(v156:Value).ownBlock)) (by (with_reducible repeat (first|apply Kd.R_alloc|apply Kd.R_drewN|apply Kd.R_drew));exact Kd.R_mono HO_3.out (fun _ hk=>⟨hk.2,hk.1.2⟩)) hg hat)).2.1)))
               have n5_:=Aside0.mk (ho)
               clear HO_3
               clear HO157
               clear HB
               clear HR151
               clear HR164
               clear HO147
               have HO_3:=n0_
               have HO157:=n1_
               have HB:=n2_
               have HR151:=n3_
               have HR164:=n4_
               have HO154:=n5_
               clear n0_ n1_ n2_ n3_ n4_ n5_
               clear ho hb hg hat
               refine hK.out _ _ trivial (fun hHeld=>?_)
               clear hK K
               refine norm_ (a':=?_) ?_ ?_
               rotate_left
               ·show Act.put _ (some 54) _=_
                simp only [Act.put,List.setIfInBounds_toArray,List.set_cons_zero,List.set_cons_succ,i64_w,i32_w]
                rfl
               exact norm_ (by simp only [putAll,Act.put,List.setIfInBounds_toArray,List.set_cons_zero,List.set_cons_succ]) (hCont (v146,v153,v156) _ ⟨(by (with_reducible repeat (first|apply Kd.R_alloc|apply Kd.R_drewN|apply Kd.R_drew));exact Kd.R_mono HO154.out (fun _ hk=>⟨hk.2,hk.1⟩)),(by (with_reducible repeat (first|apply Kd.R_alloc|apply Kd.R_drewN|apply Kd.R_drew));exact Kd.R_mono HO157.out (fun _ hk=>⟨hk.2,hk.1⟩)),(by (with_reducible repeat (first|apply Kd.R_alloc|apply Kd.R_drewN|apply Kd.R_drew));exact Kd.R_mono HO_3.out (fun _ hk=>⟨hk.2,hk.1⟩)),(by repeat (first|(with_reducible first|exact HB.out|apply below_alloc|apply pw_below_drewN|apply below_drew1)|exact HB.out))⟩)
             ·skip
              refine Kd.R_lit_step (Kd.int .i64) _ 3 ?hg (N:=56) ?hd (xs:=([x4_1]:List Int)) (inner:=[.int .i64 x4_1]) (ok:=fun _=>True) (okp:=fun _=>True) ?hr ?hp (fun _ hk=>hk) trivial (Below.refl _ _) (Nat.le_refl _) (by simp) ?_;(case hd=>rfl);(case hg=>rfl);(case hr=>first|(go_simp;done)|(go_simp;rfl));(case hp=>exact (Reps.one (show Kd.M (Kd.int .i64) _ _ _ x4_1 [.int .i64 x4_1] from rfl) (Reps.none _ _)))
              intro v156 w47 ho48 hb hg_ hnew_
              clear hg_ hnew_
              (first|rw [←Ny155.out] at ho48|(simp only [Int.reduceToNat] at ho48;rw [←Ny155.out] at ho48))
              have n0_:=Aside0.mk (Kd.R_elder' (by (with_reducible repeat (first|apply Kd.R_alloc|apply Kd.R_drewN|apply Kd.R_drew));exact HO_3.out) (Kd.R_base ho48) hb)
              have n1_:=Aside0.mk (Kd.R_lower (Kd.R_new' ho48 (Kd.R_lt (by (with_reducible repeat (first|apply Kd.R_alloc|apply Kd.R_drewN|apply Kd.R_drew));exact HO_3.out))) (below_size (by repeat (first|(with_reducible first|exact HB.out|apply below_alloc|apply pw_below_drewN|apply below_drew1)|exact HB.out))))
              have n2_:=Aside0.mk (Kd.C_below (by repeat (first|(with_reducible exact HR151.out)|(with_reducible refine Kd.C_alloc ?_ _)|(with_reducible refine Kd.C_drewN ?_ _)|(with_reducible refine Kd.C_drew ?_)|exact HR151.out)) hb)
              have n3_:=Aside0.mk (Kd.C_below (by repeat (first|(with_reducible exact HR164.out)|(with_reducible refine Kd.C_alloc ?_ _)|(with_reducible refine Kd.C_drewN ?_ _)|(with_reducible refine Kd.C_drew ?_)|exact HR164.out)) hb)
              have n4_:=Aside0.mk (below_step (by repeat (first|(with_reducible first|exact HB.out|apply below_alloc|apply pw_below_drewN|apply below_drew1)|exact HB.out)) hb)
              clear HO_3
              clear HR151
              clear HR164
              clear HB
              have HO_3:=n0_
              have HO157:=n1_
              have HR151:=n2_
              have HR164:=n3_
              have HB:=n4_
              clear n0_ n1_ n2_ n3_ n4_
              clear hb ho48
              refine hK.out _ _ trivial (fun hHeld=>?_)
              clear hK K
              refine norm_ (a':=?_) ?_ ?_
              rotate_left
              ·show Act.put _ (some 56) _=_
               simp only [Act.put,List.setIfInBounds_toArray,List.set_cons_zero,List.set_cons_succ,i64_w,i32_w]
               rfl
              refine one_ (i:=0) (N:=some 50) #[true,true,true,true,false,true,true,false,true,true,true,false,false] rfl rfl (one_of HT_.out (by kernel_rfl)) (by decide) (fun K hK=>?_)
              refine Kd.R_lit_step (Kd.int .i64) _ 3 ?hg (N:=50) ?hd (xs:=([]:List Int)) (inner:=[]) (ok:=fun _=>True) (okp:=fun _=>True) ?hr ?hp (fun _ hk=>hk) trivial (Below.refl _ _) (Nat.le_refl _) (by simp) ?_;(case hd=>rfl);(case hg=>rfl);(case hr=>first|(go_simp;done)|(go_simp;rfl));(case hp=>exact (Reps.none _ _))
              intro v146 w49 ho50 hb hg_ hnew_
              clear hg_ hnew_
              (first|rw [←Ny145.out] at ho50|(simp only [Int.reduceToNat] at ho50;rw [←Ny145.out] at ho50))
              have n0_:=Aside0.mk (Kd.R_elder' (by (with_reducible repeat (first|apply Kd.R_alloc|apply Kd.R_drewN|apply Kd.R_drew));exact HO_3.out) (Kd.R_base ho50) hb)
              have n1_:=Aside0.mk (Kd.R_elder' (by (with_reducible repeat (first|apply Kd.R_alloc|apply Kd.R_drewN|apply Kd.R_drew));exact HO157.out) (Kd.R_base ho50) hb)
              have n2_:=Aside0.mk (Kd.R_lower (Kd.R_new' (Kd.R_new' ho50 (Kd.R_lt (by (with_reducible repeat (first|apply Kd.R_alloc|apply Kd.R_drewN|apply Kd.R_drew));exact HO_3.out))) (Kd.R_lt (by (with_reducible repeat (first|apply Kd.R_alloc|apply Kd.R_drewN|apply Kd.R_drew));exact HO157.out))) (below_size (by repeat (first|(with_reducible first|exact HB.out|apply below_alloc|apply pw_below_drewN|apply below_drew1)|exact HB.out))))
              have n3_:=Aside0.mk (Kd.C_below (by repeat (first|(with_reducible exact HR151.out)|(with_reducible refine Kd.C_alloc ?_ _)|(with_reducible refine Kd.C_drewN ?_ _)|(with_reducible refine Kd.C_drew ?_)|exact HR151.out)) hb)
              have n4_:=Aside0.mk (Kd.C_below (by repeat (first|(with_reducible exact HR164.out)|(with_reducible refine Kd.C_alloc ?_ _)|(with_reducible refine Kd.C_drewN ?_ _)|(with_reducible refine Kd.C_drew ?_)|exact HR164.out)) hb)
              have n5_:=Aside0.mk (below_step (by repeat (first|(with_reducible first|exact HB.out|apply below_alloc|apply pw_below_drewN|apply below_drew1)|exact HB.out)) hb)
              clear HO_3
              clear HO157
              clear HR151
              clear HR164
              clear HB
              have HO_3:=n0_
              have HO157:=n1_
              have HO147:=n2_
              have HR151:=n3_
              have HR164:=n4_
              have HB:=n5_
              clear n0_ n1_ n2_ n3_ n4_ n5_
              clear hb ho50
              refine hK.out _ _ trivial (fun hHeld=>?_)
              clear hK K
              refine norm_ (a':=?_) ?_ ?_
              rotate_left
              ·show Act.put _ (some 50) _=_
               simp only [Act.put,List.setIfInBounds_toArray,List.set_cons_zero,List.set_cons_succ,i64_w,i32_w]
               rfl
              refine one_ (i:=4) (N:=some 54) #[true,true,true,true,true,true,true,false,true,true,true,false,false] rfl rfl (one_of HT_.out (by kernel_rfl)) (by decide) (fun K hK=>?_)
              refine Kd.R_append_rows_step (Kd.int .i64) (w0:=w) w.heap.size (by rfl) (.tmp 50) (.tmp 53) 41 3 (.int .i64 0) 8 rfl Try.underlying41 info3 rfl (by decide) (by omega) v146 y145 y148 _ _ _ (fun k_=>some k_≠(.slice Ao43 x3_1.length co43:Value).ownBlock∧some k_≠(v156:Value).ownBlock) (fun _=>False) rfl rfl ?aO ?aR (fun _ _ h=>h) (fun _ h=>h.elim) ?aF ?aB ?aS ?aL ?_
              (case aR=>repeat (first|exact (by repeat (first|(with_reducible exact HR151.out)|(with_reducible refine Kd.C_alloc ?_ _)|(with_reducible refine Kd.C_drewN ?_ _)|(with_reducible refine Kd.C_drew ?_)|exact HR151.out))|(with_reducible refine Kd.C_alloc ?_ _)|(with_reducible refine Kd.C_drewN ?_ _)|(with_reducible refine Kd.C_drew ?_)))
              (case aB=>exact (by repeat (first|(with_reducible first|exact HB.out|apply below_alloc|apply pw_below_drewN|apply below_drew1)|exact HB.out)))
              (case aF=>exact (fun k_ hk=>⟨Kd.fresh' (Kd.R_lt (by (with_reducible repeat (first|apply Kd.R_alloc|apply Kd.R_drewN|apply Kd.R_drew));exact HO_3.out)) k_ hk,Kd.fresh' (Kd.R_lt (by (with_reducible repeat (first|apply Kd.R_alloc|apply Kd.R_drewN|apply Kd.R_drew));exact HO157.out)) k_ hk⟩))
              (case aO=>exact (by (with_reducible repeat (first|apply Kd.R_alloc|apply Kd.R_drewN|apply Kd.R_drew));exact Kd.R_mono HO147.out (fun _ hk=>⟨hk.1.2,hk.2⟩)))
              (case aS=>exact (below_size (by repeat (first|(with_reducible first|exact HB.out|apply below_alloc|apply pw_below_drewN|apply below_drew1)|exact HB.out))))
              (case aL=>have:=LMc37.out;omega)
              intro v153 w51 ho hb hg hat
              rw [←Ny152.out] at ho
              have n0_:=Aside0.mk (Kd.R_after (ok:=(fun k_=>some k_≠(v156:Value).ownBlock)) (by (with_reducible repeat (first|apply Kd.R_alloc|apply Kd.R_drewN|apply Kd.R_drew));exact Kd.R_mono HO_3.out (fun _ hk=>⟨hk.1.2,hk.2⟩)) hg hat)
              have n1_:=Aside0.mk (Kd.R_after (ok:=(fun k_=>some k_≠(.slice Ao43 x3_1.length co43:Value).ownBlock)) (by (with_reducible repeat (first|apply Kd.R_alloc|apply Kd.R_drewN|apply Kd.R_drew));exact Kd.R_mono HO157.out (fun _ hk=>⟨hk.1.2,hk.2⟩)) hg hat)
              have n2_:=Aside0.mk (hb)
              have n3_:=Aside0.mk ((show Kd.C (Kd.int .i64) w51 Ao43 y148.length y148 from by rw [Ny148.out];exact Kd.C_take (m:=(x5_2:Int).toNat) ((Kd.R_reads' (Kd.R_after (ok:=(fun k_=>some k_≠(v156:Value).ownBlock)) (by (with_reducible repeat (first|apply Kd.R_alloc|apply Kd.R_drewN|apply Kd.R_drew));exact Kd.R_mono HO_3.out (fun _ hk=>⟨hk.1.2,hk.2⟩)) hg hat)).2.2) KL45.out))
              have n4_:=Aside0.mk ((show Kd.C (Kd.int .i64) w51 A46 y161.length y161 from by rw [Ny161.out,KA46.out];exact Kd.C_drop (m:=(x5_2:Int).toNat) (c:=co43) ((Kd.R_reads' (Kd.R_after (ok:=(fun k_=>some k_≠(v156:Value).ownBlock)) (by (with_reducible repeat (first|apply Kd.R_alloc|apply Kd.R_drewN|apply Kd.R_drew));exact Kd.R_mono HO_3.out (fun _ hk=>⟨hk.1.2,hk.2⟩)) hg hat)).2.2) KL46.out ((Kd.R_reads' (Kd.R_after (ok:=(fun k_=>some k_≠(v156:Value).ownBlock)) (by (with_reducible repeat (first|apply Kd.R_alloc|apply Kd.R_drewN|apply Kd.R_drew));exact Kd.R_mono HO_3.out (fun _ hk=>⟨hk.1.2,hk.2⟩)) hg hat)).2.1)))
              have n5_:=Aside0.mk (ho)
              clear HO_3
              clear HO157
              clear HB
              clear HR151
              clear HR164
              clear HO147
              have HO_3:=n0_
              have HO157:=n1_
              have HB:=n2_
              have HR151:=n3_
              have HR164:=n4_
              have HO154:=n5_
              clear n0_ n1_ n2_ n3_ n4_ n5_
              clear ho hb hg hat
              refine hK.out _ _ trivial (fun hHeld=>?_)
              clear hK K
              refine norm_ (a':=?_) ?_ ?_
              rotate_left
              ·show Act.put _ (some 54) _=_
               simp only [Act.put,List.setIfInBounds_toArray,List.set_cons_zero,List.set_cons_succ,i64_w,i32_w]
               rfl
              exact norm_ (by simp only [putAll,Act.put,List.setIfInBounds_toArray,List.set_cons_zero,List.set_cons_succ]) (hCont (v146,v153,v156) _ ⟨(by (with_reducible repeat (first|apply Kd.R_alloc|apply Kd.R_drewN|apply Kd.R_drew));exact Kd.R_mono HO154.out (fun _ hk=>⟨hk.2,hk.1⟩)),(by (with_reducible repeat (first|apply Kd.R_alloc|apply Kd.R_drewN|apply Kd.R_drew));exact Kd.R_mono HO157.out (fun _ hk=>⟨hk.2,hk.1⟩)),(by (with_reducible repeat (first|apply Kd.R_alloc|apply Kd.R_drewN|apply Kd.R_drew));exact Kd.R_mono HO_3.out (fun _ hk=>⟨hk.2,hk.1⟩)),(by repeat (first|(with_reducible first|exact HB.out|apply below_alloc|apply pw_below_drewN|apply below_drew1)|exact HB.out))⟩)
            rintro ⟨v146,v153,v156⟩ w52 ⟨h0_,h1_,h2_,h3_⟩
            have n0_:Aside0 (Kd.R (Kd.int .i64) 3 w52 w.heap.size (fun k_=>some k_≠(v156:Value).ownBlock∧some k_≠(.slice Ao43 x3_1.length co43:Value).ownBlock) v153 y152):=⟨h0_⟩
            have n1_:Aside0 (Kd.R (Kd.int .i64) 3 w52 w.heap.size (fun k_=>some k_≠(v153:Value).ownBlock∧some k_≠(.slice Ao43 x3_1.length co43:Value).ownBlock) v156 y155):=⟨h1_⟩
            have n2_:Aside0 (Kd.R (Kd.int .i64) 3 w52 w.heap.size (fun k_=>some k_≠(v153:Value).ownBlock∧some k_≠(v156:Value).ownBlock) (.slice Ao43 x3_1.length co43) x3_1):=⟨h2_⟩
            have n3_:Aside0 (Below w.heap.size w w52):=⟨h3_⟩
            clear HO_3
            clear HB
            clear h0_ h1_ h2_ h3_
            have HO154:=n0_
            have HO157:=n1_
            have HO_3:=n2_
            have HB:=n3_
            clear n0_ n1_ n2_ n3_
            have hHeld:=trivial
            obtain ⟨Ao54,co54,eo54⟩:=Kd.R_slice HO157.out
            (first|subst eo54|(injection eo54 with f1_ f2_ f3_;have f4_:=f1_.symm;have f5_:=f3_.symm;clear f1_ f2_ f3_;subst f4_;subst f5_))
            refine norm_ (a':=?_) ?_ ?_
            rotate_left
            ·simp only [putAll,Act.put,List.setIfInBounds_toArray,List.set_cons_zero,List.set_cons_succ]
             rfl
            refine one_ (i:=7) (N:=some 57) #[true,true,true,true,true,true,true,true,true,true,true,false,false] rfl rfl (one_of HT_.out (by kernel_rfl)) (by decide) (fun K hK=>?_)
            refine Kd.R_append_rows_step (Kd.int .i64) (w0:=w) w.heap.size (by rfl) (.tmp 54) (.tmp 56) 41 3 (.int .i64 0) 8 rfl Try.underlying41 info3 rfl (by decide) (by omega) v153 y152 y155 _ _ _ (fun k_=>some k_≠(.slice Ao43 x3_1.length co43:Value).ownBlock∧some k_≠(.slice Ao54 y155.length co54:Value).ownBlock) (fun _=>False) rfl rfl ?aO ?aR (fun _ _ h=>h) (fun _ h=>h.elim) ?aF ?aB ?aS ?aL ?_
            (case aR=>repeat (first|exact (Kd.R_reads' HO157.out).2.2|(with_reducible refine Kd.C_alloc ?_ _)|(with_reducible refine Kd.C_drewN ?_ _)|(with_reducible refine Kd.C_drew ?_)))
            (case aB=>exact (by repeat (first|(with_reducible first|exact HB.out|apply below_alloc|apply pw_below_drewN|apply below_drew1)|exact HB.out)))
            (case aF=>exact (fun k_ hk=>⟨Kd.fresh' (Kd.R_lt (by (with_reducible repeat (first|apply Kd.R_alloc|apply Kd.R_drewN|apply Kd.R_drew));exact HO_3.out)) k_ hk,Kd.fresh' (Kd.R_lt (by (with_reducible repeat (first|apply Kd.R_alloc|apply Kd.R_drewN|apply Kd.R_drew));exact HO157.out)) k_ hk⟩))
            (case aO=>exact (by (with_reducible repeat (first|apply Kd.R_alloc|apply Kd.R_drewN|apply Kd.R_drew));exact Kd.R_mono HO154.out (fun _ hk=>⟨hk.2,hk.1⟩)))
            (case aS=>exact (below_size (by repeat (first|(with_reducible first|exact HB.out|apply below_alloc|apply pw_below_drewN|apply below_drew1)|exact HB.out))))
            (case aL=>have:=LMc38.out;omega)
            intro v159 w53 ho hb hg hat
            rw [←Ny158.out] at ho
            have n0_:=Aside0.mk (Kd.R_after (ok:=(fun k_=>some k_≠(.slice Ao54 y155.length co54:Value).ownBlock)) (by (with_reducible repeat (first|apply Kd.R_alloc|apply Kd.R_drewN|apply Kd.R_drew));exact Kd.R_mono HO_3.out (fun _ hk=>⟨hk.2,hk.1⟩)) hg hat)
            have n1_:=Aside0.mk (Kd.R_after (ok:=(fun k_=>some k_≠(.slice Ao43 x3_1.length co43:Value).ownBlock)) (by (with_reducible repeat (first|apply Kd.R_alloc|apply Kd.R_drewN|apply Kd.R_drew));exact Kd.R_mono HO157.out (fun _ hk=>⟨hk.2,hk.1⟩)) hg hat)
            have n2_:=Aside0.mk (hb)
            have n3_:=Aside0.mk (ho)
            clear HO_3
            clear HO157
            clear HB
            clear HO154
            have HO_3:=n0_
            have HO157:=n1_
            have HB:=n2_
            have HO160:=n3_
            clear n0_ n1_ n2_ n3_
            clear ho hb hg hat
            refine hK.out _ _ trivial (fun hHeld=>?_)
            clear hK K
            refine norm_ (a':=?_) ?_ ?_
            rotate_left
            ·show Act.put _ (some 57) _=_
             simp only [Act.put,List.setIfInBounds_toArray,List.set_cons_zero,List.set_cons_succ,i64_w,i32_w]
             rfl
            refine one_ (i:=11) (N:=some 61) #[true,true,true,true,true,true,true,true,true,true,true,true,false] rfl rfl (one_of HT_.out (by kernel_rfl)) (by decide) (fun K hK=>?_)
            refine Kd.R_append_rows_step (Kd.int .i64) (w0:=w) w.heap.size (by rfl) (.tmp 57) (.tmp 60) 41 3 (.int .i64 0) 8 rfl Try.underlying41 info3 rfl (by decide) (by omega) v159 y158 y161 _ _ _ (fun k_=>some k_≠(.slice Ao43 x3_1.length co43:Value).ownBlock∧some k_≠(.slice Ao54 y155.length co54:Value).ownBlock) (fun _=>False) rfl rfl ?aO ?aR (fun _ _ h=>h) (fun _ h=>h.elim) ?aF ?aB ?aS ?aL ?_
            (case aR=>exact (by rw [Ny161.out,KA46.out];first|exact Kd.C_drop (m:=(x5_2:Int).toNat) (c:=co43) ((Kd.R_reads' (HO_3.out)).2.2) KL46.out ((Kd.R_reads' (HO_3.out)).2.1)|exact Kd.C_drop (m:=(x5_2:Int).toNat) (c:=co43) ((Kd.R_reads' (by (with_reducible repeat (first|apply Kd.R_alloc|apply Kd.R_drewN|apply Kd.R_drew));exact HO_3.out)).2.2) KL46.out ((Kd.R_reads' (by (with_reducible repeat (first|apply Kd.R_alloc|apply Kd.R_drewN|apply Kd.R_drew));exact HO_3.out)).2.1)))
            (case aB=>exact (by repeat (first|(with_reducible first|exact HB.out|apply below_alloc|apply pw_below_drewN|apply below_drew1)|exact HB.out)))
            (case aF=>exact (fun k_ hk=>⟨Kd.fresh' (Kd.R_lt (by (with_reducible repeat (first|apply Kd.R_alloc|apply Kd.R_drewN|apply Kd.R_drew));exact HO_3.out)) k_ hk,Kd.fresh' (Kd.R_lt (by (with_reducible repeat (first|apply Kd.R_alloc|apply Kd.R_drewN|apply Kd.R_drew));exact HO157.out)) k_ hk⟩))
            (case aO=>exact (by (with_reducible repeat (first|apply Kd.R_alloc|apply Kd.R_drewN|apply Kd.R_drew));exact HO160.out))
            (case aS=>exact (below_size (by repeat (first|(with_reducible first|exact HB.out|apply below_alloc|apply pw_below_drewN|apply below_drew1)|exact HB.out))))
            (case aL=>have:=LMc41.out;omega)
            intro v166 w55 ho hb hg hat
            rw [←Ny165.out] at ho
            have n0_:=Aside0.mk (Kd.R_after (ok:=(fun k_=>some k_≠(.slice Ao54 y155.length co54:Value).ownBlock)) (by (with_reducible repeat (first|apply Kd.R_alloc|apply Kd.R_drewN|apply Kd.R_drew));exact HO_3.out) hg hat)
            have n1_:=Aside0.mk (Kd.R_after (ok:=(fun k_=>some k_≠(.slice Ao43 x3_1.length co43:Value).ownBlock)) (by (with_reducible repeat (first|apply Kd.R_alloc|apply Kd.R_drewN|apply Kd.R_drew));exact HO157.out) hg hat)
            have n2_:=Aside0.mk (hb)
            have n3_:=Aside0.mk (ho)
            clear HO_3
            clear HO157
            clear HB
            clear HO160
            have HO_3:=n0_
            have HO157:=n1_
            have HB:=n2_
            have HO167:=n3_
            clear n0_ n1_ n2_ n3_
            clear ho hb hg hat
            refine hK.out _ _ trivial (fun hHeld=>?_)
            clear hK K
            refine norm_ (a':=?_) ?_ ?_
            rotate_left
            ·show Act.put _ (some 61) _=_
             simp only [Act.put,List.setIfInBounds_toArray,List.set_cons_zero,List.set_cons_succ,i64_w,i32_w]
             rfl
            refine pure_ (i:=12) (N:=some 3) (v:=?_) (a':=?_) #[true,true,true,true,true,true,true,true,true,true,true,true,true] rfl rfl (any_of HT_.out (by kernel_rfl)) (fun _ _ _ h=>h) (Or.inl ⟨by rfl,?_⟩) ?_ ?_
            rotate_left
            ·intro w'
             go_simp
             with_reducible rfl
            rotate_left
            ·simp only [Act.put,List.setIfInBounds_toArray,List.set_cons_zero,List.set_cons_succ,i64_w,i32_w]
             rfl
            refine done_ (done_of HT_.out (by kernel_rfl)) ?_
            try go_wp2
            go_roundg k2
            case measure=>have:=HK1.out;have:=HK2.out;omega
            case rel=>exact ⟨(y165),(wrap64 (x4_1 + 1)),(by first|rfl|(simp;done)|(simp [*];done)),H',⟨by have:=HK1.out;have:=HK2.out;omega⟩,⟨by (with_reducible repeat (first|apply Kd.R_alloc|apply Kd.R_drewN|apply Kd.R_drew));exact Kd.R_mono HO167.out (fun _ hk=>trivial)⟩,⟨by repeat (first|(with_reducible first|exact HB.out|apply below_alloc|apply pw_below_drewN|apply below_drew1)|exact HB.out)⟩⟩
           ·rw [if_neg c41] at H
            exact absurd H (by simp)
          ·rw [if_neg c38] at H
           exact absurd H (by simp)
         ·rw [if_neg c37] at H
          exact absurd H (by simp)
        ·rw [if_neg c36] at H
         exact absurd H (by simp)
       ·rw [if_neg c35] at H
        exact absurd H (by simp)
   ·rw [if_neg c4] at H
    have c4b0:decide (x4_1<(l0.length:Int))=false:=decide_eq_false c4
    clear c4
    obtain rfl:=Option.some.inj H
    go_wp2
    go_ret
    exact ⟨_,by first|rfl|(simp [errW_none,errW_some] <;> rfl)|(simp [*,errW_none,errW_some] <;> rfl),by (with_reducible repeat (first|apply Kd.R_alloc|apply Kd.R_drewN|apply Kd.R_drew));exact HO_3.out,by repeat (first|(with_reducible first|exact HB.out|apply below_alloc|apply pw_below_drewN|apply below_drew1)|exact HB.out)⟩

end Go.Proofs.Ytbblhmpcpmamfaa.XFnExactSmithPrices
-- minified
