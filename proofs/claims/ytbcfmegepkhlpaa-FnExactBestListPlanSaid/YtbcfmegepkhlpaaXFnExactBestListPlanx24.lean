-- Written by a program of this session (the kit's print, widened). Proved here: what each function answers, for the arguments that its contract names.
import Derived.Test.YtbcfmegepkhlpaaXFnExactBestListPlanx0
namespace Go.Proofs.Ytbcfmegepkhlpaa.XFnExactBestListPlan
open Go.RowKit Go.Proofs.YtbcfmegepkhlpaaW.PrintWords Go.Proofs.YtbcfmegepkhlpaaW.PrintLast Go.Proofs.YtbcfmegepkhlpaaW.PrintMore
attribute [local go_sem] max2_int min2_int max_two min_two max_three min_three max_four min_four   -- for this text's walks alone
attribute [local go_sem] idxA_72_0 idxA_72_1 fldS_96_0 fldS_96_1 fldS_96_2 fldS_111_0 fldS_111_1 fldS_111_2
set_option linter.unusedVariables false
set_option linter.unusedSimpArgs false

/-! ### impl_planLength: function 84 -/
def impl_planLength.l0:Nat→List (S76)→Int→List (S92)→Int→Int→Option (Int)
 | 0,_,_,_,_,_=>none
 | k + 1,x0,x5,x8,x9,x10=>if x10<x9 then (if 0≤x10 then (if x10<(x8.length:Int) then (if 0≤((rd_T92 x8 x10).f0) then (if ((rd_T92 x8 x10).f0)<(x0.length:Int) then (impl_planLength.l0 k x0 (mx x5 (wrap64 (((rd_T92 x8 x10).f2) + ((rd_T76 x0 ((rd_T92 x8 x10).f0)).f0)))) x8 x9 (wrap64 (x10 + 1))) else (none)) else (none)) else (none)) else (none)) else (some x5)
def impl_planLength.f (k:Nat) (l0:List (S76)) (l1:List (S92)):Option (Int):=impl_planLength.l0 k l0 0 l1 (l1.length:Int) 0
theorem impl_planLength.mono_l:∀ k,(∀ y0 y1 y2 y3 y4,LeO (impl_planLength.l0 k y0 y1 y2 y3 y4) (impl_planLength.l0 (k + 1) y0 y1 y2 y3 y4))
 | 0=>fun _ _ _ _ _ r h=>by simp [impl_planLength.l0] at h
 | k + 1=>by
  have ih0:=impl_planLength.mono_l k
  ·intro y0 y1 y2 y3 y4
   unfold impl_planLength.l0
   repeat' first
   | (with_reducible exact ih0 _ _ _ _ _)
   | (with_reducible exact LeO.refl _)
   | (with_reducible exact LeO.none _)
   | (with_reducible refine LeO.ite ?_ ?_)
   | (with_reducible refine LeO.bind ?_ (fun _=>?_))
   | exact ih0 _ _ _ _ _
   | exact LeO.none _
   | refine LeO.ite ?_ ?_
   | refine LeO.bind ?_ (fun _=>?_)
theorem impl_planLength.mono:∀ a0 a1 k,LeO (impl_planLength.f k a0 a1) (impl_planLength.f (k + 1) a0 a1):=by
 intro a0 a1 k
 have ih0:=impl_planLength.mono_l k
 unfold impl_planLength.f
 repeat' first
   | (with_reducible exact ih0 _ _ _ _ _)
   | (with_reducible exact LeO.refl _)
   | (with_reducible exact LeO.none _)
   | (with_reducible refine LeO.ite ?_ ?_)
   | (with_reducible refine LeO.bind ?_ (fun _=>?_))
   | exact ih0 _ _ _ _ _
   | exact LeO.none _
   | refine LeO.ite ?_ ?_
   | refine LeO.bind ?_ (fun _=>?_)
set_option maxHeartbeats 8000000 in
set_option maxRecDepth 100000 in
theorem impl_planLength.calls (k:Nat) (A0:Option Addr) (c0:Nat) (l0:List (S76)) (A1:Option Addr) (c1:Nat) (l1:List (S92)) (r:Int) (w:World) (hr0:Kd.C k76 w A0 l0.length l0) (hc0:l0.length≤c0) (hr1:Kd.C k92 w A1 l1.length l1) (hc1:l1.length≤c1) (h:impl_planLength.f k l0 l1=some r) :
  Calls Try.prog 84 #[.slice A0 l0.length c0,.slice A1 l1.length c1] w fun e w'=>e=.returned (.int .i64 r)∧Below w.heap.size w w':=by
 have hu92:=Try.underlying92
 have HR0:=Aside0.mk hr0
 have HC0:=Aside0.mk hc0
 clear hr0 hc0
 have HR1:=Aside0.mk hr1
 have HC1:=Aside0.mk hc1
 clear hr1 hc1
 have HB:=Aside0.mk (Below.refl w.heap.size w)
 have H:(impl_planLength.l0 k l0 0 l1 (l1.length:Int) 0)=some r:=h
 clear h
 have H':=Aside0.mk H
 clear H
 go_enter Try.func84,Try.ntmps84
 go_wp2
 repeat (go_quiet (fail);try go_wp2)
 go_loopg [5,10] k (fun kq v5 v10 w'=>∃ (x5_1:Int) (x10_1:Int),v5=.int .i64 x5_1∧v10=.int .i64 x10_1∧Aside0 (impl_planLength.l0 kq l0 x5_1 l1 (l1.length:Int) x10_1=some r)∧Aside0 (kq≤k)∧Aside0 (Below w.heap.size w w'))
 case atStart=>exact ⟨(0),(0),zo,zo,H',⟨Nat.le_refl _⟩,⟨zb⟩⟩
 case round=>
  clear H'
  (try clear c1);(try clear p2)
  obtain ⟨x5_1,x10_1,rfl,rfl,HA,HK1,HB⟩:=hrel
  cases gk with
  | zero=>exact absurd HA.out (by simp [impl_planLength.l0])
  | succ k1=>
   have H:=HA.out
   clear HA
   simp only [impl_planLength.l0] at H
   by_cases c3:x10_1<(l1.length:Int)
   ·rw [if_pos c3] at H
    have c3b0:decide (x10_1<(l1.length:Int))=true:=decide_eq_true c3
    clear c3
    by_cases c4:0≤x10_1
    ·rw [if_pos c4] at H
     have c4b0:decide (0≤x10_1)=true:=decide_eq_true c4
     clear c4
     by_cases c5:x10_1<(l1.length:Int)
     ·rw [if_pos c5] at H
      have c5b0:decide (x10_1<(l1.length:Int))=true:=decide_eq_true c5
      clear c5
      by_cases c6:0≤((rd_T92 l1 x10_1).f0)
      ·rw [if_pos c6] at H
       have c6b0:decide (0≤((rd_T92 l1 x10_1).f0))=true:=decide_eq_true c6
       clear c6
       by_cases c7:((rd_T92 l1 x10_1).f0)<(l0.length:Int)
       ·rw [if_pos c7] at H
        have c7b0:decide (((rd_T92 l1 x10_1).f0)<(l0.length:Int))=true:=decide_eq_true c7
        clear c7
        obtain ⟨ji8,hji8⟩:∃ j_:Int,(mx x5_1 (wrap64 (((rd_T92 l1 x10_1).f2) + ((rd_T76 l0 ((rd_T92 l1 x10_1).f0)).f0))))=j_:=⟨_,rfl⟩
        replace H:(impl_planLength.l0 k1 l0 ji8 l1 (l1.length:Int) (wrap64 (x10_1 + 1)))=some r:=by first|(rw [hji8] at H;exact H)|(simp only [hji8] at H ⊢;exact H)
        have hji8_:(if x5_1<(wrap64 (((rd_T92 l1 x10_1).f2) + ((rd_T76 l0 ((rd_T92 l1 x10_1).f0)).f0))) then (wrap64 (((rd_T92 l1 x10_1).f2) + ((rd_T76 l0 ((rd_T92 l1 x10_1).f0)).f0))) else x5_1)=ji8:=hji8
        have H':=Aside0.mk H
        clear H
        have p351:0≤(x10_1:Int):=of_decide_eq_true za
        have q351:x10_1<(l1.length:Int):=of_decide_eq_true za
        obtain ⟨ad351,e351,hx351_0,hx351_1,hx351_2⟩:=at_T92 HR1.out x10_1 p351 q351
        cases e351
        replace hx351_0:=(HB.out.cell (World.block_lt_of_cell? w _ hx351_0)).trans hx351_0
        replace hx351_1:=(HB.out.cell (World.block_lt_of_cell? w _ hx351_1)).trans hx351_1
        replace hx351_2:=(HB.out.cell (World.block_lt_of_cell? w _ hx351_2)).trans hx351_2
        replace p351:=eq_true p351
        replace q351:=eq_true q351
        go_wp2_with (first|((with_reducible refine gate_dst (N:=7) rfl ?_);refine box_event ?hg (N:=7) ?hd (cs:=#[.int .i64 0,.int .i64 0,.int .i64 0]) (t:=92) ?hr ?_;(case hd=>rfl);(case hg=>rfl);(case hr=>first|(go_simp;done)|(go_simp;rfl));intro gb352 hg w9 hbox hb;have n0_:=Aside0.mk (below_step zb hb);have n1_:=Aside0.mk (hbox);have n2_:=Aside0.mk ((by rw [hg];exact (below_size zb):w.heap.size≤gb352));have n3_:=Aside0.mk ((by rw [hg];exact (below_size zb):w.heap.size≤gb352));clear HB;have HB:=n0_;have BK352:=n1_;have GW352:=n2_;have GE352:=n3_;clear n0_ n1_ n2_ n3_;clear hb hbox hg;have hcz10_0:w9.cell? ⟨gb352,0,none⟩=some (.int .i64 0):=(blk_cell BK352.out 0).trans rfl;have hcz10_1:w9.cell? ⟨gb352,1,none⟩=some (.int .i64 0):=(blk_cell BK352.out 1).trans rfl;have hcz10_2:w9.cell? ⟨gb352,2,none⟩=some (.int .i64 0):=(blk_cell BK352.out 2).trans rfl;have hfz10_0:=blk_frozen BK352.out 0;have hfz10_1:=blk_frozen BK352.out 1;have hfz10_2:=blk_frozen BK352.out 2;have p353:0≤(((rd_T92 l1 x10_1).f0):Int):=of_decide_eq_true za;have q353:((rd_T92 l1 x10_1).f0)<(l0.length:Int):=of_decide_eq_true za;obtain ⟨ad353,e353,hx353_0,hx353_1,hx353_2,hx353_3⟩:=at_T76 HR0.out ((rd_T92 l1 x10_1).f0) p353 q353;cases e353;have hn353_0:ad353.block≠gb352:=Nat.ne_of_lt (Nat.lt_of_lt_of_le (by have:=World.block_lt_of_cell? _ _ hx353_0;first|rwa [add_block] at this|exact this) GW352.out);have hn353_1:ad353.block≠gb352:=Nat.ne_of_lt (Nat.lt_of_lt_of_le (by have:=World.block_lt_of_cell? _ _ hx353_0;first|rwa [add_block] at this|exact this) GW352.out);have hn353_2:ad353.block≠gb352:=Nat.ne_of_lt (Nat.lt_of_lt_of_le (by have:=World.block_lt_of_cell? _ _ hx353_0;first|rwa [add_block] at this|exact this) GW352.out);replace hx353_0:=(HB.out.cell (World.block_lt_of_cell? w _ hx353_0)).trans hx353_0;replace hx353_1:=(HB.out.cell (World.block_lt_of_cell? w _ hx353_1)).trans hx353_1;replace hx353_2:=(HB.out.cell (World.block_lt_of_cell? w _ hx353_2)).trans hx353_2;replace hx353_3:=(HB.out.cell (World.block_lt_of_cell? w _ hx353_3)).trans hx353_3;replace hx353_0:=(cell_far (p:=⟨gb352,0,none⟩) (by first|(rw [add_block];exact hn353_0)|(show (Addr.add _ _).block≠_;rw [add_block];exact hn353_0)|exact hn353_0) (.int .i64 ((rd_T92 l1 x10_1).f0))).trans hx353_0;replace hx353_1:=(cell_far (p:=⟨gb352,0,none⟩) (by first|(rw [add_block];exact hn353_0)|(show (Addr.add _ _).block≠_;rw [add_block];exact hn353_0)|exact hn353_0) (.int .i64 ((rd_T92 l1 x10_1).f0))).trans hx353_1;replace hx353_2:=(cell_far (p:=⟨gb352,0,none⟩) (by first|(rw [add_block];exact hn353_0)|(show (Addr.add _ _).block≠_;rw [add_block];exact hn353_0)|exact hn353_0) (.int .i64 ((rd_T92 l1 x10_1).f0))).trans hx353_2;replace hx353_3:=(cell_far (p:=⟨gb352,0,none⟩) (by first|(rw [add_block];exact hn353_0)|(show (Addr.add _ _).block≠_;rw [add_block];exact hn353_0)|exact hn353_0) (.int .i64 ((rd_T92 l1 x10_1).f0))).trans hx353_3;replace hx353_0:=(cell_far (p:=⟨gb352,1,none⟩) (by first|(rw [add_block];exact hn353_1)|(show (Addr.add _ _).block≠_;rw [add_block];exact hn353_1)|exact hn353_1) (.int .i64 ((rd_T92 l1 x10_1).f1))).trans hx353_0;replace hx353_1:=(cell_far (p:=⟨gb352,1,none⟩) (by first|(rw [add_block];exact hn353_1)|(show (Addr.add _ _).block≠_;rw [add_block];exact hn353_1)|exact hn353_1) (.int .i64 ((rd_T92 l1 x10_1).f1))).trans hx353_1;replace hx353_2:=(cell_far (p:=⟨gb352,1,none⟩) (by first|(rw [add_block];exact hn353_1)|(show (Addr.add _ _).block≠_;rw [add_block];exact hn353_1)|exact hn353_1) (.int .i64 ((rd_T92 l1 x10_1).f1))).trans hx353_2;replace hx353_3:=(cell_far (p:=⟨gb352,1,none⟩) (by first|(rw [add_block];exact hn353_1)|(show (Addr.add _ _).block≠_;rw [add_block];exact hn353_1)|exact hn353_1) (.int .i64 ((rd_T92 l1 x10_1).f1))).trans hx353_3;replace hx353_0:=(cell_far (p:=⟨gb352,2,none⟩) (by first|(rw [add_block];exact hn353_2)|(show (Addr.add _ _).block≠_;rw [add_block];exact hn353_2)|exact hn353_2) (.int .i64 ((rd_T92 l1 x10_1).f2))).trans hx353_0;replace hx353_1:=(cell_far (p:=⟨gb352,2,none⟩) (by first|(rw [add_block];exact hn353_2)|(show (Addr.add _ _).block≠_;rw [add_block];exact hn353_2)|exact hn353_2) (.int .i64 ((rd_T92 l1 x10_1).f2))).trans hx353_1;replace hx353_2:=(cell_far (p:=⟨gb352,2,none⟩) (by first|(rw [add_block];exact hn353_2)|(show (Addr.add _ _).block≠_;rw [add_block];exact hn353_2)|exact hn353_2) (.int .i64 ((rd_T92 l1 x10_1).f2))).trans hx353_2;replace hx353_3:=(cell_far (p:=⟨gb352,2,none⟩) (by first|(rw [add_block];exact hn353_2)|(show (Addr.add _ _).block≠_;rw [add_block];exact hn353_2)|exact hn353_2) (.int .i64 ((rd_T92 l1 x10_1).f2))).trans hx353_3;(try have hy353_0:=fun (n_:Nat)=>(show (((((w9.drewN n_).setCell ⟨gb352,0,none⟩ (.int .i64 ((rd_T92 l1 x10_1).f0))).setCell ⟨gb352,1,none⟩ (.int .i64 ((rd_T92 l1 x10_1).f1))).setCell ⟨gb352,2,none⟩ (.int .i64 ((rd_T92 l1 x10_1).f2)))).cell? _=some _ from hx353_0));(try have hy353_1:=fun (n_:Nat)=>(show (((((w9.drewN n_).setCell ⟨gb352,0,none⟩ (.int .i64 ((rd_T92 l1 x10_1).f0))).setCell ⟨gb352,1,none⟩ (.int .i64 ((rd_T92 l1 x10_1).f1))).setCell ⟨gb352,2,none⟩ (.int .i64 ((rd_T92 l1 x10_1).f2)))).cell? _=some _ from hx353_1));(try have hy353_2:=fun (n_:Nat)=>(show (((((w9.drewN n_).setCell ⟨gb352,0,none⟩ (.int .i64 ((rd_T92 l1 x10_1).f0))).setCell ⟨gb352,1,none⟩ (.int .i64 ((rd_T92 l1 x10_1).f1))).setCell ⟨gb352,2,none⟩ (.int .i64 ((rd_T92 l1 x10_1).f2)))).cell? _=some _ from hx353_2));(try have hy353_3:=fun (n_:Nat)=>(show (((((w9.drewN n_).setCell ⟨gb352,0,none⟩ (.int .i64 ((rd_T92 l1 x10_1).f0))).setCell ⟨gb352,1,none⟩ (.int .i64 ((rd_T92 l1 x10_1).f1))).setCell ⟨gb352,2,none⟩ (.int .i64 ((rd_T92 l1 x10_1).f2)))).cell? _=some _ from hx353_3));clear hn353_0;clear hn353_1;clear hn353_2;replace p353:=eq_true p353;replace q353:=eq_true q353))
        repeat (go_quiet (first|((with_reducible refine gate_dst (N:=7) rfl ?_);refine box_event ?hg (N:=7) ?hd (cs:=#[.int .i64 0,.int .i64 0,.int .i64 0]) (t:=92) ?hr ?_;(case hd=>rfl);(case hg=>rfl);(case hr=>first|(go_simp;done)|(go_simp;rfl));intro gb352 hg w9 hbox hb;have n0_:=Aside0.mk (below_step zb hb);have n1_:=Aside0.mk (hbox);have n2_:=Aside0.mk ((by rw [hg];exact (below_size zb):w.heap.size≤gb352));have n3_:=Aside0.mk ((by rw [hg];exact (below_size zb):w.heap.size≤gb352));clear HB;have HB:=n0_;have BK352:=n1_;have GW352:=n2_;have GE352:=n3_;clear n0_ n1_ n2_ n3_;clear hb hbox hg;have hcz10_0:w9.cell? ⟨gb352,0,none⟩=some (.int .i64 0):=(blk_cell BK352.out 0).trans rfl;have hcz10_1:w9.cell? ⟨gb352,1,none⟩=some (.int .i64 0):=(blk_cell BK352.out 1).trans rfl;have hcz10_2:w9.cell? ⟨gb352,2,none⟩=some (.int .i64 0):=(blk_cell BK352.out 2).trans rfl;have hfz10_0:=blk_frozen BK352.out 0;have hfz10_1:=blk_frozen BK352.out 1;have hfz10_2:=blk_frozen BK352.out 2;have p353:0≤(((rd_T92 l1 x10_1).f0):Int):=of_decide_eq_true za;have q353:((rd_T92 l1 x10_1).f0)<(l0.length:Int):=of_decide_eq_true za;obtain ⟨ad353,e353,hx353_0,hx353_1,hx353_2,hx353_3⟩:=at_T76 HR0.out ((rd_T92 l1 x10_1).f0) p353 q353;cases e353;have hn353_0:ad353.block≠gb352:=Nat.ne_of_lt (Nat.lt_of_lt_of_le (by have:=World.block_lt_of_cell? _ _ hx353_0;first|rwa [add_block] at this|exact this) GW352.out);have hn353_1:ad353.block≠gb352:=Nat.ne_of_lt (Nat.lt_of_lt_of_le (by have:=World.block_lt_of_cell? _ _ hx353_0;first|rwa [add_block] at this|exact this) GW352.out);have hn353_2:ad353.block≠gb352:=Nat.ne_of_lt (Nat.lt_of_lt_of_le (by have:=World.block_lt_of_cell? _ _ hx353_0;first|rwa [add_block] at this|exact this) GW352.out);replace hx353_0:=(HB.out.cell (World.block_lt_of_cell? w _ hx353_0)).trans hx353_0;replace hx353_1:=(HB.out.cell (World.block_lt_of_cell? w _ hx353_1)).trans hx353_1;replace hx353_2:=(HB.out.cell (World.block_lt_of_cell? w _ hx353_2)).trans hx353_2;replace hx353_3:=(HB.out.cell (World.block_lt_of_cell? w _ hx353_3)).trans hx353_3;replace hx353_0:=(cell_far (p:=⟨gb352,0,none⟩) (by first|(rw [add_block];exact hn353_0)|(show (Addr.add _ _).block≠_;rw [add_block];exact hn353_0)|exact hn353_0) (.int .i64 ((rd_T92 l1 x10_1).f0))).trans hx353_0;replace hx353_1:=(cell_far (p:=⟨gb352,0,none⟩) (by first|(rw [add_block];exact hn353_0)|(show (Addr.add _ _).block≠_;rw [add_block];exact hn353_0)|exact hn353_0) (.int .i64 ((rd_T92 l1 x10_1).f0))).trans hx353_1;replace hx353_2:=(cell_far (p:=⟨gb352,0,none⟩) (by first|(rw [add_block];exact hn353_0)|(show (Addr.add _ _).block≠_;rw [add_block];exact hn353_0)|exact hn353_0) (.int .i64 ((rd_T92 l1 x10_1).f0))).trans hx353_2;replace hx353_3:=(cell_far (p:=⟨gb352,0,none⟩) (by first|(rw [add_block];exact hn353_0)|(show (Addr.add _ _).block≠_;rw [add_block];exact hn353_0)|exact hn353_0) (.int .i64 ((rd_T92 l1 x10_1).f0))).trans hx353_3;replace hx353_0:=(cell_far (p:=⟨gb352,1,none⟩) (by first|(rw [add_block];exact hn353_1)|(show (Addr.add _ _).block≠_;rw [add_block];exact hn353_1)|exact hn353_1) (.int .i64 ((rd_T92 l1 x10_1).f1))).trans hx353_0;replace hx353_1:=(cell_far (p:=⟨gb352,1,none⟩) (by first|(rw [add_block];exact hn353_1)|(show (Addr.add _ _).block≠_;rw [add_block];exact hn353_1)|exact hn353_1) (.int .i64 ((rd_T92 l1 x10_1).f1))).trans hx353_1;replace hx353_2:=(cell_far (p:=⟨gb352,1,none⟩) (by first|(rw [add_block];exact hn353_1)|(show (Addr.add _ _).block≠_;rw [add_block];exact hn353_1)|exact hn353_1) (.int .i64 ((rd_T92 l1 x10_1).f1))).trans hx353_2;replace hx353_3:=(cell_far (p:=⟨gb352,1,none⟩) (by first|(rw [add_block];exact hn353_1)|(show (Addr.add _ _).block≠_;rw [add_block];exact hn353_1)|exact hn353_1) (.int .i64 ((rd_T92 l1 x10_1).f1))).trans hx353_3;replace hx353_0:=(cell_far (p:=⟨gb352,2,none⟩) (by first|(rw [add_block];exact hn353_2)|(show (Addr.add _ _).block≠_;rw [add_block];exact hn353_2)|exact hn353_2) (.int .i64 ((rd_T92 l1 x10_1).f2))).trans hx353_0;replace hx353_1:=(cell_far (p:=⟨gb352,2,none⟩) (by first|(rw [add_block];exact hn353_2)|(show (Addr.add _ _).block≠_;rw [add_block];exact hn353_2)|exact hn353_2) (.int .i64 ((rd_T92 l1 x10_1).f2))).trans hx353_1;replace hx353_2:=(cell_far (p:=⟨gb352,2,none⟩) (by first|(rw [add_block];exact hn353_2)|(show (Addr.add _ _).block≠_;rw [add_block];exact hn353_2)|exact hn353_2) (.int .i64 ((rd_T92 l1 x10_1).f2))).trans hx353_2;replace hx353_3:=(cell_far (p:=⟨gb352,2,none⟩) (by first|(rw [add_block];exact hn353_2)|(show (Addr.add _ _).block≠_;rw [add_block];exact hn353_2)|exact hn353_2) (.int .i64 ((rd_T92 l1 x10_1).f2))).trans hx353_3;(try have hy353_0:=fun (n_:Nat)=>(show (((((w9.drewN n_).setCell ⟨gb352,0,none⟩ (.int .i64 ((rd_T92 l1 x10_1).f0))).setCell ⟨gb352,1,none⟩ (.int .i64 ((rd_T92 l1 x10_1).f1))).setCell ⟨gb352,2,none⟩ (.int .i64 ((rd_T92 l1 x10_1).f2)))).cell? _=some _ from hx353_0));(try have hy353_1:=fun (n_:Nat)=>(show (((((w9.drewN n_).setCell ⟨gb352,0,none⟩ (.int .i64 ((rd_T92 l1 x10_1).f0))).setCell ⟨gb352,1,none⟩ (.int .i64 ((rd_T92 l1 x10_1).f1))).setCell ⟨gb352,2,none⟩ (.int .i64 ((rd_T92 l1 x10_1).f2)))).cell? _=some _ from hx353_1));(try have hy353_2:=fun (n_:Nat)=>(show (((((w9.drewN n_).setCell ⟨gb352,0,none⟩ (.int .i64 ((rd_T92 l1 x10_1).f0))).setCell ⟨gb352,1,none⟩ (.int .i64 ((rd_T92 l1 x10_1).f1))).setCell ⟨gb352,2,none⟩ (.int .i64 ((rd_T92 l1 x10_1).f2)))).cell? _=some _ from hx353_2));(try have hy353_3:=fun (n_:Nat)=>(show (((((w9.drewN n_).setCell ⟨gb352,0,none⟩ (.int .i64 ((rd_T92 l1 x10_1).f0))).setCell ⟨gb352,1,none⟩ (.int .i64 ((rd_T92 l1 x10_1).f1))).setCell ⟨gb352,2,none⟩ (.int .i64 ((rd_T92 l1 x10_1).f2)))).cell? _=some _ from hx353_3));clear hn353_0;clear hn353_1;clear hn353_2;replace p353:=eq_true p353;replace q353:=eq_true q353));try go_wp2_with (first|((with_reducible refine gate_dst (N:=7) rfl ?_);refine box_event ?hg (N:=7) ?hd (cs:=#[.int .i64 0,.int .i64 0,.int .i64 0]) (t:=92) ?hr ?_;(case hd=>rfl);(case hg=>rfl);(case hr=>first|(go_simp;done)|(go_simp;rfl));intro gb352 hg w9 hbox hb;have n0_:=Aside0.mk (below_step zb hb);have n1_:=Aside0.mk (hbox);have n2_:=Aside0.mk ((by rw [hg];exact (below_size zb):w.heap.size≤gb352));have n3_:=Aside0.mk ((by rw [hg];exact (below_size zb):w.heap.size≤gb352));clear HB;have HB:=n0_;have BK352:=n1_;have GW352:=n2_;have GE352:=n3_;clear n0_ n1_ n2_ n3_;clear hb hbox hg;have hcz10_0:w9.cell? ⟨gb352,0,none⟩=some (.int .i64 0):=(blk_cell BK352.out 0).trans rfl;have hcz10_1:w9.cell? ⟨gb352,1,none⟩=some (.int .i64 0):=(blk_cell BK352.out 1).trans rfl;have hcz10_2:w9.cell? ⟨gb352,2,none⟩=some (.int .i64 0):=(blk_cell BK352.out 2).trans rfl;have hfz10_0:=blk_frozen BK352.out 0;have hfz10_1:=blk_frozen BK352.out 1;have hfz10_2:=blk_frozen BK352.out 2;have p353:0≤(((rd_T92 l1 x10_1).f0):Int):=of_decide_eq_true za;have q353:((rd_T92 l1 x10_1).f0)<(l0.length:Int):=of_decide_eq_true za;obtain ⟨ad353,e353,hx353_0,hx353_1,hx353_2,hx353_3⟩:=at_T76 HR0.out ((rd_T92 l1 x10_1).f0) p353 q353;cases e353;have hn353_0:ad353.block≠gb352:=Nat.ne_of_lt (Nat.lt_of_lt_of_le (by have:=World.block_lt_of_cell? _ _ hx353_0;first|rwa [add_block] at this|exact this) GW352.out);have hn353_1:ad353.block≠gb352:=Nat.ne_of_lt (Nat.lt_of_lt_of_le (by have:=World.block_lt_of_cell? _ _ hx353_0;first|rwa [add_block] at this|exact this) GW352.out);have hn353_2:ad353.block≠gb352:=Nat.ne_of_lt (Nat.lt_of_lt_of_le (by have:=World.block_lt_of_cell? _ _ hx353_0;first|rwa [add_block] at this|exact this) GW352.out);replace hx353_0:=(HB.out.cell (World.block_lt_of_cell? w _ hx353_0)).trans hx353_0;replace hx353_1:=(HB.out.cell (World.block_lt_of_cell? w _ hx353_1)).trans hx353_1;replace hx353_2:=(HB.out.cell (World.block_lt_of_cell? w _ hx353_2)).trans hx353_2;replace hx353_3:=(HB.out.cell (World.block_lt_of_cell? w _ hx353_3)).trans hx353_3;replace hx353_0:=(cell_far (p:=⟨gb352,0,none⟩) (by first|(rw [add_block];exact hn353_0)|(show (Addr.add _ _).block≠_;rw [add_block];exact hn353_0)|exact hn353_0) (.int .i64 ((rd_T92 l1 x10_1).f0))).trans hx353_0;replace hx353_1:=(cell_far (p:=⟨gb352,0,none⟩) (by first|(rw [add_block];exact hn353_0)|(show (Addr.add _ _).block≠_;rw [add_block];exact hn353_0)|exact hn353_0) (.int .i64 ((rd_T92 l1 x10_1).f0))).trans hx353_1;replace hx353_2:=(cell_far (p:=⟨gb352,0,none⟩) (by first|(rw [add_block];exact hn353_0)|(show (Addr.add _ _).block≠_;rw [add_block];exact hn353_0)|exact hn353_0) (.int .i64 ((rd_T92 l1 x10_1).f0))).trans hx353_2;replace hx353_3:=(cell_far (p:=⟨gb352,0,none⟩) (by first|(rw [add_block];exact hn353_0)|(show (Addr.add _ _).block≠_;rw [add_block];exact hn353_0)|exact hn353_0) (.int .i64 ((rd_T92 l1 x10_1).f0))).trans hx353_3;replace hx353_0:=(cell_far (p:=⟨gb352,1,none⟩) (by first|(rw [add_block];exact hn353_1)|(show (Addr.add _ _).block≠_;rw [add_block];exact hn353_1)|exact hn353_1) (.int .i64 ((rd_T92 l1 x10_1).f1))).trans hx353_0;replace hx353_1:=(cell_far (p:=⟨gb352,1,none⟩) (by first|(rw [add_block];exact hn353_1)|(show (Addr.add _ _).block≠_;rw [add_block];exact hn353_1)|exact hn353_1) (.int .i64 ((rd_T92 l1 x10_1).f1))).trans hx353_1;replace hx353_2:=(cell_far (p:=⟨gb352,1,none⟩) (by first|(rw [add_block];exact hn353_1)|(show (Addr.add _ _).block≠_;rw [add_block];exact hn353_1)|exact hn353_1) (.int .i64 ((rd_T92 l1 x10_1).f1))).trans hx353_2;replace hx353_3:=(cell_far (p:=⟨gb352,1,none⟩) (by first|(rw [add_block];exact hn353_1)|(show (Addr.add _ _).block≠_;rw [add_block];exact hn353_1)|exact hn353_1) (.int .i64 ((rd_T92 l1 x10_1).f1))).trans hx353_3;replace hx353_0:=(cell_far (p:=⟨gb352,2,none⟩) (by first|(rw [add_block];exact hn353_2)|(show (Addr.add _ _).block≠_;rw [add_block];exact hn353_2)|exact hn353_2) (.int .i64 ((rd_T92 l1 x10_1).f2))).trans hx353_0;replace hx353_1:=(cell_far (p:=⟨gb352,2,none⟩) (by first|(rw [add_block];exact hn353_2)|(show (Addr.add _ _).block≠_;rw [add_block];exact hn353_2)|exact hn353_2) (.int .i64 ((rd_T92 l1 x10_1).f2))).trans hx353_1;replace hx353_2:=(cell_far (p:=⟨gb352,2,none⟩) (by first|(rw [add_block];exact hn353_2)|(show (Addr.add _ _).block≠_;rw [add_block];exact hn353_2)|exact hn353_2) (.int .i64 ((rd_T92 l1 x10_1).f2))).trans hx353_2;replace hx353_3:=(cell_far (p:=⟨gb352,2,none⟩) (by first|(rw [add_block];exact hn353_2)|(show (Addr.add _ _).block≠_;rw [add_block];exact hn353_2)|exact hn353_2) (.int .i64 ((rd_T92 l1 x10_1).f2))).trans hx353_3;(try have hy353_0:=fun (n_:Nat)=>(show (((((w9.drewN n_).setCell ⟨gb352,0,none⟩ (.int .i64 ((rd_T92 l1 x10_1).f0))).setCell ⟨gb352,1,none⟩ (.int .i64 ((rd_T92 l1 x10_1).f1))).setCell ⟨gb352,2,none⟩ (.int .i64 ((rd_T92 l1 x10_1).f2)))).cell? _=some _ from hx353_0));(try have hy353_1:=fun (n_:Nat)=>(show (((((w9.drewN n_).setCell ⟨gb352,0,none⟩ (.int .i64 ((rd_T92 l1 x10_1).f0))).setCell ⟨gb352,1,none⟩ (.int .i64 ((rd_T92 l1 x10_1).f1))).setCell ⟨gb352,2,none⟩ (.int .i64 ((rd_T92 l1 x10_1).f2)))).cell? _=some _ from hx353_1));(try have hy353_2:=fun (n_:Nat)=>(show (((((w9.drewN n_).setCell ⟨gb352,0,none⟩ (.int .i64 ((rd_T92 l1 x10_1).f0))).setCell ⟨gb352,1,none⟩ (.int .i64 ((rd_T92 l1 x10_1).f1))).setCell ⟨gb352,2,none⟩ (.int .i64 ((rd_T92 l1 x10_1).f2)))).cell? _=some _ from hx353_2));(try have hy353_3:=fun (n_:Nat)=>(show (((((w9.drewN n_).setCell ⟨gb352,0,none⟩ (.int .i64 ((rd_T92 l1 x10_1).f0))).setCell ⟨gb352,1,none⟩ (.int .i64 ((rd_T92 l1 x10_1).f1))).setCell ⟨gb352,2,none⟩ (.int .i64 ((rd_T92 l1 x10_1).f2)))).cell? _=some _ from hx353_3));clear hn353_0;clear hn353_1;clear hn353_2;replace p353:=eq_true p353;replace q353:=eq_true q353)))
        go_roundg k1
        case measure=>have:=HK1.out;omega
        case rel=>exact ⟨(ji8),(wrap64 (x10_1 + 1)),(by first|rfl|(simp;done)|(simp only [←hji8] <;> (first|rfl|simp))|(simp [*];done)),zo,H',⟨by have:=HK1.out;omega⟩,⟨by repeat (first|(with_reducible first|exact HB.out|apply below_alloc|apply pw_below_drewN|apply below_drew1|refine below_set ?_ GE352.out)|exact HB.out)⟩⟩
       ·rw [if_neg c7] at H
        exact absurd H (by simp)
      ·rw [if_neg c6] at H
       exact absurd H (by simp)
     ·rw [if_neg c5] at H
      exact absurd H (by simp)
    ·rw [if_neg c4] at H
     exact absurd H (by simp)
   ·rw [if_neg c3] at H
    have c3b0:decide (x10_1<(l1.length:Int))=false:=decide_eq_false c3
    clear c3
    obtain rfl:=Option.some.inj H
    go_wp2
    repeat (go_quiet (fail);try go_wp2)
    go_ret
    exact ⟨by first|rfl|(simp [errW_none,errW_some] <;> rfl)|(simp [*,errW_none,errW_some] <;> rfl),zb⟩

-- NOT PRINTED: function 83 (impl_BestListPlan_1)

end Go.Proofs.Ytbcfmegepkhlpaa.XFnExactBestListPlan
-- minified
