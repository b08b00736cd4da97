-- Written by a program of this session (the kit's print, widened). Proved here: what each function answers, for the arguments that its contract names.
import Derived.Test.YtbcfmegepkhlpaaXFnExactLabelPlanx0
namespace Go.Proofs.Ytbcfmegepkhlpaa.XFnExactLabelPlan
open Go.RowKit Go.Proofs.YtbcfmegepkhlpaaW.PrintWords Go.Proofs.YtbcfmegepkhlpaaW.PrintLast Go.Proofs.YtbcfmegepkhlpaaW.PrintMore
attribute [local go_sem] max2_int min2_int max_two min_two max_three min_three max_four min_four   -- for this text's walks alone
attribute [local go_sem] idxA_72_0 idxA_72_1 fldS_96_0 fldS_96_1 fldS_96_2 fldS_111_0 fldS_111_1 fldS_111_2
set_option linter.unusedVariables false
set_option linter.unusedSimpArgs false

/-! ### laws_eqTask: function 68 -/
def laws_eqTask.f (a0_0:Int) (a0_1:Int) (a0_2:Int) (a1_0:Int) (a1_1:Int) (a1_2:Int):Option (Bool):=if a0_0=a1_0 then (if a0_1=a1_1 then (if a0_2=a1_2 then (some true) else (some false)) else (some false)) else (some false)
set_option maxHeartbeats 8000000 in
set_option maxRecDepth 100000 in
theorem laws_eqTask.calls (a0_0:Int) (a0_1:Int) (a0_2:Int) (a1_0:Int) (a1_1:Int) (a1_2:Int) (r:Bool) (w:World) (h:laws_eqTask.f a0_0 a0_1 a0_2 a1_0 a1_1 a1_2=some r) :
  Calls Try.prog 68 #[.agg #[.int .i64 a0_0,.int .i64 a0_1,.int .i64 a0_2],.agg #[.int .i64 a1_0,.int .i64 a1_1,.int .i64 a1_2]] w fun e w'=>e=.returned (.bool r)∧Below w.heap.size w w':=by
 have hu92:=Try.underlying92
 have HB:=Aside0.mk (Below.refl w.heap.size w)
 have H:(if a0_0=a1_0 then (if a0_1=a1_1 then (if a0_2=a1_2 then (some true) else (some false)) else (some false)) else (some false))=some r:=h
 clear h
 by_cases c3:a0_0=a1_0
 ·rw [if_pos c3] at H
  have c3b0:(a0_0 == a1_0)=true:=beq_iff_eq.mpr c3
  have c3b1:(a0_0 != a1_0)=false:=bne_eq_false_iff_eq.mpr c3
  clear c3
  by_cases c4:a0_1=a1_1
  ·rw [if_pos c4] at H
   have c4b0:(a0_1 == a1_1)=true:=beq_iff_eq.mpr c4
   have c4b1:(a0_1 != a1_1)=false:=bne_eq_false_iff_eq.mpr c4
   clear c4
   by_cases c5:a0_2=a1_2
   ·rw [if_pos c5] at H
    have c5b0:(a0_2 == a1_2)=true:=beq_iff_eq.mpr c5
    have c5b1:(a0_2 != a1_2)=false:=bne_eq_false_iff_eq.mpr c5
    clear c5
    obtain rfl:=Option.some.inj H
    go_enter Try.func68,Try.ntmps68
    go_wp2_with (first|((with_reducible refine gate_dst (N:=2) rfl ?_);refine box_event ?hg (N:=2) ?hd (cs:=#[.int .i64 a0_0,.int .i64 a0_1,.int .i64 a0_2]) (t:=92) ?hr ?_;(case hd=>rfl);(case hg=>rfl);(case hr=>first|(go_simp;done)|(go_simp;rfl));intro gb412 hg w6 hbox hb;have n0_:=Aside0.mk (below_step zb hb);have n1_:=Aside0.mk (hbox);have n2_:=Aside0.mk ((by rw [hg];exact (below_size zb):w.heap.size≤gb412));have n3_:=Aside0.mk ((by rw [hg];exact (below_size zb):w.heap.size≤gb412));clear HB;have HB:=n0_;have BK412:=n1_;have GW412:=n2_;have GE412:=n3_;clear n0_ n1_ n2_ n3_;clear hb hbox hg)|((with_reducible refine gate_dst (N:=3) rfl ?_);refine box_event ?hg (N:=3) ?hd (cs:=#[.int .i64 a1_0,.int .i64 a1_1,.int .i64 a1_2]) (t:=92) ?hr ?_;(case hd=>rfl);(case hg=>rfl);(case hr=>first|(go_simp;done)|(go_simp;rfl));intro gb413 hg w7 hbox hb;have n0_:=Aside0.mk (blk_below (g:=gb412) (o:=.cells #[.int .i64 a0_0,.int .i64 a0_1,.int .i64 a0_2] 92 (0,0)) (by (with_reducible repeat (first|refine blk_drewN ?_ _|refine blk_drew ?_|refine blk_alloc ?_ _));exact BK412.out) hb);have n1_:=Aside0.mk (below_step (by repeat (first|(with_reducible first|exact HB.out|apply below_alloc|apply pw_below_drewN|apply below_drew1|refine below_set ?_ GE412.out)|exact HB.out)) hb);have n2_:=Aside0.mk (hbox);have n3_:=Aside0.mk ((by rw [hg];exact (below_size (by repeat (first|(with_reducible first|exact HB.out|apply below_alloc|apply pw_below_drewN|apply below_drew1|refine below_set ?_ GE412.out)|exact HB.out))):w.heap.size≤gb413));have n4_:=Aside0.mk ((by rw [hg];exact (below_size (by repeat (first|(with_reducible first|exact HB.out|apply below_alloc|apply pw_below_drewN|apply below_drew1|refine below_set ?_ GE412.out)|exact HB.out))):w.heap.size≤gb413));have n5_:=Aside0.mk ((by rw [hg];exact Nat.ne_of_lt (blk_lt (g:=gb412) (o:=.cells #[.int .i64 a0_0,.int .i64 a0_1,.int .i64 a0_2] 92 (0,0)) (by (with_reducible repeat (first|refine blk_drewN ?_ _|refine blk_drew ?_|refine blk_alloc ?_ _));exact BK412.out)):gb412≠gb413));have n6_:=Aside0.mk ((by rw [hg];exact Nat.ne_of_gt (blk_lt (g:=gb412) (o:=.cells #[.int .i64 a0_0,.int .i64 a0_1,.int .i64 a0_2] 92 (0,0)) (by (with_reducible repeat (first|refine blk_drewN ?_ _|refine blk_drew ?_|refine blk_alloc ?_ _));exact BK412.out)):gb413≠gb412));clear BK412;clear HB;have BK412:=n0_;have HB:=n1_;have BK413:=n2_;have GW413:=n3_;have GE413:=n4_;have NB412_413:=n5_;have NB413_412:=n6_;clear n0_ n1_ n2_ n3_ n4_ n5_ n6_;clear hb hbox hg;have hnb8:=NB412_413.out;have hnc8:=NB413_412.out;have hcz9_0:w7.cell? ⟨gb412,0,none⟩=some (.int .i64 a0_0):=(blk_cell BK412.out 0).trans rfl;have hcz9_1:w7.cell? ⟨gb412,1,none⟩=some (.int .i64 a0_1):=(blk_cell BK412.out 1).trans rfl;have hcz9_2:w7.cell? ⟨gb412,2,none⟩=some (.int .i64 a0_2):=(blk_cell BK412.out 2).trans rfl;have hfz9_0:=blk_frozen BK412.out 0;have hfz9_1:=blk_frozen BK412.out 1;have hfz9_2:=blk_frozen BK412.out 2;have hcz10_0:w7.cell? ⟨gb413,0,none⟩=some (.int .i64 a1_0):=(blk_cell BK413.out 0).trans rfl;have hcz10_1:w7.cell? ⟨gb413,1,none⟩=some (.int .i64 a1_1):=(blk_cell BK413.out 1).trans rfl;have hcz10_2:w7.cell? ⟨gb413,2,none⟩=some (.int .i64 a1_2):=(blk_cell BK413.out 2).trans rfl;have hfz10_0:=blk_frozen BK413.out 0;have hfz10_1:=blk_frozen BK413.out 1;have hfz10_2:=blk_frozen BK413.out 2))
    go_ret
    exact ⟨by first|rfl|(simp [errW_none,errW_some] <;> rfl)|(simp [*,errW_none,errW_some] <;> rfl),by repeat (first|(with_reducible first|exact HB.out|apply below_alloc|apply pw_below_drewN|apply below_drew1|refine below_set ?_ GE412.out|refine below_set ?_ GE413.out)|exact HB.out)⟩
   ·rw [if_neg c5] at H
    have c5b0:(a0_2 == a1_2)=false:=beq_eq_false_iff_ne.mpr c5
    have c5b1:(a0_2 != a1_2)=true:=bne_iff_ne.mpr c5
    obtain rfl:=Option.some.inj H
    go_enter Try.func68,Try.ntmps68
    go_wp2_with (first|((with_reducible refine gate_dst (N:=2) rfl ?_);refine box_event ?hg (N:=2) ?hd (cs:=#[.int .i64 a0_0,.int .i64 a0_1,.int .i64 a0_2]) (t:=92) ?hr ?_;(case hd=>rfl);(case hg=>rfl);(case hr=>first|(go_simp;done)|(go_simp;rfl));intro gb412 hg w11 hbox hb;have n0_:=Aside0.mk (below_step zb hb);have n1_:=Aside0.mk (hbox);have n2_:=Aside0.mk ((by rw [hg];exact (below_size zb):w.heap.size≤gb412));have n3_:=Aside0.mk ((by rw [hg];exact (below_size zb):w.heap.size≤gb412));clear HB;have HB:=n0_;have BK412:=n1_;have GW412:=n2_;have GE412:=n3_;clear n0_ n1_ n2_ n3_;clear hb hbox hg)|((with_reducible refine gate_dst (N:=3) rfl ?_);refine box_event ?hg (N:=3) ?hd (cs:=#[.int .i64 a1_0,.int .i64 a1_1,.int .i64 a1_2]) (t:=92) ?hr ?_;(case hd=>rfl);(case hg=>rfl);(case hr=>first|(go_simp;done)|(go_simp;rfl));intro gb413 hg w12 hbox hb;have n0_:=Aside0.mk (blk_below (g:=gb412) (o:=.cells #[.int .i64 a0_0,.int .i64 a0_1,.int .i64 a0_2] 92 (0,0)) (by (with_reducible repeat (first|refine blk_drewN ?_ _|refine blk_drew ?_|refine blk_alloc ?_ _));exact BK412.out) hb);have n1_:=Aside0.mk (below_step (by repeat (first|(with_reducible first|exact HB.out|apply below_alloc|apply pw_below_drewN|apply below_drew1|refine below_set ?_ GE412.out)|exact HB.out)) hb);have n2_:=Aside0.mk (hbox);have n3_:=Aside0.mk ((by rw [hg];exact (below_size (by repeat (first|(with_reducible first|exact HB.out|apply below_alloc|apply pw_below_drewN|apply below_drew1|refine below_set ?_ GE412.out)|exact HB.out))):w.heap.size≤gb413));have n4_:=Aside0.mk ((by rw [hg];exact (below_size (by repeat (first|(with_reducible first|exact HB.out|apply below_alloc|apply pw_below_drewN|apply below_drew1|refine below_set ?_ GE412.out)|exact HB.out))):w.heap.size≤gb413));have n5_:=Aside0.mk ((by rw [hg];exact Nat.ne_of_lt (blk_lt (g:=gb412) (o:=.cells #[.int .i64 a0_0,.int .i64 a0_1,.int .i64 a0_2] 92 (0,0)) (by (with_reducible repeat (first|refine blk_drewN ?_ _|refine blk_drew ?_|refine blk_alloc ?_ _));exact BK412.out)):gb412≠gb413));have n6_:=Aside0.mk ((by rw [hg];exact Nat.ne_of_gt (blk_lt (g:=gb412) (o:=.cells #[.int .i64 a0_0,.int .i64 a0_1,.int .i64 a0_2] 92 (0,0)) (by (with_reducible repeat (first|refine blk_drewN ?_ _|refine blk_drew ?_|refine blk_alloc ?_ _));exact BK412.out)):gb413≠gb412));clear BK412;clear HB;have BK412:=n0_;have HB:=n1_;have BK413:=n2_;have GW413:=n3_;have GE413:=n4_;have NB412_413:=n5_;have NB413_412:=n6_;clear n0_ n1_ n2_ n3_ n4_ n5_ n6_;clear hb hbox hg;have hnb13:=NB412_413.out;have hnc13:=NB413_412.out;have hcz14_0:w12.cell? ⟨gb412,0,none⟩=some (.int .i64 a0_0):=(blk_cell BK412.out 0).trans rfl;have hcz14_1:w12.cell? ⟨gb412,1,none⟩=some (.int .i64 a0_1):=(blk_cell BK412.out 1).trans rfl;have hcz14_2:w12.cell? ⟨gb412,2,none⟩=some (.int .i64 a0_2):=(blk_cell BK412.out 2).trans rfl;have hfz14_0:=blk_frozen BK412.out 0;have hfz14_1:=blk_frozen BK412.out 1;have hfz14_2:=blk_frozen BK412.out 2;have hcz15_0:w12.cell? ⟨gb413,0,none⟩=some (.int .i64 a1_0):=(blk_cell BK413.out 0).trans rfl;have hcz15_1:w12.cell? ⟨gb413,1,none⟩=some (.int .i64 a1_1):=(blk_cell BK413.out 1).trans rfl;have hcz15_2:w12.cell? ⟨gb413,2,none⟩=some (.int .i64 a1_2):=(blk_cell BK413.out 2).trans rfl;have hfz15_0:=blk_frozen BK413.out 0;have hfz15_1:=blk_frozen BK413.out 1;have hfz15_2:=blk_frozen BK413.out 2))
    go_ret
    exact ⟨by first|rfl|(simp [errW_none,errW_some] <;> rfl)|(simp [*,errW_none,errW_some] <;> rfl),by repeat (first|(with_reducible first|exact HB.out|apply below_alloc|apply pw_below_drewN|apply below_drew1|refine below_set ?_ GE412.out|refine below_set ?_ GE413.out)|exact HB.out)⟩
  ·rw [if_neg c4] at H
   have c4b0:(a0_1 == a1_1)=false:=beq_eq_false_iff_ne.mpr c4
   have c4b1:(a0_1 != a1_1)=true:=bne_iff_ne.mpr c4
   obtain rfl:=Option.some.inj H
   go_enter Try.func68,Try.ntmps68
   go_wp2_with (first|((with_reducible refine gate_dst (N:=2) rfl ?_);refine box_event ?hg (N:=2) ?hd (cs:=#[.int .i64 a0_0,.int .i64 a0_1,.int .i64 a0_2]) (t:=92) ?hr ?_;(case hd=>rfl);(case hg=>rfl);(case hr=>first|(go_simp;done)|(go_simp;rfl));intro gb412 hg w16 hbox hb;have n0_:=Aside0.mk (below_step zb hb);have n1_:=Aside0.mk (hbox);have n2_:=Aside0.mk ((by rw [hg];exact (below_size zb):w.heap.size≤gb412));have n3_:=Aside0.mk ((by rw [hg];exact (below_size zb):w.heap.size≤gb412));clear HB;have HB:=n0_;have BK412:=n1_;have GW412:=n2_;have GE412:=n3_;clear n0_ n1_ n2_ n3_;clear hb hbox hg)|((with_reducible refine gate_dst (N:=3) rfl ?_);refine box_event ?hg (N:=3) ?hd (cs:=#[.int .i64 a1_0,.int .i64 a1_1,.int .i64 a1_2]) (t:=92) ?hr ?_;(case hd=>rfl);(case hg=>rfl);(case hr=>first|(go_simp;done)|(go_simp;rfl));intro gb413 hg w17 hbox hb;have n0_:=Aside0.mk (blk_below (g:=gb412) (o:=.cells #[.int .i64 a0_0,.int .i64 a0_1,.int .i64 a0_2] 92 (0,0)) (by (with_reducible repeat (first|refine blk_drewN ?_ _|refine blk_drew ?_|refine blk_alloc ?_ _));exact BK412.out) hb);have n1_:=Aside0.mk (below_step (by repeat (first|(with_reducible first|exact HB.out|apply below_alloc|apply pw_below_drewN|apply below_drew1|refine below_set ?_ GE412.out)|exact HB.out)) hb);have n2_:=Aside0.mk (hbox);have n3_:=Aside0.mk ((by rw [hg];exact (below_size (by repeat (first|(with_reducible first|exact HB.out|apply below_alloc|apply pw_below_drewN|apply below_drew1|refine below_set ?_ GE412.out)|exact HB.out))):w.heap.size≤gb413));have n4_:=Aside0.mk ((by rw [hg];exact (below_size (by repeat (first|(with_reducible first|exact HB.out|apply below_alloc|apply pw_below_drewN|apply below_drew1|refine below_set ?_ GE412.out)|exact HB.out))):w.heap.size≤gb413));have n5_:=Aside0.mk ((by rw [hg];exact Nat.ne_of_lt (blk_lt (g:=gb412) (o:=.cells #[.int .i64 a0_0,.int .i64 a0_1,.int .i64 a0_2] 92 (0,0)) (by (with_reducible repeat (first|refine blk_drewN ?_ _|refine blk_drew ?_|refine blk_alloc ?_ _));exact BK412.out)):gb412≠gb413));have n6_:=Aside0.mk ((by rw [hg];exact Nat.ne_of_gt (blk_lt (g:=gb412) (o:=.cells #[.int .i64 a0_0,.int .i64 a0_1,.int .i64 a0_2] 92 (0,0)) (by (with_reducible repeat (first|refine blk_drewN ?_ _|refine blk_drew ?_|refine blk_alloc ?_ _));exact BK412.out)):gb413≠gb412));clear BK412;clear HB;have BK412:=n0_;have HB:=n1_;have BK413:=n2_;have GW413:=n3_;have GE413:=n4_;have NB412_413:=n5_;have NB413_412:=n6_;clear n0_ n1_ n2_ n3_ n4_ n5_ n6_;clear hb hbox hg;have hnb18:=NB412_413.out;have hnc18:=NB413_412.out;have hcz19_0:w17.cell? ⟨gb412,0,none⟩=some (.int .i64 a0_0):=(blk_cell BK412.out 0).trans rfl;have hcz19_1:w17.cell? ⟨gb412,1,none⟩=some (.int .i64 a0_1):=(blk_cell BK412.out 1).trans rfl;have hcz19_2:w17.cell? ⟨gb412,2,none⟩=some (.int .i64 a0_2):=(blk_cell BK412.out 2).trans rfl;have hfz19_0:=blk_frozen BK412.out 0;have hfz19_1:=blk_frozen BK412.out 1;have hfz19_2:=blk_frozen BK412.out 2;have hcz20_0:w17.cell? ⟨gb413,0,none⟩=some (.int .i64 a1_0):=(blk_cell BK413.out 0).trans rfl;have hcz20_1:w17.cell? ⟨gb413,1,none⟩=some (.int .i64 a1_1):=(blk_cell BK413.out 1).trans rfl;have hcz20_2:w17.cell? ⟨gb413,2,none⟩=some (.int .i64 a1_2):=(blk_cell BK413.out 2).trans rfl;have hfz20_0:=blk_frozen BK413.out 0;have hfz20_1:=blk_frozen BK413.out 1;have hfz20_2:=blk_frozen BK413.out 2))
   go_ret
   exact ⟨by first|rfl|(simp [errW_none,errW_some] <;> rfl)|(simp [*,errW_none,errW_some] <;> rfl),by repeat (first|(with_reducible first|exact HB.out|apply below_alloc|apply pw_below_drewN|apply below_drew1|refine below_set ?_ GE412.out|refine below_set ?_ GE413.out)|exact HB.out)⟩
 ·rw [if_neg c3] at H
  have c3b0:(a0_0 == a1_0)=false:=beq_eq_false_iff_ne.mpr c3
  have c3b1:(a0_0 != a1_0)=true:=bne_iff_ne.mpr c3
  obtain rfl:=Option.some.inj H
  go_enter Try.func68,Try.ntmps68
  go_wp2_with (first|((with_reducible refine gate_dst (N:=2) rfl ?_);refine box_event ?hg (N:=2) ?hd (cs:=#[.int .i64 a0_0,.int .i64 a0_1,.int .i64 a0_2]) (t:=92) ?hr ?_;(case hd=>rfl);(case hg=>rfl);(case hr=>first|(go_simp;done)|(go_simp;rfl));intro gb412 hg w21 hbox hb;have n0_:=Aside0.mk (below_step zb hb);have n1_:=Aside0.mk (hbox);have n2_:=Aside0.mk ((by rw [hg];exact (below_size zb):w.heap.size≤gb412));have n3_:=Aside0.mk ((by rw [hg];exact (below_size zb):w.heap.size≤gb412));clear HB;have HB:=n0_;have BK412:=n1_;have GW412:=n2_;have GE412:=n3_;clear n0_ n1_ n2_ n3_;clear hb hbox hg)|((with_reducible refine gate_dst (N:=3) rfl ?_);refine box_event ?hg (N:=3) ?hd (cs:=#[.int .i64 a1_0,.int .i64 a1_1,.int .i64 a1_2]) (t:=92) ?hr ?_;(case hd=>rfl);(case hg=>rfl);(case hr=>first|(go_simp;done)|(go_simp;rfl));intro gb413 hg w22 hbox hb;have n0_:=Aside0.mk (blk_below (g:=gb412) (o:=.cells #[.int .i64 a0_0,.int .i64 a0_1,.int .i64 a0_2] 92 (0,0)) (by (with_reducible repeat (first|refine blk_drewN ?_ _|refine blk_drew ?_|refine blk_alloc ?_ _));exact BK412.out) hb);have n1_:=Aside0.mk (below_step (by repeat (first|(with_reducible first|exact HB.out|apply below_alloc|apply pw_below_drewN|apply below_drew1|refine below_set ?_ GE412.out)|exact HB.out)) hb);have n2_:=Aside0.mk (hbox);have n3_:=Aside0.mk ((by rw [hg];exact (below_size (by repeat (first|(with_reducible first|exact HB.out|apply below_alloc|apply pw_below_drewN|apply below_drew1|refine below_set ?_ GE412.out)|exact HB.out))):w.heap.size≤gb413));have n4_:=Aside0.mk ((by rw [hg];exact (below_size (by repeat (first|(with_reducible first|exact HB.out|apply below_alloc|apply pw_below_drewN|apply below_drew1|refine below_set ?_ GE412.out)|exact HB.out))):w.heap.size≤gb413));have n5_:=Aside0.mk ((by rw [hg];exact Nat.ne_of_lt (blk_lt (g:=gb412) (o:=.cells #[.int .i64 a0_0,.int .i64 a0_1,.int .i64 a0_2] 92 (0,0)) (by (with_reducible repeat (first|refine blk_drewN ?_ _|refine blk_drew ?_|refine blk_alloc ?_ _));exact BK412.out)):gb412≠gb413));have n6_:=Aside0.mk ((by rw [hg];exact Nat.ne_of_gt (blk_lt (g:=gb412) (o:=.cells #[.int .i64 a0_0,.int .i64 a0_1,.int .i64 a0_2] 92 (0,0)) (by (with_reducible repeat (first|refine blk_drewN ?_ _|refine blk_drew ?_|refine blk_alloc ?_ _));exact BK412.out)):gb413≠gb412));clear BK412;clear HB;have BK412:=n0_;have HB:=n1_;have BK413:=n2_;have GW413:=n3_;have GE413:=n4_;have NB412_413:=n5_;have NB413_412:=n6_;clear n0_ n1_ n2_ n3_ n4_ n5_ n6_;clear hb hbox hg;have hnb23:=NB412_413.out;have hnc23:=NB413_412.out;have hcz24_0:w22.cell? ⟨gb412,0,none⟩=some (.int .i64 a0_0):=(blk_cell BK412.out 0).trans rfl;have hcz24_1:w22.cell? ⟨gb412,1,none⟩=some (.int .i64 a0_1):=(blk_cell BK412.out 1).trans rfl;have hcz24_2:w22.cell? ⟨gb412,2,none⟩=some (.int .i64 a0_2):=(blk_cell BK412.out 2).trans rfl;have hfz24_0:=blk_frozen BK412.out 0;have hfz24_1:=blk_frozen BK412.out 1;have hfz24_2:=blk_frozen BK412.out 2;have hcz25_0:w22.cell? ⟨gb413,0,none⟩=some (.int .i64 a1_0):=(blk_cell BK413.out 0).trans rfl;have hcz25_1:w22.cell? ⟨gb413,1,none⟩=some (.int .i64 a1_1):=(blk_cell BK413.out 1).trans rfl;have hcz25_2:w22.cell? ⟨gb413,2,none⟩=some (.int .i64 a1_2):=(blk_cell BK413.out 2).trans rfl;have hfz25_0:=blk_frozen BK413.out 0;have hfz25_1:=blk_frozen BK413.out 1;have hfz25_2:=blk_frozen BK413.out 2))
  go_ret
  exact ⟨by first|rfl|(simp [errW_none,errW_some] <;> rfl)|(simp [*,errW_none,errW_some] <;> rfl),by repeat (first|(with_reducible first|exact HB.out|apply below_alloc|apply pw_below_drewN|apply below_drew1|refine below_set ?_ GE412.out|refine below_set ?_ GE413.out)|exact HB.out)⟩

/-! ### laws_eqTaskS: function 22 -/
def laws_eqTaskS.l0:Nat→List (S92)→List (S92)→Int→Option (Bool)
 | 0,_,_,_=>none
 | k + 1,x0,x1,x5=>if x5<(x0.length:Int) then (if 0≤x5 then (if x5<(x1.length:Int) then ((laws_eqTask.f ((rd_T92 x0 x5).f0) ((rd_T92 x0 x5).f1) ((rd_T92 x0 x5).f2) ((rd_T92 x1 x5).f0) ((rd_T92 x1 x5).f1) ((rd_T92 x1 x5).f2)).bind fun t416=>(if t416=true then (laws_eqTaskS.l0 k x0 x1 (wrap64 (x5 + 1))) else (some false))) else (none)) else (none)) else (some true)
def laws_eqTaskS.f (k:Nat) (l0:List (S92)) (l1:List (S92)):Option (Bool):=if (l0.length:Int)=(l1.length:Int) then (laws_eqTaskS.l0 k l0 l1 0) else (some false)
theorem laws_eqTaskS.mono_l:∀ k,(∀ y0 y1 y2,LeO (laws_eqTaskS.l0 k y0 y1 y2) (laws_eqTaskS.l0 (k + 1) y0 y1 y2))
 | 0=>fun _ _ _ r h=>by simp [laws_eqTaskS.l0] at h
 | k + 1=>by
  have ih0:=laws_eqTaskS.mono_l k
  ·intro y0 y1 y2
   unfold laws_eqTaskS.l0
   repeat' first
   | (with_reducible exact ih0 _ _ _)
   | (with_reducible exact LeO.refl _)
   | (with_reducible exact LeO.none _)
   | (with_reducible refine LeO.ite ?_ ?_)
   | (with_reducible refine LeO.bind ?_ (fun _=>?_))
   | exact ih0 _ _ _
   | exact LeO.none _
   | refine LeO.ite ?_ ?_
   | refine LeO.bind ?_ (fun _=>?_)
theorem laws_eqTaskS.mono:∀ a0 a1 k,LeO (laws_eqTaskS.f k a0 a1) (laws_eqTaskS.f (k + 1) a0 a1):=by
 intro a0 a1 k
 have ih0:=laws_eqTaskS.mono_l k
 unfold laws_eqTaskS.f
 repeat' first
   | (with_reducible exact ih0 _ _ _)
   | (with_reducible exact LeO.refl _)
   | (with_reducible exact LeO.none _)
   | (with_reducible refine LeO.ite ?_ ?_)
   | (with_reducible refine LeO.bind ?_ (fun _=>?_))
   | exact ih0 _ _ _
   | exact LeO.none _
   | refine LeO.ite ?_ ?_
   | refine LeO.bind ?_ (fun _=>?_)
def laws_eqTaskS.T6:Bool × List (List Nat × List Nat):=(true,[([],[]),([],[]),([0,1],[0,1]),([2],[2]),([],[]),([],[]),([4,5],[4,5]),([6],[6]),([3,7],[3,7]),([8],[8])])
def laws_eqTaskS.B6:List Nat:=[0,0,3,7,0,0,48,112,255,511]
theorem laws_eqTaskS.tab6:rtab .any (opsOf Try.f22 6)=laws_eqTaskS.T6:=by kernel_rfl
theorem laws_eqTaskS.bits6:waitsOk laws_eqTaskS.T6.2 laws_eqTaskS.B6=true:=by kernel_rfl
set_option maxHeartbeats 8000000 in
set_option maxRecDepth 100000 in
theorem laws_eqTaskS.calls (k:Nat) (A0:Option Addr) (c0:Nat) (l0:List (S92)) (A1:Option Addr) (c1:Nat) (l1:List (S92)) (r:Bool) (w:World) (hr0:Kd.C k92 w A0 l0.length l0) (hc0:l0.length≤c0) (hr1:Kd.C k92 w A1 l1.length l1) (hc1:l1.length≤c1) (h:laws_eqTaskS.f k l0 l1=some r) :
  Calls Try.prog 22 #[.slice A0 l0.length c0,.slice A1 l1.length c1] w fun e w'=>e=.returned (.bool r)∧Below w.heap.size w w':=by
 have hu92:=Try.underlying92
 have HR0:=Aside0.mk hr0
 have HC0:=Aside0.mk hc0
 clear hr0 hc0
 have HR1:=Aside0.mk hr1
 have HC1:=Aside0.mk hc1
 clear hr1 hc1
 have HB:=Aside0.mk (Below.refl w.heap.size w)
 have H:(if (l0.length:Int)=(l1.length:Int) then (laws_eqTaskS.l0 k l0 l1 0) else (some false))=some r:=h
 clear h
 by_cases c3:(l0.length:Int)=(l1.length:Int)
 ·rw [if_pos c3] at H
  have c3b0:((l0.length:Int) == (l1.length:Int))=true:=beq_iff_eq.mpr c3
  have c3b1:((l0.length:Int) != (l1.length:Int))=false:=bne_eq_false_iff_eq.mpr c3
  have c3b2:(l0.length == l1.length)=true:=by first|simpa using c3|(simp at c3 ⊢;omega)
  clear c3
  have H':=Aside0.mk H
  clear H
  go_enter Try.func22,Try.ntmps22
  go_wp2
  go_loopg [5] k (fun kq v5 w'=>∃ (x5_1:Int),v5=.int .i64 x5_1∧Aside0 (laws_eqTaskS.l0 kq l0 l1 x5_1=some r)∧Aside0 (kq≤k)∧Aside0 (Below w.heap.size w w'))
  case atStart=>exact ⟨(0),zo,H',⟨Nat.le_refl _⟩,⟨zb⟩⟩
  case round=>
   clear H'
   (try clear c1);(try clear c2);(try clear p2);(try clear c3);(try clear c3b0);(try clear c3b1);(try clear c3b2)
   obtain ⟨x5_1,rfl,HA,HK1,HB⟩:=hrel
   cases gk with
   | zero=>exact absurd HA.out (by simp [laws_eqTaskS.l0])
   | succ k1=>
    have H:=HA.out
    clear HA
    simp only [laws_eqTaskS.l0] at H
    by_cases c4:x5_1<(l0.length:Int)
    ·rw [if_pos c4] at H
     have c4b0:decide (x5_1<(l0.length:Int))=true:=decide_eq_true c4
     clear c4
     by_cases c5:0≤x5_1
     ·rw [if_pos c5] at H
      have c5b0:decide (0≤x5_1)=true:=decide_eq_true c5
      clear c5
      by_cases c6:x5_1<(l1.length:Int)
      ·rw [if_pos c6] at H
       have c6b0:decide (x5_1<(l1.length:Int))=true:=decide_eq_true c6
       clear c6
       replace H:=Option.bind_eq_some_iff.mp H
       obtain ⟨t416,A70,H⟩:=H
       replace H:(if t416=true then (laws_eqTaskS.l0 k1 l0 l1 (wrap64 (x5_1 + 1))) else (some false))=some r:=H
       have A7:=Aside0.mk A70
       clear A70
       by_cases c8:t416=true
       ·subst c8
        have H1:(laws_eqTaskS.l0 k1 l0 l1 (wrap64 (x5_1 + 1)))=some r:=by rw [if_pos rfl] at H;exact H
        clear H
        have H:=H1
        clear H1
        have H':=Aside0.mk H
        clear H
        try go_wp2
        replace HB:=Aside0.mk (below_drew1 HB.out)
        have p414:0≤(x5_1:Int):=of_decide_eq_true za
        have q414:x5_1<(l0.length:Int):=of_decide_eq_true za
        obtain ⟨ad414,e414,hx414_0,hx414_1,hx414_2⟩:=at_T92 HR0.out x5_1 p414 q414
        have hw414_2:=hx414_2
        have hw414_1:=hx414_1
        have hw414_0:=hx414_0
        cases e414
        replace hx414_0:=(HB.out.cell (World.block_lt_of_cell? w _ hx414_0)).trans hx414_0
        replace hx414_1:=(HB.out.cell (World.block_lt_of_cell? w _ hx414_1)).trans hx414_1
        replace hx414_2:=(HB.out.cell (World.block_lt_of_cell? w _ hx414_2)).trans hx414_2
        replace p414:=eq_true p414
        replace q414:=eq_true q414
        have p415:0≤(x5_1:Int):=of_decide_eq_true za
        have q415:x5_1<(l1.length:Int):=of_decide_eq_true za
        obtain ⟨ad415,e415,hx415_0,hx415_1,hx415_2⟩:=at_T92 HR1.out x5_1 p415 q415
        have hw415_2:=hx415_2
        have hw415_1:=hx415_1
        have hw415_0:=hx415_0
        cases e415
        replace hx415_0:=(HB.out.cell (World.block_lt_of_cell? w _ hx415_0)).trans hx415_0
        replace hx415_1:=(HB.out.cell (World.block_lt_of_cell? w _ hx415_1)).trans hx415_1
        replace hx415_2:=(HB.out.cell (World.block_lt_of_cell? w _ hx415_2)).trans hx415_2
        replace p415:=eq_true p415
        replace q415:=eq_true q415
        refine start_ (n:=10) (S:=fun w'=>w'.cell? (ad414.add ((x5_1).toNat * 3))=some (.int .i64 ((rd_T92 l0 x5_1).f0))∧w'.cell? ⟨(ad414.add ((x5_1).toNat * 3)).block,(ad414.add ((x5_1).toNat * 3)).off + 1,none⟩=some (.int .i64 ((rd_T92 l0 x5_1).f1))∧w'.cell? ⟨(ad414.add ((x5_1).toNat * 3)).block,(ad414.add ((x5_1).toNat * 3)).off + 2,none⟩=some (.int .i64 ((rd_T92 l0 x5_1).f2))∧w'.cell? (ad415.add ((x5_1).toNat * 3))=some (.int .i64 ((rd_T92 l1 x5_1).f0))∧w'.cell? ⟨(ad415.add ((x5_1).toNat * 3)).block,(ad415.add ((x5_1).toNat * 3)).off + 1,none⟩=some (.int .i64 ((rd_T92 l1 x5_1).f1))∧w'.cell? ⟨(ad415.add ((x5_1).toNat * 3)).block,(ad415.add ((x5_1).toNat * 3)).off + 2,none⟩=some (.int .i64 ((rd_T92 l1 x5_1).f2))) (ds:=[]) #[false,false,false,false,false,false,false,false,false,false] (by kernel_rfl) rfl rfl ⟨((HB.out.cell (World.block_lt_of_cell? w _ hw414_0)).trans hw414_0),((HB.out.cell (World.block_lt_of_cell? w _ hw414_1)).trans hw414_1),((HB.out.cell (World.block_lt_of_cell? w _ hw414_2)).trans hw414_2),((HB.out.cell (World.block_lt_of_cell? w _ hw415_0)).trans hw415_0),((HB.out.cell (World.block_lt_of_cell? w _ hw415_1)).trans hw415_1),((HB.out.cell (World.block_lt_of_cell? w _ hw415_2)).trans hw415_2)⟩ (fun hHeld=>?_);refine with_tabW laws_eqTaskS.tab6 laws_eqTaskS.bits6 (fun HT_ HW_=>?_)
        generalize wr.drew=w9 at HB hx414_0 hx414_1 hx414_2 hx415_0 hx415_1 hx415_2 hHeld ⊢
        refine pure_ (i:=0) (N:=some 17) (v:=?_) (a':=?_) #[true,false,false,false,false,false,false,false,false,false] rfl rfl (any_of HT_.out (by kernel_rfl)) (fun _ _ _ h=>h) (Or.inl ⟨by rfl,?_⟩) ?_ ?_
        rotate_left
        ·intro w'
         go_simp
         with_reducible rfl
        rotate_left
        ·simp only [Act.put,List.setIfInBounds_toArray,List.set_cons_zero,List.set_cons_succ,i64_w,i32_w]
         rfl
        refine pure_ (i:=1) (N:=some 18) (v:=?_) (a':=?_) #[true,true,false,false,false,false,false,false,false,false] rfl rfl (any_of HT_.out (by kernel_rfl)) (fun _ _ _ h=>h) (Or.inl ⟨by rfl,?_⟩) ?_ ?_
        rotate_left
        ·intro w'
         go_simp
         with_reducible rfl
        rotate_left
        ·simp only [Act.put,List.setIfInBounds_toArray,List.set_cons_zero,List.set_cons_succ,i64_w,i32_w]
         rfl
        refine pure_ (i:=2) (N:=some 19) (v:=?_) (a':=?_) #[true,true,true,false,false,false,false,false,false,false] rfl rfl (any_of HT_.out (by kernel_rfl)) (fun _ _ _ h=>h) (Or.inl ⟨by rfl,?_⟩) ?_ ?_
        rotate_left
        ·intro w'
         go_simp
         with_reducible rfl
        rotate_left
        ·simp only [Act.put,List.setIfInBounds_toArray,List.set_cons_zero,List.set_cons_succ,i64_w,i32_w]
         rfl
        refine pure_ (i:=4) (N:=some 21) (v:=?_) (a':=?_) #[true,true,true,false,true,false,false,false,false,false] rfl rfl (any_of HT_.out (by kernel_rfl)) (fun _ _ _ h=>h) (Or.inl ⟨by rfl,?_⟩) ?_ ?_
        rotate_left
        ·intro w'
         go_simp
         with_reducible rfl
        rotate_left
        ·simp only [Act.put,List.setIfInBounds_toArray,List.set_cons_zero,List.set_cons_succ,i64_w,i32_w]
         rfl
        refine pure_ (i:=5) (N:=some 22) (v:=?_) (a':=?_) #[true,true,true,false,true,true,false,false,false,false] rfl rfl (any_of HT_.out (by kernel_rfl)) (fun _ _ _ h=>h) (Or.inl ⟨by rfl,?_⟩) ?_ ?_
        rotate_left
        ·intro w'
         go_simp
         with_reducible rfl
        rotate_left
        ·simp only [Act.put,List.setIfInBounds_toArray,List.set_cons_zero,List.set_cons_succ,i64_w,i32_w]
         rfl
        refine pure_ (i:=6) (N:=some 23) (v:=?_) (a':=?_) #[true,true,true,false,true,true,true,false,false,false] rfl rfl (any_of HT_.out (by kernel_rfl)) (fun _ _ _ h=>h) (Or.inl ⟨by rfl,?_⟩) ?_ ?_
        rotate_left
        ·intro w'
         go_simp
         with_reducible rfl
        rotate_left
        ·simp only [Act.put,List.setIfInBounds_toArray,List.set_cons_zero,List.set_cons_succ,i64_w,i32_w]
         rfl
        refine take_ (i:=3) (N:=some 20) (v:=?_) (a':=?_) #[true,true,true,true,true,true,true,false,false,false] rfl rfl (take_ofW HT_.out HW_.out (by kernel_rfl)) (fun _ _ _ h=>h) (Or.inl ⟨by rfl,?_⟩) hHeld ?_ ?_
        rotate_left
        ·rintro w' ⟨s0,s1,s2,s3,s4,s5⟩
         go_simp
         with_reducible rfl
        rotate_left
        ·simp only [Act.put,List.setIfInBounds_toArray,List.set_cons_zero,List.set_cons_succ,i64_w,i32_w]
         rfl
        refine take_ (i:=7) (N:=some 24) (v:=?_) (a':=?_) #[true,true,true,true,true,true,true,true,false,false] rfl rfl (take_ofW HT_.out HW_.out (by kernel_rfl)) (fun _ _ _ h=>h) (Or.inl ⟨by rfl,?_⟩) hHeld ?_ ?_
        rotate_left
        ·rintro w' ⟨s0,s1,s2,s3,s4,s5⟩
         go_simp
         with_reducible rfl
        rotate_left
        ·simp only [Act.put,List.setIfInBounds_toArray,List.set_cons_zero,List.set_cons_succ,i64_w,i32_w]
         rfl
        refine one_ (i:=8) (N:=some 25) #[true,true,true,true,true,true,true,true,true,false] rfl rfl (one_of HT_.out (by kernel_rfl)) (by decide) (fun K hK=>?_)
        refine goes_ Try.func68 (by kernel_rfl) rfl #[.agg #[.int .i64 ((rd_T92 l0 x5_1).f0),.int .i64 ((rd_T92 l0 x5_1).f1),.int .i64 ((rd_T92 l0 x5_1).f2)],.agg #[.int .i64 ((rd_T92 l1 x5_1).f0),.int .i64 ((rd_T92 l1 x5_1).f1),.int .i64 ((rd_T92 l1 x5_1).f2)]] (by rfl) rfl rfl zl ?_
        with_reducible refine (laws_eqTask.calls ((rd_T92 l0 x5_1).f0) ((rd_T92 l0 x5_1).f1) ((rd_T92 l0 x5_1).f2) ((rd_T92 l1 x5_1).f0) ((rd_T92 l1 x5_1).f1) ((rd_T92 l1 x5_1).f2) true _ A7.out).mono ?_
        rintro e w10 ⟨rfl,hb⟩
        refine ⟨_,rfl,?_⟩
        replace HB:=Aside0.mk (below_step zb hb)
        (try clear hb)
        (try clear hb2)
        (try clear hk)
        (try clear hi)
        refine hK.out _ _ ⟨((HB.out.cell (World.block_lt_of_cell? w _ hw414_0)).trans hw414_0),((HB.out.cell (World.block_lt_of_cell? w _ hw414_1)).trans hw414_1),((HB.out.cell (World.block_lt_of_cell? w _ hw414_2)).trans hw414_2),((HB.out.cell (World.block_lt_of_cell? w _ hw415_0)).trans hw415_0),((HB.out.cell (World.block_lt_of_cell? w _ hw415_1)).trans hw415_1),((HB.out.cell (World.block_lt_of_cell? w _ hw415_2)).trans hw415_2)⟩ (fun hHeld=>?_)
        clear hK K
        refine norm_ (a':=?_) ?_ ?_
        rotate_left
        ·show Act.put _ (some 25) _=_
         simp only [Act.put,List.setIfInBounds_toArray,List.set_cons_zero,List.set_cons_succ,i64_w,i32_w]
         rfl
        refine pure_ (i:=9) (N:=some 26) (v:=?_) (a':=?_) #[true,true,true,true,true,true,true,true,true,true] rfl rfl (any_of HT_.out (by kernel_rfl)) (fun _ _ _ h=>h) (Or.inl ⟨by rfl,?_⟩) ?_ ?_
        rotate_left
        ·intro w'
         go_simp
         with_reducible rfl
        rotate_left
        ·simp only [Act.put,List.setIfInBounds_toArray,List.set_cons_zero,List.set_cons_succ,i64_w,i32_w]
         rfl
        refine done_ (done_of HT_.out (by kernel_rfl)) ?_
        try go_wp2
        go_roundg k1
        case measure=>have:=HK1.out;omega
        case rel=>exact ⟨(wrap64 (x5_1 + 1)),zo,H',⟨by have:=HK1.out;omega⟩,⟨zb⟩⟩
       ·replace c8:=Bool.eq_false_iff.mpr c8
        subst c8
        have H1:(some false)=some r:=by rw [if_neg (show ¬ (false=true) by decide)] at H;exact H
        clear H
        have H:=H1
        clear H1
        obtain rfl:=Option.some.inj H
        try go_wp2
        replace HB:=Aside0.mk (below_drew1 HB.out)
        have p414:0≤(x5_1:Int):=of_decide_eq_true za
        have q414:x5_1<(l0.length:Int):=of_decide_eq_true za
        obtain ⟨ad414,e414,hx414_0,hx414_1,hx414_2⟩:=at_T92 HR0.out x5_1 p414 q414
        have hw414_2:=hx414_2
        have hw414_1:=hx414_1
        have hw414_0:=hx414_0
        cases e414
        replace hx414_0:=(HB.out.cell (World.block_lt_of_cell? w _ hx414_0)).trans hx414_0
        replace hx414_1:=(HB.out.cell (World.block_lt_of_cell? w _ hx414_1)).trans hx414_1
        replace hx414_2:=(HB.out.cell (World.block_lt_of_cell? w _ hx414_2)).trans hx414_2
        replace p414:=eq_true p414
        replace q414:=eq_true q414
        have p415:0≤(x5_1:Int):=of_decide_eq_true za
        have q415:x5_1<(l1.length:Int):=of_decide_eq_true za
        obtain ⟨ad415,e415,hx415_0,hx415_1,hx415_2⟩:=at_T92 HR1.out x5_1 p415 q415
        have hw415_2:=hx415_2
        have hw415_1:=hx415_1
        have hw415_0:=hx415_0
        cases e415
        replace hx415_0:=(HB.out.cell (World.block_lt_of_cell? w _ hx415_0)).trans hx415_0
        replace hx415_1:=(HB.out.cell (World.block_lt_of_cell? w _ hx415_1)).trans hx415_1
        replace hx415_2:=(HB.out.cell (World.block_lt_of_cell? w _ hx415_2)).trans hx415_2
        replace p415:=eq_true p415
        replace q415:=eq_true q415
        refine start_ (n:=10) (S:=fun w'=>w'.cell? (ad414.add ((x5_1).toNat * 3))=some (.int .i64 ((rd_T92 l0 x5_1).f0))∧w'.cell? ⟨(ad414.add ((x5_1).toNat * 3)).block,(ad414.add ((x5_1).toNat * 3)).off + 1,none⟩=some (.int .i64 ((rd_T92 l0 x5_1).f1))∧w'.cell? ⟨(ad414.add ((x5_1).toNat * 3)).block,(ad414.add ((x5_1).toNat * 3)).off + 2,none⟩=some (.int .i64 ((rd_T92 l0 x5_1).f2))∧w'.cell? (ad415.add ((x5_1).toNat * 3))=some (.int .i64 ((rd_T92 l1 x5_1).f0))∧w'.cell? ⟨(ad415.add ((x5_1).toNat * 3)).block,(ad415.add ((x5_1).toNat * 3)).off + 1,none⟩=some (.int .i64 ((rd_T92 l1 x5_1).f1))∧w'.cell? ⟨(ad415.add ((x5_1).toNat * 3)).block,(ad415.add ((x5_1).toNat * 3)).off + 2,none⟩=some (.int .i64 ((rd_T92 l1 x5_1).f2))) (ds:=[]) #[false,false,false,false,false,false,false,false,false,false] (by kernel_rfl) rfl rfl ⟨((HB.out.cell (World.block_lt_of_cell? w _ hw414_0)).trans hw414_0),((HB.out.cell (World.block_lt_of_cell? w _ hw414_1)).trans hw414_1),((HB.out.cell (World.block_lt_of_cell? w _ hw414_2)).trans hw414_2),((HB.out.cell (World.block_lt_of_cell? w _ hw415_0)).trans hw415_0),((HB.out.cell (World.block_lt_of_cell? w _ hw415_1)).trans hw415_1),((HB.out.cell (World.block_lt_of_cell? w _ hw415_2)).trans hw415_2)⟩ (fun hHeld=>?_);refine with_tabW laws_eqTaskS.tab6 laws_eqTaskS.bits6 (fun HT_ HW_=>?_)
        generalize wr.drew=w11 at HB hx414_0 hx414_1 hx414_2 hx415_0 hx415_1 hx415_2 hHeld ⊢
        refine pure_ (i:=0) (N:=some 17) (v:=?_) (a':=?_) #[true,false,false,false,false,false,false,false,false,false] rfl rfl (any_of HT_.out (by kernel_rfl)) (fun _ _ _ h=>h) (Or.inl ⟨by rfl,?_⟩) ?_ ?_
        rotate_left
        ·intro w'
         go_simp
         with_reducible rfl
        rotate_left
        ·simp only [Act.put,List.setIfInBounds_toArray,List.set_cons_zero,List.set_cons_succ,i64_w,i32_w]
         rfl
        refine pure_ (i:=1) (N:=some 18) (v:=?_) (a':=?_) #[true,true,false,false,false,false,false,false,false,false] rfl rfl (any_of HT_.out (by kernel_rfl)) (fun _ _ _ h=>h) (Or.inl ⟨by rfl,?_⟩) ?_ ?_
        rotate_left
        ·intro w'
         go_simp
         with_reducible rfl
        rotate_left
        ·simp only [Act.put,List.setIfInBounds_toArray,List.set_cons_zero,List.set_cons_succ,i64_w,i32_w]
         rfl
        refine pure_ (i:=2) (N:=some 19) (v:=?_) (a':=?_) #[true,true,true,false,false,false,false,false,false,false] rfl rfl (any_of HT_.out (by kernel_rfl)) (fun _ _ _ h=>h) (Or.inl ⟨by rfl,?_⟩) ?_ ?_
        rotate_left
        ·intro w'
         go_simp
         with_reducible rfl
        rotate_left
        ·simp only [Act.put,List.setIfInBounds_toArray,List.set_cons_zero,List.set_cons_succ,i64_w,i32_w]
         rfl
        refine pure_ (i:=4) (N:=some 21) (v:=?_) (a':=?_) #[true,true,true,false,true,false,false,false,false,false] rfl rfl (any_of HT_.out (by kernel_rfl)) (fun _ _ _ h=>h) (Or.inl ⟨by rfl,?_⟩) ?_ ?_
        rotate_left
        ·intro w'
         go_simp
         with_reducible rfl
        rotate_left
        ·simp only [Act.put,List.setIfInBounds_toArray,List.set_cons_zero,List.set_cons_succ,i64_w,i32_w]
         rfl
        refine pure_ (i:=5) (N:=some 22) (v:=?_) (a':=?_) #[true,true,true,false,true,true,false,false,false,false] rfl rfl (any_of HT_.out (by kernel_rfl)) (fun _ _ _ h=>h) (Or.inl ⟨by rfl,?_⟩) ?_ ?_
        rotate_left
        ·intro w'
         go_simp
         with_reducible rfl
        rotate_left
        ·simp only [Act.put,List.setIfInBounds_toArray,List.set_cons_zero,List.set_cons_succ,i64_w,i32_w]
         rfl
        refine pure_ (i:=6) (N:=some 23) (v:=?_) (a':=?_) #[true,true,true,false,true,true,true,false,false,false] rfl rfl (any_of HT_.out (by kernel_rfl)) (fun _ _ _ h=>h) (Or.inl ⟨by rfl,?_⟩) ?_ ?_
        rotate_left
        ·intro w'
         go_simp
         with_reducible rfl
        rotate_left
        ·simp only [Act.put,List.setIfInBounds_toArray,List.set_cons_zero,List.set_cons_succ,i64_w,i32_w]
         rfl
        refine take_ (i:=3) (N:=some 20) (v:=?_) (a':=?_) #[true,true,true,true,true,true,true,false,false,false] rfl rfl (take_ofW HT_.out HW_.out (by kernel_rfl)) (fun _ _ _ h=>h) (Or.inl ⟨by rfl,?_⟩) hHeld ?_ ?_
        rotate_left
        ·rintro w' ⟨s0,s1,s2,s3,s4,s5⟩
         go_simp
         with_reducible rfl
        rotate_left
        ·simp only [Act.put,List.setIfInBounds_toArray,List.set_cons_zero,List.set_cons_succ,i64_w,i32_w]
         rfl
        refine take_ (i:=7) (N:=some 24) (v:=?_) (a':=?_) #[true,true,true,true,true,true,true,true,false,false] rfl rfl (take_ofW HT_.out HW_.out (by kernel_rfl)) (fun _ _ _ h=>h) (Or.inl ⟨by rfl,?_⟩) hHeld ?_ ?_
        rotate_left
        ·rintro w' ⟨s0,s1,s2,s3,s4,s5⟩
         go_simp
         with_reducible rfl
        rotate_left
        ·simp only [Act.put,List.setIfInBounds_toArray,List.set_cons_zero,List.set_cons_succ,i64_w,i32_w]
         rfl
        refine one_ (i:=8) (N:=some 25) #[true,true,true,true,true,true,true,true,true,false] rfl rfl (one_of HT_.out (by kernel_rfl)) (by decide) (fun K hK=>?_)
        refine goes_ Try.func68 (by kernel_rfl) rfl #[.agg #[.int .i64 ((rd_T92 l0 x5_1).f0),.int .i64 ((rd_T92 l0 x5_1).f1),.int .i64 ((rd_T92 l0 x5_1).f2)],.agg #[.int .i64 ((rd_T92 l1 x5_1).f0),.int .i64 ((rd_T92 l1 x5_1).f1),.int .i64 ((rd_T92 l1 x5_1).f2)]] (by rfl) rfl rfl zl ?_
        with_reducible refine (laws_eqTask.calls ((rd_T92 l0 x5_1).f0) ((rd_T92 l0 x5_1).f1) ((rd_T92 l0 x5_1).f2) ((rd_T92 l1 x5_1).f0) ((rd_T92 l1 x5_1).f1) ((rd_T92 l1 x5_1).f2) false _ A7.out).mono ?_
        rintro e w12 ⟨rfl,hb⟩
        refine ⟨_,rfl,?_⟩
        replace HB:=Aside0.mk (below_step zb hb)
        (try clear hb)
        (try clear hb2)
        (try clear hk)
        (try clear hi)
        refine hK.out _ _ ⟨((HB.out.cell (World.block_lt_of_cell? w _ hw414_0)).trans hw414_0),((HB.out.cell (World.block_lt_of_cell? w _ hw414_1)).trans hw414_1),((HB.out.cell (World.block_lt_of_cell? w _ hw414_2)).trans hw414_2),((HB.out.cell (World.block_lt_of_cell? w _ hw415_0)).trans hw415_0),((HB.out.cell (World.block_lt_of_cell? w _ hw415_1)).trans hw415_1),((HB.out.cell (World.block_lt_of_cell? w _ hw415_2)).trans hw415_2)⟩ (fun hHeld=>?_)
        clear hK K
        refine norm_ (a':=?_) ?_ ?_
        rotate_left
        ·show Act.put _ (some 25) _=_
         simp only [Act.put,List.setIfInBounds_toArray,List.set_cons_zero,List.set_cons_succ,i64_w,i32_w]
         rfl
        refine pure_ (i:=9) (N:=some 26) (v:=?_) (a':=?_) #[true,true,true,true,true,true,true,true,true,true] rfl rfl (any_of HT_.out (by kernel_rfl)) (fun _ _ _ h=>h) (Or.inl ⟨by rfl,?_⟩) ?_ ?_
        rotate_left
        ·intro w'
         go_simp
         with_reducible rfl
        rotate_left
        ·simp only [Act.put,List.setIfInBounds_toArray,List.set_cons_zero,List.set_cons_succ,i64_w,i32_w]
         rfl
        refine done_ (done_of HT_.out (by kernel_rfl)) ?_
        try go_wp2
        go_ret
        exact ⟨by first|rfl|(simp [errW_none,errW_some] <;> rfl)|(simp [*,errW_none,errW_some] <;> rfl),zb⟩
      ·rw [if_neg c6] at H
       exact absurd H (by simp)
     ·rw [if_neg c5] at H
      exact absurd H (by simp)
    ·rw [if_neg c4] at H
     have c4b0:decide (x5_1<(l0.length:Int))=false:=decide_eq_false c4
     clear c4
     obtain rfl:=Option.some.inj H
     go_wp2
     go_ret
     exact ⟨by first|rfl|(simp [errW_none,errW_some] <;> rfl)|(simp [*,errW_none,errW_some] <;> rfl),zb⟩
 ·rw [if_neg c3] at H
  have c3b0:((l0.length:Int) == (l1.length:Int))=false:=beq_eq_false_iff_ne.mpr c3
  have c3b1:((l0.length:Int) != (l1.length:Int))=true:=bne_iff_ne.mpr c3
  have c3b2:(l0.length == l1.length)=false:=by first|simpa using c3|(simp at c3 ⊢;omega)
  obtain rfl:=Option.some.inj H
  go_enter Try.func22,Try.ntmps22
  go_wp2
  go_ret
  exact ⟨by first|rfl|(simp [errW_none,errW_some] <;> rfl)|(simp [*,errW_none,errW_some] <;> rfl),zb⟩

/-! ### laws_markTaskS: function 23 -/
def laws_markTaskS.l0:Nat→List (S92)→Int→Int→Option (Int × (List (S92)))
 | 0,_,_,_=>none
 | k + 1,x0,x1,x5=>if x5<(x0.length:Int) then (if 0≤x5 then ((some (x0.set (x5:Int).toNat (⟨x1,(rd_T92 x0 x5).f1,(rd_T92 x0 x5).f2⟩:S92):List (S92))).bind fun y417=>((some (y417.set (x5:Int).toNat (⟨(rd_T92 y417 x5).f0,wrap64 (x1 + 1),(rd_T92 y417 x5).f2⟩:S92):List (S92))).bind fun y418=>(laws_markTaskS.l0 k (y418.set (x5:Int).toNat (⟨(rd_T92 y418 x5).f0,(rd_T92 y418 x5).f1,wrap64 ((wrap64 (x1 + 1)) + 1)⟩:S92)) (wrap64 ((wrap64 ((wrap64 (x1 + 1)) + 1)) + 1)) (wrap64 (x5 + 1))))) else (none)) else (some (x1,x0))
def laws_markTaskS.f (k:Nat) (l0:List (S92)) (a1:Int):Option (Int × (List (S92))):=laws_markTaskS.l0 k l0 a1 0
theorem laws_markTaskS.mono_l:∀ k,(∀ y0 y1 y2,LeO (laws_markTaskS.l0 k y0 y1 y2) (laws_markTaskS.l0 (k + 1) y0 y1 y2))
 | 0=>fun _ _ _ r h=>by simp [laws_markTaskS.l0] at h
 | k + 1=>by
  have ih0:=laws_markTaskS.mono_l k
  ·intro y0 y1 y2
   unfold laws_markTaskS.l0
   repeat' first
   | (with_reducible exact ih0 _ _ _)
   | (with_reducible exact LeO.refl _)
   | (with_reducible exact LeO.none _)
   | (with_reducible refine LeO.ite ?_ ?_)
   | (with_reducible refine LeO.bind ?_ (fun _=>?_))
   | exact ih0 _ _ _
   | exact LeO.none _
   | refine LeO.ite ?_ ?_
   | refine LeO.bind ?_ (fun _=>?_)
theorem laws_markTaskS.mono:∀ a0 a1 k,LeO (laws_markTaskS.f k a0 a1) (laws_markTaskS.f (k + 1) a0 a1):=by
 intro a0 a1 k
 have ih0:=laws_markTaskS.mono_l k
 unfold laws_markTaskS.f
 repeat' first
   | (with_reducible exact ih0 _ _ _)
   | (with_reducible exact LeO.refl _)
   | (with_reducible exact LeO.none _)
   | (with_reducible refine LeO.ite ?_ ?_)
   | (with_reducible refine LeO.bind ?_ (fun _=>?_))
   | exact ih0 _ _ _
   | exact LeO.none _
   | refine LeO.ite ?_ ?_
   | refine LeO.bind ?_ (fun _=>?_)
set_option maxHeartbeats 8000000 in
set_option maxRecDepth 100000 in
theorem laws_markTaskS.calls (k:Nat) (P0_:Nat→Prop) (u9000_:Value) (l0:List (S92)) (a1:Int) (r1:Int) (r2:List (S92)) (w0 w:World) (hB:Below w0.heap.size w0 w) (ho0:Kd.R k92 92 w w0.heap.size P0_ u9000_ l0) (h:laws_markTaskS.f k l0 a1=some (r1,r2)) :
  Calls Try.prog 23 #[u9000_,.int .i64 a1] w fun e w'=>e=.returned (.int .i64 r1)∧Kd.R k92 92 w' w0.heap.size (fun k_=>(P0_ k_∨w.heap.size≤k_)) u9000_ r2∧Below w0.heap.size w0 w'∧Kept w w' (fun k_=>P0_ k_):=by
 have HO0:=Aside0.mk (show Kd.R k92 92 w w0.heap.size (fun k_=>(P0_ k_∨w.heap.size≤k_)) u9000_ l0 from Kd.R_mono ho0 (fun k_ hk=>(.inl hk)))
 have HK:=Aside0.mk (Kept.refl w (fun k_=>P0_ k_))
 have HW0:=Aside0.mk hB.size
 have HB:=Aside0.mk hB
 clear hB
 have H:(laws_markTaskS.l0 k l0 a1 0)=some (r1,r2):=h
 clear h
 have H':=Aside0.mk H
 clear H
 go_enter Try.func23,Try.ntmps23
 go_wp2
 go_loopg [1,5] k (fun kq v1 v5 w'=>∃ (x0_1:List (S92)) (x1_1:Int) (x5_1:Int),v1=.int .i64 x1_1∧v5=.int .i64 x5_1∧Aside0 (laws_markTaskS.l0 kq x0_1 x1_1 x5_1=some (r1,r2))∧Aside0 (kq≤k)∧Aside0 (Kd.R k92 92 w' w0.heap.size (fun k_=>(P0_ k_∨w.heap.size≤k_)) u9000_ x0_1)∧Aside0 (Kept w w' (fun k_=>P0_ k_))∧Aside0 (Below w0.heap.size w0 w'))
 case atStart=>exact ⟨(l0),(a1),(0),zo,zo,H',⟨Nat.le_refl _⟩,⟨zR HO0.out⟩,⟨by repeat (first|(with_reducible first|exact HK.out|apply Kept.alloc|apply Kept.drewN|apply Kept.drew)|exact HK.out)⟩,⟨zb⟩⟩
 case round=>
  clear H'
  (try clear c2);(try clear p2)
  obtain ⟨x0_1,x1_1,x5_1,rfl,rfl,HA,HK1,HO_0,HK,HB⟩:=hrel
  cases gk with
  | zero=>exact absurd HA.out (by simp [laws_markTaskS.l0])
  | succ k1=>
   have H:=HA.out
   clear HA
   simp only [laws_markTaskS.l0] at H
   by_cases c3:x5_1<(x0_1.length:Int)
   ·rw [if_pos c3] at H
    have c3b0:decide (x5_1<(x0_1.length:Int))=true:=decide_eq_true c3
    clear c3
    by_cases c4:0≤x5_1
    ·rw [if_pos c4] at H
     have c4b0:decide (0≤x5_1)=true:=decide_eq_true c4
     clear c4
     obtain ⟨y417,hy417⟩:∃ y_:List (S92),y_=(x0_1.set (x5_1:Int).toNat (⟨x1_1,(rd_T92 x0_1 x5_1).f1,(rd_T92 x0_1 x5_1).f2⟩:S92)):=⟨_,rfl⟩
     replace H:((some (y417.set (x5_1:Int).toNat (⟨(rd_T92 y417 x5_1).f0,wrap64 (x1_1 + 1),(rd_T92 y417 x5_1).f2⟩:S92):List (S92))).bind fun y418=>(laws_markTaskS.l0 k1 (y418.set (x5_1:Int).toNat (⟨(rd_T92 y418 x5_1).f0,(rd_T92 y418 x5_1).f1,wrap64 ((wrap64 (x1_1 + 1)) + 1)⟩:S92)) (wrap64 ((wrap64 ((wrap64 (x1_1 + 1)) + 1)) + 1)) (wrap64 (x5_1 + 1))))=some (r1,r2):=by first|(rw [hy417];with_reducible exact H)|(have H2_:=(Option.bind_some _ _).symm.trans H;rw [hy417];with_reducible exact H2_)|(have H2_:=(Option.bind_some _ _).symm.trans H;with_reducible exact H2_)|with_reducible exact H|(rw [hy417];exact H)|exact H
     have Ny417:=Aside0.mk hy417
     clear hy417
     obtain ⟨y418,hy418⟩:∃ y_:List (S92),y_=(y417.set (x5_1:Int).toNat (⟨(rd_T92 y417 x5_1).f0,wrap64 (x1_1 + 1),(rd_T92 y417 x5_1).f2⟩:S92)):=⟨_,rfl⟩
     replace H:(laws_markTaskS.l0 k1 (y418.set (x5_1:Int).toNat (⟨(rd_T92 y418 x5_1).f0,(rd_T92 y418 x5_1).f1,wrap64 ((wrap64 (x1_1 + 1)) + 1)⟩:S92)) (wrap64 ((wrap64 ((wrap64 (x1_1 + 1)) + 1)) + 1)) (wrap64 (x5_1 + 1)))=some (r1,r2):=by first|(rw [hy418];with_reducible exact H)|(have H2_:=(Option.bind_some _ _).symm.trans H;rw [hy418];with_reducible exact H2_)|(have H2_:=(Option.bind_some _ _).symm.trans H;with_reducible exact H2_)|with_reducible exact H|(rw [hy418];exact H)|exact H
     have Ny418:=Aside0.mk hy418
     clear hy418
     obtain ⟨y419,hy419⟩:∃ y_:List (S92),y_=(y418.set (x5_1:Int).toNat (⟨(rd_T92 y418 x5_1).f0,(rd_T92 y418 x5_1).f1,wrap64 ((wrap64 (x1_1 + 1)) + 1)⟩:S92)):=⟨_,rfl⟩
     replace H:(laws_markTaskS.l0 k1 y419 (wrap64 ((wrap64 ((wrap64 (x1_1 + 1)) + 1)) + 1)) (wrap64 (x5_1 + 1)))=some (r1,r2):=by first|(rw [hy419];with_reducible exact H)|(have H2_:=(Option.bind_some _ _).symm.trans H;rw [hy419];with_reducible exact H2_)|(have H2_:=(Option.bind_some _ _).symm.trans H;with_reducible exact H2_)|with_reducible exact H|(rw [hy419];exact H)|exact H
     have Ny419:=Aside0.mk hy419
     clear hy419
     have H':=Aside0.mk H
     clear H
     obtain ⟨Ao8,co8,eo8⟩:=Kd.R_slice HO_0.out
     subst eo8
     have p5:0≤(x5_1:Int):=of_decide_eq_true za
     have q5:(x5_1:Int)<((x0_1.length:Int):Int):=of_decide_eq_true za
     obtain ⟨go5,co5,eo5,gb5,gl5,cl5,HG5⟩:=Kd.R_form HO_0.out (by omega)
     (first|cases eo5|(injection eo5 with ea_ en_ ec_;(first|subst ea_|(injection ea_ with ea_;subst ea_));subst ec_;clear en_))
     have GB5:=Aside0.mk gb5
     have GG5:=Aside0.mk HG5
     clear gb5 gl5 HG5
     have HMgo5:=Aside0.mk (show (P0_ go5∨w.heap.size≤go5) from (HO_0.out.1 _ rfl))
     obtain ⟨ce5,hcl5,hM5,hcc5,hfr5⟩:=Kd.R_elem HO_0.out z92 (x5_1:Int) p5 q5
     obtain rfl:=k92_openM hM5
     have hx5_0:wr.cell? ⟨go5,(x5_1:Int).toNat * 3,none⟩=some (.int .i64 ((rd_T92 x0_1 x5_1).f0)):=hcc5 0 _ rfl
     have hx5_1:wr.cell? ⟨go5,(x5_1:Int).toNat * 3 + 1,none⟩=some (.int .i64 ((rd_T92 x0_1 x5_1).f1)):=hcc5 1 _ rfl
     have hx5_2:wr.cell? ⟨go5,(x5_1:Int).toNat * 3 + 2,none⟩=some (.int .i64 ((rd_T92 x0_1 x5_1).f2)):=hcc5 2 _ rfl
     have hf5_0:wr.frozen? ⟨go5,(x5_1:Int).toNat * 3,none⟩=false:=hfr5 0
     have hf5_1:wr.frozen? ⟨go5,(x5_1:Int).toNat * 3 + 1,none⟩=false:=hfr5 1
     have hf5_2:wr.frozen? ⟨go5,(x5_1:Int).toNat * 3 + 2,none⟩=false:=hfr5 2
     (clear hcl5 hcc5 hfr5;(try clear hM5))
     replace p5:=eq_true p5
     replace q5:=eq_true q5
     have HX9:=Aside0.mk (show Kd.R k92 92 wr w0.heap.size (fun k_=>(P0_ k_∨w.heap.size≤k_)) (.slice (some ⟨go5,0,none⟩) x0_1.length co8) x0_1 from (zR HO_0.out))
     obtain ⟨ce9,hcl9,hM9,hcc9,hfr9⟩:=Kd.R_elem HX9.out z92 (x5_1:Int) (of_decide_eq_true za) (by have h_:(x5_1:Int)<((x0_1.length:Int):Int):=of_decide_eq_true za;first|exact h_|(have e_:=(Kd.R_reads' HO_0.out).1;omega)|simpa using h_)
     obtain rfl:=k92_openM hM9
     have HP9:=Kd.R_seg HX9.out (x5_1:Int) (of_decide_eq_true za) (by have h_:(x5_1:Int)<((x0_1.length:Int):Int):=of_decide_eq_true za;first|exact h_|(have e_:=(Kd.R_reads' HO_0.out).1;omega)|simpa using h_) (seg:=[.int .i64 x1_1]) (j:=0) hcl9 hcc9 (show 1≤3 from by decide) (x':=(⟨x1_1,(rd_T92 x0_1 x5_1).f1,(rd_T92 x0_1 x5_1).f2⟩:S92)) (k92_mkM _ _ _ (⟨x1_1,(rd_T92 x0_1 x5_1).f1,(rd_T92 x0_1 x5_1).f2⟩:S92)) (fun _ hk=>hk)
     have hx9_0:=hcc9 0 _ rfl
     (try simp only [show (k92).sz=3 from rfl,Nat.mul_one,Nat.add_zero] at hx9_0)
     have hf9_0:=hfr9 0
     (try simp only [show (k92).sz=3 from rfl,Nat.mul_one,Nat.add_zero] at hf9_0)
     (clear hcl9 hcc9 hfr9;(try clear hM9))
     go_wp2_with (first|((with_reducible refine gate_store (t:=3) (p:=16) rfl ?_);(try (rw [drewN_self wr];generalize hq_:World.drewN wr _=wr;have n0_:=Aside0.mk (Kd.R_at hq_ HO_0.out);have n1_:=Aside0.mk (kept_at hq_ HK.out);have n2_:=Aside0.mk (below_at hq_ HB.out);(try replace hx5_0:=cell_at hq_ hx5_0);(try replace hx5_1:=cell_at hq_ hx5_1);(try replace hx5_2:=cell_at hq_ hx5_2);(try replace hf5_0:=(fun {W_ W2_:World} {n_:Nat} {a_:Addr} {b_:Bool} (h_:W_.drewN n_=W2_) (e_:W_.frozen? a_=b_)=>(by subst h_;exact e_:W2_.frozen? a_=b_)) hq_ hf5_0);(try replace hf5_1:=(fun {W_ W2_:World} {n_:Nat} {a_:Addr} {b_:Bool} (h_:W_.drewN n_=W2_) (e_:W_.frozen? a_=b_)=>(by subst h_;exact e_:W2_.frozen? a_=b_)) hq_ hf5_1);(try replace hf5_2:=(fun {W_ W2_:World} {n_:Nat} {a_:Addr} {b_:Bool} (h_:W_.drewN n_=W2_) (e_:W_.frozen? a_=b_)=>(by subst h_;exact e_:W2_.frozen? a_=b_)) hq_ hf5_2);(try replace hx9_0:=cell_at hq_ hx9_0);(try replace hf9_0:=(fun {W_ W2_:World} {n_:Nat} {a_:Addr} {b_:Bool} (h_:W_.drewN n_=W2_) (e_:W_.frozen? a_=b_)=>(by subst h_;exact e_:W2_.frozen? a_=b_)) hq_ hf9_0);clear hq_ HO_0 HK HB;have HO_0:=n0_;have HK:=n1_;have HB:=n2_;clear n0_ n1_ n2_;(try (have HX9:=Aside0.mk (show Kd.R k92 92 wr w0.heap.size (fun k_=>(P0_ k_∨w.heap.size≤k_)) (.slice (some ⟨go5,0,none⟩) x0_1.length co8) x0_1 from (zR HO_0.out))));(try (obtain ⟨ce9,hcl9,hM9,hcc9,hfr9⟩:=Kd.R_elem HX9.out z92 (x5_1:Int) (of_decide_eq_true za) (by have h_:(x5_1:Int)<((x0_1.length:Int):Int):=of_decide_eq_true za;first|exact h_|(have e_:=(Kd.R_reads' HO_0.out).1;omega)|simpa using h_)));(try (obtain rfl:=k92_openM hM9));(try (have HP9:=Kd.R_seg HX9.out (x5_1:Int) (of_decide_eq_true za) (by have h_:(x5_1:Int)<((x0_1.length:Int):Int):=of_decide_eq_true za;first|exact h_|(have e_:=(Kd.R_reads' HO_0.out).1;omega)|simpa using h_) (seg:=[.int .i64 x1_1]) (j:=0) hcl9 hcc9 (show 1≤3 from by decide) (x':=(⟨x1_1,(rd_T92 x0_1 x5_1).f1,(rd_T92 x0_1 x5_1).f2⟩:S92)) (k92_mkM _ _ _ (⟨x1_1,(rd_T92 x0_1 x5_1).f1,(rd_T92 x0_1 x5_1).f2⟩:S92)) (fun _ hk=>hk)));(try (have hx9_0:=hcc9 0 _ rfl));(try (try simp only [show (k92).sz=3 from rfl,Nat.mul_one,Nat.add_zero] at hx9_0));(try (have hf9_0:=hfr9 0));(try (try simp only [show (k92).sz=3 from rfl,Nat.mul_one,Nat.add_zero] at hf9_0));(try (clear hcl9 hcc9 hfr9;(try clear hM9)))));refine store_event (t:=3) (p:=16) (v:=?vo_w10) (w1:=(wr.setCell ⟨go5,(x5_1:Int).toNat * 3,none⟩ (.int .i64 x1_1))) ?hg ?ho ?hn ?hr ?_;(case ho=>rfl);(case hg=>rfl);(case hn=>rfl);(case hr=>first|(go_simp;done)|(go_simp;rfl));intro w10 hw;have hg:wr.grownBy w10 (some go5):=(by rw [hw];exact HP9.2);have hp_:Kd.R k92 92 w10 w0.heap.size (fun k_=>(P0_ k_∨w.heap.size≤k_)) (.slice (some ⟨go5,0,none⟩) x0_1.length co8) y417:=(by rw [hw,Ny417.out];exact HP9.1);clear HP9;have n0_:=Aside0.mk (hp_);have n1_:=Aside0.mk ((by rw [hw];exact below_set (HB.out) GB5.out:Below w0.heap.size w0 w10));have n2_:=Aside0.mk (Kept.of_grown (S:=(fun k_=>P0_ k_)) hg (by repeat (first|(with_reducible first|exact HK.out|apply Kept.alloc|apply Kept.drewN|apply Kept.drew)|exact HK.out)) (fun k_ e_=>(HO_0.out.1 k_ e_)));clear HO_0;clear HB;clear HK;have HO_0:=n0_;have HB:=n1_;have HK:=n2_;clear n0_ n1_ n2_;clear hg hw hp_;have p6:0≤(x5_1:Int):=of_decide_eq_true za;have q6:(x5_1:Int)<((x0_1.length:Int):Int):=of_decide_eq_true za;obtain ⟨ce6,hcl6,hM6,hcc6,hfr6⟩:=Kd.R_elem HO_0.out z92 (x5_1:Int) p6 q6;obtain rfl:=k92_openM hM6;have hx6_0:w10.cell? ⟨go5,(x5_1:Int).toNat * 3,none⟩=some (.int .i64 ((rd_T92 y417 x5_1).f0)):=hcc6 0 _ rfl;have hx6_1:w10.cell? ⟨go5,(x5_1:Int).toNat * 3 + 1,none⟩=some (.int .i64 ((rd_T92 y417 x5_1).f1)):=hcc6 1 _ rfl;have hx6_2:w10.cell? ⟨go5,(x5_1:Int).toNat * 3 + 2,none⟩=some (.int .i64 ((rd_T92 y417 x5_1).f2)):=hcc6 2 _ rfl;have hf6_0:w10.frozen? ⟨go5,(x5_1:Int).toNat * 3,none⟩=false:=hfr6 0;have hf6_1:w10.frozen? ⟨go5,(x5_1:Int).toNat * 3 + 1,none⟩=false:=hfr6 1;have hf6_2:w10.frozen? ⟨go5,(x5_1:Int).toNat * 3 + 2,none⟩=false:=hfr6 2;(clear hcl6 hcc6 hfr6;(try clear hM6));replace p6:=eq_true p6;replace q6:=eq_true q6;have HX11:=Aside0.mk (show Kd.R k92 92 w10 w0.heap.size (fun k_=>(P0_ k_∨w.heap.size≤k_)) (.slice (some ⟨go5,0,none⟩) x0_1.length co8) y417 from (zR HO_0.out));obtain ⟨ce11,hcl11,hM11,hcc11,hfr11⟩:=Kd.R_elem HX11.out z92 (x5_1:Int) (of_decide_eq_true za) (by have h_:(x5_1:Int)<((x0_1.length:Int):Int):=of_decide_eq_true za;first|exact h_|(have e_:=(Kd.R_reads' HO_0.out).1;omega)|simpa using h_);obtain rfl:=k92_openM hM11;have HP11:=Kd.R_seg HX11.out (x5_1:Int) (of_decide_eq_true za) (by have h_:(x5_1:Int)<((x0_1.length:Int):Int):=of_decide_eq_true za;first|exact h_|(have e_:=(Kd.R_reads' HO_0.out).1;omega)|simpa using h_) (seg:=[.int .i64 (wrap64 (x1_1 + 1))]) (j:=1) hcl11 hcc11 (show 2≤3 from by decide) (x':=(⟨(rd_T92 y417 x5_1).f0,wrap64 (x1_1 + 1),(rd_T92 y417 x5_1).f2⟩:S92)) (k92_mkM _ _ _ (⟨(rd_T92 y417 x5_1).f0,wrap64 (x1_1 + 1),(rd_T92 y417 x5_1).f2⟩:S92)) (fun _ hk=>hk);have hx11_1:=hcc11 1 _ rfl;(try simp only [show (k92).sz=3 from rfl,Nat.mul_one,Nat.add_zero] at hx11_1);have hf11_1:=hfr11 1;(try simp only [show (k92).sz=3 from rfl,Nat.mul_one,Nat.add_zero] at hf11_1);(clear hcl11 hcc11 hfr11;(try clear hM11)))|((with_reducible refine gate_store (t:=3) (p:=23) rfl ?_);(try (rw [drewN_self w10];generalize hq_:World.drewN w10 _=w10;have n0_:=Aside0.mk (Kd.R_at hq_ HO_0.out);have n1_:=Aside0.mk (kept_at hq_ HK.out);have n2_:=Aside0.mk (below_at hq_ HB.out);(try replace hx6_0:=cell_at hq_ hx6_0);(try replace hx6_1:=cell_at hq_ hx6_1);(try replace hx6_2:=cell_at hq_ hx6_2);(try replace hf6_0:=(fun {W_ W2_:World} {n_:Nat} {a_:Addr} {b_:Bool} (h_:W_.drewN n_=W2_) (e_:W_.frozen? a_=b_)=>(by subst h_;exact e_:W2_.frozen? a_=b_)) hq_ hf6_0);(try replace hf6_1:=(fun {W_ W2_:World} {n_:Nat} {a_:Addr} {b_:Bool} (h_:W_.drewN n_=W2_) (e_:W_.frozen? a_=b_)=>(by subst h_;exact e_:W2_.frozen? a_=b_)) hq_ hf6_1);(try replace hf6_2:=(fun {W_ W2_:World} {n_:Nat} {a_:Addr} {b_:Bool} (h_:W_.drewN n_=W2_) (e_:W_.frozen? a_=b_)=>(by subst h_;exact e_:W2_.frozen? a_=b_)) hq_ hf6_2);(try replace hx11_1:=cell_at hq_ hx11_1);(try replace hf11_1:=(fun {W_ W2_:World} {n_:Nat} {a_:Addr} {b_:Bool} (h_:W_.drewN n_=W2_) (e_:W_.frozen? a_=b_)=>(by subst h_;exact e_:W2_.frozen? a_=b_)) hq_ hf11_1);clear hq_ HO_0 HK HB;have HO_0:=n0_;have HK:=n1_;have HB:=n2_;clear n0_ n1_ n2_;(try (have HX11:=Aside0.mk (show Kd.R k92 92 w10 w0.heap.size (fun k_=>(P0_ k_∨w.heap.size≤k_)) (.slice (some ⟨go5,0,none⟩) x0_1.length co8) y417 from (zR HO_0.out))));(try (obtain ⟨ce11,hcl11,hM11,hcc11,hfr11⟩:=Kd.R_elem HX11.out z92 (x5_1:Int) (of_decide_eq_true za) (by have h_:(x5_1:Int)<((x0_1.length:Int):Int):=of_decide_eq_true za;first|exact h_|(have e_:=(Kd.R_reads' HO_0.out).1;omega)|simpa using h_)));(try (obtain rfl:=k92_openM hM11));(try (have HP11:=Kd.R_seg HX11.out (x5_1:Int) (of_decide_eq_true za) (by have h_:(x5_1:Int)<((x0_1.length:Int):Int):=of_decide_eq_true za;first|exact h_|(have e_:=(Kd.R_reads' HO_0.out).1;omega)|simpa using h_) (seg:=[.int .i64 (wrap64 (x1_1 + 1))]) (j:=1) hcl11 hcc11 (show 2≤3 from by decide) (x':=(⟨(rd_T92 y417 x5_1).f0,wrap64 (x1_1 + 1),(rd_T92 y417 x5_1).f2⟩:S92)) (k92_mkM _ _ _ (⟨(rd_T92 y417 x5_1).f0,wrap64 (x1_1 + 1),(rd_T92 y417 x5_1).f2⟩:S92)) (fun _ hk=>hk)));(try (have hx11_1:=hcc11 1 _ rfl));(try (try simp only [show (k92).sz=3 from rfl,Nat.mul_one,Nat.add_zero] at hx11_1));(try (have hf11_1:=hfr11 1));(try (try simp only [show (k92).sz=3 from rfl,Nat.mul_one,Nat.add_zero] at hf11_1));(try (clear hcl11 hcc11 hfr11;(try clear hM11)))));refine store_event (t:=3) (p:=23) (v:=?vo_w12) (w1:=(w10.setCell ⟨go5,(x5_1:Int).toNat * 3 + 1,none⟩ (.int .i64 (wrap64 (x1_1 + 1))))) ?hg ?ho ?hn ?hr ?_;(case ho=>rfl);(case hg=>rfl);(case hn=>rfl);(case hr=>first|(go_simp;done)|(go_simp;rfl));intro w12 hw;have hg:w10.grownBy w12 (some go5):=(by rw [hw];exact HP11.2);have hp_:Kd.R k92 92 w12 w0.heap.size (fun k_=>(P0_ k_∨w.heap.size≤k_)) (.slice (some ⟨go5,0,none⟩) x0_1.length co8) y418:=(by rw [hw,Ny418.out];exact HP11.1);clear HP11;have n0_:=Aside0.mk (hp_);have n1_:=Aside0.mk ((by rw [hw];exact below_set (HB.out) GB5.out:Below w0.heap.size w0 w12));have n2_:=Aside0.mk (Kept.of_grown (S:=(fun k_=>P0_ k_)) hg (by repeat (first|(with_reducible first|exact HK.out|apply Kept.alloc|apply Kept.drewN|apply Kept.drew)|exact HK.out)) (fun k_ e_=>(HO_0.out.1 k_ e_)));clear HO_0;clear HB;clear HK;have HO_0:=n0_;have HB:=n1_;have HK:=n2_;clear n0_ n1_ n2_;clear hg hw hp_;have p7:0≤(x5_1:Int):=of_decide_eq_true za;have q7:(x5_1:Int)<((x0_1.length:Int):Int):=of_decide_eq_true za;obtain ⟨ce7,hcl7,hM7,hcc7,hfr7⟩:=Kd.R_elem HO_0.out z92 (x5_1:Int) p7 q7;obtain rfl:=k92_openM hM7;have hx7_0:w12.cell? ⟨go5,(x5_1:Int).toNat * 3,none⟩=some (.int .i64 ((rd_T92 y418 x5_1).f0)):=hcc7 0 _ rfl;have hx7_1:w12.cell? ⟨go5,(x5_1:Int).toNat * 3 + 1,none⟩=some (.int .i64 ((rd_T92 y418 x5_1).f1)):=hcc7 1 _ rfl;have hx7_2:w12.cell? ⟨go5,(x5_1:Int).toNat * 3 + 2,none⟩=some (.int .i64 ((rd_T92 y418 x5_1).f2)):=hcc7 2 _ rfl;have hf7_0:w12.frozen? ⟨go5,(x5_1:Int).toNat * 3,none⟩=false:=hfr7 0;have hf7_1:w12.frozen? ⟨go5,(x5_1:Int).toNat * 3 + 1,none⟩=false:=hfr7 1;have hf7_2:w12.frozen? ⟨go5,(x5_1:Int).toNat * 3 + 2,none⟩=false:=hfr7 2;(clear hcl7 hcc7 hfr7;(try clear hM7));replace p7:=eq_true p7;replace q7:=eq_true q7;have HX13:=Aside0.mk (show Kd.R k92 92 w12 w0.heap.size (fun k_=>(P0_ k_∨w.heap.size≤k_)) (.slice (some ⟨go5,0,none⟩) x0_1.length co8) y418 from (zR HO_0.out));obtain ⟨ce13,hcl13,hM13,hcc13,hfr13⟩:=Kd.R_elem HX13.out z92 (x5_1:Int) (of_decide_eq_true za) (by have h_:(x5_1:Int)<((x0_1.length:Int):Int):=of_decide_eq_true za;first|exact h_|(have e_:=(Kd.R_reads' HO_0.out).1;omega)|simpa using h_);obtain rfl:=k92_openM hM13;have HP13:=Kd.R_seg HX13.out (x5_1:Int) (of_decide_eq_true za) (by have h_:(x5_1:Int)<((x0_1.length:Int):Int):=of_decide_eq_true za;first|exact h_|(have e_:=(Kd.R_reads' HO_0.out).1;omega)|simpa using h_) (seg:=[.int .i64 (wrap64 ((wrap64 (x1_1 + 1)) + 1))]) (j:=2) hcl13 hcc13 (show 3≤3 from by decide) (x':=(⟨(rd_T92 y418 x5_1).f0,(rd_T92 y418 x5_1).f1,wrap64 ((wrap64 (x1_1 + 1)) + 1)⟩:S92)) (k92_mkM _ _ _ (⟨(rd_T92 y418 x5_1).f0,(rd_T92 y418 x5_1).f1,wrap64 ((wrap64 (x1_1 + 1)) + 1)⟩:S92)) (fun _ hk=>hk);have hx13_2:=hcc13 2 _ rfl;(try simp only [show (k92).sz=3 from rfl,Nat.mul_one,Nat.add_zero] at hx13_2);have hf13_2:=hfr13 2;(try simp only [show (k92).sz=3 from rfl,Nat.mul_one,Nat.add_zero] at hf13_2);(clear hcl13 hcc13 hfr13;(try clear hM13)))|((with_reducible refine gate_store (t:=3) (p:=30) rfl ?_);(try (rw [drewN_self w12];generalize hq_:World.drewN w12 _=w12;have n0_:=Aside0.mk (Kd.R_at hq_ HO_0.out);have n1_:=Aside0.mk (kept_at hq_ HK.out);have n2_:=Aside0.mk (below_at hq_ HB.out);(try replace hx7_0:=cell_at hq_ hx7_0);(try replace hx7_1:=cell_at hq_ hx7_1);(try replace hx7_2:=cell_at hq_ hx7_2);(try replace hf7_0:=(fun {W_ W2_:World} {n_:Nat} {a_:Addr} {b_:Bool} (h_:W_.drewN n_=W2_) (e_:W_.frozen? a_=b_)=>(by subst h_;exact e_:W2_.frozen? a_=b_)) hq_ hf7_0);(try replace hf7_1:=(fun {W_ W2_:World} {n_:Nat} {a_:Addr} {b_:Bool} (h_:W_.drewN n_=W2_) (e_:W_.frozen? a_=b_)=>(by subst h_;exact e_:W2_.frozen? a_=b_)) hq_ hf7_1);(try replace hf7_2:=(fun {W_ W2_:World} {n_:Nat} {a_:Addr} {b_:Bool} (h_:W_.drewN n_=W2_) (e_:W_.frozen? a_=b_)=>(by subst h_;exact e_:W2_.frozen? a_=b_)) hq_ hf7_2);(try replace hx13_2:=cell_at hq_ hx13_2);(try replace hf13_2:=(fun {W_ W2_:World} {n_:Nat} {a_:Addr} {b_:Bool} (h_:W_.drewN n_=W2_) (e_:W_.frozen? a_=b_)=>(by subst h_;exact e_:W2_.frozen? a_=b_)) hq_ hf13_2);clear hq_ HO_0 HK HB;have HO_0:=n0_;have HK:=n1_;have HB:=n2_;clear n0_ n1_ n2_;(try (have HX13:=Aside0.mk (show Kd.R k92 92 w12 w0.heap.size (fun k_=>(P0_ k_∨w.heap.size≤k_)) (.slice (some ⟨go5,0,none⟩) x0_1.length co8) y418 from (zR HO_0.out))));(try (obtain ⟨ce13,hcl13,hM13,hcc13,hfr13⟩:=Kd.R_elem HX13.out z92 (x5_1:Int) (of_decide_eq_true za) (by have h_:(x5_1:Int)<((x0_1.length:Int):Int):=of_decide_eq_true za;first|exact h_|(have e_:=(Kd.R_reads' HO_0.out).1;omega)|simpa using h_)));(try (obtain rfl:=k92_openM hM13));(try (have HP13:=Kd.R_seg HX13.out (x5_1:Int) (of_decide_eq_true za) (by have h_:(x5_1:Int)<((x0_1.length:Int):Int):=of_decide_eq_true za;first|exact h_|(have e_:=(Kd.R_reads' HO_0.out).1;omega)|simpa using h_) (seg:=[.int .i64 (wrap64 ((wrap64 (x1_1 + 1)) + 1))]) (j:=2) hcl13 hcc13 (show 3≤3 from by decide) (x':=(⟨(rd_T92 y418 x5_1).f0,(rd_T92 y418 x5_1).f1,wrap64 ((wrap64 (x1_1 + 1)) + 1)⟩:S92)) (k92_mkM _ _ _ (⟨(rd_T92 y418 x5_1).f0,(rd_T92 y418 x5_1).f1,wrap64 ((wrap64 (x1_1 + 1)) + 1)⟩:S92)) (fun _ hk=>hk)));(try (have hx13_2:=hcc13 2 _ rfl));(try (try simp only [show (k92).sz=3 from rfl,Nat.mul_one,Nat.add_zero] at hx13_2));(try (have hf13_2:=hfr13 2));(try (try simp only [show (k92).sz=3 from rfl,Nat.mul_one,Nat.add_zero] at hf13_2));(try (clear hcl13 hcc13 hfr13;(try clear hM13)))));refine store_event (t:=3) (p:=30) (v:=?vo_w14) (w1:=(w12.setCell ⟨go5,(x5_1:Int).toNat * 3 + 2,none⟩ (.int .i64 (wrap64 ((wrap64 (x1_1 + 1)) + 1))))) ?hg ?ho ?hn ?hr ?_;(case ho=>rfl);(case hg=>rfl);(case hn=>rfl);(case hr=>first|(go_simp;done)|(go_simp;rfl));intro w14 hw;have hg:w12.grownBy w14 (some go5):=(by rw [hw];exact HP13.2);have hp_:Kd.R k92 92 w14 w0.heap.size (fun k_=>(P0_ k_∨w.heap.size≤k_)) (.slice (some ⟨go5,0,none⟩) x0_1.length co8) y419:=(by rw [hw,Ny419.out];exact HP13.1);clear HP13;have n0_:=Aside0.mk (hp_);have n1_:=Aside0.mk ((by rw [hw];exact below_set (HB.out) GB5.out:Below w0.heap.size w0 w14));have n2_:=Aside0.mk (Kept.of_grown (S:=(fun k_=>P0_ k_)) hg (by repeat (first|(with_reducible first|exact HK.out|apply Kept.alloc|apply Kept.drewN|apply Kept.drew)|exact HK.out)) (fun k_ e_=>(HO_0.out.1 k_ e_)));clear HO_0;clear HB;clear HK;have HO_0:=n0_;have HB:=n1_;have HK:=n2_;clear n0_ n1_ n2_;clear hg hw hp_))
     go_roundg k1
     case measure=>have:=HK1.out;omega
     case rel=>exact ⟨(y419),(wrap64 ((wrap64 ((wrap64 (x1_1 + 1)) + 1)) + 1)),(wrap64 (x5_1 + 1)),zo,zo,H',⟨by have:=HK1.out;omega⟩,⟨zR HO_0.out⟩,⟨by repeat (first|(with_reducible first|exact HK.out|apply Kept.alloc|apply Kept.drewN|apply Kept.drew)|exact HK.out)⟩,⟨zb⟩⟩
    ·rw [if_neg c4] at H
     exact absurd H (by simp)
   ·rw [if_neg c3] at H
    have c3b0:decide (x5_1<(x0_1.length:Int))=false:=decide_eq_false c3
    clear c3
    simp only [Option.some.injEq,Prod.mk.injEq] at H
    obtain ⟨rfl,rfl⟩:=H
    obtain ⟨Ao15,co15,eo15⟩:=Kd.R_slice HO_0.out
    subst eo15
    go_wp2
    go_ret
    exact ⟨by first|rfl|(simp [errW_none,errW_some] <;> rfl)|(simp [*,errW_none,errW_some] <;> rfl),zR HO_0.out,by repeat (first|(with_reducible first|exact HB.out|apply below_alloc|apply pw_below_drewN|apply below_drew1)|exact HB.out),by repeat (first|(with_reducible first|exact HK.out|apply Kept.alloc|apply Kept.drewN|apply Kept.drew)|exact HK.out)⟩

/-! ### laws_heldTaskS: function 24 -/
def laws_heldTaskS.l0:Nat→List (S92)→Int→Int→Option (Int)
 | 0,_,_,_=>none
 | k + 1,x0,x1,x5=>if x5<(x0.length:Int) then (if 0≤x5 then (if ((rd_T92 x0 x5).f0)=x1 then (if ((rd_T92 x0 x5).f1)=(wrap64 (x1 + 1)) then (if ((rd_T92 x0 x5).f2)=(wrap64 ((wrap64 (x1 + 1)) + 1)) then (laws_heldTaskS.l0 k x0 (wrap64 ((wrap64 ((wrap64 (x1 + 1)) + 1)) + 1)) (wrap64 (x5 + 1))) else (some (-1))) else (some (-1))) else (some (-1))) else (none)) else (some x1)
def laws_heldTaskS.f (k:Nat) (l0:List (S92)) (a1:Int):Option (Int):=laws_heldTaskS.l0 k l0 a1 0
theorem laws_heldTaskS.mono_l:∀ k,(∀ y0 y1 y2,LeO (laws_heldTaskS.l0 k y0 y1 y2) (laws_heldTaskS.l0 (k + 1) y0 y1 y2))
 | 0=>fun _ _ _ r h=>by simp [laws_heldTaskS.l0] at h
 | k + 1=>by
  have ih0:=laws_heldTaskS.mono_l k
  ·intro y0 y1 y2
   unfold laws_heldTaskS.l0
   repeat' first
   | (with_reducible exact ih0 _ _ _)
   | (with_reducible exact LeO.refl _)
   | (with_reducible exact LeO.none _)
   | (with_reducible refine LeO.ite ?_ ?_)
   | (with_reducible refine LeO.bind ?_ (fun _=>?_))
   | exact ih0 _ _ _
   | exact LeO.none _
   | refine LeO.ite ?_ ?_
   | refine LeO.bind ?_ (fun _=>?_)
theorem laws_heldTaskS.mono:∀ a0 a1 k,LeO (laws_heldTaskS.f k a0 a1) (laws_heldTaskS.f (k + 1) a0 a1):=by
 intro a0 a1 k
 have ih0:=laws_heldTaskS.mono_l k
 unfold laws_heldTaskS.f
 repeat' first
   | (with_reducible exact ih0 _ _ _)
   | (with_reducible exact LeO.refl _)
   | (with_reducible exact LeO.none _)
   | (with_reducible refine LeO.ite ?_ ?_)
   | (with_reducible refine LeO.bind ?_ (fun _=>?_))
   | exact ih0 _ _ _
   | exact LeO.none _
   | refine LeO.ite ?_ ?_
   | refine LeO.bind ?_ (fun _=>?_)
set_option maxHeartbeats 8000000 in
set_option maxRecDepth 100000 in
theorem laws_heldTaskS.calls (k:Nat) (A0:Option Addr) (c0:Nat) (l0:List (S92)) (a1:Int) (r:Int) (w:World) (hr0:Kd.C k92 w A0 l0.length l0) (hc0:l0.length≤c0) (h:laws_heldTaskS.f k l0 a1=some r) :
  Calls Try.prog 24 #[.slice A0 l0.length c0,.int .i64 a1] w fun e w'=>e=.returned (.int .i64 r)∧Drawn0 w w':=by
 have HR0:=Aside0.mk hr0
 have HC0:=Aside0.mk hc0
 clear hr0 hc0
 have H:(laws_heldTaskS.l0 k l0 a1 0)=some r:=h
 clear h
 have H':=Aside0.mk H
 clear H
 go_enter Try.func24,Try.ntmps24
 go_wp2
 go_loopg [1,5] k (fun kq v1 v5 w'=>∃ (x1_1:Int) (x5_1:Int),v1=.int .i64 x1_1∧v5=.int .i64 x5_1∧Aside0 (laws_heldTaskS.l0 kq l0 x1_1 x5_1=some r)∧Aside0 (kq≤k)∧Drawn0 w w')
 case atStart=>exact ⟨(a1),(0),zo,zo,H',⟨Nat.le_refl _⟩,by repeat (first|exact Drawn0.refl _|apply Drawn0.step)⟩
 case round=>
  clear H'
  (try clear c2);(try clear p2)
  obtain ⟨x1_1,x5_1,rfl,rfl,HA,HK1,⟨m1,rfl⟩⟩:=hrel
  cases gk with
  | zero=>exact absurd HA.out (by simp [laws_heldTaskS.l0])
  | succ k1=>
   have H:=HA.out
   clear HA
   simp only [laws_heldTaskS.l0] at H
   by_cases c3:x5_1<(l0.length:Int)
   ·rw [if_pos c3] at H
    have c3b0:decide (x5_1<(l0.length:Int))=true:=decide_eq_true c3
    clear c3
    by_cases c4:0≤x5_1
    ·rw [if_pos c4] at H
     have c4b0:decide (0≤x5_1)=true:=decide_eq_true c4
     clear c4
     by_cases c5:((rd_T92 l0 x5_1).f0)=x1_1
     ·rw [if_pos c5] at H
      have c5b0:(((rd_T92 l0 x5_1).f0) == x1_1)=true:=beq_iff_eq.mpr c5
      have c5b1:(((rd_T92 l0 x5_1).f0) != x1_1)=false:=bne_eq_false_iff_eq.mpr c5
      clear c5
      by_cases c6:((rd_T92 l0 x5_1).f1)=(wrap64 (x1_1 + 1))
      ·rw [if_pos c6] at H
       have c6b0:(((rd_T92 l0 x5_1).f1) == (wrap64 (x1_1 + 1)))=true:=beq_iff_eq.mpr c6
       have c6b1:(((rd_T92 l0 x5_1).f1) != (wrap64 (x1_1 + 1)))=false:=bne_eq_false_iff_eq.mpr c6
       clear c6
       by_cases c7:((rd_T92 l0 x5_1).f2)=(wrap64 ((wrap64 (x1_1 + 1)) + 1))
       ·rw [if_pos c7] at H
        have c7b0:(((rd_T92 l0 x5_1).f2) == (wrap64 ((wrap64 (x1_1 + 1)) + 1)))=true:=beq_iff_eq.mpr c7
        have c7b1:(((rd_T92 l0 x5_1).f2) != (wrap64 ((wrap64 (x1_1 + 1)) + 1)))=false:=bne_eq_false_iff_eq.mpr c7
        clear c7
        have H':=Aside0.mk H
        clear H
        have p420:0≤(x5_1:Int):=of_decide_eq_true za
        have q420:x5_1<(l0.length:Int):=of_decide_eq_true za
        obtain ⟨ad420,e420,hx420_0,hx420_1,hx420_2⟩:=at_T92 HR0.out x5_1 p420 q420
        cases e420
        replace p420:=eq_true p420
        replace q420:=eq_true q420
        have p421:0≤(x5_1:Int):=of_decide_eq_true za
        have q421:x5_1<(l0.length:Int):=of_decide_eq_true za
        obtain ⟨ad421,e421,hx421_0,hx421_1,hx421_2⟩:=at_T92 HR0.out x5_1 p421 q421
        obtain rfl:ad420=ad421:=(by injection e421)
        replace p421:=eq_true p421
        replace q421:=eq_true q421
        have p422:0≤(x5_1:Int):=of_decide_eq_true za
        have q422:x5_1<(l0.length:Int):=of_decide_eq_true za
        obtain ⟨ad422,e422,hx422_0,hx422_1,hx422_2⟩:=at_T92 HR0.out x5_1 p422 q422
        obtain rfl:ad420=ad422:=(by injection e422)
        replace p422:=eq_true p422
        replace q422:=eq_true q422
        go_wp2
        go_roundg k1
        case measure=>have:=HK1.out;omega
        case rel=>exact ⟨(wrap64 ((wrap64 ((wrap64 (x1_1 + 1)) + 1)) + 1)),(wrap64 (x5_1 + 1)),zo,zo,H',⟨by have:=HK1.out;omega⟩,by repeat (first|exact Drawn0.refl _|apply Drawn0.step)⟩
       ·rw [if_neg c7] at H
        have c7b0:(((rd_T92 l0 x5_1).f2) == (wrap64 ((wrap64 (x1_1 + 1)) + 1)))=false:=beq_eq_false_iff_ne.mpr c7
        have c7b1:(((rd_T92 l0 x5_1).f2) != (wrap64 ((wrap64 (x1_1 + 1)) + 1)))=true:=bne_iff_ne.mpr c7
        obtain rfl:=Option.some.inj H
        have p420:0≤(x5_1:Int):=of_decide_eq_true za
        have q420:x5_1<(l0.length:Int):=of_decide_eq_true za
        obtain ⟨ad420,e420,hx420_0,hx420_1,hx420_2⟩:=at_T92 HR0.out x5_1 p420 q420
        cases e420
        replace p420:=eq_true p420
        replace q420:=eq_true q420
        have p421:0≤(x5_1:Int):=of_decide_eq_true za
        have q421:x5_1<(l0.length:Int):=of_decide_eq_true za
        obtain ⟨ad421,e421,hx421_0,hx421_1,hx421_2⟩:=at_T92 HR0.out x5_1 p421 q421
        obtain rfl:ad420=ad421:=(by injection e421)
        replace p421:=eq_true p421
        replace q421:=eq_true q421
        have p422:0≤(x5_1:Int):=of_decide_eq_true za
        have q422:x5_1<(l0.length:Int):=of_decide_eq_true za
        obtain ⟨ad422,e422,hx422_0,hx422_1,hx422_2⟩:=at_T92 HR0.out x5_1 p422 q422
        obtain rfl:ad420=ad422:=(by injection e422)
        replace p422:=eq_true p422
        replace q422:=eq_true q422
        go_wp2
        go_ret
        exact ⟨by first|rfl|(simp;done)|(simp [*];done),by repeat (first|exact Drawn0.refl _|apply Drawn0.step)⟩
      ·rw [if_neg c6] at H
       have c6b0:(((rd_T92 l0 x5_1).f1) == (wrap64 (x1_1 + 1)))=false:=beq_eq_false_iff_ne.mpr c6
       have c6b1:(((rd_T92 l0 x5_1).f1) != (wrap64 (x1_1 + 1)))=true:=bne_iff_ne.mpr c6
       obtain rfl:=Option.some.inj H
       have p420:0≤(x5_1:Int):=of_decide_eq_true za
       have q420:x5_1<(l0.length:Int):=of_decide_eq_true za
       obtain ⟨ad420,e420,hx420_0,hx420_1,hx420_2⟩:=at_T92 HR0.out x5_1 p420 q420
       cases e420
       replace p420:=eq_true p420
       replace q420:=eq_true q420
       have p421:0≤(x5_1:Int):=of_decide_eq_true za
       have q421:x5_1<(l0.length:Int):=of_decide_eq_true za
       obtain ⟨ad421,e421,hx421_0,hx421_1,hx421_2⟩:=at_T92 HR0.out x5_1 p421 q421
       obtain rfl:ad420=ad421:=(by injection e421)
       replace p421:=eq_true p421
       replace q421:=eq_true q421
       go_wp2
       go_ret
       exact ⟨by first|rfl|(simp;done)|(simp [*];done),by repeat (first|exact Drawn0.refl _|apply Drawn0.step)⟩
     ·rw [if_neg c5] at H
      have c5b0:(((rd_T92 l0 x5_1).f0) == x1_1)=false:=beq_eq_false_iff_ne.mpr c5
      have c5b1:(((rd_T92 l0 x5_1).f0) != x1_1)=true:=bne_iff_ne.mpr c5
      obtain rfl:=Option.some.inj H
      have p420:0≤(x5_1:Int):=of_decide_eq_true za
      have q420:x5_1<(l0.length:Int):=of_decide_eq_true za
      obtain ⟨ad420,e420,hx420_0,hx420_1,hx420_2⟩:=at_T92 HR0.out x5_1 p420 q420
      cases e420
      replace p420:=eq_true p420
      replace q420:=eq_true q420
      go_wp2
      go_ret
      exact ⟨by first|rfl|(simp;done)|(simp [*];done),by repeat (first|exact Drawn0.refl _|apply Drawn0.step)⟩
    ·rw [if_neg c4] at H
     exact absurd H (by simp)
   ·rw [if_neg c3] at H
    have c3b0:decide (x5_1<(l0.length:Int))=false:=decide_eq_false c3
    clear c3
    obtain rfl:=Option.some.inj H
    go_wp2
    go_ret
    exact ⟨by first|rfl|(simp;done)|(simp [*];done),by repeat (first|exact Drawn0.refl _|apply Drawn0.step)⟩

end Go.Proofs.Ytbcfmegepkhlpaa.XFnExactLabelPlan
-- minified
