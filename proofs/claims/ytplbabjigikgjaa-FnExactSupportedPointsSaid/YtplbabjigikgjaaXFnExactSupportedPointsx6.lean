-- Written by a program of this session (the kit's print, widened). Proved here: what each function answers, for the arguments that its contract names.
import Derived.Test.YtplbabjigikgjaaXFnExactSupportedPointsx0
import Derived.Test.YtplbabjigikgjaaXFnExactSupportedPointsx3
import Derived.Test.YtplbabjigikgjaaXFnExactSupportedPointsx4
import Derived.Test.YtplbabjigikgjaaXFnExactSupportedPointsx5
namespace Go.Proofs.Ytplbabjigikgjaa.XFnExactSupportedPoints
open Go.RowKit Go.Proofs.YtplbabjigikgjaaW.PrintWords Go.Proofs.YtplbabjigikgjaaW.PrintLast Go.Proofs.YtplbabjigikgjaaW.PrintMore
attribute [local go_sem] max2_int min2_int max_two min_two max_three min_three max_four min_four   -- for this text's walks alone
attribute [local go_sem] idxA_45_0 idxA_45_1 fldS_94_0 fldS_94_1 fldS_94_2 fldS_125_0 fldS_125_1 fldS_125_2
set_option linter.unusedVariables false
set_option linter.unusedSimpArgs false

/-! ### spec_l2Cost: function 169 -/
def spec_l2Cost.f (a0_0:Int) (a0_1:Int) (a0_2:Int) (a0_3:Int) (a1:Int) (a2:Int):Option (Int):=(spec_l1Most.f (wrap64 (a1 - a0_3)) 0).bind fun t188=>(if a2=2 then (some a1) else (if a2=3 then (some (wrap64 (a0_1 * a1))) else (if a2=5 then (some t188) else (if a2=6 then (some (wrap64 (a0_1 * t188))) else (if t188=0 then (some 0) else (if a2=7 then (some 1) else (some a0_1)))))))
set_option maxHeartbeats 8000000 in
set_option maxRecDepth 100000 in
theorem spec_l2Cost.calls (a0_0:Int) (a0_1:Int) (a0_2:Int) (a0_3:Int) (a1:Int) (a2:Int) (r:Int) (w:World) (h:spec_l2Cost.f a0_0 a0_1 a0_2 a0_3 a1 a2=some r) :
  Calls Try.prog 169 #[.agg #[.int .i64 a0_0,.int .i64 a0_1,.int .i64 a0_2,.int .i64 a0_3],.int .i64 a1,.int .i64 a2] w fun e w'=>e=.returned (.int .i64 r)∧Below w.heap.size w w':=by
 have hu47:=Try.underlying47
 have HB:=Aside0.mk (Below.refl w.heap.size w)
 have H:((spec_l1Most.f (wrap64 (a1 - a0_3)) 0).bind fun t188=>(if a2=2 then (some a1) else (if a2=3 then (some (wrap64 (a0_1 * a1))) else (if a2=5 then (some t188) else (if a2=6 then (some (wrap64 (a0_1 * t188))) else (if t188=0 then (some 0) else (if a2=7 then (some 1) else (some a0_1))))))))=some r:=h
 clear h
 replace H:=Option.bind_eq_some_iff.mp H
 obtain ⟨t188,A40,H⟩:=H
 replace H:(if a2=2 then (some a1) else (if a2=3 then (some (wrap64 (a0_1 * a1))) else (if a2=5 then (some t188) else (if a2=6 then (some (wrap64 (a0_1 * t188))) else (if t188=0 then (some 0) else (if a2=7 then (some 1) else (some a0_1)))))))=some r:=H
 have A4:=Aside0.mk A40
 clear A40
 by_cases c5:a2=2
 ·rw [if_pos c5] at H
  have c5b0:(a2 == 2)=true:=beq_iff_eq.mpr c5
  have c5b1:(a2 != 2)=false:=bne_eq_false_iff_eq.mpr c5
  clear c5
  obtain rfl:=Option.some.inj H
  go_enter Try.func169,Try.ntmps169
  go_wp2_with (first|((with_reducible refine gate_dst (N:=3) rfl ?_);refine box_event ?hg (N:=3) ?hd (cs:=#[.int .i64 a0_0,.int .i64 a0_1,.int .i64 a0_2,.int .i64 a0_3]) (t:=47) ?hr ?_;(case hd=>rfl);(case hg=>rfl);(case hr=>first|(go_simp;done)|(go_simp;rfl));intro gb187 hg w6 hbox hb;have n0_:=Aside0.mk (below_step (by repeat (first|(with_reducible first|exact HB.out|apply below_alloc|apply pw_below_drewN|apply below_drew1)|exact HB.out)) hb);have n1_:=Aside0.mk (hbox);have n2_:=Aside0.mk ((by rw [hg];exact (below_size (by repeat (first|(with_reducible first|exact HB.out|apply below_alloc|apply pw_below_drewN|apply below_drew1)|exact HB.out))):w.heap.size≤gb187));have n3_:=Aside0.mk ((by rw [hg];exact (below_size (by repeat (first|(with_reducible first|exact HB.out|apply below_alloc|apply pw_below_drewN|apply below_drew1)|exact HB.out))):w.heap.size≤gb187));clear HB;have HB:=n0_;have BK187:=n1_;have GW187:=n2_;have GE187:=n3_;clear n0_ n1_ n2_ n3_;clear hb hbox hg;have hcz7_0:w6.cell? ⟨gb187,0,none⟩=some (.int .i64 a0_0):=(blk_cell BK187.out 0).trans rfl;have hcz7_1:w6.cell? ⟨gb187,1,none⟩=some (.int .i64 a0_1):=(blk_cell BK187.out 1).trans rfl;have hcz7_2:w6.cell? ⟨gb187,2,none⟩=some (.int .i64 a0_2):=(blk_cell BK187.out 2).trans rfl;have hcz7_3:w6.cell? ⟨gb187,3,none⟩=some (.int .i64 a0_3):=(blk_cell BK187.out 3).trans rfl;have hfz7_0:=blk_frozen BK187.out 0;have hfz7_1:=blk_frozen BK187.out 1;have hfz7_2:=blk_frozen BK187.out 2;have hfz7_3:=blk_frozen BK187.out 3)|((with_reducible refine gate_callee (f:=120) rfl ?_);refine goesL_ (some 12) rfl rfl Try.func120 (by kernel_rfl) rfl #[.int .i64 (wrap64 (a1 - a0_3)),.int .i64 0] rfl (by (try simp only [List.map_toArray,List.map_cons,List.map_nil]);first|done|rfl|(simp only [List.length_drop,List.length_take];rfl)) ?_;(with_reducible refine (spec_l1Most.calls (wrap64 (a1 - a0_3)) 0 t188 _ A4.out).mono ?_);rintro e w' ⟨rfl,⟨nd,rfl⟩⟩;refine ⟨_,rfl,?_⟩))
  go_ret
  exact ⟨by first|rfl|(simp [errW_none,errW_some] <;> rfl)|(simp [*,errW_none,errW_some] <;> rfl),by repeat (first|(with_reducible first|exact HB.out|apply below_alloc|apply pw_below_drewN|apply below_drew1|refine below_set ?_ GE187.out)|exact HB.out)⟩
 ·rw [if_neg c5] at H
  have c5b0:(a2 == 2)=false:=beq_eq_false_iff_ne.mpr c5
  have c5b1:(a2 != 2)=true:=bne_iff_ne.mpr c5
  by_cases c8:a2=3
  ·rw [if_pos c8] at H
   have c8b0:(a2 == 3)=true:=beq_iff_eq.mpr c8
   have c8b1:(a2 != 3)=false:=bne_eq_false_iff_eq.mpr c8
   clear c8
   obtain rfl:=Option.some.inj H
   go_enter Try.func169,Try.ntmps169
   go_wp2_with (first|((with_reducible refine gate_dst (N:=3) rfl ?_);refine box_event ?hg (N:=3) ?hd (cs:=#[.int .i64 a0_0,.int .i64 a0_1,.int .i64 a0_2,.int .i64 a0_3]) (t:=47) ?hr ?_;(case hd=>rfl);(case hg=>rfl);(case hr=>first|(go_simp;done)|(go_simp;rfl));intro gb187 hg w9 hbox hb;have n0_:=Aside0.mk (below_step (by repeat (first|(with_reducible first|exact HB.out|apply below_alloc|apply pw_below_drewN|apply below_drew1)|exact HB.out)) hb);have n1_:=Aside0.mk (hbox);have n2_:=Aside0.mk ((by rw [hg];exact (below_size (by repeat (first|(with_reducible first|exact HB.out|apply below_alloc|apply pw_below_drewN|apply below_drew1)|exact HB.out))):w.heap.size≤gb187));have n3_:=Aside0.mk ((by rw [hg];exact (below_size (by repeat (first|(with_reducible first|exact HB.out|apply below_alloc|apply pw_below_drewN|apply below_drew1)|exact HB.out))):w.heap.size≤gb187));clear HB;have HB:=n0_;have BK187:=n1_;have GW187:=n2_;have GE187:=n3_;clear n0_ n1_ n2_ n3_;clear hb hbox hg;have hcz10_0:w9.cell? ⟨gb187,0,none⟩=some (.int .i64 a0_0):=(blk_cell BK187.out 0).trans rfl;have hcz10_1:w9.cell? ⟨gb187,1,none⟩=some (.int .i64 a0_1):=(blk_cell BK187.out 1).trans rfl;have hcz10_2:w9.cell? ⟨gb187,2,none⟩=some (.int .i64 a0_2):=(blk_cell BK187.out 2).trans rfl;have hcz10_3:w9.cell? ⟨gb187,3,none⟩=some (.int .i64 a0_3):=(blk_cell BK187.out 3).trans rfl;have hfz10_0:=blk_frozen BK187.out 0;have hfz10_1:=blk_frozen BK187.out 1;have hfz10_2:=blk_frozen BK187.out 2;have hfz10_3:=blk_frozen BK187.out 3)|((with_reducible refine gate_callee (f:=120) rfl ?_);refine goesL_ (some 12) rfl rfl Try.func120 (by kernel_rfl) rfl #[.int .i64 (wrap64 (a1 - a0_3)),.int .i64 0] rfl (by (try simp only [List.map_toArray,List.map_cons,List.map_nil]);first|done|rfl|(simp only [List.length_drop,List.length_take];rfl)) ?_;(with_reducible refine (spec_l1Most.calls (wrap64 (a1 - a0_3)) 0 t188 _ A4.out).mono ?_);rintro e w' ⟨rfl,⟨nd,rfl⟩⟩;refine ⟨_,rfl,?_⟩))
   go_ret
   exact ⟨by first|rfl|(simp [errW_none,errW_some] <;> rfl)|(simp [*,errW_none,errW_some] <;> rfl),by repeat (first|(with_reducible first|exact HB.out|apply below_alloc|apply pw_below_drewN|apply below_drew1|refine below_set ?_ GE187.out)|exact HB.out)⟩
  ·rw [if_neg c8] at H
   have c8b0:(a2 == 3)=false:=beq_eq_false_iff_ne.mpr c8
   have c8b1:(a2 != 3)=true:=bne_iff_ne.mpr c8
   by_cases c11:a2=5
   ·rw [if_pos c11] at H
    have c11b0:(a2 == 5)=true:=beq_iff_eq.mpr c11
    have c11b1:(a2 != 5)=false:=bne_eq_false_iff_eq.mpr c11
    clear c11
    obtain rfl:=Option.some.inj H
    go_enter Try.func169,Try.ntmps169
    go_wp2_with (first|((with_reducible refine gate_dst (N:=3) rfl ?_);refine box_event ?hg (N:=3) ?hd (cs:=#[.int .i64 a0_0,.int .i64 a0_1,.int .i64 a0_2,.int .i64 a0_3]) (t:=47) ?hr ?_;(case hd=>rfl);(case hg=>rfl);(case hr=>first|(go_simp;done)|(go_simp;rfl));intro gb187 hg w12 hbox hb;have n0_:=Aside0.mk (below_step (by repeat (first|(with_reducible first|exact HB.out|apply below_alloc|apply pw_below_drewN|apply below_drew1)|exact HB.out)) hb);have n1_:=Aside0.mk (hbox);have n2_:=Aside0.mk ((by rw [hg];exact (below_size (by repeat (first|(with_reducible first|exact HB.out|apply below_alloc|apply pw_below_drewN|apply below_drew1)|exact HB.out))):w.heap.size≤gb187));have n3_:=Aside0.mk ((by rw [hg];exact (below_size (by repeat (first|(with_reducible first|exact HB.out|apply below_alloc|apply pw_below_drewN|apply below_drew1)|exact HB.out))):w.heap.size≤gb187));clear HB;have HB:=n0_;have BK187:=n1_;have GW187:=n2_;have GE187:=n3_;clear n0_ n1_ n2_ n3_;clear hb hbox hg;have hcz13_0:w12.cell? ⟨gb187,0,none⟩=some (.int .i64 a0_0):=(blk_cell BK187.out 0).trans rfl;have hcz13_1:w12.cell? ⟨gb187,1,none⟩=some (.int .i64 a0_1):=(blk_cell BK187.out 1).trans rfl;have hcz13_2:w12.cell? ⟨gb187,2,none⟩=some (.int .i64 a0_2):=(blk_cell BK187.out 2).trans rfl;have hcz13_3:w12.cell? ⟨gb187,3,none⟩=some (.int .i64 a0_3):=(blk_cell BK187.out 3).trans rfl;have hfz13_0:=blk_frozen BK187.out 0;have hfz13_1:=blk_frozen BK187.out 1;have hfz13_2:=blk_frozen BK187.out 2;have hfz13_3:=blk_frozen BK187.out 3)|((with_reducible refine gate_callee (f:=120) rfl ?_);refine goesL_ (some 12) rfl rfl Try.func120 (by kernel_rfl) rfl #[.int .i64 (wrap64 (a1 - a0_3)),.int .i64 0] rfl (by (try simp only [List.map_toArray,List.map_cons,List.map_nil]);first|done|rfl|(simp only [List.length_drop,List.length_take];rfl)) ?_;(with_reducible refine (spec_l1Most.calls (wrap64 (a1 - a0_3)) 0 t188 _ A4.out).mono ?_);rintro e w' ⟨rfl,⟨nd,rfl⟩⟩;refine ⟨_,rfl,?_⟩))
    go_ret
    exact ⟨by first|rfl|(simp [errW_none,errW_some] <;> rfl)|(simp [*,errW_none,errW_some] <;> rfl),by repeat (first|(with_reducible first|exact HB.out|apply below_alloc|apply pw_below_drewN|apply below_drew1|refine below_set ?_ GE187.out)|exact HB.out)⟩
   ·rw [if_neg c11] at H
    have c11b0:(a2 == 5)=false:=beq_eq_false_iff_ne.mpr c11
    have c11b1:(a2 != 5)=true:=bne_iff_ne.mpr c11
    by_cases c14:a2=6
    ·rw [if_pos c14] at H
     have c14b0:(a2 == 6)=true:=beq_iff_eq.mpr c14
     have c14b1:(a2 != 6)=false:=bne_eq_false_iff_eq.mpr c14
     clear c14
     obtain rfl:=Option.some.inj H
     go_enter Try.func169,Try.ntmps169
     go_wp2_with (first|((with_reducible refine gate_dst (N:=3) rfl ?_);refine box_event ?hg (N:=3) ?hd (cs:=#[.int .i64 a0_0,.int .i64 a0_1,.int .i64 a0_2,.int .i64 a0_3]) (t:=47) ?hr ?_;(case hd=>rfl);(case hg=>rfl);(case hr=>first|(go_simp;done)|(go_simp;rfl));intro gb187 hg w15 hbox hb;have n0_:=Aside0.mk (below_step (by repeat (first|(with_reducible first|exact HB.out|apply below_alloc|apply pw_below_drewN|apply below_drew1)|exact HB.out)) hb);have n1_:=Aside0.mk (hbox);have n2_:=Aside0.mk ((by rw [hg];exact (below_size (by repeat (first|(with_reducible first|exact HB.out|apply below_alloc|apply pw_below_drewN|apply below_drew1)|exact HB.out))):w.heap.size≤gb187));have n3_:=Aside0.mk ((by rw [hg];exact (below_size (by repeat (first|(with_reducible first|exact HB.out|apply below_alloc|apply pw_below_drewN|apply below_drew1)|exact HB.out))):w.heap.size≤gb187));clear HB;have HB:=n0_;have BK187:=n1_;have GW187:=n2_;have GE187:=n3_;clear n0_ n1_ n2_ n3_;clear hb hbox hg;have hcz16_0:w15.cell? ⟨gb187,0,none⟩=some (.int .i64 a0_0):=(blk_cell BK187.out 0).trans rfl;have hcz16_1:w15.cell? ⟨gb187,1,none⟩=some (.int .i64 a0_1):=(blk_cell BK187.out 1).trans rfl;have hcz16_2:w15.cell? ⟨gb187,2,none⟩=some (.int .i64 a0_2):=(blk_cell BK187.out 2).trans rfl;have hcz16_3:w15.cell? ⟨gb187,3,none⟩=some (.int .i64 a0_3):=(blk_cell BK187.out 3).trans rfl;have hfz16_0:=blk_frozen BK187.out 0;have hfz16_1:=blk_frozen BK187.out 1;have hfz16_2:=blk_frozen BK187.out 2;have hfz16_3:=blk_frozen BK187.out 3)|((with_reducible refine gate_callee (f:=120) rfl ?_);refine goesL_ (some 12) rfl rfl Try.func120 (by kernel_rfl) rfl #[.int .i64 (wrap64 (a1 - a0_3)),.int .i64 0] rfl (by (try simp only [List.map_toArray,List.map_cons,List.map_nil]);first|done|rfl|(simp only [List.length_drop,List.length_take];rfl)) ?_;(with_reducible refine (spec_l1Most.calls (wrap64 (a1 - a0_3)) 0 t188 _ A4.out).mono ?_);rintro e w' ⟨rfl,⟨nd,rfl⟩⟩;refine ⟨_,rfl,?_⟩))
     go_ret
     exact ⟨by first|rfl|(simp [errW_none,errW_some] <;> rfl)|(simp [*,errW_none,errW_some] <;> rfl),by repeat (first|(with_reducible first|exact HB.out|apply below_alloc|apply pw_below_drewN|apply below_drew1|refine below_set ?_ GE187.out)|exact HB.out)⟩
    ·rw [if_neg c14] at H
     have c14b0:(a2 == 6)=false:=beq_eq_false_iff_ne.mpr c14
     have c14b1:(a2 != 6)=true:=bne_iff_ne.mpr c14
     by_cases c17:t188=0
     ·rw [if_pos c17] at H
      have c17b0:(t188 == 0)=true:=beq_iff_eq.mpr c17
      have c17b1:(t188 != 0)=false:=bne_eq_false_iff_eq.mpr c17
      clear c17
      obtain rfl:=Option.some.inj H
      go_enter Try.func169,Try.ntmps169
      go_wp2_with (first|((with_reducible refine gate_dst (N:=3) rfl ?_);refine box_event ?hg (N:=3) ?hd (cs:=#[.int .i64 a0_0,.int .i64 a0_1,.int .i64 a0_2,.int .i64 a0_3]) (t:=47) ?hr ?_;(case hd=>rfl);(case hg=>rfl);(case hr=>first|(go_simp;done)|(go_simp;rfl));intro gb187 hg w18 hbox hb;have n0_:=Aside0.mk (below_step (by repeat (first|(with_reducible first|exact HB.out|apply below_alloc|apply pw_below_drewN|apply below_drew1)|exact HB.out)) hb);have n1_:=Aside0.mk (hbox);have n2_:=Aside0.mk ((by rw [hg];exact (below_size (by repeat (first|(with_reducible first|exact HB.out|apply below_alloc|apply pw_below_drewN|apply below_drew1)|exact HB.out))):w.heap.size≤gb187));have n3_:=Aside0.mk ((by rw [hg];exact (below_size (by repeat (first|(with_reducible first|exact HB.out|apply below_alloc|apply pw_below_drewN|apply below_drew1)|exact HB.out))):w.heap.size≤gb187));clear HB;have HB:=n0_;have BK187:=n1_;have GW187:=n2_;have GE187:=n3_;clear n0_ n1_ n2_ n3_;clear hb hbox hg;have hcz19_0:w18.cell? ⟨gb187,0,none⟩=some (.int .i64 a0_0):=(blk_cell BK187.out 0).trans rfl;have hcz19_1:w18.cell? ⟨gb187,1,none⟩=some (.int .i64 a0_1):=(blk_cell BK187.out 1).trans rfl;have hcz19_2:w18.cell? ⟨gb187,2,none⟩=some (.int .i64 a0_2):=(blk_cell BK187.out 2).trans rfl;have hcz19_3:w18.cell? ⟨gb187,3,none⟩=some (.int .i64 a0_3):=(blk_cell BK187.out 3).trans rfl;have hfz19_0:=blk_frozen BK187.out 0;have hfz19_1:=blk_frozen BK187.out 1;have hfz19_2:=blk_frozen BK187.out 2;have hfz19_3:=blk_frozen BK187.out 3)|((with_reducible refine gate_callee (f:=120) rfl ?_);refine goesL_ (some 12) rfl rfl Try.func120 (by kernel_rfl) rfl #[.int .i64 (wrap64 (a1 - a0_3)),.int .i64 0] rfl (by (try simp only [List.map_toArray,List.map_cons,List.map_nil]);first|done|rfl|(simp only [List.length_drop,List.length_take];rfl)) ?_;(with_reducible refine (spec_l1Most.calls (wrap64 (a1 - a0_3)) 0 t188 _ A4.out).mono ?_);rintro e w' ⟨rfl,⟨nd,rfl⟩⟩;refine ⟨_,rfl,?_⟩))
      go_ret
      exact ⟨by first|rfl|(simp [errW_none,errW_some] <;> rfl)|(simp [*,errW_none,errW_some] <;> rfl),by repeat (first|(with_reducible first|exact HB.out|apply below_alloc|apply pw_below_drewN|apply below_drew1|refine below_set ?_ GE187.out)|exact HB.out)⟩
     ·rw [if_neg c17] at H
      have c17b0:(t188 == 0)=false:=beq_eq_false_iff_ne.mpr c17
      have c17b1:(t188 != 0)=true:=bne_iff_ne.mpr c17
      by_cases c20:a2=7
      ·rw [if_pos c20] at H
       have c20b0:(a2 == 7)=true:=beq_iff_eq.mpr c20
       have c20b1:(a2 != 7)=false:=bne_eq_false_iff_eq.mpr c20
       clear c20
       obtain rfl:=Option.some.inj H
       go_enter Try.func169,Try.ntmps169
       go_wp2_with (first|((with_reducible refine gate_dst (N:=3) rfl ?_);refine box_event ?hg (N:=3) ?hd (cs:=#[.int .i64 a0_0,.int .i64 a0_1,.int .i64 a0_2,.int .i64 a0_3]) (t:=47) ?hr ?_;(case hd=>rfl);(case hg=>rfl);(case hr=>first|(go_simp;done)|(go_simp;rfl));intro gb187 hg w21 hbox hb;have n0_:=Aside0.mk (below_step (by repeat (first|(with_reducible first|exact HB.out|apply below_alloc|apply pw_below_drewN|apply below_drew1)|exact HB.out)) hb);have n1_:=Aside0.mk (hbox);have n2_:=Aside0.mk ((by rw [hg];exact (below_size (by repeat (first|(with_reducible first|exact HB.out|apply below_alloc|apply pw_below_drewN|apply below_drew1)|exact HB.out))):w.heap.size≤gb187));have n3_:=Aside0.mk ((by rw [hg];exact (below_size (by repeat (first|(with_reducible first|exact HB.out|apply below_alloc|apply pw_below_drewN|apply below_drew1)|exact HB.out))):w.heap.size≤gb187));clear HB;have HB:=n0_;have BK187:=n1_;have GW187:=n2_;have GE187:=n3_;clear n0_ n1_ n2_ n3_;clear hb hbox hg;have hcz22_0:w21.cell? ⟨gb187,0,none⟩=some (.int .i64 a0_0):=(blk_cell BK187.out 0).trans rfl;have hcz22_1:w21.cell? ⟨gb187,1,none⟩=some (.int .i64 a0_1):=(blk_cell BK187.out 1).trans rfl;have hcz22_2:w21.cell? ⟨gb187,2,none⟩=some (.int .i64 a0_2):=(blk_cell BK187.out 2).trans rfl;have hcz22_3:w21.cell? ⟨gb187,3,none⟩=some (.int .i64 a0_3):=(blk_cell BK187.out 3).trans rfl;have hfz22_0:=blk_frozen BK187.out 0;have hfz22_1:=blk_frozen BK187.out 1;have hfz22_2:=blk_frozen BK187.out 2;have hfz22_3:=blk_frozen BK187.out 3)|((with_reducible refine gate_callee (f:=120) rfl ?_);refine goesL_ (some 12) rfl rfl Try.func120 (by kernel_rfl) rfl #[.int .i64 (wrap64 (a1 - a0_3)),.int .i64 0] rfl (by (try simp only [List.map_toArray,List.map_cons,List.map_nil]);first|done|rfl|(simp only [List.length_drop,List.length_take];rfl)) ?_;(with_reducible refine (spec_l1Most.calls (wrap64 (a1 - a0_3)) 0 t188 _ A4.out).mono ?_);rintro e w' ⟨rfl,⟨nd,rfl⟩⟩;refine ⟨_,rfl,?_⟩))
       go_ret
       exact ⟨by first|rfl|(simp [errW_none,errW_some] <;> rfl)|(simp [*,errW_none,errW_some] <;> rfl),by repeat (first|(with_reducible first|exact HB.out|apply below_alloc|apply pw_below_drewN|apply below_drew1|refine below_set ?_ GE187.out)|exact HB.out)⟩
      ·rw [if_neg c20] at H
       have c20b0:(a2 == 7)=false:=beq_eq_false_iff_ne.mpr c20
       have c20b1:(a2 != 7)=true:=bne_iff_ne.mpr c20
       obtain rfl:=Option.some.inj H
       go_enter Try.func169,Try.ntmps169
       go_wp2_with (first|((with_reducible refine gate_dst (N:=3) rfl ?_);refine box_event ?hg (N:=3) ?hd (cs:=#[.int .i64 a0_0,.int .i64 a0_1,.int .i64 a0_2,.int .i64 a0_3]) (t:=47) ?hr ?_;(case hd=>rfl);(case hg=>rfl);(case hr=>first|(go_simp;done)|(go_simp;rfl));intro gb187 hg w23 hbox hb;have n0_:=Aside0.mk (below_step (by repeat (first|(with_reducible first|exact HB.out|apply below_alloc|apply pw_below_drewN|apply below_drew1)|exact HB.out)) hb);have n1_:=Aside0.mk (hbox);have n2_:=Aside0.mk ((by rw [hg];exact (below_size (by repeat (first|(with_reducible first|exact HB.out|apply below_alloc|apply pw_below_drewN|apply below_drew1)|exact HB.out))):w.heap.size≤gb187));have n3_:=Aside0.mk ((by rw [hg];exact (below_size (by repeat (first|(with_reducible first|exact HB.out|apply below_alloc|apply pw_below_drewN|apply below_drew1)|exact HB.out))):w.heap.size≤gb187));clear HB;have HB:=n0_;have BK187:=n1_;have GW187:=n2_;have GE187:=n3_;clear n0_ n1_ n2_ n3_;clear hb hbox hg;have hcz24_0:w23.cell? ⟨gb187,0,none⟩=some (.int .i64 a0_0):=(blk_cell BK187.out 0).trans rfl;have hcz24_1:w23.cell? ⟨gb187,1,none⟩=some (.int .i64 a0_1):=(blk_cell BK187.out 1).trans rfl;have hcz24_2:w23.cell? ⟨gb187,2,none⟩=some (.int .i64 a0_2):=(blk_cell BK187.out 2).trans rfl;have hcz24_3:w23.cell? ⟨gb187,3,none⟩=some (.int .i64 a0_3):=(blk_cell BK187.out 3).trans rfl;have hfz24_0:=blk_frozen BK187.out 0;have hfz24_1:=blk_frozen BK187.out 1;have hfz24_2:=blk_frozen BK187.out 2;have hfz24_3:=blk_frozen BK187.out 3)|((with_reducible refine gate_callee (f:=120) rfl ?_);refine goesL_ (some 12) rfl rfl Try.func120 (by kernel_rfl) rfl #[.int .i64 (wrap64 (a1 - a0_3)),.int .i64 0] rfl (by (try simp only [List.map_toArray,List.map_cons,List.map_nil]);first|done|rfl|(simp only [List.length_drop,List.length_take];rfl)) ?_;(with_reducible refine (spec_l1Most.calls (wrap64 (a1 - a0_3)) 0 t188 _ A4.out).mono ?_);rintro e w' ⟨rfl,⟨nd,rfl⟩⟩;refine ⟨_,rfl,?_⟩))
       go_ret
       exact ⟨by first|rfl|(simp [errW_none,errW_some] <;> rfl)|(simp [*,errW_none,errW_some] <;> rfl),by repeat (first|(with_reducible first|exact HB.out|apply below_alloc|apply pw_below_drewN|apply below_drew1|refine below_set ?_ GE187.out)|exact HB.out)⟩

/-! ### spec_l2Of: function 163 -/
def spec_l2Of.l0:Nat→List (S47)→List Int→Int→Int→Int→Option (Int)
 | 0,_,_,_,_,_=>none
 | k + 1,x0,x1,x2,x7,x8=>if x8<(x0.length:Int) then ((spec_l2Greatest.f x2).bind fun t189=>(if t189=true then (if 0≤x8 then (if x8<(x1.length:Int) then (if x2=4 then (if x8=0 then (spec_l2Of.l0 k x0 x1 x2 (wrap64 ((rd x1 x8) - ((rd_T47 x0 x8).f3))) (wrap64 (x8 + 1))) else (if (wrap64 ((rd x1 x8) - ((rd_T47 x0 x8).f3)))>x7 then (spec_l2Of.l0 k x0 x1 x2 (wrap64 ((rd x1 x8) - ((rd_T47 x0 x8).f3))) (wrap64 (x8 + 1))) else (spec_l2Of.l0 k x0 x1 x2 x7 (wrap64 (x8 + 1))))) else (if x8=0 then (spec_l2Of.l0 k x0 x1 x2 (rd x1 x8) (wrap64 (x8 + 1))) else (if (rd x1 x8)>x7 then (spec_l2Of.l0 k x0 x1 x2 (rd x1 x8) (wrap64 (x8 + 1))) else (spec_l2Of.l0 k x0 x1 x2 x7 (wrap64 (x8 + 1)))))) else (none)) else (none)) else (if 0≤x8 then (if x8<(x1.length:Int) then ((spec_l2Cost.f ((rd_T47 x0 x8).f0) ((rd_T47 x0 x8).f1) ((rd_T47 x0 x8).f2) ((rd_T47 x0 x8).f3) (rd x1 x8) x2).bind fun t192=>(spec_l2Of.l0 k x0 x1 x2 (wrap64 (x7 + t192)) (wrap64 (x8 + 1)))) else (none)) else (none)))) else (some x7)
def spec_l2Of.f (k:Nat) (l0:List (S47)) (l1:List Int) (a2:Int):Option (Int):=spec_l2Of.l0 k l0 l1 a2 0 0
theorem spec_l2Of.mono_l:∀ k,(∀ y0 y1 y2 y3 y4,LeO (spec_l2Of.l0 k y0 y1 y2 y3 y4) (spec_l2Of.l0 (k + 1) y0 y1 y2 y3 y4))
 | 0=>fun _ _ _ _ _ r h=>by simp [spec_l2Of.l0] at h
 | k + 1=>by
  have ih0:=spec_l2Of.mono_l k
  ·intro y0 y1 y2 y3 y4
   unfold spec_l2Of.l0
   repeat' first
   | (with_reducible exact ih0 _ _ _ _ _)
   | (with_reducible exact LeO.refl _)
   | (with_reducible exact LeO.none _)
   | (with_reducible refine LeO.ite ?_ ?_)
   | (with_reducible refine LeO.bind ?_ (fun _=>?_))
   | exact ih0 _ _ _ _ _
   | exact LeO.none _
   | refine LeO.ite ?_ ?_
   | refine LeO.bind ?_ (fun _=>?_)
theorem spec_l2Of.mono:∀ a0 a1 a2 k,LeO (spec_l2Of.f k a0 a1 a2) (spec_l2Of.f (k + 1) a0 a1 a2):=by
 intro a0 a1 a2 k
 have ih0:=spec_l2Of.mono_l k
 unfold spec_l2Of.f
 repeat' first
   | (with_reducible exact ih0 _ _ _ _ _)
   | (with_reducible exact LeO.refl _)
   | (with_reducible exact LeO.none _)
   | (with_reducible refine LeO.ite ?_ ?_)
   | (with_reducible refine LeO.bind ?_ (fun _=>?_))
   | exact ih0 _ _ _ _ _
   | exact LeO.none _
   | refine LeO.ite ?_ ?_
   | refine LeO.bind ?_ (fun _=>?_)
def spec_l2Of.T6:Bool × List (List Nat × List Nat):=(true,[([],[]),([],[]),([],[]),([1,2],[1,2]),([3],[3]),([],[]),([],[]),([5,6],[5,6]),([7],[7]),([],[]),([4,8,9],[4,8,9]),([0,10],[0,10]),([11,10,0,1,2,3,4,5,6,7,8,9,10,11],[0,11])])
def spec_l2Of.B6:List Nat:=[0,0,0,6,14,0,0,96,224,0,1022,2047,4095]
theorem spec_l2Of.tab6:rtab .any (opsOf Try.f163 6)=spec_l2Of.T6:=by kernel_rfl
theorem spec_l2Of.bits6:waitsOk spec_l2Of.T6.2 spec_l2Of.B6=true:=by kernel_rfl
set_option maxHeartbeats 8000000 in
set_option maxRecDepth 100000 in
theorem spec_l2Of.calls (k:Nat) (A0:Option Addr) (c0:Nat) (l0:List (S47)) (A1:Option Addr) (c1:Nat) (l1:List Int) (a2:Int) (r:Int) (w:World) (hr0:Kd.C k47 w A0 l0.length l0) (hc0:l0.length≤c0) (hr1:Kd.C (Kd.int .i64) w A1 l1.length l1) (hc1:l1.length≤c1) (h:spec_l2Of.f k l0 l1 a2=some r) :
  Calls Try.prog 163 #[.slice A0 l0.length c0,.slice A1 l1.length c1,.int .i64 a2] w fun e w'=>e=.returned (.int .i64 r)∧Below w.heap.size w w':=by
 have hu47:=Try.underlying47
 have HR0:=Aside0.mk hr0
 have HC0:=Aside0.mk hc0
 clear hr0 hc0
 have HR1:=Aside0.mk hr1
 have HC1:=Aside0.mk hc1
 clear hr1 hc1
 have HB:=Aside0.mk (Below.refl w.heap.size w)
 have H:(spec_l2Of.l0 k l0 l1 a2 0 0)=some r:=h
 clear h
 have H':=Aside0.mk H
 clear H
 go_enter Try.func163,Try.ntmps163
 go_wp2
 go_loopg [7,8] k (fun kq v7 v8 w'=>∃ (x7_1:Int) (x8_1:Int),v7=.int .i64 x7_1∧v8=.int .i64 x8_1∧Aside0 (spec_l2Of.l0 kq l0 l1 a2 x7_1 x8_1=some r)∧Aside0 (kq≤k)∧Aside0 (Below w.heap.size w w'))
 case atStart=>exact ⟨(0),(0),(by first|rfl|(simp;done)|(simp [*];done)),(by first|rfl|(simp;done)|(simp [*];done)),H',⟨Nat.le_refl _⟩,⟨by repeat (first|(with_reducible first|exact HB.out|apply below_alloc|apply pw_below_drewN|apply below_drew1)|exact HB.out)⟩⟩
 case round=>
  clear H'
  try clear c1
  try clear p2
  obtain ⟨x7_1,x8_1,rfl,rfl,HA,HK1,HB⟩:=hrel
  cases gk with
  | zero=>exact absurd HA.out (by simp [spec_l2Of.l0])
  | succ k1=>
   have H:=HA.out
   clear HA
   simp only [spec_l2Of.l0] at H
   by_cases c4:x8_1<(l0.length:Int)
   ·rw [if_pos c4] at H
    have c4b0:decide (x8_1<(l0.length:Int))=true:=decide_eq_true c4
    clear c4
    replace H:=Option.bind_eq_some_iff.mp H
    obtain ⟨t189,A50,H⟩:=H
    replace H:(if t189=true then (if 0≤x8_1 then (if x8_1<(l1.length:Int) then (if a2=4 then (if x8_1=0 then (spec_l2Of.l0 k1 l0 l1 a2 (wrap64 ((rd l1 x8_1) - ((rd_T47 l0 x8_1).f3))) (wrap64 (x8_1 + 1))) else (if (wrap64 ((rd l1 x8_1) - ((rd_T47 l0 x8_1).f3)))>x7_1 then (spec_l2Of.l0 k1 l0 l1 a2 (wrap64 ((rd l1 x8_1) - ((rd_T47 l0 x8_1).f3))) (wrap64 (x8_1 + 1))) else (spec_l2Of.l0 k1 l0 l1 a2 x7_1 (wrap64 (x8_1 + 1))))) else (if x8_1=0 then (spec_l2Of.l0 k1 l0 l1 a2 (rd l1 x8_1) (wrap64 (x8_1 + 1))) else (if (rd l1 x8_1)>x7_1 then (spec_l2Of.l0 k1 l0 l1 a2 (rd l1 x8_1) (wrap64 (x8_1 + 1))) else (spec_l2Of.l0 k1 l0 l1 a2 x7_1 (wrap64 (x8_1 + 1)))))) else (none)) else (none)) else (if 0≤x8_1 then (if x8_1<(l1.length:Int) then ((spec_l2Cost.f ((rd_T47 l0 x8_1).f0) ((rd_T47 l0 x8_1).f1) ((rd_T47 l0 x8_1).f2) ((rd_T47 l0 x8_1).f3) (rd l1 x8_1) a2).bind fun t192=>(spec_l2Of.l0 k1 l0 l1 a2 (wrap64 (x7_1 + t192)) (wrap64 (x8_1 + 1)))) else (none)) else (none)))=some r:=H
    have A5:=Aside0.mk A50
    clear A50
    by_cases c6:t189=true
    ·subst c6
     have H1:(if 0≤x8_1 then (if x8_1<(l1.length:Int) then (if a2=4 then (if x8_1=0 then (spec_l2Of.l0 k1 l0 l1 a2 (wrap64 ((rd l1 x8_1) - ((rd_T47 l0 x8_1).f3))) (wrap64 (x8_1 + 1))) else (if (wrap64 ((rd l1 x8_1) - ((rd_T47 l0 x8_1).f3)))>x7_1 then (spec_l2Of.l0 k1 l0 l1 a2 (wrap64 ((rd l1 x8_1) - ((rd_T47 l0 x8_1).f3))) (wrap64 (x8_1 + 1))) else (spec_l2Of.l0 k1 l0 l1 a2 x7_1 (wrap64 (x8_1 + 1))))) else (if x8_1=0 then (spec_l2Of.l0 k1 l0 l1 a2 (rd l1 x8_1) (wrap64 (x8_1 + 1))) else (if (rd l1 x8_1)>x7_1 then (spec_l2Of.l0 k1 l0 l1 a2 (rd l1 x8_1) (wrap64 (x8_1 + 1))) else (spec_l2Of.l0 k1 l0 l1 a2 x7_1 (wrap64 (x8_1 + 1)))))) else (none)) else (none))=some r:=by rw [if_pos rfl] at H;exact H
     clear H
     have H:=H1
     clear H1
     by_cases c7:0≤x8_1
     ·rw [if_pos c7] at H
      have c7b0:decide (0≤x8_1)=true:=decide_eq_true c7
      clear c7
      by_cases c8:x8_1<(l1.length:Int)
      ·rw [if_pos c8] at H
       have c8b0:decide (x8_1<(l1.length:Int))=true:=decide_eq_true c8
       clear c8
       by_cases c9:a2=4
       ·rw [if_pos c9] at H
        have c9b0:(a2 == 4)=true:=beq_iff_eq.mpr c9
        have c9b1:(a2 != 4)=false:=bne_eq_false_iff_eq.mpr c9
        clear c9
        by_cases c10:x8_1=0
        ·rw [if_pos c10] at H
         have c10b0:(x8_1 == 0)=true:=beq_iff_eq.mpr c10
         have c10b1:(x8_1 != 0)=false:=bne_eq_false_iff_eq.mpr c10
         clear c10
         have H':=Aside0.mk H
         clear H
         go_wp2_with (first|((with_reducible refine gate_callee (f:=168) rfl ?_);refine goesL_ (some 17) rfl rfl Try.func168 (by kernel_rfl) rfl #[.int .i64 a2] rfl (by (try simp only [List.map_toArray,List.map_cons,List.map_nil]);first|done|rfl|(simp only [List.length_drop,List.length_take];rfl)) ?_;(with_reducible refine (spec_l2Greatest.calls a2 true _ A5.out).mono ?_);rintro e w' ⟨rfl,⟨nd,rfl⟩⟩;refine ⟨_,rfl,?_⟩;have p193:0≤(x8_1:Int):=of_decide_eq_true (by first|(with_reducible assumption)|assumption);have q193:x8_1<(l1.length:Int):=of_decide_eq_true (by first|(with_reducible assumption)|assumption);obtain ⟨ad193,e193,hx193_0⟩:=Kd.at_int HR1.out x8_1 p193 q193;cases e193;replace hx193_0:=(HB.out.cell (World.block_lt_of_cell? w _ hx193_0)).trans hx193_0;replace p193:=eq_true p193;replace q193:=eq_true q193;have p194:0≤(x8_1:Int):=of_decide_eq_true (by first|(with_reducible assumption)|assumption);have q194:x8_1<(l0.length:Int):=of_decide_eq_true (by first|(with_reducible assumption)|assumption);obtain ⟨ad194,e194,hx194_0,hx194_1,hx194_2,hx194_3⟩:=at_T47 HR0.out x8_1 p194 q194;cases e194;replace hx194_0:=(HB.out.cell (World.block_lt_of_cell? w _ hx194_0)).trans hx194_0;replace hx194_1:=(HB.out.cell (World.block_lt_of_cell? w _ hx194_1)).trans hx194_1;replace hx194_2:=(HB.out.cell (World.block_lt_of_cell? w _ hx194_2)).trans hx194_2;replace hx194_3:=(HB.out.cell (World.block_lt_of_cell? w _ hx194_3)).trans hx194_3;replace p194:=eq_true p194;replace q194:=eq_true q194))
         go_roundg k1
         case measure=>have:=HK1.out;omega
         case rel=>exact ⟨(wrap64 ((rd l1 x8_1) - ((rd_T47 l0 x8_1).f3))),(wrap64 (x8_1 + 1)),(by first|rfl|(simp;done)|(simp [*];done)),(by first|rfl|(simp;done)|(simp [*];done)),H',⟨by have:=HK1.out;omega⟩,⟨by repeat (first|(with_reducible first|exact HB.out|apply below_alloc|apply pw_below_drewN|apply below_drew1)|exact HB.out)⟩⟩
        ·rw [if_neg c10] at H
         have c10b0:(x8_1 == 0)=false:=beq_eq_false_iff_ne.mpr c10
         have c10b1:(x8_1 != 0)=true:=bne_iff_ne.mpr c10
         by_cases c11:(wrap64 ((rd l1 x8_1) - ((rd_T47 l0 x8_1).f3)))>x7_1
         ·rw [if_pos c11] at H
          have c11b0:decide (x7_1<(wrap64 ((rd l1 x8_1) - ((rd_T47 l0 x8_1).f3))))=true:=decide_eq_true c11
          clear c11
          have H':=Aside0.mk H
          clear H
          go_wp2_with (first|((with_reducible refine gate_callee (f:=168) rfl ?_);refine goesL_ (some 17) rfl rfl Try.func168 (by kernel_rfl) rfl #[.int .i64 a2] rfl (by (try simp only [List.map_toArray,List.map_cons,List.map_nil]);first|done|rfl|(simp only [List.length_drop,List.length_take];rfl)) ?_;(with_reducible refine (spec_l2Greatest.calls a2 true _ A5.out).mono ?_);rintro e w' ⟨rfl,⟨nd,rfl⟩⟩;refine ⟨_,rfl,?_⟩;have p193:0≤(x8_1:Int):=of_decide_eq_true (by first|(with_reducible assumption)|assumption);have q193:x8_1<(l1.length:Int):=of_decide_eq_true (by first|(with_reducible assumption)|assumption);obtain ⟨ad193,e193,hx193_0⟩:=Kd.at_int HR1.out x8_1 p193 q193;cases e193;replace hx193_0:=(HB.out.cell (World.block_lt_of_cell? w _ hx193_0)).trans hx193_0;replace p193:=eq_true p193;replace q193:=eq_true q193;have p194:0≤(x8_1:Int):=of_decide_eq_true (by first|(with_reducible assumption)|assumption);have q194:x8_1<(l0.length:Int):=of_decide_eq_true (by first|(with_reducible assumption)|assumption);obtain ⟨ad194,e194,hx194_0,hx194_1,hx194_2,hx194_3⟩:=at_T47 HR0.out x8_1 p194 q194;cases e194;replace hx194_0:=(HB.out.cell (World.block_lt_of_cell? w _ hx194_0)).trans hx194_0;replace hx194_1:=(HB.out.cell (World.block_lt_of_cell? w _ hx194_1)).trans hx194_1;replace hx194_2:=(HB.out.cell (World.block_lt_of_cell? w _ hx194_2)).trans hx194_2;replace hx194_3:=(HB.out.cell (World.block_lt_of_cell? w _ hx194_3)).trans hx194_3;replace p194:=eq_true p194;replace q194:=eq_true q194))
          go_roundg k1
          case measure=>have:=HK1.out;omega
          case rel=>exact ⟨(wrap64 ((rd l1 x8_1) - ((rd_T47 l0 x8_1).f3))),(wrap64 (x8_1 + 1)),(by first|rfl|(simp;done)|(simp [*];done)),(by first|rfl|(simp;done)|(simp [*];done)),H',⟨by have:=HK1.out;omega⟩,⟨by repeat (first|(with_reducible first|exact HB.out|apply below_alloc|apply pw_below_drewN|apply below_drew1)|exact HB.out)⟩⟩
         ·rw [if_neg c11] at H
          have c11b0:decide (x7_1<(wrap64 ((rd l1 x8_1) - ((rd_T47 l0 x8_1).f3))))=false:=decide_eq_false c11
          clear c11
          have H':=Aside0.mk H
          clear H
          go_wp2_with (first|((with_reducible refine gate_callee (f:=168) rfl ?_);refine goesL_ (some 17) rfl rfl Try.func168 (by kernel_rfl) rfl #[.int .i64 a2] rfl (by (try simp only [List.map_toArray,List.map_cons,List.map_nil]);first|done|rfl|(simp only [List.length_drop,List.length_take];rfl)) ?_;(with_reducible refine (spec_l2Greatest.calls a2 true _ A5.out).mono ?_);rintro e w' ⟨rfl,⟨nd,rfl⟩⟩;refine ⟨_,rfl,?_⟩;have p193:0≤(x8_1:Int):=of_decide_eq_true (by first|(with_reducible assumption)|assumption);have q193:x8_1<(l1.length:Int):=of_decide_eq_true (by first|(with_reducible assumption)|assumption);obtain ⟨ad193,e193,hx193_0⟩:=Kd.at_int HR1.out x8_1 p193 q193;cases e193;replace hx193_0:=(HB.out.cell (World.block_lt_of_cell? w _ hx193_0)).trans hx193_0;replace p193:=eq_true p193;replace q193:=eq_true q193;have p194:0≤(x8_1:Int):=of_decide_eq_true (by first|(with_reducible assumption)|assumption);have q194:x8_1<(l0.length:Int):=of_decide_eq_true (by first|(with_reducible assumption)|assumption);obtain ⟨ad194,e194,hx194_0,hx194_1,hx194_2,hx194_3⟩:=at_T47 HR0.out x8_1 p194 q194;cases e194;replace hx194_0:=(HB.out.cell (World.block_lt_of_cell? w _ hx194_0)).trans hx194_0;replace hx194_1:=(HB.out.cell (World.block_lt_of_cell? w _ hx194_1)).trans hx194_1;replace hx194_2:=(HB.out.cell (World.block_lt_of_cell? w _ hx194_2)).trans hx194_2;replace hx194_3:=(HB.out.cell (World.block_lt_of_cell? w _ hx194_3)).trans hx194_3;replace p194:=eq_true p194;replace q194:=eq_true q194))
          go_roundg k1
          case measure=>have:=HK1.out;omega
          case rel=>exact ⟨(x7_1),(wrap64 (x8_1 + 1)),(by first|rfl|(simp;done)|(simp [*];done)),(by first|rfl|(simp;done)|(simp [*];done)),H',⟨by have:=HK1.out;omega⟩,⟨by repeat (first|(with_reducible first|exact HB.out|apply below_alloc|apply pw_below_drewN|apply below_drew1)|exact HB.out)⟩⟩
       ·rw [if_neg c9] at H
        have c9b0:(a2 == 4)=false:=beq_eq_false_iff_ne.mpr c9
        have c9b1:(a2 != 4)=true:=bne_iff_ne.mpr c9
        by_cases c12:x8_1=0
        ·rw [if_pos c12] at H
         have c12b0:(x8_1 == 0)=true:=beq_iff_eq.mpr c12
         have c12b1:(x8_1 != 0)=false:=bne_eq_false_iff_eq.mpr c12
         clear c12
         have H':=Aside0.mk H
         clear H
         go_wp2_with (first|((with_reducible refine gate_callee (f:=168) rfl ?_);refine goesL_ (some 17) rfl rfl Try.func168 (by kernel_rfl) rfl #[.int .i64 a2] rfl (by (try simp only [List.map_toArray,List.map_cons,List.map_nil]);first|done|rfl|(simp only [List.length_drop,List.length_take];rfl)) ?_;(with_reducible refine (spec_l2Greatest.calls a2 true _ A5.out).mono ?_);rintro e w' ⟨rfl,⟨nd,rfl⟩⟩;refine ⟨_,rfl,?_⟩;have p193:0≤(x8_1:Int):=of_decide_eq_true (by first|(with_reducible assumption)|assumption);have q193:x8_1<(l1.length:Int):=of_decide_eq_true (by first|(with_reducible assumption)|assumption);obtain ⟨ad193,e193,hx193_0⟩:=Kd.at_int HR1.out x8_1 p193 q193;cases e193;replace hx193_0:=(HB.out.cell (World.block_lt_of_cell? w _ hx193_0)).trans hx193_0;replace p193:=eq_true p193;replace q193:=eq_true q193))
         go_roundg k1
         case measure=>have:=HK1.out;omega
         case rel=>exact ⟨(rd l1 x8_1),(wrap64 (x8_1 + 1)),(by first|rfl|(simp;done)|(simp [*];done)),(by first|rfl|(simp;done)|(simp [*];done)),H',⟨by have:=HK1.out;omega⟩,⟨by repeat (first|(with_reducible first|exact HB.out|apply below_alloc|apply pw_below_drewN|apply below_drew1)|exact HB.out)⟩⟩
        ·rw [if_neg c12] at H
         have c12b0:(x8_1 == 0)=false:=beq_eq_false_iff_ne.mpr c12
         have c12b1:(x8_1 != 0)=true:=bne_iff_ne.mpr c12
         by_cases c13:(rd l1 x8_1)>x7_1
         ·rw [if_pos c13] at H
          have c13b0:decide (x7_1<(rd l1 x8_1))=true:=decide_eq_true c13
          clear c13
          have H':=Aside0.mk H
          clear H
          go_wp2_with (first|((with_reducible refine gate_callee (f:=168) rfl ?_);refine goesL_ (some 17) rfl rfl Try.func168 (by kernel_rfl) rfl #[.int .i64 a2] rfl (by (try simp only [List.map_toArray,List.map_cons,List.map_nil]);first|done|rfl|(simp only [List.length_drop,List.length_take];rfl)) ?_;(with_reducible refine (spec_l2Greatest.calls a2 true _ A5.out).mono ?_);rintro e w' ⟨rfl,⟨nd,rfl⟩⟩;refine ⟨_,rfl,?_⟩;have p193:0≤(x8_1:Int):=of_decide_eq_true (by first|(with_reducible assumption)|assumption);have q193:x8_1<(l1.length:Int):=of_decide_eq_true (by first|(with_reducible assumption)|assumption);obtain ⟨ad193,e193,hx193_0⟩:=Kd.at_int HR1.out x8_1 p193 q193;cases e193;replace hx193_0:=(HB.out.cell (World.block_lt_of_cell? w _ hx193_0)).trans hx193_0;replace p193:=eq_true p193;replace q193:=eq_true q193))
          go_roundg k1
          case measure=>have:=HK1.out;omega
          case rel=>exact ⟨(rd l1 x8_1),(wrap64 (x8_1 + 1)),(by first|rfl|(simp;done)|(simp [*];done)),(by first|rfl|(simp;done)|(simp [*];done)),H',⟨by have:=HK1.out;omega⟩,⟨by repeat (first|(with_reducible first|exact HB.out|apply below_alloc|apply pw_below_drewN|apply below_drew1)|exact HB.out)⟩⟩
         ·rw [if_neg c13] at H
          have c13b0:decide (x7_1<(rd l1 x8_1))=false:=decide_eq_false c13
          clear c13
          have H':=Aside0.mk H
          clear H
          go_wp2_with (first|((with_reducible refine gate_callee (f:=168) rfl ?_);refine goesL_ (some 17) rfl rfl Try.func168 (by kernel_rfl) rfl #[.int .i64 a2] rfl (by (try simp only [List.map_toArray,List.map_cons,List.map_nil]);first|done|rfl|(simp only [List.length_drop,List.length_take];rfl)) ?_;(with_reducible refine (spec_l2Greatest.calls a2 true _ A5.out).mono ?_);rintro e w' ⟨rfl,⟨nd,rfl⟩⟩;refine ⟨_,rfl,?_⟩;have p193:0≤(x8_1:Int):=of_decide_eq_true (by first|(with_reducible assumption)|assumption);have q193:x8_1<(l1.length:Int):=of_decide_eq_true (by first|(with_reducible assumption)|assumption);obtain ⟨ad193,e193,hx193_0⟩:=Kd.at_int HR1.out x8_1 p193 q193;cases e193;replace hx193_0:=(HB.out.cell (World.block_lt_of_cell? w _ hx193_0)).trans hx193_0;replace p193:=eq_true p193;replace q193:=eq_true q193))
          go_roundg k1
          case measure=>have:=HK1.out;omega
          case rel=>exact ⟨(x7_1),(wrap64 (x8_1 + 1)),(by first|rfl|(simp;done)|(simp [*];done)),(by first|rfl|(simp;done)|(simp [*];done)),H',⟨by have:=HK1.out;omega⟩,⟨by repeat (first|(with_reducible first|exact HB.out|apply below_alloc|apply pw_below_drewN|apply below_drew1)|exact HB.out)⟩⟩
      ·rw [if_neg c8] at H
       exact absurd H (by simp)
     ·rw [if_neg c7] at H
      exact absurd H (by simp)
    ·replace c6:=Bool.eq_false_iff.mpr c6
     subst c6
     have H1:(if 0≤x8_1 then (if x8_1<(l1.length:Int) then ((spec_l2Cost.f ((rd_T47 l0 x8_1).f0) ((rd_T47 l0 x8_1).f1) ((rd_T47 l0 x8_1).f2) ((rd_T47 l0 x8_1).f3) (rd l1 x8_1) a2).bind fun t192=>(spec_l2Of.l0 k1 l0 l1 a2 (wrap64 (x7_1 + t192)) (wrap64 (x8_1 + 1)))) else (none)) else (none))=some r:=by rw [if_neg (show ¬ (false=true) by decide)] at H;exact H
     clear H
     have H:=H1
     clear H1
     by_cases c14:0≤x8_1
     ·rw [if_pos c14] at H
      have c14b0:decide (0≤x8_1)=true:=decide_eq_true c14
      clear c14
      by_cases c15:x8_1<(l1.length:Int)
      ·rw [if_pos c15] at H
       have c15b0:decide (x8_1<(l1.length:Int))=true:=decide_eq_true c15
       clear c15
       replace H:=Option.bind_eq_some_iff.mp H
       obtain ⟨t192,A160,H⟩:=H
       replace H:(spec_l2Of.l0 k1 l0 l1 a2 (wrap64 (x7_1 + t192)) (wrap64 (x8_1 + 1)))=some r:=H
       have A16:=Aside0.mk A160
       clear A160
       have H':=Aside0.mk H
       clear H
       try go_wp2_with (first|((with_reducible refine gate_callee (f:=168) rfl ?_);refine goesL_ (some 17) rfl rfl Try.func168 (by kernel_rfl) rfl #[.int .i64 a2] rfl (by (try simp only [List.map_toArray,List.map_cons,List.map_nil]);first|done|rfl|(simp only [List.length_drop,List.length_take];rfl)) ?_;(with_reducible refine (spec_l2Greatest.calls a2 false _ A5.out).mono ?_);rintro e w' ⟨rfl,⟨nd,rfl⟩⟩;refine ⟨_,rfl,?_⟩))
       (try (rw [drewN_self wr];generalize hq_:World.drewN wr _=wr;have n0_:Aside0 (Below w.heap.size w wr):=⟨by rw [←hq_];exact (by repeat (first|(with_reducible first|exact HB.out|apply below_alloc|apply pw_below_drewN|apply below_drew1)|exact HB.out))⟩;clear HB hq_;have HB:=n0_;clear n0_))
       have n0_:=Aside0.mk (below_drew1 HB.out)
       clear HB
       have HB:=n0_
       clear n0_
       have p190:0≤(x8_1:Int):=of_decide_eq_true (by first|(with_reducible assumption)|assumption)
       have q190:x8_1<(l0.length:Int):=of_decide_eq_true (by first|(with_reducible assumption)|assumption)
       obtain ⟨ad190,e190,hx190_0,hx190_1,hx190_2,hx190_3⟩:=at_T47 HR0.out x8_1 p190 q190
       have hw190_3:=hx190_3
       have hw190_2:=hx190_2
       have hw190_1:=hx190_1
       have hw190_0:=hx190_0
       cases e190
       replace hx190_0:=(HB.out.cell (World.block_lt_of_cell? w _ hx190_0)).trans hx190_0
       replace hx190_1:=(HB.out.cell (World.block_lt_of_cell? w _ hx190_1)).trans hx190_1
       replace hx190_2:=(HB.out.cell (World.block_lt_of_cell? w _ hx190_2)).trans hx190_2
       replace hx190_3:=(HB.out.cell (World.block_lt_of_cell? w _ hx190_3)).trans hx190_3
       replace p190:=eq_true p190
       replace q190:=eq_true q190
       have p191:0≤(x8_1:Int):=of_decide_eq_true (by first|(with_reducible assumption)|assumption)
       have q191:x8_1<(l1.length:Int):=of_decide_eq_true (by first|(with_reducible assumption)|assumption)
       obtain ⟨ad191,e191,hx191_0⟩:=Kd.at_int HR1.out x8_1 p191 q191
       have hw191_0:=hx191_0
       cases e191
       replace hx191_0:=(HB.out.cell (World.block_lt_of_cell? w _ hx191_0)).trans hx191_0
       replace p191:=eq_true p191
       replace q191:=eq_true q191
       refine start_ (n:=13) (S:=fun w'=>w'.cell? (ad190.add ((x8_1).toNat * 4))=some (.int .i64 ((rd_T47 l0 x8_1).f0))∧w'.cell? ⟨(ad190.add ((x8_1).toNat * 4)).block,(ad190.add ((x8_1).toNat * 4)).off + 1,none⟩=some (.int .i64 ((rd_T47 l0 x8_1).f1))∧w'.cell? ⟨(ad190.add ((x8_1).toNat * 4)).block,(ad190.add ((x8_1).toNat * 4)).off + 2,none⟩=some (.int .i64 ((rd_T47 l0 x8_1).f2))∧w'.cell? ⟨(ad190.add ((x8_1).toNat * 4)).block,(ad190.add ((x8_1).toNat * 4)).off + 3,none⟩=some (.int .i64 ((rd_T47 l0 x8_1).f3))∧w'.cell? (ad191.add (x8_1).toNat)=some (.int .i64 (rd l1 x8_1))) (ds:=[]) #[false,false,false,false,false,false,false,false,false,false,false,false,false] (by kernel_rfl) rfl rfl ⟨((HB.out.cell (World.block_lt_of_cell? w _ hw190_0)).trans hw190_0),((HB.out.cell (World.block_lt_of_cell? w _ hw190_1)).trans hw190_1),((HB.out.cell (World.block_lt_of_cell? w _ hw190_2)).trans hw190_2),((HB.out.cell (World.block_lt_of_cell? w _ hw190_3)).trans hw190_3),((HB.out.cell (World.block_lt_of_cell? w _ hw191_0)).trans hw191_0)⟩ (fun hHeld=>?_);refine with_tabW spec_l2Of.tab6 spec_l2Of.bits6 (fun HT_ HW_=>?_)
       generalize wr.drew=w17 at HB hx190_0 hx190_1 hx190_2 hx190_3 hx191_0 hHeld ⊢
       refine pure_ (i:=0) (N:=some 19) (v:=?_) (a':=?_) #[true,false,false,false,false,false,false,false,false,false,false,false,false] rfl rfl (any_of HT_.out (by kernel_rfl)) (fun _ _ _ h=>h) (Or.inl ⟨by rfl,?_⟩) ?_ ?_
       rotate_left
       ·intro w'
        go_simp
        with_reducible rfl
       rotate_left
       ·simp only [Act.put,List.setIfInBounds_toArray,List.set_cons_zero,List.set_cons_succ,i64_w,i32_w]
        rfl
       refine pure_ (i:=1) (N:=some 20) (v:=?_) (a':=?_) #[true,true,false,false,false,false,false,false,false,false,false,false,false] rfl rfl (any_of HT_.out (by kernel_rfl)) (fun _ _ _ h=>h) (Or.inl ⟨by rfl,?_⟩) ?_ ?_
       rotate_left
       ·intro w'
        go_simp
        with_reducible rfl
       rotate_left
       ·simp only [Act.put,List.setIfInBounds_toArray,List.set_cons_zero,List.set_cons_succ,i64_w,i32_w]
        rfl
       refine pure_ (i:=2) (N:=some 21) (v:=?_) (a':=?_) #[true,true,true,false,false,false,false,false,false,false,false,false,false] rfl rfl (any_of HT_.out (by kernel_rfl)) (fun _ _ _ h=>h) (Or.inl ⟨by rfl,?_⟩) ?_ ?_
       rotate_left
       ·intro w'
        go_simp
        with_reducible rfl
       rotate_left
       ·simp only [Act.put,List.setIfInBounds_toArray,List.set_cons_zero,List.set_cons_succ,i64_w,i32_w]
        rfl
       refine pure_ (i:=3) (N:=some 22) (v:=?_) (a':=?_) #[true,true,true,true,false,false,false,false,false,false,false,false,false] rfl rfl (any_of HT_.out (by kernel_rfl)) (fun _ _ _ h=>h) (Or.inl ⟨by rfl,?_⟩) ?_ ?_
       rotate_left
       ·intro w'
        go_simp
        with_reducible rfl
       rotate_left
       ·simp only [Act.put,List.setIfInBounds_toArray,List.set_cons_zero,List.set_cons_succ,i64_w,i32_w]
        rfl
       refine pure_ (i:=5) (N:=some 24) (v:=?_) (a':=?_) #[true,true,true,true,false,true,false,false,false,false,false,false,false] rfl rfl (any_of HT_.out (by kernel_rfl)) (fun _ _ _ h=>h) (Or.inl ⟨by rfl,?_⟩) ?_ ?_
       rotate_left
       ·intro w'
        go_simp
        with_reducible rfl
       rotate_left
       ·simp only [Act.put,List.setIfInBounds_toArray,List.set_cons_zero,List.set_cons_succ,i64_w,i32_w]
        rfl
       refine pure_ (i:=6) (N:=some 25) (v:=?_) (a':=?_) #[true,true,true,true,false,true,true,false,false,false,false,false,false] rfl rfl (any_of HT_.out (by kernel_rfl)) (fun _ _ _ h=>h) (Or.inl ⟨by rfl,?_⟩) ?_ ?_
       rotate_left
       ·intro w'
        go_simp
        with_reducible rfl
       rotate_left
       ·simp only [Act.put,List.setIfInBounds_toArray,List.set_cons_zero,List.set_cons_succ,i64_w,i32_w]
        rfl
       refine pure_ (i:=7) (N:=some 26) (v:=?_) (a':=?_) #[true,true,true,true,false,true,true,true,false,false,false,false,false] rfl rfl (any_of HT_.out (by kernel_rfl)) (fun _ _ _ h=>h) (Or.inl ⟨by rfl,?_⟩) ?_ ?_
       rotate_left
       ·intro w'
        go_simp
        with_reducible rfl
       rotate_left
       ·simp only [Act.put,List.setIfInBounds_toArray,List.set_cons_zero,List.set_cons_succ,i64_w,i32_w]
        rfl
       refine pure_ (i:=9) (N:=some 28) (v:=?_) (a':=?_) #[true,true,true,true,false,true,true,true,false,true,false,false,false] rfl rfl (any_of HT_.out (by kernel_rfl)) (fun _ _ _ h=>h) (Or.inl ⟨by rfl,?_⟩) ?_ ?_
       rotate_left
       ·intro w'
        go_simp
        with_reducible rfl
       rotate_left
       ·simp only [Act.put,List.setIfInBounds_toArray,List.set_cons_zero,List.set_cons_succ,i64_w,i32_w]
        rfl
       refine take_ (i:=4) (N:=some 23) (v:=?_) (a':=?_) #[true,true,true,true,true,true,true,true,false,true,false,false,false] rfl rfl (take_ofW HT_.out HW_.out (by kernel_rfl)) (fun _ _ _ h=>h) (Or.inl ⟨by rfl,?_⟩) hHeld ?_ ?_
       rotate_left
       ·rintro w' ⟨s0,s1,s2,s3,s4⟩
        go_simp
        with_reducible rfl
       rotate_left
       ·simp only [Act.put,List.setIfInBounds_toArray,List.set_cons_zero,List.set_cons_succ,i64_w,i32_w]
        rfl
       refine take_ (i:=8) (N:=some 27) (v:=?_) (a':=?_) #[true,true,true,true,true,true,true,true,true,true,false,false,false] rfl rfl (take_ofW HT_.out HW_.out (by kernel_rfl)) (fun _ _ _ h=>h) (Or.inl ⟨by rfl,?_⟩) hHeld ?_ ?_
       rotate_left
       ·rintro w' ⟨s0,s1,s2,s3,s4⟩
        go_simp
        with_reducible rfl
       rotate_left
       ·simp only [Act.put,List.setIfInBounds_toArray,List.set_cons_zero,List.set_cons_succ,i64_w,i32_w]
        rfl
       refine one_ (i:=10) (N:=some 29) #[true,true,true,true,true,true,true,true,true,true,true,false,false] rfl rfl (one_of HT_.out (by kernel_rfl)) (by decide) (fun K hK=>?_)
       refine goes_ Try.func169 (by kernel_rfl) rfl #[.agg #[.int .i64 ((rd_T47 l0 x8_1).f0),.int .i64 ((rd_T47 l0 x8_1).f1),.int .i64 ((rd_T47 l0 x8_1).f2),.int .i64 ((rd_T47 l0 x8_1).f3)],.int .i64 (rd l1 x8_1),.int .i64 a2] (by rfl) rfl rfl (by (try simp only [List.map_toArray,List.map_cons,List.map_nil]);first|done|rfl|(simp only [List.length_drop,List.length_take];rfl)) ?_
       with_reducible refine (spec_l2Cost.calls ((rd_T47 l0 x8_1).f0) ((rd_T47 l0 x8_1).f1) ((rd_T47 l0 x8_1).f2) ((rd_T47 l0 x8_1).f3) (rd l1 x8_1) a2 t192 _ A16.out).mono ?_
       rintro e w18 ⟨rfl,hb⟩
       refine ⟨_,rfl,?_⟩
       have n0_:=Aside0.mk (below_step (by repeat (first|(with_reducible first|exact HB.out|apply below_alloc|apply pw_below_drewN|apply below_drew1)|exact HB.out)) hb)
       clear HB
       have HB:=n0_
       clear n0_
       (try clear hb)
       (try clear hb2)
       (try clear hk)
       (try clear hi)
       refine hK.out _ _ ⟨((HB.out.cell (World.block_lt_of_cell? w _ hw190_0)).trans hw190_0),((HB.out.cell (World.block_lt_of_cell? w _ hw190_1)).trans hw190_1),((HB.out.cell (World.block_lt_of_cell? w _ hw190_2)).trans hw190_2),((HB.out.cell (World.block_lt_of_cell? w _ hw190_3)).trans hw190_3),((HB.out.cell (World.block_lt_of_cell? w _ hw191_0)).trans hw191_0)⟩ (fun hHeld=>?_)
       clear hK K
       refine norm_ (a':=?_) ?_ ?_
       rotate_left
       ·show Act.put _ (some 29) _=_
        simp only [Act.put,List.setIfInBounds_toArray,List.set_cons_zero,List.set_cons_succ,i64_w,i32_w]
        rfl
       refine pure_ (i:=11) (N:=some 30) (v:=?_) (a':=?_) #[true,true,true,true,true,true,true,true,true,true,true,true,false] rfl rfl (any_of HT_.out (by kernel_rfl)) (fun _ _ _ h=>h) (Or.inl ⟨by rfl,?_⟩) ?_ ?_
       rotate_left
       ·intro w'
        go_simp
        with_reducible rfl
       rotate_left
       ·simp only [Act.put,List.setIfInBounds_toArray,List.set_cons_zero,List.set_cons_succ,i64_w,i32_w]
        rfl
       refine pure_ (i:=12) (N:=some 7) (v:=?_) (a':=?_) #[true,true,true,true,true,true,true,true,true,true,true,true,true] rfl rfl (any_of HT_.out (by kernel_rfl)) (fun _ _ _ h=>h) (Or.inl ⟨by rfl,?_⟩) ?_ ?_
       rotate_left
       ·intro w'
        go_simp
        with_reducible rfl
       rotate_left
       ·simp only [Act.put,List.setIfInBounds_toArray,List.set_cons_zero,List.set_cons_succ,i64_w,i32_w]
        rfl
       refine done_ (done_of HT_.out (by kernel_rfl)) ?_
       try go_wp2
       go_roundg k1
       case measure=>have:=HK1.out;omega
       case rel=>exact ⟨(wrap64 (x7_1 + t192)),(wrap64 (x8_1 + 1)),(by first|rfl|(simp;done)|(simp [*];done)),(by first|rfl|(simp;done)|(simp [*];done)),H',⟨by have:=HK1.out;omega⟩,⟨by repeat (first|(with_reducible first|exact HB.out|apply below_alloc|apply pw_below_drewN|apply below_drew1)|exact HB.out)⟩⟩
      ·rw [if_neg c15] at H
       exact absurd H (by simp)
     ·rw [if_neg c14] at H
      exact absurd H (by simp)
   ·rw [if_neg c4] at H
    have c4b0:decide (x8_1<(l0.length:Int))=false:=decide_eq_false c4
    clear c4
    obtain rfl:=Option.some.inj H
    go_wp2
    go_ret
    exact ⟨by first|rfl|(simp [errW_none,errW_some] <;> rfl)|(simp [*,errW_none,errW_some] <;> rfl),by repeat (first|(with_reducible first|exact HB.out|apply below_alloc|apply pw_below_drewN|apply below_drew1)|exact HB.out)⟩

/-! ### spec_l11Point: function 153 -/
def spec_l11Point.f (k:Nat) (l0:List (S47)) (l1:List Int) (a2:Int) (a3:Int):Option (Int × Int):=(spec_l2Ends.f k l0 l1).bind fun t196=>((spec_l2Of.f k l0 t196 a2).bind fun t199=>((spec_l2Of.f k l0 t196 a3).bind fun t200=>(some (t199,t200))))
theorem spec_l11Point.mono:∀ a0 a1 a2 a3 k,LeO (spec_l11Point.f k a0 a1 a2 a3) (spec_l11Point.f (k + 1) a0 a1 a2 a3):=by
 intro a0 a1 a2 a3 k
 unfold spec_l11Point.f
 repeat' first
   | (with_reducible exact spec_l2Ends.mono _ _ _)
   | (with_reducible exact spec_l2Of.mono _ _ _ _)
   | (with_reducible exact LeO.refl _)
   | (with_reducible exact LeO.none _)
   | (with_reducible refine LeO.ite ?_ ?_)
   | (with_reducible refine LeO.bind ?_ (fun _=>?_))
   | exact spec_l2Ends.mono _ _ _
   | exact spec_l2Of.mono _ _ _ _
   | exact LeO.none _
   | refine LeO.ite ?_ ?_
   | refine LeO.bind ?_ (fun _=>?_)
set_option maxHeartbeats 8000000 in
set_option maxRecDepth 100000 in
theorem spec_l11Point.calls (k:Nat) (A0:Option Addr) (c0:Nat) (l0:List (S47)) (A1:Option Addr) (c1:Nat) (l1:List Int) (a2:Int) (a3:Int) (r1:Int) (r2:Int) (w:World) (hr0:Kd.C k47 w A0 l0.length l0) (hc0:l0.length≤c0) (hr1:Kd.C (Kd.int .i64) w A1 l1.length l1) (hc1:l1.length≤c1) (h:spec_l11Point.f k l0 l1 a2 a3=some (r1,r2)) :
  Calls Try.prog 153 #[.slice A0 l0.length c0,.slice A1 l1.length c1,.int .i64 a2,.int .i64 a3] w fun e w'=>e=.returned (.agg #[.int .i64 r1,.int .i64 r2])∧Below w.heap.size w w':=by
 have hu45:=Try.underlying45
 have HR0:=Aside0.mk hr0
 have HC0:=Aside0.mk hc0
 clear hr0 hc0
 have HR1:=Aside0.mk hr1
 have HC1:=Aside0.mk hc1
 clear hr1 hc1
 have HB:=Aside0.mk (Below.refl w.heap.size w)
 have H:((spec_l2Ends.f k l0 l1).bind fun t196=>((spec_l2Of.f k l0 t196 a2).bind fun t199=>((spec_l2Of.f k l0 t196 a3).bind fun t200=>(some (t199,t200)))))=some (r1,r2):=h
 clear h
 replace H:=Option.bind_eq_some_iff.mp H
 obtain ⟨t196,A50,H⟩:=H
 replace H:((spec_l2Of.f k l0 t196 a2).bind fun t199=>((spec_l2Of.f k l0 t196 a3).bind fun t200=>(some (t199,t200))))=some (r1,r2):=H
 have A5:=Aside0.mk A50
 clear A50
 replace H:=Option.bind_eq_some_iff.mp H
 obtain ⟨t199,A60,H⟩:=H
 replace H:((spec_l2Of.f k l0 t196 a3).bind fun t200=>(some (t199,t200)))=some (r1,r2):=H
 have A6:=Aside0.mk A60
 clear A60
 replace H:=Option.bind_eq_some_iff.mp H
 obtain ⟨t200,A70,H⟩:=H
 replace H:(some (t199,t200))=some (r1,r2):=H
 have A7:=Aside0.mk A70
 clear A70
 simp only [Option.some.injEq,Prod.mk.injEq] at H
 obtain ⟨rfl,rfl⟩:=H
 go_enter Try.func153,Try.ntmps153
 go_wp2_with (first|((with_reducible refine gate_dst (N:=8) rfl ?_);refine box_event ?hg (N:=8) ?hd (cs:=#[.int .i64 0,.int .i64 0]) (t:=45) ?hr ?_;(case hd=>rfl);(case hg=>rfl);(case hr=>first|(go_simp;done)|(go_simp;rfl));intro gb195 hg w8 hbox hb;have n0_:=Aside0.mk (below_step (by repeat (first|(with_reducible first|exact HB.out|apply below_alloc|apply pw_below_drewN|apply below_drew1)|exact HB.out)) hb);have n1_:=Aside0.mk (hbox);have n2_:=Aside0.mk ((by rw [hg];exact (below_size (by repeat (first|(with_reducible first|exact HB.out|apply below_alloc|apply pw_below_drewN|apply below_drew1)|exact HB.out))):w.heap.size≤gb195));have n3_:=Aside0.mk ((by rw [hg];exact (below_size (by repeat (first|(with_reducible first|exact HB.out|apply below_alloc|apply pw_below_drewN|apply below_drew1)|exact HB.out))):w.heap.size≤gb195));clear HB;have HB:=n0_;have BK195:=n1_;have GW195:=n2_;have GE195:=n3_;clear n0_ n1_ n2_ n3_;clear hb hbox hg)|((with_reducible refine gate_callee (f:=162) rfl ?_);refine goesL_ (some 12) rfl rfl Try.func162 (by kernel_rfl) rfl #[.slice A0 l0.length c0,.slice A1 l1.length c1] rfl (by (try simp only [List.map_toArray,List.map_cons,List.map_nil]);first|done|rfl|(simp only [List.length_drop,List.length_take];rfl)) ?_;(with_reducible refine (spec_l2Ends.calls k _ _ l0 _ _ l1 t196 _ ?side1 ?side2 ?side3 ?side4 A5.out).mono ?_);(case side1=>repeat (first|exact (Kd.C_below HR0.out HB.out)|(with_reducible refine Kd.C_alloc ?_ _)|(with_reducible refine Kd.C_drewN ?_ _)|(with_reducible refine Kd.C_drew ?_)));(case side2=>exact HC0.out);(case side3=>repeat (first|exact (Kd.C_below HR1.out HB.out)|(with_reducible refine Kd.C_alloc ?_ _)|(with_reducible refine Kd.C_drewN ?_ _)|(with_reducible refine Kd.C_drew ?_)));(case side4=>exact HC1.out);rintro e w9 ⟨v197,rfl,ho0,hb⟩;refine ⟨_,rfl,?_⟩;have n0_:=Aside0.mk (Kd.R_lower ho0 (below_size (by repeat (first|(with_reducible first|exact HB.out|apply below_alloc|apply pw_below_drewN|apply below_drew1|refine below_set ?_ GE195.out)|exact HB.out))));have n1_:=Aside0.mk (blk_below (g:=gb195) (o:=.cells #[.int .i64 0,.int .i64 0] 45 (0,0)) (by (with_reducible repeat (first|refine blk_drewN ?_ _|refine blk_drew ?_|refine blk_alloc ?_ _));exact BK195.out) hb);have n2_:=Aside0.mk (below_step (by repeat (first|(with_reducible first|exact HB.out|apply below_alloc|apply pw_below_drewN|apply below_drew1|refine below_set ?_ GE195.out)|exact HB.out)) hb);clear BK195;clear HB;have HO198:=n0_;have BK195:=n1_;have HB:=n2_;clear n0_ n1_ n2_;(try clear hb);(try clear hb2);(try clear hk);(try clear hi);(try clear ho0);obtain ⟨Ao10,co10,eo10⟩:=Kd.R_slice HO198.out;subst eo10)|((with_reducible refine gate_callee (f:=163) rfl ?_);refine goesL_ (some 16) rfl rfl Try.func163 (by kernel_rfl) rfl #[.slice A0 l0.length c0,.slice Ao10 t196.length co10,.int .i64 a2] rfl (by (try simp only [List.map_toArray,List.map_cons,List.map_nil]);first|done|rfl|(simp only [List.length_drop,List.length_take];rfl)) ?_;(with_reducible refine (spec_l2Of.calls k _ _ l0 _ _ t196 a2 t199 _ ?side1 ?side2 ?side3 ?side4 A6.out).mono ?_);(case side1=>repeat (first|exact (Kd.C_below HR0.out HB.out)|(with_reducible refine Kd.C_alloc ?_ _)|(with_reducible refine Kd.C_drewN ?_ _)|(with_reducible refine Kd.C_drew ?_)));(case side2=>exact HC0.out);(case side3=>repeat (first|exact (Kd.R_reads' HO198.out).2.2|(with_reducible refine Kd.C_alloc ?_ _)|(with_reducible refine Kd.C_drewN ?_ _)|(with_reducible refine Kd.C_drew ?_)));(case side4=>exact (Kd.R_reads' HO198.out).2.1);rintro e w11 ⟨rfl,hb⟩;refine ⟨_,rfl,?_⟩;have n0_:=Aside0.mk (Kd.R_below (by (with_reducible repeat (first|apply Kd.R_alloc|apply Kd.R_drewN|apply Kd.R_drew));exact HO198.out) hb);have n1_:=Aside0.mk (blk_below (g:=gb195) (o:=.cells #[.int .i64 0,.int .i64 0] 45 (0,0)) (by (with_reducible repeat (first|refine blk_drewN ?_ _|refine blk_drew ?_|refine blk_alloc ?_ _));exact BK195.out) hb);have n2_:=Aside0.mk (below_step (by repeat (first|(with_reducible first|exact HB.out|apply below_alloc|apply pw_below_drewN|apply below_drew1|refine below_set ?_ GE195.out)|exact HB.out)) hb);clear HO198;clear BK195;clear HB;have HO198:=n0_;have BK195:=n1_;have HB:=n2_;clear n0_ n1_ n2_;(try clear hb);(try clear hb2);(try clear hk);(try clear hi))|((with_reducible refine gate_callee (f:=163) rfl ?_);refine goesL_ (some 20) rfl rfl Try.func163 (by kernel_rfl) rfl #[.slice A0 l0.length c0,.slice Ao10 t196.length co10,.int .i64 a3] rfl (by (try simp only [List.map_toArray,List.map_cons,List.map_nil]);first|done|rfl|(simp only [List.length_drop,List.length_take];rfl)) ?_;(with_reducible refine (spec_l2Of.calls k _ _ l0 _ _ t196 a3 t200 _ ?side1 ?side2 ?side3 ?side4 A7.out).mono ?_);(case side1=>repeat (first|exact (Kd.C_below HR0.out HB.out)|(with_reducible refine Kd.C_alloc ?_ _)|(with_reducible refine Kd.C_drewN ?_ _)|(with_reducible refine Kd.C_drew ?_)));(case side2=>exact HC0.out);(case side3=>repeat (first|exact (Kd.R_reads' HO198.out).2.2|(with_reducible refine Kd.C_alloc ?_ _)|(with_reducible refine Kd.C_drewN ?_ _)|(with_reducible refine Kd.C_drew ?_)));(case side4=>exact (Kd.R_reads' HO198.out).2.1);rintro e w12 ⟨rfl,hb⟩;refine ⟨_,rfl,?_⟩;have n0_:=Aside0.mk (Kd.R_below (by (with_reducible repeat (first|apply Kd.R_alloc|apply Kd.R_drewN|apply Kd.R_drew));exact HO198.out) hb);have n1_:=Aside0.mk (blk_below (g:=gb195) (o:=.cells #[.int .i64 0,.int .i64 0] 45 (0,0)) (by (with_reducible repeat (first|refine blk_drewN ?_ _|refine blk_drew ?_|refine blk_alloc ?_ _));exact BK195.out) hb);have n2_:=Aside0.mk (below_step (by repeat (first|(with_reducible first|exact HB.out|apply below_alloc|apply pw_below_drewN|apply below_drew1|refine below_set ?_ GE195.out)|exact HB.out)) hb);clear HO198;clear BK195;clear HB;have HO198:=n0_;have BK195:=n1_;have HB:=n2_;clear n0_ n1_ n2_;(try clear hb);(try clear hb2);(try clear hk);(try clear hi);have hcz13_0:w12.cell? ⟨gb195,0,none⟩=some (.int .i64 0):=(blk_cell BK195.out 0).trans rfl;have hcz13_1:w12.cell? ⟨gb195,1,none⟩=some (.int .i64 0):=(blk_cell BK195.out 1).trans rfl;have hfz13_0:=blk_frozen BK195.out 0;have hfz13_1:=blk_frozen BK195.out 1))
 refine bodyPost_ret (results_cell_row rfl _ _ gb195 45 #[.int .i64 t199,.int .i64 t200] (0,0) _ rfl (by (with_reducible repeat (first|refine blk_drewN ?_ _|refine blk_drew ?_|refine blk_alloc ?_ _));refine blk_put (cs:=#[.int .i64 t199,.int .i64 0]) ?_ 1 _ rfl;(with_reducible repeat (first|refine blk_drewN ?_ _|refine blk_drew ?_|refine blk_alloc ?_ _));refine blk_put (cs:=#[.int .i64 0,.int .i64 0]) ?_ 0 _ rfl;(with_reducible repeat (first|refine blk_drewN ?_ _|refine blk_drew ?_|refine blk_alloc ?_ _));exact BK195.out) Try.underlying45 rfl (by kernel_rfl)) rfl ?_
 exact ⟨by first|rfl|(simp [errW_none,errW_some] <;> rfl)|(simp [*,errW_none,errW_some] <;> rfl),by repeat (first|(with_reducible first|exact HB.out|apply below_alloc|apply pw_below_drewN|apply below_drew1|refine below_set ?_ GE195.out)|exact HB.out)⟩

/-! ### spec_l11Try: function 123 -/
mutual
def spec_l11Try.l0:Nat→List (S47)→List Int→Int→Int→List (S45)→Int→Option ((List (S45)))
 | 0,_,_,_,_,_,_=>none
 | k + 1,x0,x1,x2,x3,x4,x11=>if x11<(x0.length:Int) then ((spec_l1Has.f k x1 x11).bind fun t206=>(if t206=true then (spec_l11Try.l0 k x0 x1 x2 x3 x4 (wrap64 (x11 + 1))) else ((spec_l1Own.f x1).bind fun t207=>(if t207.length<17592186044416 then ((spec_l11Try.f k x0 (t207++[x11]) x2 x3 x4).bind fun t213=>(spec_l11Try.l0 k x0 x1 x2 x3 t213 (wrap64 (x11 + 1)))) else (none))))) else (some x4)
def spec_l11Try.f:Nat→List (S47)→List Int→Int→Int→List (S45)→Option ((List (S45)))
 | 0,_,_,_,_,_=>none
 | k + 1,l0,l1,a2,a3,l4=>if (l1.length:Int)=(l0.length:Int) then ((spec_l11Point.f k l0 l1 a2 a3).bind fun bt201=>((spec_l11Put.f k l4 bt201.1 bt201.2).bind fun t203=>(some t203))) else (spec_l11Try.l0 k l0 l1 a2 a3 l4 0)
end
theorem spec_l11Try.mono_l:∀ k,(∀ y0 y1 y2 y3 y4,LeO (spec_l11Try.f k y0 y1 y2 y3 y4) (spec_l11Try.f (k + 1) y0 y1 y2 y3 y4))∧(∀ y0 y1 y2 y3 y4 y5,LeO (spec_l11Try.l0 k y0 y1 y2 y3 y4 y5) (spec_l11Try.l0 (k + 1) y0 y1 y2 y3 y4 y5))
 | 0=>⟨fun _ _ _ _ _ r h=>by simp [spec_l11Try.f] at h,fun _ _ _ _ _ _ r h=>by simp [spec_l11Try.l0] at h⟩
 | k + 1=>by
  obtain ⟨ih0,ih1⟩:=spec_l11Try.mono_l k
  refine ⟨?_,?_⟩
  ·intro y0 y1 y2 y3 y4
   unfold spec_l11Try.f
   repeat' first
   | (with_reducible exact ih0 _ _ _ _ _)
   | (with_reducible exact ih1 _ _ _ _ _ _)
   | (with_reducible exact spec_l11Point.mono _ _ _ _ _)
   | (with_reducible exact spec_l11Put.mono _ _ _ _)
   | (with_reducible exact spec_l1Has.mono _ _ _)
   | (with_reducible exact LeO.refl _)
   | (with_reducible exact LeO.none _)
   | (with_reducible refine LeO.ite ?_ ?_)
   | (with_reducible refine LeO.bind ?_ (fun _=>?_))
   | exact ih0 _ _ _ _ _
   | exact ih1 _ _ _ _ _ _
   | exact spec_l11Point.mono _ _ _ _ _
   | exact spec_l11Put.mono _ _ _ _
   | exact spec_l1Has.mono _ _ _
   | exact LeO.none _
   | refine LeO.ite ?_ ?_
   | refine LeO.bind ?_ (fun _=>?_)
  ·intro y0 y1 y2 y3 y4 y5
   unfold spec_l11Try.l0
   repeat' first
   | (with_reducible exact ih0 _ _ _ _ _)
   | (with_reducible exact ih1 _ _ _ _ _ _)
   | (with_reducible exact spec_l11Point.mono _ _ _ _ _)
   | (with_reducible exact spec_l11Put.mono _ _ _ _)
   | (with_reducible exact spec_l1Has.mono _ _ _)
   | (with_reducible exact LeO.refl _)
   | (with_reducible exact LeO.none _)
   | (with_reducible refine LeO.ite ?_ ?_)
   | (with_reducible refine LeO.bind ?_ (fun _=>?_))
   | exact ih0 _ _ _ _ _
   | exact ih1 _ _ _ _ _ _
   | exact spec_l11Point.mono _ _ _ _ _
   | exact spec_l11Put.mono _ _ _ _
   | exact spec_l1Has.mono _ _ _
   | exact LeO.none _
   | refine LeO.ite ?_ ?_
   | refine LeO.bind ?_ (fun _=>?_)
theorem spec_l11Try.mono:∀ a0 a1 a2 a3 a4 k,LeO (spec_l11Try.f k a0 a1 a2 a3 a4) (spec_l11Try.f (k + 1) a0 a1 a2 a3 a4):=by
 intro a0 a1 a2 a3 a4 k
 obtain ⟨ih0,ih1⟩:=spec_l11Try.mono_l k
 exact ih0 a0 a1 a2 a3 a4
set_option maxHeartbeats 8000000 in
set_option maxRecDepth 100000 in
theorem spec_l11Try.calls (k:Nat):∀ (A0:Option Addr) (c0:Nat) (l0:List (S47)) (A1:Option Addr) (c1:Nat) (l1:List Int) (a2:Int) (a3:Int) (P4_:Nat→Prop) (u9000_:Value) (l4:List (S45)) (r:List (S45)) (w0 w:World) (hB:Below w0.heap.size w0 w) (hr0:∀ W_,Kept w W_ (fun k_=>P4_ k_)→Kd.C k47 W_ A0 l0.length l0) (hc0:l0.length≤c0) (hr1:∀ W_,Kept w W_ (fun k_=>P4_ k_)→Kd.C (Kd.int .i64) W_ A1 l1.length l1) (hc1:l1.length≤c1) (ho4:Kd.R k45 45 w w0.heap.size P4_ u9000_ l4) (h:spec_l11Try.f k l0 l1 a2 a3 l4=some r),
  Calls Try.prog 123 #[.slice A0 l0.length c0,.slice A1 l1.length c1,.int .i64 a2,.int .i64 a3,u9000_] w fun e w'=>∃ v0_:Value,e=.returned (v0_)∧Kd.R k45 45 w' w0.heap.size (fun k_=>(P4_ k_∨w.heap.size≤k_)) v0_ r∧Below w0.heap.size w0 w'∧Kept w w' (fun k_=>P4_ k_):=by
 induction k using Nat.strongRecOn with
 | _ k ih=>
 intro A0 c0 l0 A1 c1 l1 a2 a3 P4_ u9000_ l4 r w0 w hB hr0 hc0 hr1 hc1 ho4 h
 cases k with
 | zero=>exact absurd h (by simp [spec_l11Try.f])
 | succ k=>
 simp only [spec_l11Try.f] at h
 have HR0:=Aside0.mk hr0
 have HC0:=Aside0.mk hc0
 clear hr0 hc0
 have HR1:=Aside0.mk hr1
 have HC1:=Aside0.mk hc1
 clear hr1 hc1
 have HO4:=Aside0.mk (show Kd.R k45 45 w w0.heap.size (fun k_=>(P4_ k_∨w.heap.size≤k_)) u9000_ l4 from Kd.R_mono ho4 (fun k_ hk=>(.inl hk)))
 have HK:=Aside0.mk (Kept.refl w (fun k_=>P4_ k_))
 have HW0:=Aside0.mk hB.size
 have HB:=Aside0.mk hB
 clear hB
 have H:(if (l1.length:Int)=(l0.length:Int) then ((spec_l11Point.f k l0 l1 a2 a3).bind fun bt201=>((spec_l11Put.f k l4 bt201.1 bt201.2).bind fun t203=>(some t203))) else (spec_l11Try.l0 k l0 l1 a2 a3 l4 0))=some r:=h
 clear h
 by_cases c6:(l1.length:Int)=(l0.length:Int)
 ·rw [if_pos c6] at H
  have c6b0:((l1.length:Int) == (l0.length:Int))=true:=beq_iff_eq.mpr c6
  have c6b1:((l1.length:Int) != (l0.length:Int))=false:=bne_eq_false_iff_eq.mpr c6
  have c6b2:(l1.length == l0.length)=true:=by first|simpa using c6|(simp at c6 ⊢;omega)
  clear c6
  replace H:=Option.bind_eq_some_iff.mp H
  obtain ⟨⟨t201,t202⟩,A70,H⟩:=H
  replace H:((spec_l11Put.f k l4 t201 t202).bind fun t203=>(some t203))=some r:=H
  have A7:=Aside0.mk A70
  clear A70
  replace H:=Option.bind_eq_some_iff.mp H
  obtain ⟨t203,A80,H⟩:=H
  replace H:(some t203)=some r:=H
  have A8:=Aside0.mk A80
  clear A80
  obtain rfl:=Option.some.inj H
  go_enter Try.func123,Try.ntmps123
  go_wp2_with (first|((with_reducible refine gate_callee (f:=153) rfl ?_);refine goesL_ (some 22) rfl rfl Try.func153 (by kernel_rfl) rfl #[.slice A0 l0.length c0,.slice A1 l1.length c1,.int .i64 a2,.int .i64 a3] rfl (by (try simp only [List.map_toArray,List.map_cons,List.map_nil]);first|done|rfl|(simp only [List.length_drop,List.length_take];rfl)) ?_;(with_reducible refine (spec_l11Point.calls k _ _ l0 _ _ l1 a2 a3 t201 t202 _ ?side1 ?side2 ?side3 ?side4 A7.out).mono ?_);(case side1=>exact Kd.C_kept_now HR0.out (by repeat (first|(with_reducible first|exact HK.out|apply Kept.alloc|apply Kept.drewN|apply Kept.drew)|exact HK.out)));(case side2=>exact HC0.out);(case side3=>exact Kd.C_kept_now HR1.out (by repeat (first|(with_reducible first|exact HK.out|apply Kept.alloc|apply Kept.drewN|apply Kept.drew)|exact HK.out)));(case side4=>exact HC1.out);rintro e w9 ⟨rfl,hb⟩;refine ⟨_,rfl,?_⟩;have n0_:=Aside0.mk (Kd.R_below (by (with_reducible repeat (first|apply Kd.R_alloc|apply Kd.R_drewN|apply Kd.R_drew));exact HO4.out) hb);have n1_:=Aside0.mk (Kept.below (S:=(fun k_=>P4_ k_)) (by repeat (first|(with_reducible first|exact HK.out|apply Kept.alloc|apply Kept.drewN|apply Kept.drew)|exact HK.out)) hb);have n2_:=Aside0.mk (below_step (by repeat (first|(with_reducible first|exact HB.out|apply below_alloc|apply pw_below_drewN|apply below_drew1)|exact HB.out)) hb);clear HO4;clear HK;clear HB;have HO4:=n0_;have HK:=n1_;have HB:=n2_;clear n0_ n1_ n2_;(try clear hb);(try clear hb2);(try clear hk);(try clear hi);obtain ⟨Ao10,co10,eo10⟩:=Kd.R_slice HO4.out;subst eo10)|((with_reducible refine gate_callee (f:=152) rfl ?_);refine goesL_ (some 23) rfl rfl Try.func152 (by kernel_rfl) rfl #[.slice Ao10 l4.length co10,.agg #[.int .i64 t201,.int .i64 t202]] rfl (by (try simp only [List.map_toArray,List.map_cons,List.map_nil]);first|done|rfl|(simp only [List.length_drop,List.length_take];rfl)) ?_;(with_reducible refine (spec_l11Put.calls k (fun k_=>some k_=(.slice Ao10 l4.length co10:Value).ownBlock) (.slice Ao10 l4.length co10) l4 t201 t202 t203 w0 _ ?side1 ?side2 A8.out).mono ?_);(case side1=>repeat (first|(with_reducible first|exact HB.out|apply below_alloc|apply pw_below_drewN|apply below_drew1)|exact HB.out));(case side2=>exact Kd.R_tight rfl HO4.out);rintro e w11 ⟨v204,rfl,ho0,hb,hkp⟩;refine ⟨_,rfl,?_⟩;have n0_:=Aside0.mk (Kd.R_mono (ok':=fun k_=>(P4_ k_∨w.heap.size≤k_)) ho0 (fun k_ hk_=>Or.elim hk_ (fun hs_=>(HO4.out.1 k_ (hs_).symm)) (fun hn_=>(.inr (Nat.le_trans (by first|exact HK.out.1|exact (show Kept w _ (fun k_=>P4_ k_) from by repeat (first|(with_reducible first|exact HK.out|apply Kept.alloc|apply Kept.drewN|apply Kept.drew)|exact HK.out)).1) hn_)))));have n1_:=Aside0.mk (Kept.then_ (S:=(fun k_=>P4_ k_)) (by repeat (first|(with_reducible first|exact HK.out|apply Kept.alloc|apply Kept.drewN|apply Kept.drew)|exact HK.out)) hkp (fun k_ hs_=>(fun e_=>(HO4.out.1 k_ e_.symm)) hs_));have n2_:=Aside0.mk (hb);clear HK;clear HB;clear HO4;have HO205:=n0_;have HK:=n1_;have HB:=n2_;clear n0_ n1_ n2_;(try clear hb);(try clear hkp);(try clear ho0)))
  go_ret
  exact ⟨_,by first|rfl|(simp [errW_none,errW_some] <;> rfl)|(simp [*,errW_none,errW_some] <;> rfl),by (with_reducible repeat (first|apply Kd.R_alloc|apply Kd.R_drewN|apply Kd.R_drew));exact HO205.out,by repeat (first|(with_reducible first|exact HB.out|apply below_alloc|apply pw_below_drewN|apply below_drew1)|exact HB.out),by repeat (first|(with_reducible first|exact HK.out|apply Kept.alloc|apply Kept.drewN|apply Kept.drew)|exact HK.out)⟩
 ·rw [if_neg c6] at H
  have c6b0:((l1.length:Int) == (l0.length:Int))=false:=beq_eq_false_iff_ne.mpr c6
  have c6b1:((l1.length:Int) != (l0.length:Int))=true:=bne_iff_ne.mpr c6
  have c6b2:(l1.length == l0.length)=false:=by first|simpa using c6|(simp at c6 ⊢;omega)
  have H':=Aside0.mk H
  clear H
  go_enter Try.func123,Try.ntmps123
  go_wp2
  go_loopg [4,11] k (fun kq v4 v11 w'=>∃ (x4_1:List (S45)) (x11_1:Int),v11=.int .i64 x11_1∧Aside0 (spec_l11Try.l0 kq l0 l1 a2 a3 x4_1 x11_1=some r)∧Aside0 (kq≤k)∧Aside0 (Kd.R k45 45 w' w0.heap.size (fun k_=>(P4_ k_∨w.heap.size≤k_)) v4 x4_1)∧Aside0 (Kept w w' (fun k_=>P4_ k_))∧Aside0 (Below w0.heap.size w0 w'))
  case atStart=>exact ⟨(l4),(0),(by first|rfl|(simp;done)|(simp [*];done)),H',⟨Nat.le_refl _⟩,⟨by (with_reducible repeat (first|apply Kd.R_alloc|apply Kd.R_drewN|apply Kd.R_drew));exact HO4.out⟩,⟨by repeat (first|(with_reducible first|exact HK.out|apply Kept.alloc|apply Kept.drewN|apply Kept.drew)|exact HK.out)⟩,⟨by repeat (first|(with_reducible first|exact HB.out|apply below_alloc|apply pw_below_drewN|apply below_drew1)|exact HB.out)⟩⟩
  case round=>
   clear H'
   try clear c1
   try clear p2
   try clear c6
   try clear c6b0
   try clear c6b1
   try clear c6b2
   obtain ⟨x4_1,x11_1,rfl,HA,HK1,HO_4,HK,HB⟩:=hrel
   cases gk with
   | zero=>exact absurd HA.out (by simp [spec_l11Try.l0])
   | succ k1=>
    have H:=HA.out
    clear HA
    simp only [spec_l11Try.l0] at H
    by_cases c12:x11_1<(l0.length:Int)
    ·rw [if_pos c12] at H
     have c12b0:decide (x11_1<(l0.length:Int))=true:=decide_eq_true c12
     clear c12
     replace H:=Option.bind_eq_some_iff.mp H
     obtain ⟨t206,A130,H⟩:=H
     replace H:(if t206=true then (spec_l11Try.l0 k1 l0 l1 a2 a3 x4_1 (wrap64 (x11_1 + 1))) else ((spec_l1Own.f l1).bind fun t207=>(if t207.length<17592186044416 then ((spec_l11Try.f k1 l0 (t207++[x11_1]) a2 a3 x4_1).bind fun t213=>(spec_l11Try.l0 k1 l0 l1 a2 a3 t213 (wrap64 (x11_1 + 1)))) else (none))))=some r:=H
     have A13:=Aside0.mk A130
     clear A130
     by_cases c14:t206=true
     ·subst c14
      have H1:(spec_l11Try.l0 k1 l0 l1 a2 a3 x4_1 (wrap64 (x11_1 + 1)))=some r:=by rw [if_pos rfl] at H;exact H
      clear H
      have H:=H1
      clear H1
      have H':=Aside0.mk H
      clear H
      go_wp2_with (first|((with_reducible refine gate_callee (f:=144) rfl ?_);refine goesL_ (some 32) rfl rfl Try.func144 (by kernel_rfl) rfl #[.slice A1 l1.length c1,.int .i64 x11_1] rfl (by (try simp only [List.map_toArray,List.map_cons,List.map_nil]);first|done|rfl|(simp only [List.length_drop,List.length_take];rfl)) ?_;(with_reducible refine (spec_l1Has.calls k1 _ _ l1 x11_1 true _ ?side1 ?side2 A13.out).mono ?_);(case side1=>exact Kd.C_kept_now HR1.out (by repeat (first|(with_reducible first|exact HK.out|apply Kept.alloc|apply Kept.drewN|apply Kept.drew)|exact HK.out)));(case side2=>exact HC1.out);rintro e w' ⟨rfl,⟨nd,rfl⟩⟩;refine ⟨_,rfl,?_⟩))
      go_roundg k1
      case measure=>have:=HK1.out;omega
      case rel=>exact ⟨(x4_1),(wrap64 (x11_1 + 1)),(by first|rfl|(simp;done)|(simp [*];done)),H',⟨by have:=HK1.out;omega⟩,⟨by (with_reducible repeat (first|apply Kd.R_alloc|apply Kd.R_drewN|apply Kd.R_drew));exact HO_4.out⟩,⟨by repeat (first|(with_reducible first|exact HK.out|apply Kept.alloc|apply Kept.drewN|apply Kept.drew)|exact HK.out)⟩,⟨by repeat (first|(with_reducible first|exact HB.out|apply below_alloc|apply pw_below_drewN|apply below_drew1)|exact HB.out)⟩⟩
     ·replace c14:=Bool.eq_false_iff.mpr c14
      subst c14
      have H1:((spec_l1Own.f l1).bind fun t207=>(if t207.length<17592186044416 then ((spec_l11Try.f k1 l0 (t207++[x11_1]) a2 a3 x4_1).bind fun t213=>(spec_l11Try.l0 k1 l0 l1 a2 a3 t213 (wrap64 (x11_1 + 1)))) else (none)))=some r:=by rw [if_neg (show ¬ (false=true) by decide)] at H;exact H
      clear H
      have H:=H1
      clear H1
      replace H:=Option.bind_eq_some_iff.mp H
      obtain ⟨t207,A150,H⟩:=H
      replace H:(if t207.length<17592186044416 then ((spec_l11Try.f k1 l0 (t207++[x11_1]) a2 a3 x4_1).bind fun t213=>(spec_l11Try.l0 k1 l0 l1 a2 a3 t213 (wrap64 (x11_1 + 1)))) else (none))=some r:=H
      have A15:=Aside0.mk A150
      clear A150
      by_cases c16:t207.length<17592186044416
      ·rw [if_pos c16] at H
       have LMc16:=Aside0.mk c16
       clear c16
       obtain ⟨y210,hy210⟩:∃ y_:List Int,y_=(t207++[x11_1]):=⟨_,rfl⟩
       replace H:((spec_l11Try.f k1 l0 y210 a2 a3 x4_1).bind fun t213=>(spec_l11Try.l0 k1 l0 l1 a2 a3 t213 (wrap64 (x11_1 + 1))))=some r:=by first|(rw [hy210];with_reducible exact H)|(have H2_:=(Option.bind_some _ _).symm.trans H;rw [hy210];with_reducible exact H2_)|(have H2_:=(Option.bind_some _ _).symm.trans H;with_reducible exact H2_)|with_reducible exact H|(rw [hy210];exact H)|exact H
       have Ny210:=Aside0.mk hy210
       clear hy210
       replace H:=Option.bind_eq_some_iff.mp H
       obtain ⟨t213,A170,H⟩:=H
       replace H:(spec_l11Try.l0 k1 l0 l1 a2 a3 t213 (wrap64 (x11_1 + 1)))=some r:=H
       have A17:=Aside0.mk A170
       clear A170
       have H':=Aside0.mk H
       clear H
       go_wp2_with (first|((with_reducible refine gate_callee (f:=144) rfl ?_);refine goesL_ (some 32) rfl rfl Try.func144 (by kernel_rfl) rfl #[.slice A1 l1.length c1,.int .i64 x11_1] rfl (by (try simp only [List.map_toArray,List.map_cons,List.map_nil]);first|done|rfl|(simp only [List.length_drop,List.length_take];rfl)) ?_;(with_reducible refine (spec_l1Has.calls k1 _ _ l1 x11_1 false _ ?side1 ?side2 A13.out).mono ?_);(case side1=>exact Kd.C_kept_now HR1.out (by repeat (first|(with_reducible first|exact HK.out|apply Kept.alloc|apply Kept.drewN|apply Kept.drew)|exact HK.out)));(case side2=>exact HC1.out);rintro e w' ⟨rfl,⟨nd,rfl⟩⟩;refine ⟨_,rfl,?_⟩)|((with_reducible refine gate_callee (f:=111) rfl ?_);refine goesL_ (some 36) rfl rfl Try.func111 (by kernel_rfl) rfl #[.slice A1 l1.length c1] rfl (by (try simp only [List.map_toArray,List.map_cons,List.map_nil]);first|done|rfl|(simp only [List.length_drop,List.length_take];rfl)) ?_;(with_reducible refine (spec_l1Own.calls _ _ l1 t207 _ ?side1 ?side2 A15.out).mono ?_);(case side1=>exact Kd.C_kept_now HR1.out (by repeat (first|(with_reducible first|exact HK.out|apply Kept.alloc|apply Kept.drewN|apply Kept.drew)|exact HK.out)));(case side2=>exact HC1.out);rintro e w18 ⟨v208,rfl,ho0,hb⟩;refine ⟨_,rfl,?_⟩;have n0_:=Aside0.mk (Kd.R_below (by (with_reducible repeat (first|apply Kd.R_alloc|apply Kd.R_drewN|apply Kd.R_drew));exact HO_4.out) hb);have n1_:=Aside0.mk (Kd.R_lower (Kd.R_newM (M:=fun k_=>(P4_ k_∨w.heap.size≤k_)) ho0 (by first|exact HK.out.1|exact (show Kept w _ (fun k_=>P4_ k_) from by repeat (first|(with_reducible first|exact HK.out|apply Kept.alloc|apply Kept.drewN|apply Kept.drew)|exact HK.out)).1) (fun k_ h_=>.inr h_)) (below_size (by repeat (first|(with_reducible first|exact HB.out|apply below_alloc|apply pw_below_drewN|apply below_drew1)|exact HB.out))));have n2_:=Aside0.mk (Kept.below (S:=(fun k_=>P4_ k_)) (by repeat (first|(with_reducible first|exact HK.out|apply Kept.alloc|apply Kept.drewN|apply Kept.drew)|exact HK.out)) hb);have n3_:=Aside0.mk (below_step (by repeat (first|(with_reducible first|exact HB.out|apply below_alloc|apply pw_below_drewN|apply below_drew1)|exact HB.out)) hb);clear HO_4;clear HK;clear HB;have HO_4:=n0_;have HO209:=n1_;have HK:=n2_;have HB:=n3_;clear n0_ n1_ n2_ n3_;(try clear hb);(try clear hb2);(try clear hk);(try clear hi);(try clear ho0))|((with_reducible refine gate_builtin (b:=.append) (xs:=#[.tmp 36,.tmp 38]) rfl ?_);at_builtin;refine Kd.R_append (Kd.int .i64) (w0:=w0) w0.heap.size rfl (.tmp 36) (.tmp 38) 39 3 (.int .i64 0) 8 rfl Try.underlying39 info3 rfl (by decide) (by omega) v208 t207 x11_1 [.int .i64 x11_1] (fun k_=>(P4_ k_∨w.heap.size≤k_)) (fun _=>False) rfl rfl ?aP (fun _ hk=>hk.elim) ?aF ?aO ?aB ?aS ?aL ?_;(case aP=>exact rfl);(case aB=>exact (by repeat (first|(with_reducible first|exact HB.out|apply below_alloc|apply pw_below_drewN|apply below_drew1)|exact HB.out)));(case aF=>exact (fun k_ hk=>(.inr (Nat.le_trans (by first|exact HK.out.1|exact (show Kept w _ (fun k_=>P4_ k_) from by repeat (first|(with_reducible first|exact HK.out|apply Kept.alloc|apply Kept.drewN|apply Kept.drew)|exact HK.out)).1) hk))));(case aO=>exact (by (with_reducible repeat (first|apply Kd.R_alloc|apply Kd.R_drewN|apply Kd.R_drew));exact Kd.R_mono HO209.out (fun _ hk=>hk.1)));(case aS=>exact (below_size (by repeat (first|(with_reducible first|exact HB.out|apply below_alloc|apply pw_below_drewN|apply below_drew1)|exact HB.out))));(case aL=>have:=LMc16.out;omega);intro v211 w19 ho hb hg hat;rw [←Ny210.out] at ho;have n0_:=Aside0.mk (Kd.R_over' (by (with_reducible repeat (first|apply Kd.R_alloc|apply Kd.R_drewN|apply Kd.R_drew));exact HO_4.out) (Kd.R_typed (by (with_reducible repeat (first|apply Kd.R_alloc|apply Kd.R_drewN|apply Kd.R_drew));exact HO209.out)) (by decide) hg);have n1_:=Aside0.mk (hb);have n2_:=Aside0.mk (Kept.of_grown (S:=(fun k_=>P4_ k_)) hg (by repeat (first|(with_reducible first|exact HK.out|apply Kept.alloc|apply Kept.drewN|apply Kept.drew)|exact HK.out)) (fun k_ e_=>(HO209.out.1 k_ e_).1));have n3_:=Aside0.mk (ho);clear HO_4;clear HB;clear HK;clear HO209;have HO_4:=n0_;have HB:=n1_;have HK:=n2_;have HO212:=n3_;clear n0_ n1_ n2_ n3_;clear ho hb hg hat;obtain ⟨Ao20,co20,eo20⟩:=Kd.R_slice HO212.out;subst eo20;obtain ⟨Ao21,co21,eo21⟩:=Kd.R_slice HO_4.out;subst eo21)|((with_reducible refine gate_callee (f:=123) rfl ?_);refine goesL_ (some 43) rfl rfl Try.func123 (by kernel_rfl) rfl #[.slice A0 l0.length c0,.slice Ao20 y210.length co20,.int .i64 a2,.int .i64 a3,.slice Ao21 x4_1.length co21] rfl (by (try simp only [List.map_toArray,List.map_cons,List.map_nil]);first|done|rfl|(simp only [List.length_drop,List.length_take];rfl)) ?_;(with_reducible refine (ih k1 (by have:=HK1.out;omega) _ _ l0 _ _ y210 a2 a3 (fun k_=>some k_=(.slice Ao21 x4_1.length co21:Value).ownBlock) (.slice Ao21 x4_1.length co21) x4_1 t213 w0 _ ?side1 ?side2 ?side3 ?side4 ?side5 ?side6 A17.out).mono ?_);(case side1=>repeat (first|(with_reducible first|exact HB.out|apply below_alloc|apply pw_below_drewN|apply below_drew1)|exact HB.out));(case side2=>exact Kd.C_kept_call HR0.out (by repeat (first|(with_reducible first|exact HK.out|apply Kept.alloc|apply Kept.drewN|apply Kept.drew)|exact HK.out)) (fun k_ hs_=>(fun e_=>(HO_4.out.1 k_ e_.symm)) hs_));(case side3=>exact HC0.out);(case side4=>exact Kd.C_kept_own ((Kd.R_apart' HO212.out (Kd.R_typed HO_4.out) (by decide))) (fun k_ hk_ hs_=>(hk_.2) hs_));(case side5=>exact (Kd.R_reads' HO212.out).2.1);(case side6=>exact Kd.R_tight rfl HO_4.out);rintro e w22 ⟨v214,rfl,ho0,hb,hkp⟩;refine ⟨_,rfl,?_⟩;have n0_:=Aside0.mk (Kd.R_mono (ok':=fun k_=>(P4_ k_∨w.heap.size≤k_)) (Kd.R_keptB ((Kd.R_apart' HO212.out (Kd.R_typed HO_4.out) (by decide))) hkp (fun k_ hk_ hs_=>(hk_.2) hs_)) (fun k_ hk_=>hk_.1.1));have n1_:=Aside0.mk (Kd.R_mono (ok':=fun k_=>(P4_ k_∨w.heap.size≤k_)) ho0 (fun k_ hk_=>Or.elim hk_ (fun hs_=>(HO_4.out.1 k_ (hs_).symm)) (fun hn_=>(.inr (Nat.le_trans (by first|exact HK.out.1|exact (show Kept w _ (fun k_=>P4_ k_) from by repeat (first|(with_reducible first|exact HK.out|apply Kept.alloc|apply Kept.drewN|apply Kept.drew)|exact HK.out)).1) hn_)))));have n2_:=Aside0.mk (Kept.then_ (S:=(fun k_=>P4_ k_)) (by repeat (first|(with_reducible first|exact HK.out|apply Kept.alloc|apply Kept.drewN|apply Kept.drew)|exact HK.out)) hkp (fun k_ hs_=>(fun e_=>(HO_4.out.1 k_ e_.symm)) hs_));have n3_:=Aside0.mk (hb);clear HO212;clear HK;clear HB;clear HO_4;have HO212:=n0_;have HO215:=n1_;have HK:=n2_;have HB:=n3_;clear n0_ n1_ n2_ n3_;(try clear hb);(try clear hkp);(try clear ho0)))
       go_roundg k1
       case measure=>have:=HK1.out;omega
       case rel=>exact ⟨(t213),(wrap64 (x11_1 + 1)),(by first|rfl|(simp;done)|(simp [*];done)),H',⟨by have:=HK1.out;omega⟩,⟨by (with_reducible repeat (first|apply Kd.R_alloc|apply Kd.R_drewN|apply Kd.R_drew));exact HO215.out⟩,⟨by repeat (first|(with_reducible first|exact HK.out|apply Kept.alloc|apply Kept.drewN|apply Kept.drew)|exact HK.out)⟩,⟨by repeat (first|(with_reducible first|exact HB.out|apply below_alloc|apply pw_below_drewN|apply below_drew1)|exact HB.out)⟩⟩
      ·rw [if_neg c16] at H
       exact absurd H (by simp)
    ·rw [if_neg c12] at H
     have c12b0:decide (x11_1<(l0.length:Int))=false:=decide_eq_false c12
     clear c12
     obtain rfl:=Option.some.inj H
     go_wp2
     go_ret
     exact ⟨_,by first|rfl|(simp [errW_none,errW_some] <;> rfl)|(simp [*,errW_none,errW_some] <;> rfl),by (with_reducible repeat (first|apply Kd.R_alloc|apply Kd.R_drewN|apply Kd.R_drew));exact HO_4.out,by repeat (first|(with_reducible first|exact HB.out|apply below_alloc|apply pw_below_drewN|apply below_drew1)|exact HB.out),by repeat (first|(with_reducible first|exact HK.out|apply Kept.alloc|apply Kept.drewN|apply Kept.drew)|exact HK.out)⟩

/-! ### spec_l11Front: function 79 -/
def spec_l11Front.f (k:Nat) (l0:List (S47)) (a1:Int) (a2:Int):Option ((List (S45))):=(spec_l11Try.f k l0 (([]:List Int)) a1 a2 (([]:List (S45)))).bind fun t222=>(some t222)
theorem spec_l11Front.mono:∀ a0 a1 a2 k,LeO (spec_l11Front.f k a0 a1 a2) (spec_l11Front.f (k + 1) a0 a1 a2):=by
 intro a0 a1 a2 k
 unfold spec_l11Front.f
 repeat' first
   | (with_reducible exact spec_l11Try.mono _ _ _ _ _ _)
   | (with_reducible exact LeO.refl _)
   | (with_reducible exact LeO.none _)
   | (with_reducible refine LeO.ite ?_ ?_)
   | (with_reducible refine LeO.bind ?_ (fun _=>?_))
   | exact spec_l11Try.mono _ _ _ _ _ _
   | exact LeO.none _
   | refine LeO.ite ?_ ?_
   | refine LeO.bind ?_ (fun _=>?_)
set_option maxHeartbeats 8000000 in
set_option maxRecDepth 100000 in
theorem spec_l11Front.calls (k:Nat) (A0:Option Addr) (c0:Nat) (l0:List (S47)) (a1:Int) (a2:Int) (r:List (S45)) (w:World) (hr0:Kd.C k47 w A0 l0.length l0) (hc0:l0.length≤c0) (h:spec_l11Front.f k l0 a1 a2=some r) :
  Calls Try.prog 79 #[.slice A0 l0.length c0,.int .i64 a1,.int .i64 a2] w fun e w'=>∃ v0_:Value,e=.returned (v0_)∧Kd.R k45 45 w' w.heap.size (fun _=>True) v0_ r∧Below w.heap.size w w':=by
 have HR0:=Aside0.mk hr0
 have HC0:=Aside0.mk hc0
 clear hr0 hc0
 have HB:=Aside0.mk (Below.refl w.heap.size w)
 have H:((spec_l11Try.f k l0 (([]:List Int)) a1 a2 (([]:List (S45)))).bind fun t222=>(some t222))=some r:=h
 clear h
 obtain ⟨y216,hy216⟩:∃ y_:List Int,y_=(([]:List Int)):=⟨_,rfl⟩
 replace H:((spec_l11Try.f k l0 y216 a1 a2 (([]:List (S45)))).bind fun t222=>(some t222))=some r:=by first|(rw [hy216];with_reducible exact H)|(have H2_:=(Option.bind_some _ _).symm.trans H;rw [hy216];with_reducible exact H2_)|(have H2_:=(Option.bind_some _ _).symm.trans H;with_reducible exact H2_)|with_reducible exact H|(rw [hy216];exact H)|exact H
 have Ny216:=Aside0.mk hy216
 clear hy216
 obtain ⟨y219,hy219⟩:∃ y_:List (S45),y_=(([]:List (S45))):=⟨_,rfl⟩
 replace H:((spec_l11Try.f k l0 y216 a1 a2 y219).bind fun t222=>(some t222))=some r:=by first|(rw [hy219];with_reducible exact H)|(have H2_:=(Option.bind_some _ _).symm.trans H;rw [hy219];with_reducible exact H2_)|(have H2_:=(Option.bind_some _ _).symm.trans H;with_reducible exact H2_)|with_reducible exact H|(rw [hy219];exact H)|exact H
 have Ny219:=Aside0.mk hy219
 clear hy219
 replace H:=Option.bind_eq_some_iff.mp H
 obtain ⟨t222,A40,H⟩:=H
 replace H:(some t222)=some r:=H
 have A4:=Aside0.mk A40
 clear A40
 obtain rfl:=Option.some.inj H
 go_enter Try.func79,Try.ntmps79
 go_wp2_with (first|((with_reducible refine gate_dst (N:=8) rfl ?_);refine Kd.R_lit (Kd.int .i64) _ 3 ?hg (N:=8) ?hd (xs:=([]:List Int)) (inner:=[]) (ok:=fun _=>True) (okp:=fun _=>True) ?hr ?hp (fun _ hk=>hk) trivial (Below.refl _ _) (Nat.le_refl _) (by simp) ?_;(case hd=>rfl);(case hg=>rfl);(case hr=>first|(go_simp;done)|(go_simp;rfl));(case hp=>exact (Reps.none _ _));intro v217 w5 ho6 hb hg_ hnew_;clear hg_ hnew_;(first|rw [←Ny216.out] at ho6|(simp only [Int.reduceToNat] at ho6;rw [←Ny216.out] at ho6));have n0_:=Aside0.mk (Kd.R_lower ho6 (below_size (by repeat (first|(with_reducible first|exact HB.out|apply below_alloc|apply pw_below_drewN|apply below_drew1)|exact HB.out))));have n1_:=Aside0.mk (below_step (by repeat (first|(with_reducible first|exact HB.out|apply below_alloc|apply pw_below_drewN|apply below_drew1)|exact HB.out)) hb);clear HB;have HO218:=n0_;have HB:=n1_;clear n0_ n1_;clear hb ho6)|((with_reducible refine gate_dst (N:=11) rfl ?_);refine Kd.R_lit k45 _ 45 ?hg (N:=11) ?hd (xs:=([]:List (S45))) (inner:=[]) (ok:=fun _=>True) (okp:=fun _=>True) ?hr ?hp (fun _ hk=>hk) trivial (Below.refl _ _) (Nat.le_refl _) (by simp) ?_;(case hd=>rfl);(case hg=>rfl);(case hr=>first|(go_simp;done)|(go_simp;rfl));(case hp=>exact (Reps.none _ _));intro v220 w7 ho8 hb hg_ hnew_;clear hg_ hnew_;(first|rw [←Ny219.out] at ho8|(simp only [Int.reduceToNat] at ho8;rw [←Ny219.out] at ho8));have n0_:=Aside0.mk (Kd.R_below (by (with_reducible repeat (first|apply Kd.R_alloc|apply Kd.R_drewN|apply Kd.R_drew));exact HO218.out) hb);have n1_:=Aside0.mk (Kd.R_lower ho8 (below_size (by repeat (first|(with_reducible first|exact HB.out|apply below_alloc|apply pw_below_drewN|apply below_drew1)|exact HB.out))));have n2_:=Aside0.mk (below_step (by repeat (first|(with_reducible first|exact HB.out|apply below_alloc|apply pw_below_drewN|apply below_drew1)|exact HB.out)) hb);clear HO218;clear HB;have HO218:=n0_;have HO221:=n1_;have HB:=n2_;clear n0_ n1_ n2_;clear hb ho8;obtain ⟨Ao9,co9,eo9⟩:=Kd.R_slice HO218.out;subst eo9;obtain ⟨Ao10,co10,eo10⟩:=Kd.R_slice HO221.out;subst eo10)|((with_reducible refine gate_callee (f:=123) rfl ?_);refine goesL_ (some 12) rfl rfl Try.func123 (by kernel_rfl) rfl #[.slice A0 l0.length c0,.slice Ao9 y216.length co9,.int .i64 a1,.int .i64 a2,.slice Ao10 y219.length co10] rfl (by (try simp only [List.map_toArray,List.map_cons,List.map_nil]);first|done|rfl|(simp only [List.length_drop,List.length_take];rfl)) ?_;(with_reducible refine (spec_l11Try.calls k _ _ l0 _ _ y216 a1 a2 (fun k_=>some k_=(.slice Ao10 y219.length co10:Value).ownBlock) (.slice Ao10 y219.length co10) y219 t222 w _ ?side1 ?side2 ?side3 ?side4 ?side5 ?side6 A4.out).mono ?_);(case side1=>repeat (first|(with_reducible first|exact HB.out|apply below_alloc|apply pw_below_drewN|apply below_drew1)|exact HB.out));(case side2=>exact Kd.C_kept_came k47_heap HR0.out (by repeat (first|(with_reducible first|exact HB.out|apply below_alloc|apply pw_below_drewN|apply below_drew1)|exact HB.out)) (fun k_ hs_=>(fun e_=>Kd.R_base HO221.out k_ e_.symm) hs_));(case side3=>exact HC0.out);(case side4=>exact Kd.C_kept_own ((Kd.R_apart' HO218.out (Kd.R_typed HO221.out) (by decide))) (fun k_ hk_ hs_=>(hk_.2) hs_));(case side5=>exact (Kd.R_reads' HO218.out).2.1);(case side6=>exact Kd.R_tight rfl HO221.out);rintro e w11 ⟨v223,rfl,ho0,hb,hkp⟩;refine ⟨_,rfl,?_⟩;have n0_:=Aside0.mk (Kd.R_mono (ok':=fun k_=>True) (Kd.R_keptB ((Kd.R_apart' HO218.out (Kd.R_typed HO221.out) (by decide))) hkp (fun k_ hk_ hs_=>(hk_.2) hs_)) (fun k_ hk_=>trivial));have n1_:=Aside0.mk (Kd.R_mono (ok':=fun k_=>True) ho0 (fun k_ hk_=>trivial));have n2_:=Aside0.mk (hb);clear HO218;clear HB;clear HO221;have HO218:=n0_;have HO224:=n1_;have HB:=n2_;clear n0_ n1_ n2_;(try clear hb);(try clear hkp);(try clear ho0)))
 go_ret
 exact ⟨_,by first|rfl|(simp [errW_none,errW_some] <;> rfl)|(simp [*,errW_none,errW_some] <;> rfl),by (with_reducible repeat (first|apply Kd.R_alloc|apply Kd.R_drewN|apply Kd.R_drew));exact HO224.out,by repeat (first|(with_reducible first|exact HB.out|apply below_alloc|apply pw_below_drewN|apply below_drew1)|exact HB.out)⟩

/-! ### spec_l11Below: function 124 -/
def spec_l11Below.f (a0_0:Int) (a0_1:Int) (a1_0:Int) (a1_1:Int) (a2_0:Int) (a2_1:Int):Option (Bool):=some (decide ((wrap64 ((wrap64 (a1_1 - a0_1)) * (wrap64 (a2_0 - a0_0))))≤(wrap64 ((wrap64 (a2_1 - a0_1)) * (wrap64 (a1_0 - a0_0))))))
set_option maxHeartbeats 8000000 in
set_option maxRecDepth 100000 in
theorem spec_l11Below.calls (a0_0:Int) (a0_1:Int) (a1_0:Int) (a1_1:Int) (a2_0:Int) (a2_1:Int) (r:Bool) (w:World) (h:spec_l11Below.f a0_0 a0_1 a1_0 a1_1 a2_0 a2_1=some r) :
  Calls Try.prog 124 #[.agg #[.int .i64 a0_0,.int .i64 a0_1],.agg #[.int .i64 a1_0,.int .i64 a1_1],.agg #[.int .i64 a2_0,.int .i64 a2_1]] w fun e w'=>e=.returned (.bool r)∧Below w.heap.size w w':=by
 have hu45:=Try.underlying45
 have HB:=Aside0.mk (Below.refl w.heap.size w)
 have H:(some (decide ((wrap64 ((wrap64 (a1_1 - a0_1)) * (wrap64 (a2_0 - a0_0))))≤(wrap64 ((wrap64 (a2_1 - a0_1)) * (wrap64 (a1_0 - a0_0)))))))=some r:=h
 clear h
 obtain rfl:=Option.some.inj H
 go_enter Try.func124,Try.ntmps124
 go_wp2_with (first|((with_reducible refine gate_dst (N:=3) rfl ?_);refine box_event ?hg (N:=3) ?hd (cs:=#[.int .i64 a0_0,.int .i64 a0_1]) (t:=45) ?hr ?_;(case hd=>rfl);(case hg=>rfl);(case hr=>first|(go_simp;done)|(go_simp;rfl));intro gb225 hg w4 hbox hb;have n0_:=Aside0.mk (below_step (by repeat (first|(with_reducible first|exact HB.out|apply below_alloc|apply pw_below_drewN|apply below_drew1)|exact HB.out)) hb);have n1_:=Aside0.mk (hbox);have n2_:=Aside0.mk ((by rw [hg];exact (below_size (by repeat (first|(with_reducible first|exact HB.out|apply below_alloc|apply pw_below_drewN|apply below_drew1)|exact HB.out))):w.heap.size≤gb225));have n3_:=Aside0.mk ((by rw [hg];exact (below_size (by repeat (first|(with_reducible first|exact HB.out|apply below_alloc|apply pw_below_drewN|apply below_drew1)|exact HB.out))):w.heap.size≤gb225));clear HB;have HB:=n0_;have BK225:=n1_;have GW225:=n2_;have GE225:=n3_;clear n0_ n1_ n2_ n3_;clear hb hbox hg)|((with_reducible refine gate_dst (N:=4) rfl ?_);refine box_event ?hg (N:=4) ?hd (cs:=#[.int .i64 a1_0,.int .i64 a1_1]) (t:=45) ?hr ?_;(case hd=>rfl);(case hg=>rfl);(case hr=>first|(go_simp;done)|(go_simp;rfl));intro gb226 hg w5 hbox hb;have n0_:=Aside0.mk (blk_below (g:=gb225) (o:=.cells #[.int .i64 a0_0,.int .i64 a0_1] 45 (0,0)) (by (with_reducible repeat (first|refine blk_drewN ?_ _|refine blk_drew ?_|refine blk_alloc ?_ _));exact BK225.out) hb);have n1_:=Aside0.mk (below_step (by repeat (first|(with_reducible first|exact HB.out|apply below_alloc|apply pw_below_drewN|apply below_drew1|refine below_set ?_ GE225.out)|exact HB.out)) hb);have n2_:=Aside0.mk (hbox);have n3_:=Aside0.mk ((by rw [hg];exact (below_size (by repeat (first|(with_reducible first|exact HB.out|apply below_alloc|apply pw_below_drewN|apply below_drew1|refine below_set ?_ GE225.out)|exact HB.out))):w.heap.size≤gb226));have n4_:=Aside0.mk ((by rw [hg];exact (below_size (by repeat (first|(with_reducible first|exact HB.out|apply below_alloc|apply pw_below_drewN|apply below_drew1|refine below_set ?_ GE225.out)|exact HB.out))):w.heap.size≤gb226));have n5_:=Aside0.mk ((by rw [hg];exact Nat.ne_of_lt (blk_lt (g:=gb225) (o:=.cells #[.int .i64 a0_0,.int .i64 a0_1] 45 (0,0)) (by (with_reducible repeat (first|refine blk_drewN ?_ _|refine blk_drew ?_|refine blk_alloc ?_ _));exact BK225.out)):gb225≠gb226));have n6_:=Aside0.mk ((by rw [hg];exact Nat.ne_of_gt (blk_lt (g:=gb225) (o:=.cells #[.int .i64 a0_0,.int .i64 a0_1] 45 (0,0)) (by (with_reducible repeat (first|refine blk_drewN ?_ _|refine blk_drew ?_|refine blk_alloc ?_ _));exact BK225.out)):gb226≠gb225));clear BK225;clear HB;have BK225:=n0_;have HB:=n1_;have BK226:=n2_;have GW226:=n3_;have GE226:=n4_;have NB225_226:=n5_;have NB226_225:=n6_;clear n0_ n1_ n2_ n3_ n4_ n5_ n6_;clear hb hbox hg)|((with_reducible refine gate_dst (N:=5) rfl ?_);refine box_event ?hg (N:=5) ?hd (cs:=#[.int .i64 a2_0,.int .i64 a2_1]) (t:=45) ?hr ?_;(case hd=>rfl);(case hg=>rfl);(case hr=>first|(go_simp;done)|(go_simp;rfl));intro gb227 hg w6 hbox hb;have n0_:=Aside0.mk (blk_below (g:=gb225) (o:=.cells #[.int .i64 a0_0,.int .i64 a0_1] 45 (0,0)) (by (with_reducible repeat (first|refine blk_drewN ?_ _|refine blk_drew ?_|refine blk_alloc ?_ _));exact BK225.out) hb);have n1_:=Aside0.mk (blk_below (g:=gb226) (o:=.cells #[.int .i64 a1_0,.int .i64 a1_1] 45 (0,0)) (by (with_reducible repeat (first|refine blk_drewN ?_ _|refine blk_drew ?_|refine blk_alloc ?_ _));exact BK226.out) hb);have n2_:=Aside0.mk (below_step (by repeat (first|(with_reducible first|exact HB.out|apply below_alloc|apply pw_below_drewN|apply below_drew1|refine below_set ?_ GE225.out|refine below_set ?_ GE226.out)|exact HB.out)) hb);have n3_:=Aside0.mk (hbox);have n4_:=Aside0.mk ((by rw [hg];exact (below_size (by repeat (first|(with_reducible first|exact HB.out|apply below_alloc|apply pw_below_drewN|apply below_drew1|refine below_set ?_ GE225.out|refine below_set ?_ GE226.out)|exact HB.out))):w.heap.size≤gb227));have n5_:=Aside0.mk ((by rw [hg];exact (below_size (by repeat (first|(with_reducible first|exact HB.out|apply below_alloc|apply pw_below_drewN|apply below_drew1|refine below_set ?_ GE225.out|refine below_set ?_ GE226.out)|exact HB.out))):w.heap.size≤gb227));have n6_:=Aside0.mk ((by rw [hg];exact Nat.ne_of_lt (blk_lt (g:=gb225) (o:=.cells #[.int .i64 a0_0,.int .i64 a0_1] 45 (0,0)) (by (with_reducible repeat (first|refine blk_drewN ?_ _|refine blk_drew ?_|refine blk_alloc ?_ _));exact BK225.out)):gb225≠gb227));have n7_:=Aside0.mk ((by rw [hg];exact Nat.ne_of_gt (blk_lt (g:=gb225) (o:=.cells #[.int .i64 a0_0,.int .i64 a0_1] 45 (0,0)) (by (with_reducible repeat (first|refine blk_drewN ?_ _|refine blk_drew ?_|refine blk_alloc ?_ _));exact BK225.out)):gb227≠gb225));have n8_:=Aside0.mk ((by rw [hg];exact Nat.ne_of_lt (blk_lt (g:=gb226) (o:=.cells #[.int .i64 a1_0,.int .i64 a1_1] 45 (0,0)) (by (with_reducible repeat (first|refine blk_drewN ?_ _|refine blk_drew ?_|refine blk_alloc ?_ _));exact BK226.out)):gb226≠gb227));have n9_:=Aside0.mk ((by rw [hg];exact Nat.ne_of_gt (blk_lt (g:=gb226) (o:=.cells #[.int .i64 a1_0,.int .i64 a1_1] 45 (0,0)) (by (with_reducible repeat (first|refine blk_drewN ?_ _|refine blk_drew ?_|refine blk_alloc ?_ _));exact BK226.out)):gb227≠gb226));clear BK225;clear BK226;clear HB;have BK225:=n0_;have BK226:=n1_;have HB:=n2_;have BK227:=n3_;have GW227:=n4_;have GE227:=n5_;have NB225_227:=n6_;have NB227_225:=n7_;have NB226_227:=n8_;have NB227_226:=n9_;clear n0_ n1_ n2_ n3_ n4_ n5_ n6_ n7_ n8_ n9_;clear hb hbox hg;have hnb7:=NB226_225.out;have hnc7:=NB225_226.out;have hnb8:=NB226_227.out;have hnc8:=NB227_226.out;have hcz9_0:w6.cell? ⟨gb226,0,none⟩=some (.int .i64 a1_0):=(blk_cell BK226.out 0).trans rfl;have hcz9_1:w6.cell? ⟨gb226,1,none⟩=some (.int .i64 a1_1):=(blk_cell BK226.out 1).trans rfl;have hfz9_0:=blk_frozen BK226.out 0;have hfz9_1:=blk_frozen BK226.out 1;have hnb10:=NB225_227.out;have hnc10:=NB227_225.out;have hcz11_0:w6.cell? ⟨gb225,0,none⟩=some (.int .i64 a0_0):=(blk_cell BK225.out 0).trans rfl;have hcz11_1:w6.cell? ⟨gb225,1,none⟩=some (.int .i64 a0_1):=(blk_cell BK225.out 1).trans rfl;have hfz11_0:=blk_frozen BK225.out 0;have hfz11_1:=blk_frozen BK225.out 1;have hcz12_0:w6.cell? ⟨gb227,0,none⟩=some (.int .i64 a2_0):=(blk_cell BK227.out 0).trans rfl;have hcz12_1:w6.cell? ⟨gb227,1,none⟩=some (.int .i64 a2_1):=(blk_cell BK227.out 1).trans rfl;have hfz12_0:=blk_frozen BK227.out 0;have hfz12_1:=blk_frozen BK227.out 1))
 go_ret
 exact ⟨by first|rfl|(simp [errW_none,errW_some] <;> rfl)|(simp [*,errW_none,errW_some] <;> rfl),by repeat (first|(with_reducible first|exact HB.out|apply below_alloc|apply pw_below_drewN|apply below_drew1|refine below_set ?_ GE225.out|refine below_set ?_ GE226.out|refine below_set ?_ GE227.out)|exact HB.out)⟩

end Go.Proofs.Ytplbabjigikgjaa.XFnExactSupportedPoints
-- minified
