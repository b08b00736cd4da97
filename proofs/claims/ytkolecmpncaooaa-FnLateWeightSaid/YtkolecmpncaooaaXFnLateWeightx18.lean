-- Written by a program of this session (the kit's print, widened). Proved here: what each function answers, for the arguments that its contract names.
import Derived.Test.YtkolecmpncaooaaXFnLateWeightx0
import Derived.Test.YtkolecmpncaooaaXFnLateWeightx3
import Derived.Test.YtkolecmpncaooaaXFnLateWeightx9
import Derived.Test.YtkolecmpncaooaaXFnLateWeightx10
import Derived.Test.YtkolecmpncaooaaXFnLateWeightx13
import Derived.Test.YtkolecmpncaooaaXFnLateWeightx17
namespace Go.Proofs.Ytkolecmpncaooaa.XFnLateWeight
open Go.RowKit Go.Proofs.YtkolecmpncaooaaW.PrintWords Go.Proofs.YtkolecmpncaooaaW.PrintLast Go.Proofs.YtkolecmpncaooaaW.PrintMore
attribute [local go_sem] max2_int min2_int max_two min_two max_three min_three max_four min_four   -- for this text's walks alone
attribute [local go_sem] idxA_51_0 idxA_51_1 fldS_45_0 fldS_45_1 fldS_45_2 fldS_96_0 fldS_96_1 fldS_96_2
set_option linter.unusedVariables false
set_option linter.unusedSimpArgs false

/-! ### impl_BestValue: function 31 -/
def impl_BestValue.f (k:Nat) (l0:List (S31)) (a1:Int):Option (Int × Bool):=(impl_IsJobs.f k l0).bind fun t449=>(if t449=true then ((impl_isObjective.f a1).bind fun t450=>(if t450=true then ((impl_best.f k l0 a1).bind fun bt451=>(some (bt451.2.1,true))) else (some (0,false)))) else (some (0,false)))
theorem impl_BestValue.mono:∀ a0 a1 k,LeO (impl_BestValue.f k a0 a1) (impl_BestValue.f (k + 1) a0 a1):=by
 intro a0 a1 k
 unfold impl_BestValue.f
 repeat' first|(with_reducible first|exact impl_IsJobs.mono _ _|exact impl_best.mono _ _ _|exact LeO.refl _|exact LeO.none _|refine LeO.ite ?_ ?_|refine LeO.bind ?_ (fun _=>?_))|exact impl_IsJobs.mono _ _|exact impl_best.mono _ _ _|exact LeO.none _|refine LeO.ite ?_ ?_|refine LeO.bind ?_ (fun _=>?_)
set_option maxHeartbeats 8000000 in
set_option maxRecDepth 100000 in
theorem impl_BestValue.calls (k:Nat) (A0:Option Addr) (c0:Nat) (l0:List (S31)) (a1:Int) (r1:Int) (r2:Bool) (w:World) (hr0:Kd.C k31 w A0 l0.length l0) (hc0:l0.length≤c0) (h:impl_BestValue.f k l0 a1=some (r1,r2)) :
  Calls Try.prog 31 #[.slice A0 l0.length c0,.int .i64 a1] w fun e w'=>e=.returned (.tuple #[.int .i64 r1,.bool r2])∧Below w.heap.size w w':=by
 have HR0:=Aside0.mk hr0
 have HC0:=Aside0.mk hc0
 clear hr0 hc0
 have HB:=Aside0.mk (Below.refl w.heap.size w)
 have H:((impl_IsJobs.f k l0).bind fun t449=>(if t449=true then ((impl_isObjective.f a1).bind fun t450=>(if t450=true then ((impl_best.f k l0 a1).bind fun bt451=>(some (bt451.2.1,true))) else (some (0,false)))) else (some (0,false))))=some (r1,r2):=h
 clear h
 replace H:=Option.bind_eq_some_iff.mp H
 obtain ⟨t449,A30,H⟩:=H
 try dsimp only at H
 have A3:=Aside0.mk A30
 clear A30
 by_cases c4:t449=true
 rotate_left
 ·replace c4:=Bool.eq_false_iff.mpr c4
  subst c4
  rw [if_neg (show ¬ (false=true) by decide)] at H
  simp only [Option.some.injEq,Prod.mk.injEq] at H
  obtain ⟨rfl,rfl⟩:=H
  go_enter Try.func31,Try.ntmps31
  go_wp2_with (first|((with_reducible refine gate_callee (f:=56) rfl ?_);refine zgo 10 Try.func56 #[.slice A0 l0.length c0] ?_;(with_reducible refine (impl_IsJobs.calls k _ _ l0 false _ ?side1 ?side2 A3.out).mono ?_);(case side1=>exact zC HR0.out);(case side2=>exact HC0.out);rintro e w11 ⟨rfl,hb⟩;refine ⟨_,rfl,?_⟩;replace HB:=zb1 hb;(try clear hb)))
  go_ret2
  exact ⟨zz0,zb⟩
 subst c4
 rw [if_pos rfl] at H
 replace H:=Option.bind_eq_some_iff.mp H
 obtain ⟨t450,A50,H⟩:=H
 try dsimp only at H
 have A5:=Aside0.mk A50
 clear A50
 by_cases c6:t450=true
 rotate_left
 ·replace c6:=Bool.eq_false_iff.mpr c6
  subst c6
  rw [if_neg (show ¬ (false=true) by decide)] at H
  simp only [Option.some.injEq,Prod.mk.injEq] at H
  obtain ⟨rfl,rfl⟩:=H
  go_enter Try.func31,Try.ntmps31
  go_wp2_with (first|((with_reducible refine gate_callee (f:=56) rfl ?_);refine zgo 10 Try.func56 #[.slice A0 l0.length c0] ?_;(with_reducible refine (impl_IsJobs.calls k _ _ l0 true _ ?side1 ?side2 A3.out).mono ?_);(case side1=>exact zC HR0.out);(case side2=>exact HC0.out);rintro e w10 ⟨rfl,hb⟩;refine ⟨_,rfl,?_⟩;replace HB:=zb1 hb;(try clear hb))|(go_at_call 68;(with_reducible refine (impl_isObjective.calls a1 false _ A5.out).mono ?_);rintro e w' ⟨rfl,⟨nd,rfl⟩⟩))
  go_ret2
  exact ⟨zz0,zb⟩
 subst c6
 rw [if_pos rfl] at H
 replace H:=Option.bind_eq_some_iff.mp H
 obtain ⟨⟨t451,t452,t453⟩,A70,H⟩:=H
 try dsimp only at H
 have A7:=Aside0.mk A70
 clear A70
 simp only [Option.some.injEq,Prod.mk.injEq] at H
 obtain ⟨rfl,rfl⟩:=H
 go_enter Try.func31,Try.ntmps31
 go_wp2_with (first|((with_reducible refine gate_callee (f:=56) rfl ?_);refine zgo 10 Try.func56 #[.slice A0 l0.length c0] ?_;(with_reducible refine (impl_IsJobs.calls k _ _ l0 true _ ?side1 ?side2 A3.out).mono ?_);(case side1=>exact zC HR0.out);(case side2=>exact HC0.out);rintro e w8 ⟨rfl,hb⟩;refine ⟨_,rfl,?_⟩;replace HB:=zb1 hb;(try clear hb))|(go_at_call 68;(with_reducible refine (impl_isObjective.calls a1 true _ A5.out).mono ?_);rintro e w' ⟨rfl,⟨nd,rfl⟩⟩)|((with_reducible refine gate_callee (f:=69) rfl ?_);refine zgo 20 Try.func69 #[.slice A0 l0.length c0,.int .i64 a1] ?_;(with_reducible refine (impl_best.calls k _ _ l0 a1 t451 t452 t453 _ ?side1 ?side2 A7.out).mono ?_);(case side1=>exact zC (Kd.C_below HR0.out zb));(case side2=>exact HC0.out);rintro e w9 ⟨v454,rfl,ho0,hb⟩;refine ⟨_,rfl,?_⟩;have HO455:=Aside0.mk (Kd.R_lower ho0 (below_size zb));replace HB:=zb1 hb;(try clear hb);(try clear ho0)))
 go_ret2
 exact ⟨zz0,zb⟩

/-! ### spec_l2Objective: function 70 -/
def spec_l2Objective.f (a0:Int):Option (Bool):=(spec_l1In.f a0 1 8).bind fun t456=>(some t456)
set_option maxHeartbeats 8000000 in
set_option maxRecDepth 100000 in
theorem spec_l2Objective.calls (a0:Int) (r:Bool) (w:World) (h:spec_l2Objective.f a0=some r) :
  Calls Try.prog 70 #[.int .i64 a0] w fun e w'=>e=.returned (.bool r)∧Drawn0 w w':=by
 have H:((spec_l1In.f a0 1 8).bind fun t456=>(some t456))=some r:=h
 clear h
 replace H:=Option.bind_eq_some_iff.mp H
 obtain ⟨t456,A20,H⟩:=H
 try dsimp only at H
 have A2:=Aside0.mk A20
 clear A20
 obtain rfl:=Option.some.inj H
 go_enter Try.func70,Try.ntmps70
 go_wp2_with (first|((with_reducible refine gate_callee (f:=78) rfl ?_);refine zgo 4 Try.func78 #[.int .i64 a0,.int .i64 1,.int .i64 8] ?_;(with_reducible refine (spec_l1In.calls a0 1 8 t456 _ A2.out).mono ?_);rintro e w' ⟨rfl,⟨nd,rfl⟩⟩;refine ⟨_,rfl,?_⟩))
 go_ret
 exact ⟨zz7,zz5⟩

/-! ### spec_l1Own: function 83 -/
def spec_l1Own.f (l0:List Int):Option (List Int):=(some (([]:List Int):List Int)).bind fun y457=>(if y457.length + l0.length<17592186044416 then (some (y457++l0)) else (none))
set_option maxHeartbeats 8000000 in
set_option maxRecDepth 100000 in
theorem spec_l1Own.calls (A0:Option Addr) (c0:Nat) (l0:List Int) (r:List Int) (w:World) (hr0:Kd.C (Kd.int .i64) w A0 l0.length l0) (hc0:l0.length≤c0) (h:spec_l1Own.f l0=some r) :
  Calls Try.prog 83 #[.slice A0 l0.length c0] w fun e w'=>∃ v0_:Value,e=.returned (v0_)∧Kd.R (Kd.int .i64) 3 w' w.heap.size (fun _=>True) v0_ r∧Below w.heap.size w w':=by
 have HR0:=Aside0.mk hr0
 have HC0:=Aside0.mk hc0
 clear hr0 hc0
 have HB:=Aside0.mk (Below.refl w.heap.size w)
 have H:((some (([]:List Int):List Int)).bind fun y457=>(if y457.length + l0.length<17592186044416 then (some (y457++l0)) else (none)))=some r:=h
 clear h
 obtain ⟨y457,hy457⟩:∃ y_:List Int,y_=(([]:List Int)):=⟨_,rfl⟩
 replace H:(if y457.length + l0.length<17592186044416 then (some (y457++l0)) else (none))=some r:=by first|(rw [hy457];with_reducible exact H)|(have H2_:=(Option.bind_some _ _).symm.trans H;rw [hy457];with_reducible exact H2_)|(have H2_:=(Option.bind_some _ _).symm.trans H;with_reducible exact H2_)|with_reducible exact H|(rw [hy457];exact H)|exact H
 have Ny457:=Aside0.mk hy457
 clear hy457
 by_cases c2:y457.length + l0.length<17592186044416
 rotate_left
 ·rw [if_neg c2] at H
  exact absurd H (by simp)
 rw [if_pos c2] at H
 have LMc2:=Aside0.mk c2
 clear c2
 obtain ⟨y460,hy460⟩:∃ y_:List Int,y_=(y457++l0):=⟨_,rfl⟩
 replace H:(some y460)=some r:=by first|(rw [hy460];with_reducible exact H)|(have H2_:=(Option.bind_some _ _).symm.trans H;rw [hy460];with_reducible exact H2_)|(have H2_:=(Option.bind_some _ _).symm.trans H;with_reducible exact H2_)|with_reducible exact H|(rw [hy460];exact H)|exact H
 have Ny460:=Aside0.mk hy460
 clear hy460
 obtain rfl:=Option.some.inj H
 go_enter Try.func83,Try.ntmps83
 go_wp2_with (first|((with_reducible refine gate_dst (N:=3) rfl ?_);refine Kd.R_lit (Kd.int .i64) _ 3 ?hg (N:=3) ?hd (xs:=([]:List Int)) (inner:=[]) (ok:=fun _=>True) (okp:=fun _=>True) ?hr ?hp (fun _ hk=>hk) trivial (Below.refl _ _) (Nat.le_refl _) (by simp) ?_;(case hd=>rfl);(case hg=>rfl);(case hr=>first|(go_simp;done)|(go_simp;rfl));(case hp=>exact (Reps.none _ _));intro v458 w3 ho4 hb hg_ hnew_;clear hg_ hnew_;(first|rw [←Ny457.out] at ho4|(simp only [Int.reduceToNat] at ho4;rw [←Ny457.out] at ho4));have HO459:=Aside0.mk (Kd.R_lower ho4 (below_size zb));replace HB:=zb1 hb;clear hb ho4)|((with_reducible refine gate_builtin (b:=.append) (xs:=#[.tmp 3,.tmp 4]) rfl ?_);at_builtin;refine Kd.R_append_rows (Kd.int .i64) (w0:=w) w.heap.size rfl (.tmp 3) (.tmp 4) 49 3 (.int .i64 0) 8 rfl Try.underlying49 info3 rfl (by decide) (by omega) v458 y457 l0 _ _ _ (fun _=>True) (fun _=>False) rfl rfl ?aO ?aR (fun _ _ h=>h) (fun _ h=>h.elim) ?aF ?aB ?aS ?aL ?_;(case aR=>exact zC (Kd.C_below HR0.out HB.out));(case aB=>exact zb);(case aF=>exact (fun _ _=>trivial));(case aO=>exact (zR HO459.out));(case aS=>exact (below_size zb));(case aL=>have:=LMc2.out;omega);intro v461 w5 ho hb hg hat;rw [←Ny460.out] at ho;replace HB:=Aside0.mk (hb);have HO462:=Aside0.mk (ho);clear HO459;clear ho hb hg hat))
 go_ret
 exact ⟨_,zz0,zR HO462.out,zb⟩

/-! ### spec_l2Greatest: function 117 -/
def spec_l2Greatest.f (a0:Int):Option (Bool):=if a0=1 then (some true) else (some (a0 == 4))
set_option maxHeartbeats 8000000 in
set_option maxRecDepth 100000 in
theorem spec_l2Greatest.calls (a0:Int) (r:Bool) (w:World) (h:spec_l2Greatest.f a0=some r) :
  Calls Try.prog 117 #[.int .i64 a0] w fun e w'=>e=.returned (.bool r)∧Drawn0 w w':=by
 have H:(if a0=1 then (some true) else (some (a0 == 4)))=some r:=h
 clear h
 by_cases c2:a0=1
 rotate_left
 ·rw [if_neg c2] at H
  have c2b0:(a0 == 1)=false:=beq_eq_false_iff_ne.mpr c2
  have c2b1:(a0 != 1)=true:=bne_iff_ne.mpr c2
  obtain rfl:=Option.some.inj H
  go_enter Try.func117,Try.ntmps117
  go_wp2
  go_ret
  exact ⟨zz7,zz5⟩
 rw [if_pos c2] at H
 have c2b0:(a0 == 1)=true:=beq_iff_eq.mpr c2
 have c2b1:(a0 != 1)=false:=bne_eq_false_iff_eq.mpr c2
 clear c2
 obtain rfl:=Option.some.inj H
 go_enter Try.func117,Try.ntmps117
 go_wp2
 go_ret
 exact ⟨zz7,zz5⟩

/-! ### spec_l2Cost: function 118 -/
def spec_l2Cost.f (a0_0:Int) (a0_1:Int) (a0_2:Int) (a0_3:Int) (a1:Int) (a2:Int):Option (Int):=(spec_l1Most.f (wrap64 (a1 - a0_3)) 0).bind fun t464=>(if a2=2 then (some a1) else (if a2=3 then (some (wrap64 (a0_1 * a1))) else (if a2=5 then (some t464) else (if a2=6 then (some (wrap64 (a0_1 * t464))) else (if t464=0 then (some 0) else (if a2=7 then (some 1) else (some a0_1)))))))
set_option maxHeartbeats 8000000 in
set_option maxRecDepth 100000 in
theorem spec_l2Cost.calls (a0_0:Int) (a0_1:Int) (a0_2:Int) (a0_3:Int) (a1:Int) (a2:Int) (r:Int) (w:World) (h:spec_l2Cost.f a0_0 a0_1 a0_2 a0_3 a1 a2=some r) :
  Calls Try.prog 118 #[.agg #[.int .i64 a0_0,.int .i64 a0_1,.int .i64 a0_2,.int .i64 a0_3],.int .i64 a1,.int .i64 a2] w fun e w'=>e=.returned (.int .i64 r)∧Below w.heap.size w w':=by
 have hu31:=Try.underlying31
 have HB:=Aside0.mk (Below.refl w.heap.size w)
 have H:((spec_l1Most.f (wrap64 (a1 - a0_3)) 0).bind fun t464=>(if a2=2 then (some a1) else (if a2=3 then (some (wrap64 (a0_1 * a1))) else (if a2=5 then (some t464) else (if a2=6 then (some (wrap64 (a0_1 * t464))) else (if t464=0 then (some 0) else (if a2=7 then (some 1) else (some a0_1))))))))=some r:=h
 clear h
 replace H:=Option.bind_eq_some_iff.mp H
 obtain ⟨t464,A40,H⟩:=H
 try dsimp only at H
 have A4:=Aside0.mk A40
 clear A40
 by_cases c5:a2=2
 ·rw [if_pos c5] at H
  have c5b0:(a2 == 2)=true:=beq_iff_eq.mpr c5
  have c5b1:(a2 != 2)=false:=bne_eq_false_iff_eq.mpr c5
  clear c5
  obtain rfl:=Option.some.inj H
  go_enter Try.func118,Try.ntmps118
  go_wp2_with (first|((with_reducible refine gate_dst (N:=3) rfl ?_);refine box_event ?hg (N:=3) ?hd (cs:=#[.int .i64 a0_0,.int .i64 a0_1,.int .i64 a0_2,.int .i64 a0_3]) (t:=31) ?hr ?_;(case hd=>rfl);(case hg=>rfl);(case hr=>first|(go_simp;done)|(go_simp;rfl));intro gb463 hg w6 hbox hb;have n0_:=zb1 hb;have n1_:=Aside0.mk (hbox);have n2_:=Aside0.mk ((by rw [hg];exact (below_size zb):w.heap.size≤gb463));have n3_:=Aside0.mk ((by rw [hg];exact (below_size zb):w.heap.size≤gb463));clear HB;have HB:=n0_;have BK463:=n1_;have GW463:=n2_;have GE463:=n3_;clear n0_ n1_ n2_ n3_;clear hb hbox hg;obtain ⟨hcz7_0,hcz7_1,hcz7_2,hcz7_3,hfz7_0,hfz7_1,hfz7_2,hfz7_3⟩:=zk4 BK463.out)|((with_reducible refine gate_callee (f:=63) rfl ?_);refine zgo 12 Try.func63 #[.int .i64 (wrap64 (a1 - a0_3)),.int .i64 0] ?_;(with_reducible refine (spec_l1Most.calls (wrap64 (a1 - a0_3)) 0 t464 _ A4.out).mono ?_);rintro e w' ⟨rfl,⟨nd,rfl⟩⟩;refine ⟨_,rfl,?_⟩))
  go_ret
  exact ⟨zz0,zz25⟩
 rw [if_neg c5] at H
 have c5b0:(a2 == 2)=false:=beq_eq_false_iff_ne.mpr c5
 have c5b1:(a2 != 2)=true:=bne_iff_ne.mpr c5
 by_cases c8:a2=3
 ·rw [if_pos c8] at H
  have c8b0:(a2 == 3)=true:=beq_iff_eq.mpr c8
  have c8b1:(a2 != 3)=false:=bne_eq_false_iff_eq.mpr c8
  clear c8
  obtain rfl:=Option.some.inj H
  go_enter Try.func118,Try.ntmps118
  go_wp2_with (first|((with_reducible refine gate_dst (N:=3) rfl ?_);refine box_event ?hg (N:=3) ?hd (cs:=#[.int .i64 a0_0,.int .i64 a0_1,.int .i64 a0_2,.int .i64 a0_3]) (t:=31) ?hr ?_;(case hd=>rfl);(case hg=>rfl);(case hr=>first|(go_simp;done)|(go_simp;rfl));intro gb463 hg w9 hbox hb;have n0_:=zb1 hb;have n1_:=Aside0.mk (hbox);have n2_:=Aside0.mk ((by rw [hg];exact (below_size zb):w.heap.size≤gb463));have n3_:=Aside0.mk ((by rw [hg];exact (below_size zb):w.heap.size≤gb463));clear HB;have HB:=n0_;have BK463:=n1_;have GW463:=n2_;have GE463:=n3_;clear n0_ n1_ n2_ n3_;clear hb hbox hg;obtain ⟨hcz10_0,hcz10_1,hcz10_2,hcz10_3,hfz10_0,hfz10_1,hfz10_2,hfz10_3⟩:=zk4 BK463.out)|((with_reducible refine gate_callee (f:=63) rfl ?_);refine zgo 12 Try.func63 #[.int .i64 (wrap64 (a1 - a0_3)),.int .i64 0] ?_;(with_reducible refine (spec_l1Most.calls (wrap64 (a1 - a0_3)) 0 t464 _ A4.out).mono ?_);rintro e w' ⟨rfl,⟨nd,rfl⟩⟩;refine ⟨_,rfl,?_⟩))
  go_ret
  exact ⟨zz0,zz25⟩
 rw [if_neg c8] at H
 have c8b0:(a2 == 3)=false:=beq_eq_false_iff_ne.mpr c8
 have c8b1:(a2 != 3)=true:=bne_iff_ne.mpr c8
 by_cases c11:a2=5
 ·rw [if_pos c11] at H
  have c11b0:(a2 == 5)=true:=beq_iff_eq.mpr c11
  have c11b1:(a2 != 5)=false:=bne_eq_false_iff_eq.mpr c11
  clear c11
  obtain rfl:=Option.some.inj H
  go_enter Try.func118,Try.ntmps118
  go_wp2_with (first|((with_reducible refine gate_dst (N:=3) rfl ?_);refine box_event ?hg (N:=3) ?hd (cs:=#[.int .i64 a0_0,.int .i64 a0_1,.int .i64 a0_2,.int .i64 a0_3]) (t:=31) ?hr ?_;(case hd=>rfl);(case hg=>rfl);(case hr=>first|(go_simp;done)|(go_simp;rfl));intro gb463 hg w12 hbox hb;have n0_:=zb1 hb;have n1_:=Aside0.mk (hbox);have n2_:=Aside0.mk ((by rw [hg];exact (below_size zb):w.heap.size≤gb463));have n3_:=Aside0.mk ((by rw [hg];exact (below_size zb):w.heap.size≤gb463));clear HB;have HB:=n0_;have BK463:=n1_;have GW463:=n2_;have GE463:=n3_;clear n0_ n1_ n2_ n3_;clear hb hbox hg;obtain ⟨hcz13_0,hcz13_1,hcz13_2,hcz13_3,hfz13_0,hfz13_1,hfz13_2,hfz13_3⟩:=zk4 BK463.out)|((with_reducible refine gate_callee (f:=63) rfl ?_);refine zgo 12 Try.func63 #[.int .i64 (wrap64 (a1 - a0_3)),.int .i64 0] ?_;(with_reducible refine (spec_l1Most.calls (wrap64 (a1 - a0_3)) 0 t464 _ A4.out).mono ?_);rintro e w' ⟨rfl,⟨nd,rfl⟩⟩;refine ⟨_,rfl,?_⟩))
  go_ret
  exact ⟨zz0,zz25⟩
 rw [if_neg c11] at H
 have c11b0:(a2 == 5)=false:=beq_eq_false_iff_ne.mpr c11
 have c11b1:(a2 != 5)=true:=bne_iff_ne.mpr c11
 by_cases c14:a2=6
 ·rw [if_pos c14] at H
  have c14b0:(a2 == 6)=true:=beq_iff_eq.mpr c14
  have c14b1:(a2 != 6)=false:=bne_eq_false_iff_eq.mpr c14
  clear c14
  obtain rfl:=Option.some.inj H
  go_enter Try.func118,Try.ntmps118
  go_wp2_with (first|((with_reducible refine gate_dst (N:=3) rfl ?_);refine box_event ?hg (N:=3) ?hd (cs:=#[.int .i64 a0_0,.int .i64 a0_1,.int .i64 a0_2,.int .i64 a0_3]) (t:=31) ?hr ?_;(case hd=>rfl);(case hg=>rfl);(case hr=>first|(go_simp;done)|(go_simp;rfl));intro gb463 hg w15 hbox hb;have n0_:=zb1 hb;have n1_:=Aside0.mk (hbox);have n2_:=Aside0.mk ((by rw [hg];exact (below_size zb):w.heap.size≤gb463));have n3_:=Aside0.mk ((by rw [hg];exact (below_size zb):w.heap.size≤gb463));clear HB;have HB:=n0_;have BK463:=n1_;have GW463:=n2_;have GE463:=n3_;clear n0_ n1_ n2_ n3_;clear hb hbox hg;obtain ⟨hcz16_0,hcz16_1,hcz16_2,hcz16_3,hfz16_0,hfz16_1,hfz16_2,hfz16_3⟩:=zk4 BK463.out)|((with_reducible refine gate_callee (f:=63) rfl ?_);refine zgo 12 Try.func63 #[.int .i64 (wrap64 (a1 - a0_3)),.int .i64 0] ?_;(with_reducible refine (spec_l1Most.calls (wrap64 (a1 - a0_3)) 0 t464 _ A4.out).mono ?_);rintro e w' ⟨rfl,⟨nd,rfl⟩⟩;refine ⟨_,rfl,?_⟩))
  go_ret
  exact ⟨zz0,zz25⟩
 rw [if_neg c14] at H
 have c14b0:(a2 == 6)=false:=beq_eq_false_iff_ne.mpr c14
 have c14b1:(a2 != 6)=true:=bne_iff_ne.mpr c14
 by_cases c17:t464=0
 ·rw [if_pos c17] at H
  have c17b0:(t464 == 0)=true:=beq_iff_eq.mpr c17
  have c17b1:(t464 != 0)=false:=bne_eq_false_iff_eq.mpr c17
  clear c17
  obtain rfl:=Option.some.inj H
  go_enter Try.func118,Try.ntmps118
  go_wp2_with (first|((with_reducible refine gate_dst (N:=3) rfl ?_);refine box_event ?hg (N:=3) ?hd (cs:=#[.int .i64 a0_0,.int .i64 a0_1,.int .i64 a0_2,.int .i64 a0_3]) (t:=31) ?hr ?_;(case hd=>rfl);(case hg=>rfl);(case hr=>first|(go_simp;done)|(go_simp;rfl));intro gb463 hg w18 hbox hb;have n0_:=zb1 hb;have n1_:=Aside0.mk (hbox);have n2_:=Aside0.mk ((by rw [hg];exact (below_size zb):w.heap.size≤gb463));have n3_:=Aside0.mk ((by rw [hg];exact (below_size zb):w.heap.size≤gb463));clear HB;have HB:=n0_;have BK463:=n1_;have GW463:=n2_;have GE463:=n3_;clear n0_ n1_ n2_ n3_;clear hb hbox hg;obtain ⟨hcz19_0,hcz19_1,hcz19_2,hcz19_3,hfz19_0,hfz19_1,hfz19_2,hfz19_3⟩:=zk4 BK463.out)|((with_reducible refine gate_callee (f:=63) rfl ?_);refine zgo 12 Try.func63 #[.int .i64 (wrap64 (a1 - a0_3)),.int .i64 0] ?_;(with_reducible refine (spec_l1Most.calls (wrap64 (a1 - a0_3)) 0 t464 _ A4.out).mono ?_);rintro e w' ⟨rfl,⟨nd,rfl⟩⟩;refine ⟨_,rfl,?_⟩))
  go_ret
  exact ⟨zz0,zz25⟩
 rw [if_neg c17] at H
 have c17b0:(t464 == 0)=false:=beq_eq_false_iff_ne.mpr c17
 have c17b1:(t464 != 0)=true:=bne_iff_ne.mpr c17
 by_cases c20:a2=7
 rotate_left
 ·rw [if_neg c20] at H
  have c20b0:(a2 == 7)=false:=beq_eq_false_iff_ne.mpr c20
  have c20b1:(a2 != 7)=true:=bne_iff_ne.mpr c20
  obtain rfl:=Option.some.inj H
  go_enter Try.func118,Try.ntmps118
  go_wp2_with (first|((with_reducible refine gate_dst (N:=3) rfl ?_);refine box_event ?hg (N:=3) ?hd (cs:=#[.int .i64 a0_0,.int .i64 a0_1,.int .i64 a0_2,.int .i64 a0_3]) (t:=31) ?hr ?_;(case hd=>rfl);(case hg=>rfl);(case hr=>first|(go_simp;done)|(go_simp;rfl));intro gb463 hg w23 hbox hb;have n0_:=zb1 hb;have n1_:=Aside0.mk (hbox);have n2_:=Aside0.mk ((by rw [hg];exact (below_size zb):w.heap.size≤gb463));have n3_:=Aside0.mk ((by rw [hg];exact (below_size zb):w.heap.size≤gb463));clear HB;have HB:=n0_;have BK463:=n1_;have GW463:=n2_;have GE463:=n3_;clear n0_ n1_ n2_ n3_;clear hb hbox hg;obtain ⟨hcz24_0,hcz24_1,hcz24_2,hcz24_3,hfz24_0,hfz24_1,hfz24_2,hfz24_3⟩:=zk4 BK463.out)|((with_reducible refine gate_callee (f:=63) rfl ?_);refine zgo 12 Try.func63 #[.int .i64 (wrap64 (a1 - a0_3)),.int .i64 0] ?_;(with_reducible refine (spec_l1Most.calls (wrap64 (a1 - a0_3)) 0 t464 _ A4.out).mono ?_);rintro e w' ⟨rfl,⟨nd,rfl⟩⟩;refine ⟨_,rfl,?_⟩))
  go_ret
  exact ⟨zz0,zz25⟩
 rw [if_pos c20] at H
 have c20b0:(a2 == 7)=true:=beq_iff_eq.mpr c20
 have c20b1:(a2 != 7)=false:=bne_eq_false_iff_eq.mpr c20
 clear c20
 obtain rfl:=Option.some.inj H
 go_enter Try.func118,Try.ntmps118
 go_wp2_with (first|((with_reducible refine gate_dst (N:=3) rfl ?_);refine box_event ?hg (N:=3) ?hd (cs:=#[.int .i64 a0_0,.int .i64 a0_1,.int .i64 a0_2,.int .i64 a0_3]) (t:=31) ?hr ?_;(case hd=>rfl);(case hg=>rfl);(case hr=>first|(go_simp;done)|(go_simp;rfl));intro gb463 hg w21 hbox hb;have n0_:=zb1 hb;have n1_:=Aside0.mk (hbox);have n2_:=Aside0.mk ((by rw [hg];exact (below_size zb):w.heap.size≤gb463));have n3_:=Aside0.mk ((by rw [hg];exact (below_size zb):w.heap.size≤gb463));clear HB;have HB:=n0_;have BK463:=n1_;have GW463:=n2_;have GE463:=n3_;clear n0_ n1_ n2_ n3_;clear hb hbox hg;obtain ⟨hcz22_0,hcz22_1,hcz22_2,hcz22_3,hfz22_0,hfz22_1,hfz22_2,hfz22_3⟩:=zk4 BK463.out)|((with_reducible refine gate_callee (f:=63) rfl ?_);refine zgo 12 Try.func63 #[.int .i64 (wrap64 (a1 - a0_3)),.int .i64 0] ?_;(with_reducible refine (spec_l1Most.calls (wrap64 (a1 - a0_3)) 0 t464 _ A4.out).mono ?_);rintro e w' ⟨rfl,⟨nd,rfl⟩⟩;refine ⟨_,rfl,?_⟩))
 go_ret
 exact ⟨zz0,zz25⟩

/-! ### spec_l2Of: function 115 -/
def spec_l2Of.l0:Nat→List (S31)→List Int→Int→Int→Int→Option (Int)
 | 0,_,_,_,_,_=>none
 | k + 1,x0,x1,x2,x7,x8=>if x8<(x0.length:Int) then ((spec_l2Greatest.f x2).bind fun t465=>(if t465=true then (if 0≤x8 then (if x8<(x1.length:Int) then (if x2=4 then (if x8=0 then (spec_l2Of.l0 k x0 x1 x2 (wrap64 ((rd x1 x8) - ((rd_T31 x0 x8).f3))) (wrap64 (x8 + 1))) else (if (wrap64 ((rd x1 x8) - ((rd_T31 x0 x8).f3)))>x7 then (spec_l2Of.l0 k x0 x1 x2 (wrap64 ((rd x1 x8) - ((rd_T31 x0 x8).f3))) (wrap64 (x8 + 1))) else (spec_l2Of.l0 k x0 x1 x2 x7 (wrap64 (x8 + 1))))) else (if x8=0 then (spec_l2Of.l0 k x0 x1 x2 (rd x1 x8) (wrap64 (x8 + 1))) else (if (rd x1 x8)>x7 then (spec_l2Of.l0 k x0 x1 x2 (rd x1 x8) (wrap64 (x8 + 1))) else (spec_l2Of.l0 k x0 x1 x2 x7 (wrap64 (x8 + 1)))))) else (none)) else (none)) else (if 0≤x8 then (if x8<(x1.length:Int) then ((spec_l2Cost.f ((rd_T31 x0 x8).f0) ((rd_T31 x0 x8).f1) ((rd_T31 x0 x8).f2) ((rd_T31 x0 x8).f3) (rd x1 x8) x2).bind fun t468=>(spec_l2Of.l0 k x0 x1 x2 (wrap64 (x7 + t468)) (wrap64 (x8 + 1)))) else (none)) else (none)))) else (some x7)
def spec_l2Of.f (k:Nat) (l0:List (S31)) (l1:List Int) (a2:Int):Option (Int):=spec_l2Of.l0 k l0 l1 a2 0 0
theorem spec_l2Of.mono_l:∀ k,(∀ y0 y1 y2 y3 y4,LeO (spec_l2Of.l0 k y0 y1 y2 y3 y4) (spec_l2Of.l0 (k + 1) y0 y1 y2 y3 y4))
 | 0=>fun _ _ _ _ _ r h=>by simp [spec_l2Of.l0] at h
 | k + 1=>by
  have ih0:=spec_l2Of.mono_l k
  ·intro y0 y1 y2 y3 y4
   unfold spec_l2Of.l0
   repeat' first|(with_reducible first|apply ih0|exact LeO.refl _|exact LeO.none _|refine LeO.ite ?_ ?_|refine LeO.bind ?_ (fun _=>?_))|apply ih0|exact LeO.none _|refine LeO.ite ?_ ?_|refine LeO.bind ?_ (fun _=>?_)
theorem spec_l2Of.mono:∀ a0 a1 a2 k,LeO (spec_l2Of.f k a0 a1 a2) (spec_l2Of.f (k + 1) a0 a1 a2):=by
 intro a0 a1 a2 k
 have ih0:=spec_l2Of.mono_l k
 unfold spec_l2Of.f
 repeat' first|(with_reducible first|apply ih0|exact LeO.refl _|exact LeO.none _|refine LeO.ite ?_ ?_|refine LeO.bind ?_ (fun _=>?_))|apply ih0|exact LeO.none _|refine LeO.ite ?_ ?_|refine LeO.bind ?_ (fun _=>?_)
def spec_l2Of.T6:Bool × List (List Nat × List Nat):=(true,[([],[]),([],[]),([],[]),([1,2],[1,2]),([3],[3]),([],[]),([],[]),([5,6],[5,6]),([7],[7]),([],[]),([4,8,9],[4,8,9]),([0,10],[0,10]),([11,10,0,1,2,3,4,5,6,7,8,9,10,11],[0,11])])
def spec_l2Of.B6:List Nat:=[0,0,0,6,14,0,0,96,224,0,1022,2047,4095]
theorem spec_l2Of.tab6:rtab .any (opsOf Try.f115 6)=spec_l2Of.T6:=by kernel_rfl
theorem spec_l2Of.bits6:waitsOk spec_l2Of.T6.2 spec_l2Of.B6=true:=by kernel_rfl
set_option maxHeartbeats 8000000 in
set_option maxRecDepth 100000 in
theorem spec_l2Of.calls (k:Nat) (A0:Option Addr) (c0:Nat) (l0:List (S31)) (A1:Option Addr) (c1:Nat) (l1:List Int) (a2:Int) (r:Int) (w:World) (hr0:Kd.C k31 w A0 l0.length l0) (hc0:l0.length≤c0) (hr1:Kd.C (Kd.int .i64) w A1 l1.length l1) (hc1:l1.length≤c1) (h:spec_l2Of.f k l0 l1 a2=some r) :
  Calls Try.prog 115 #[.slice A0 l0.length c0,.slice A1 l1.length c1,.int .i64 a2] w fun e w'=>e=.returned (.int .i64 r)∧Below w.heap.size w w':=by
 have hu31:=Try.underlying31
 have HR0:=Aside0.mk hr0
 have HC0:=Aside0.mk hc0
 clear hr0 hc0
 have HR1:=Aside0.mk hr1
 have HC1:=Aside0.mk hc1
 clear hr1 hc1
 have HB:=Aside0.mk (Below.refl w.heap.size w)
 have H:(spec_l2Of.l0 k l0 l1 a2 0 0)=some r:=h
 clear h
 have H':=Aside0.mk H
 clear H
 go_enter Try.func115,Try.ntmps115
 go_wp2
 go_loopg [7,8] k (fun kq v7 v8 w'=>∃ (x7_1:Int) (x8_1:Int),v7=.int .i64 x7_1∧v8=.int .i64 x8_1∧Aside0 (spec_l2Of.l0 kq l0 l1 a2 x7_1 x8_1=some r)∧Aside0 (kq≤k)∧Aside0 (Below w.heap.size w w'))
 case atStart=>exact ⟨(0),(0),zo,zo,H',⟨Nat.le_refl _⟩,⟨zb⟩⟩
 case round=>
  clear H'
  obtain ⟨x7_1,x8_1,rfl,rfl,HA,HK1,HB⟩:=hrel
  cases gk with
  | zero=>exact absurd HA.out (by simp [spec_l2Of.l0])
  | succ k1=>
   have H:=HA.out
   clear HA
   simp only [spec_l2Of.l0] at H
   by_cases c4:x8_1<(l0.length:Int)
   rotate_left
   ·rw [if_neg c4] at H
    have c4b0:=decide_eq_false c4
    clear c4
    obtain rfl:=Option.some.inj H
    go_wp2
    go_ret
    exact ⟨zz0,zb⟩
   rw [if_pos c4] at H
   have c4b0:=decide_eq_true c4
   clear c4
   replace H:=Option.bind_eq_some_iff.mp H
   obtain ⟨t465,A50,H⟩:=H
   try dsimp only at H
   have A5:=Aside0.mk A50
   clear A50
   by_cases c6:t465=true
   rotate_left
   ·replace c6:=Bool.eq_false_iff.mpr c6
    subst c6
    rw [if_neg (show ¬ (false=true) by decide)] at H
    by_cases c14:0≤x8_1
    rotate_left
    ·rw [if_neg c14] at H
     exact absurd H (by simp)
    rw [if_pos c14] at H
    have c14b0:=decide_eq_true c14
    clear c14
    by_cases c15:x8_1<(l1.length:Int)
    rotate_left
    ·rw [if_neg c15] at H
     exact absurd H (by simp)
    rw [if_pos c15] at H
    have c15b0:=decide_eq_true c15
    clear c15
    replace H:=Option.bind_eq_some_iff.mp H
    obtain ⟨t468,A160,H⟩:=H
    try dsimp only at H
    have A16:=Aside0.mk A160
    clear A160
    have H':=Aside0.mk H
    clear H
    try go_wp2_with (first|((with_reducible refine gate_callee (f:=117) rfl ?_);refine zgo 17 Try.func117 #[.int .i64 a2] ?_;(with_reducible refine (spec_l2Greatest.calls a2 false _ A5.out).mono ?_);rintro e w' ⟨rfl,⟨nd,rfl⟩⟩;refine ⟨_,rfl,?_⟩))
    (try (rw [drewN_self wr];generalize hq_:World.drewN wr _=wr;have n0_:Aside0 (Below w.heap.size w wr):=⟨by rw [←hq_];exact zb⟩;clear HB hq_;have HB:=n0_;clear n0_))
    replace HB:=Aside0.mk (below_drew1 HB.out)
    have p466:0≤(x8_1:Int):=of_decide_eq_true za
    have q466:x8_1<(l0.length:Int):=of_decide_eq_true za
    obtain ⟨ad466,e466,hx466_0,hx466_1,hx466_2,hx466_3⟩:=at_T31 HR0.out x8_1 p466 q466
    have hw466_3:=hx466_3
    have hw466_2:=hx466_2
    have hw466_1:=hx466_1
    have hw466_0:=hx466_0
    cases e466
    replace hx466_0:=zh_ HB hx466_0
    replace hx466_1:=zh_ HB hx466_1
    replace hx466_2:=zh_ HB hx466_2
    replace hx466_3:=zh_ HB hx466_3
    replace p466:=eq_true p466
    replace q466:=eq_true q466
    have p467:0≤(x8_1:Int):=of_decide_eq_true za
    have q467:x8_1<(l1.length:Int):=of_decide_eq_true za
    obtain ⟨ad467,e467,hx467_0⟩:=Kd.at_int HR1.out x8_1 p467 q467
    have hw467_0:=hx467_0
    cases e467
    replace hx467_0:=zh_ HB hx467_0
    replace p467:=eq_true p467
    replace q467:=eq_true q467
    refine start_ (n:=13) (S:=fun w'=>w'.cell? (ad466.add ((x8_1).toNat * 4))=some (.int .i64 ((rd_T31 l0 x8_1).f0))∧w'.cell? ⟨(ad466.add ((x8_1).toNat * 4)).block,(ad466.add ((x8_1).toNat * 4)).off + 1,none⟩=some (.int .i64 ((rd_T31 l0 x8_1).f1))∧w'.cell? ⟨(ad466.add ((x8_1).toNat * 4)).block,(ad466.add ((x8_1).toNat * 4)).off + 2,none⟩=some (.int .i64 ((rd_T31 l0 x8_1).f2))∧w'.cell? ⟨(ad466.add ((x8_1).toNat * 4)).block,(ad466.add ((x8_1).toNat * 4)).off + 3,none⟩=some (.int .i64 ((rd_T31 l0 x8_1).f3))∧w'.cell? (ad467.add (x8_1).toNat)=some (.int .i64 (rd l1 x8_1))) (ds:=[]) #[false,false,false,false,false,false,false,false,false,false,false,false,false] (by kernel_rfl) rfl rfl ⟨((HB.out.cell (World.block_lt_of_cell? w _ hw466_0)).trans hw466_0),((HB.out.cell (World.block_lt_of_cell? w _ hw466_1)).trans hw466_1),((HB.out.cell (World.block_lt_of_cell? w _ hw466_2)).trans hw466_2),((HB.out.cell (World.block_lt_of_cell? w _ hw466_3)).trans hw466_3),((HB.out.cell (World.block_lt_of_cell? w _ hw467_0)).trans hw467_0)⟩ (fun hHeld=>?_);refine with_tabW spec_l2Of.tab6 spec_l2Of.bits6 (fun HT_ HW_=>?_)
    generalize wr.drew=w17 at HB hx466_0 hx466_1 hx466_2 hx466_3 hx467_0 hHeld ⊢
    refine pu_ 0 19 ?_
    refine pu_ 1 20 ?_
    refine pu_ 2 21 ?_
    refine pu_ 3 22 ?_
    refine pu_ 5 24 ?_
    refine pu_ 6 25 ?_
    refine pu_ 7 26 ?_
    refine pu_ 9 28 ?_
    refine tk_ 4 23 hHeld ?_
    refine tk_ 8 27 hHeld ?_
    refine one_ (i:=10) (N:=some 29) #[true,true,true,true,true,true,true,true,true,true,true,false,false] rfl rfl (one_of HT_.out (by kernel_rfl)) (by decide) (fun K hK=>?_)
    refine goes_ Try.func118 (by kernel_rfl) rfl #[.agg #[.int .i64 ((rd_T31 l0 x8_1).f0),.int .i64 ((rd_T31 l0 x8_1).f1),.int .i64 ((rd_T31 l0 x8_1).f2),.int .i64 ((rd_T31 l0 x8_1).f3)],.int .i64 (rd l1 x8_1),.int .i64 a2] (by rfl) rfl rfl zl ?_
    with_reducible refine (spec_l2Cost.calls ((rd_T31 l0 x8_1).f0) ((rd_T31 l0 x8_1).f1) ((rd_T31 l0 x8_1).f2) ((rd_T31 l0 x8_1).f3) (rd l1 x8_1) a2 t468 _ A16.out).mono ?_
    rintro e w18 ⟨rfl,hb⟩
    refine ⟨_,rfl,?_⟩
    replace HB:=zb1 hb
    refine hK.out _ _ ⟨((HB.out.cell (World.block_lt_of_cell? w _ hw466_0)).trans hw466_0),((HB.out.cell (World.block_lt_of_cell? w _ hw466_1)).trans hw466_1),((HB.out.cell (World.block_lt_of_cell? w _ hw466_2)).trans hw466_2),((HB.out.cell (World.block_lt_of_cell? w _ hw466_3)).trans hw466_3),((HB.out.cell (World.block_lt_of_cell? w _ hw467_0)).trans hw467_0)⟩ (fun hHeld=>?_)
    clear hK K
    refine norm_ (a':=?_) ?_ ?_
    rotate_left
    ·show Act.put _ (some 29) _=_
     simp only [Act.put,List.setIfInBounds_toArray,List.set_cons_zero,List.set_cons_succ,i64_w,i32_w]
     rfl
    refine pu_ 11 30 ?_
    refine pu_ 12 7 ?_
    refine done_ (done_of HT_.out (by kernel_rfl)) ?_
    try go_wp2
    go_roundg k1
    case measure=>have:=HK1.out;omega
    case rel=>exact ⟨(wrap64 (x7_1 + t468)),(wrap64 (x8_1 + 1)),zo,zo,H',⟨by have:=HK1.out;omega⟩,⟨zb⟩⟩
   subst c6
   rw [if_pos rfl] at H
   by_cases c7:0≤x8_1
   rotate_left
   ·rw [if_neg c7] at H
    exact absurd H (by simp)
   rw [if_pos c7] at H
   have c7b0:=decide_eq_true c7
   clear c7
   by_cases c8:x8_1<(l1.length:Int)
   rotate_left
   ·rw [if_neg c8] at H
    exact absurd H (by simp)
   rw [if_pos c8] at H
   have c8b0:=decide_eq_true c8
   clear c8
   by_cases c9:a2=4
   rotate_left
   ·rw [if_neg c9] at H
    have c9b0:(a2 == 4)=false:=beq_eq_false_iff_ne.mpr c9
    have c9b1:(a2 != 4)=true:=bne_iff_ne.mpr c9
    by_cases c12:x8_1=0
    ·rw [if_pos c12] at H
     have c12b0:(x8_1 == 0)=true:=beq_iff_eq.mpr c12
     have c12b1:(x8_1 != 0)=false:=bne_eq_false_iff_eq.mpr c12
     clear c12
     have H':=Aside0.mk H
     clear H
     go_wp2_with (first|((with_reducible refine gate_callee (f:=117) rfl ?_);refine zgo 17 Try.func117 #[.int .i64 a2] ?_;(with_reducible refine (spec_l2Greatest.calls a2 true _ A5.out).mono ?_);rintro e w' ⟨rfl,⟨nd,rfl⟩⟩;refine ⟨_,rfl,?_⟩;have p469:0≤(x8_1:Int):=of_decide_eq_true za;have q469:x8_1<(l1.length:Int):=of_decide_eq_true za;obtain ⟨ad469,e469,hx469_0⟩:=Kd.at_int HR1.out x8_1 p469 q469;cases e469;replace hx469_0:=zh_ HB hx469_0;replace p469:=eq_true p469;replace q469:=eq_true q469))
     go_roundg k1
     case measure=>have:=HK1.out;omega
     case rel=>exact ⟨(rd l1 x8_1),(wrap64 (x8_1 + 1)),zo,zo,H',⟨by have:=HK1.out;omega⟩,⟨zb⟩⟩
    rw [if_neg c12] at H
    have c12b0:(x8_1 == 0)=false:=beq_eq_false_iff_ne.mpr c12
    have c12b1:(x8_1 != 0)=true:=bne_iff_ne.mpr c12
    by_cases c13:(rd l1 x8_1)>x7_1
    rotate_left
    ·rw [if_neg c13] at H
     have c13b0:=decide_eq_false c13
     clear c13
     have H':=Aside0.mk H
     clear H
     go_wp2_with (first|((with_reducible refine gate_callee (f:=117) rfl ?_);refine zgo 17 Try.func117 #[.int .i64 a2] ?_;(with_reducible refine (spec_l2Greatest.calls a2 true _ A5.out).mono ?_);rintro e w' ⟨rfl,⟨nd,rfl⟩⟩;refine ⟨_,rfl,?_⟩;have p469:0≤(x8_1:Int):=of_decide_eq_true za;have q469:x8_1<(l1.length:Int):=of_decide_eq_true za;obtain ⟨ad469,e469,hx469_0⟩:=Kd.at_int HR1.out x8_1 p469 q469;cases e469;replace hx469_0:=zh_ HB hx469_0;replace p469:=eq_true p469;replace q469:=eq_true q469))
     go_roundg k1
     case measure=>have:=HK1.out;omega
     case rel=>exact ⟨(x7_1),(wrap64 (x8_1 + 1)),zo,zo,H',⟨by have:=HK1.out;omega⟩,⟨zb⟩⟩
    rw [if_pos c13] at H
    have c13b0:=decide_eq_true c13
    clear c13
    have H':=Aside0.mk H
    clear H
    go_wp2_with (first|((with_reducible refine gate_callee (f:=117) rfl ?_);refine zgo 17 Try.func117 #[.int .i64 a2] ?_;(with_reducible refine (spec_l2Greatest.calls a2 true _ A5.out).mono ?_);rintro e w' ⟨rfl,⟨nd,rfl⟩⟩;refine ⟨_,rfl,?_⟩;have p469:0≤(x8_1:Int):=of_decide_eq_true za;have q469:x8_1<(l1.length:Int):=of_decide_eq_true za;obtain ⟨ad469,e469,hx469_0⟩:=Kd.at_int HR1.out x8_1 p469 q469;cases e469;replace hx469_0:=zh_ HB hx469_0;replace p469:=eq_true p469;replace q469:=eq_true q469))
    go_roundg k1
    case measure=>have:=HK1.out;omega
    case rel=>exact ⟨(rd l1 x8_1),(wrap64 (x8_1 + 1)),zo,zo,H',⟨by have:=HK1.out;omega⟩,⟨zb⟩⟩
   rw [if_pos c9] at H
   have c9b0:(a2 == 4)=true:=beq_iff_eq.mpr c9
   have c9b1:(a2 != 4)=false:=bne_eq_false_iff_eq.mpr c9
   clear c9
   by_cases c10:x8_1=0
   ·rw [if_pos c10] at H
    have c10b0:(x8_1 == 0)=true:=beq_iff_eq.mpr c10
    have c10b1:(x8_1 != 0)=false:=bne_eq_false_iff_eq.mpr c10
    clear c10
    have H':=Aside0.mk H
    clear H
    go_wp2_with (first|((with_reducible refine gate_callee (f:=117) rfl ?_);refine zgo 17 Try.func117 #[.int .i64 a2] ?_;(with_reducible refine (spec_l2Greatest.calls a2 true _ A5.out).mono ?_);rintro e w' ⟨rfl,⟨nd,rfl⟩⟩;refine ⟨_,rfl,?_⟩;have p469:0≤(x8_1:Int):=of_decide_eq_true za;have q469:x8_1<(l1.length:Int):=of_decide_eq_true za;obtain ⟨ad469,e469,hx469_0⟩:=Kd.at_int HR1.out x8_1 p469 q469;cases e469;replace hx469_0:=zh_ HB hx469_0;replace p469:=eq_true p469;replace q469:=eq_true q469;have p470:0≤(x8_1:Int):=of_decide_eq_true za;have q470:x8_1<(l0.length:Int):=of_decide_eq_true za;obtain ⟨ad470,e470,hx470_0,hx470_1,hx470_2,hx470_3⟩:=at_T31 HR0.out x8_1 p470 q470;cases e470;replace hx470_0:=zh_ HB hx470_0;replace hx470_1:=zh_ HB hx470_1;replace hx470_2:=zh_ HB hx470_2;replace hx470_3:=zh_ HB hx470_3;replace p470:=eq_true p470;replace q470:=eq_true q470))
    go_roundg k1
    case measure=>have:=HK1.out;omega
    case rel=>exact ⟨(wrap64 ((rd l1 x8_1) - ((rd_T31 l0 x8_1).f3))),(wrap64 (x8_1 + 1)),zo,zo,H',⟨by have:=HK1.out;omega⟩,⟨zb⟩⟩
   rw [if_neg c10] at H
   have c10b0:(x8_1 == 0)=false:=beq_eq_false_iff_ne.mpr c10
   have c10b1:(x8_1 != 0)=true:=bne_iff_ne.mpr c10
   by_cases c11:(wrap64 ((rd l1 x8_1) - ((rd_T31 l0 x8_1).f3)))>x7_1
   rotate_left
   ·rw [if_neg c11] at H
    have c11b0:=decide_eq_false c11
    clear c11
    have H':=Aside0.mk H
    clear H
    go_wp2_with (first|((with_reducible refine gate_callee (f:=117) rfl ?_);refine zgo 17 Try.func117 #[.int .i64 a2] ?_;(with_reducible refine (spec_l2Greatest.calls a2 true _ A5.out).mono ?_);rintro e w' ⟨rfl,⟨nd,rfl⟩⟩;refine ⟨_,rfl,?_⟩;have p469:0≤(x8_1:Int):=of_decide_eq_true za;have q469:x8_1<(l1.length:Int):=of_decide_eq_true za;obtain ⟨ad469,e469,hx469_0⟩:=Kd.at_int HR1.out x8_1 p469 q469;cases e469;replace hx469_0:=zh_ HB hx469_0;replace p469:=eq_true p469;replace q469:=eq_true q469;have p470:0≤(x8_1:Int):=of_decide_eq_true za;have q470:x8_1<(l0.length:Int):=of_decide_eq_true za;obtain ⟨ad470,e470,hx470_0,hx470_1,hx470_2,hx470_3⟩:=at_T31 HR0.out x8_1 p470 q470;cases e470;replace hx470_0:=zh_ HB hx470_0;replace hx470_1:=zh_ HB hx470_1;replace hx470_2:=zh_ HB hx470_2;replace hx470_3:=zh_ HB hx470_3;replace p470:=eq_true p470;replace q470:=eq_true q470))
    go_roundg k1
    case measure=>have:=HK1.out;omega
    case rel=>exact ⟨(x7_1),(wrap64 (x8_1 + 1)),zo,zo,H',⟨by have:=HK1.out;omega⟩,⟨zb⟩⟩
   rw [if_pos c11] at H
   have c11b0:=decide_eq_true c11
   clear c11
   have H':=Aside0.mk H
   clear H
   go_wp2_with (first|((with_reducible refine gate_callee (f:=117) rfl ?_);refine zgo 17 Try.func117 #[.int .i64 a2] ?_;(with_reducible refine (spec_l2Greatest.calls a2 true _ A5.out).mono ?_);rintro e w' ⟨rfl,⟨nd,rfl⟩⟩;refine ⟨_,rfl,?_⟩;have p469:0≤(x8_1:Int):=of_decide_eq_true za;have q469:x8_1<(l1.length:Int):=of_decide_eq_true za;obtain ⟨ad469,e469,hx469_0⟩:=Kd.at_int HR1.out x8_1 p469 q469;cases e469;replace hx469_0:=zh_ HB hx469_0;replace p469:=eq_true p469;replace q469:=eq_true q469;have p470:0≤(x8_1:Int):=of_decide_eq_true za;have q470:x8_1<(l0.length:Int):=of_decide_eq_true za;obtain ⟨ad470,e470,hx470_0,hx470_1,hx470_2,hx470_3⟩:=at_T31 HR0.out x8_1 p470 q470;cases e470;replace hx470_0:=zh_ HB hx470_0;replace hx470_1:=zh_ HB hx470_1;replace hx470_2:=zh_ HB hx470_2;replace hx470_3:=zh_ HB hx470_3;replace p470:=eq_true p470;replace q470:=eq_true q470))
   go_roundg k1
   case measure=>have:=HK1.out;omega
   case rel=>exact ⟨(wrap64 ((rd l1 x8_1) - ((rd_T31 l0 x8_1).f3))),(wrap64 (x8_1 + 1)),zo,zo,H',⟨by have:=HK1.out;omega⟩,⟨zb⟩⟩

end Go.Proofs.Ytkolecmpncaooaa.XFnLateWeight
-- minified
