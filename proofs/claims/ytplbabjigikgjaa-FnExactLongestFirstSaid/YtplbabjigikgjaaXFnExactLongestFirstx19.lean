-- Written by a program of this session (the kit's print, widened). Proved here: what each function answers, for the arguments that its contract names.
import Derived.Test.YtplbabjigikgjaaXFnExactLongestFirstx0
import Derived.Test.YtplbabjigikgjaaXFnExactLongestFirstx1
import Derived.Test.YtplbabjigikgjaaXFnExactLongestFirstx8
import Derived.Test.YtplbabjigikgjaaXFnExactLongestFirstx16
import Derived.Test.YtplbabjigikgjaaXFnExactLongestFirstx17
import Derived.Test.YtplbabjigikgjaaXFnExactLongestFirstx18
namespace Go.Proofs.Ytplbabjigikgjaa.XFnExactLongestFirst
open Go.RowKit Go.Proofs.YtplbabjigikgjaaW.PrintWords Go.Proofs.YtplbabjigikgjaaW.PrintLast Go.Proofs.YtplbabjigikgjaaW.PrintMore
attribute [local go_sem] max2_int min2_int max_two min_two max_three min_three max_four min_four   -- for this text's walks alone
attribute [local go_sem] idxA_45_0 idxA_45_1 fldS_94_0 fldS_94_1 fldS_94_2 fldS_125_0 fldS_125_1 fldS_125_2
set_option linter.unusedVariables false
set_option linter.unusedSimpArgs false

/-! ### laws_FnExactLongestFirst: function 3 -/
mutual
def laws_FnExactLongestFirst.j0:Nat→List (S83)→Int→List (S89)→Bool→List (S47)→List (S89)→Bool→Bool→Option (Bool)
 | 0,_,_,_,_,_,_,_,_=>none
 | k + 1,x0,x1,x6,x7,x8,x9,x10,x44=>if x44=true then (some false) else ((laws_toJobS.f k x0).bind fun t376=>((laws_eqJobS.f k x8 t376).bind fun t379=>(if t379=true then ((laws_markJobS.f k x8 1).bind fun bt380=>(if bt380.1<0 then (laws_FnExactLongestFirst.j1 k x0 x1 x6 x7 x9 true) else ((laws_eqTaskS.f k x9 x6).bind fun t382=>(if t382=true then (laws_FnExactLongestFirst.j1 k x0 x1 x6 x7 x9 (x10 != x7)) else (laws_FnExactLongestFirst.j1 k x0 x1 x6 x7 x9 true))))) else (some false))))
def laws_FnExactLongestFirst.j1:Nat→List (S83)→Int→List (S89)→Bool→List (S89)→Bool→Option (Bool)
 | 0,_,_,_,_,_,_=>none
 | k + 1,x0,x1,x6,x7,x9,x65=>if x65=true then (some false) else ((laws_markTaskS.f k x9 1).bind fun bt383=>((laws_heldTaskS.f k bt383.2 1).bind fun t385=>(if t385<0 then (some false) else (if t385=bt383.1 then ((laws_toJobS.f k x0).bind fun t386=>((impl_LongestFirst.f k t386 x1).bind fun bt389=>((laws_eqTaskS.f k bt389.1 x6).bind fun t393=>(if t393=true then (laws_FnExactLongestFirst.j2 k bt383.2 bt383.1 (bt389.2 != x7)) else (laws_FnExactLongestFirst.j2 k bt383.2 bt383.1 true))))) else (some false)))))
def laws_FnExactLongestFirst.j2:Nat→List (S89)→Int→Bool→Option (Bool)
 | 0,_,_,_=>none
 | k + 1,x9,x12,x92=>if x92=true then (some false) else ((laws_heldTaskS.f k x9 1).bind fun t394=>(if t394<0 then (some false) else (if t394=x12 then (some true) else (some false))))
end
def laws_FnExactLongestFirst.f (k:Nat) (l0:List (S83)) (a1:Int):Option (Bool):=(laws_szJobS.f l0 1048576).bind fun t360=>(if t360<0 then (some true) else ((laws_toJobS.f k l0).bind fun t361=>((spec_LongestFirst.f k t361 a1).bind fun bt364=>((laws_toJobS.f k l0).bind fun t368=>((impl_LongestFirst.f k t368 a1).bind fun bt371=>((laws_eqTaskS.f k bt371.1 bt364.1).bind fun t375=>(if t375=true then (laws_FnExactLongestFirst.j0 k l0 a1 bt364.1 bt364.2 t368 bt371.1 bt371.2 (bt371.2 != bt364.2)) else (laws_FnExactLongestFirst.j0 k l0 a1 bt364.1 bt364.2 t368 bt371.1 bt371.2 true))))))))
theorem laws_FnExactLongestFirst.mono_l:∀ k,(∀ y0 y1 y2 y3 y4 y5 y6 y7,LeO (laws_FnExactLongestFirst.j0 k y0 y1 y2 y3 y4 y5 y6 y7) (laws_FnExactLongestFirst.j0 (k + 1) y0 y1 y2 y3 y4 y5 y6 y7))∧(∀ y0 y1 y2 y3 y4 y5,LeO (laws_FnExactLongestFirst.j1 k y0 y1 y2 y3 y4 y5) (laws_FnExactLongestFirst.j1 (k + 1) y0 y1 y2 y3 y4 y5))∧(∀ y0 y1 y2,LeO (laws_FnExactLongestFirst.j2 k y0 y1 y2) (laws_FnExactLongestFirst.j2 (k + 1) y0 y1 y2))
 | 0=>⟨fun _ _ _ _ _ _ _ _ r h=>by simp [laws_FnExactLongestFirst.j0] at h,fun _ _ _ _ _ _ r h=>by simp [laws_FnExactLongestFirst.j1] at h,fun _ _ _ r h=>by simp [laws_FnExactLongestFirst.j2] at h⟩
 | k + 1=>by
  obtain ⟨ih0,ih1,ih2⟩:=laws_FnExactLongestFirst.mono_l k
  refine ⟨?_,?_,?_⟩
  ·intro y0 y1 y2 y3 y4 y5 y6 y7
   unfold laws_FnExactLongestFirst.j0
   repeat' first
   | (with_reducible exact ih0 _ _ _ _ _ _ _ _)
   | (with_reducible exact ih1 _ _ _ _ _ _)
   | (with_reducible exact ih2 _ _ _)
   | (with_reducible exact impl_LongestFirst.mono _ _ _)
   | (with_reducible exact laws_eqJobS.mono _ _ _)
   | (with_reducible exact laws_eqTaskS.mono _ _ _)
   | (with_reducible exact laws_heldTaskS.mono _ _ _)
   | (with_reducible exact laws_markJobS.mono _ _ _)
   | (with_reducible exact laws_markTaskS.mono _ _ _)
   | (with_reducible exact laws_toJobS.mono _ _)
   | (with_reducible exact spec_LongestFirst.mono _ _ _)
   | (with_reducible exact LeO.refl _)
   | (with_reducible exact LeO.none _)
   | (with_reducible refine LeO.ite ?_ ?_)
   | (with_reducible refine LeO.bind ?_ (fun _=>?_))
   | exact ih0 _ _ _ _ _ _ _ _
   | exact ih1 _ _ _ _ _ _
   | exact ih2 _ _ _
   | exact impl_LongestFirst.mono _ _ _
   | exact laws_eqJobS.mono _ _ _
   | exact laws_eqTaskS.mono _ _ _
   | exact laws_heldTaskS.mono _ _ _
   | exact laws_markJobS.mono _ _ _
   | exact laws_markTaskS.mono _ _ _
   | exact laws_toJobS.mono _ _
   | exact spec_LongestFirst.mono _ _ _
   | exact LeO.none _
   | refine LeO.ite ?_ ?_
   | refine LeO.bind ?_ (fun _=>?_)
  ·intro y0 y1 y2 y3 y4 y5
   unfold laws_FnExactLongestFirst.j1
   repeat' first
   | (with_reducible exact ih0 _ _ _ _ _ _ _ _)
   | (with_reducible exact ih1 _ _ _ _ _ _)
   | (with_reducible exact ih2 _ _ _)
   | (with_reducible exact impl_LongestFirst.mono _ _ _)
   | (with_reducible exact laws_eqJobS.mono _ _ _)
   | (with_reducible exact laws_eqTaskS.mono _ _ _)
   | (with_reducible exact laws_heldTaskS.mono _ _ _)
   | (with_reducible exact laws_markJobS.mono _ _ _)
   | (with_reducible exact laws_markTaskS.mono _ _ _)
   | (with_reducible exact laws_toJobS.mono _ _)
   | (with_reducible exact spec_LongestFirst.mono _ _ _)
   | (with_reducible exact LeO.refl _)
   | (with_reducible exact LeO.none _)
   | (with_reducible refine LeO.ite ?_ ?_)
   | (with_reducible refine LeO.bind ?_ (fun _=>?_))
   | exact ih0 _ _ _ _ _ _ _ _
   | exact ih1 _ _ _ _ _ _
   | exact ih2 _ _ _
   | exact impl_LongestFirst.mono _ _ _
   | exact laws_eqJobS.mono _ _ _
   | exact laws_eqTaskS.mono _ _ _
   | exact laws_heldTaskS.mono _ _ _
   | exact laws_markJobS.mono _ _ _
   | exact laws_markTaskS.mono _ _ _
   | exact laws_toJobS.mono _ _
   | exact spec_LongestFirst.mono _ _ _
   | exact LeO.none _
   | refine LeO.ite ?_ ?_
   | refine LeO.bind ?_ (fun _=>?_)
  ·intro y0 y1 y2
   unfold laws_FnExactLongestFirst.j2
   repeat' first
   | (with_reducible exact ih0 _ _ _ _ _ _ _ _)
   | (with_reducible exact ih1 _ _ _ _ _ _)
   | (with_reducible exact ih2 _ _ _)
   | (with_reducible exact impl_LongestFirst.mono _ _ _)
   | (with_reducible exact laws_eqJobS.mono _ _ _)
   | (with_reducible exact laws_eqTaskS.mono _ _ _)
   | (with_reducible exact laws_heldTaskS.mono _ _ _)
   | (with_reducible exact laws_markJobS.mono _ _ _)
   | (with_reducible exact laws_markTaskS.mono _ _ _)
   | (with_reducible exact laws_toJobS.mono _ _)
   | (with_reducible exact spec_LongestFirst.mono _ _ _)
   | (with_reducible exact LeO.refl _)
   | (with_reducible exact LeO.none _)
   | (with_reducible refine LeO.ite ?_ ?_)
   | (with_reducible refine LeO.bind ?_ (fun _=>?_))
   | exact ih0 _ _ _ _ _ _ _ _
   | exact ih1 _ _ _ _ _ _
   | exact ih2 _ _ _
   | exact impl_LongestFirst.mono _ _ _
   | exact laws_eqJobS.mono _ _ _
   | exact laws_eqTaskS.mono _ _ _
   | exact laws_heldTaskS.mono _ _ _
   | exact laws_markJobS.mono _ _ _
   | exact laws_markTaskS.mono _ _ _
   | exact laws_toJobS.mono _ _
   | exact spec_LongestFirst.mono _ _ _
   | exact LeO.none _
   | refine LeO.ite ?_ ?_
   | refine LeO.bind ?_ (fun _=>?_)
theorem laws_FnExactLongestFirst.mono:∀ a0 a1 k,LeO (laws_FnExactLongestFirst.f k a0 a1) (laws_FnExactLongestFirst.f (k + 1) a0 a1):=by
 intro a0 a1 k
 obtain ⟨ih0,ih1,ih2⟩:=laws_FnExactLongestFirst.mono_l k
 unfold laws_FnExactLongestFirst.f
 repeat' first
   | (with_reducible exact ih0 _ _ _ _ _ _ _ _)
   | (with_reducible exact ih1 _ _ _ _ _ _)
   | (with_reducible exact ih2 _ _ _)
   | (with_reducible exact impl_LongestFirst.mono _ _ _)
   | (with_reducible exact laws_eqJobS.mono _ _ _)
   | (with_reducible exact laws_eqTaskS.mono _ _ _)
   | (with_reducible exact laws_heldTaskS.mono _ _ _)
   | (with_reducible exact laws_markJobS.mono _ _ _)
   | (with_reducible exact laws_markTaskS.mono _ _ _)
   | (with_reducible exact laws_toJobS.mono _ _)
   | (with_reducible exact spec_LongestFirst.mono _ _ _)
   | (with_reducible exact LeO.refl _)
   | (with_reducible exact LeO.none _)
   | (with_reducible refine LeO.ite ?_ ?_)
   | (with_reducible refine LeO.bind ?_ (fun _=>?_))
   | exact ih0 _ _ _ _ _ _ _ _
   | exact ih1 _ _ _ _ _ _
   | exact ih2 _ _ _
   | exact impl_LongestFirst.mono _ _ _
   | exact laws_eqJobS.mono _ _ _
   | exact laws_eqTaskS.mono _ _ _
   | exact laws_heldTaskS.mono _ _ _
   | exact laws_markJobS.mono _ _ _
   | exact laws_markTaskS.mono _ _ _
   | exact laws_toJobS.mono _ _
   | exact spec_LongestFirst.mono _ _ _
   | exact LeO.none _
   | refine LeO.ite ?_ ?_
   | refine LeO.bind ?_ (fun _=>?_)
set_option maxHeartbeats 8000000 in
set_option maxRecDepth 100000 in
theorem laws_FnExactLongestFirst.calls (k:Nat) (A0:Option Addr) (c0:Nat) (l0:List (S83)) (a1:Int) (r:Bool) (w:World) (hr0:Kd.C k83 w A0 l0.length l0) (hc0:l0.length≤c0) (h:laws_FnExactLongestFirst.f k l0 a1=some r) :
  Calls Try.prog 3 #[.slice A0 l0.length c0,.int .i64 a1] w fun e w'=>e=.returned (.bool r)∧Below w.heap.size w w':=by
 have HR0:=Aside0.mk hr0
 have HC0:=Aside0.mk hc0
 clear hr0 hc0
 have HB:=Aside0.mk (Below.refl w.heap.size w)
 have H:((laws_szJobS.f l0 1048576).bind fun t360=>(if t360<0 then (some true) else ((laws_toJobS.f k l0).bind fun t361=>((spec_LongestFirst.f k t361 a1).bind fun bt364=>((laws_toJobS.f k l0).bind fun t368=>((impl_LongestFirst.f k t368 a1).bind fun bt371=>((laws_eqTaskS.f k bt371.1 bt364.1).bind fun t375=>(if t375=true then (laws_FnExactLongestFirst.j0 k l0 a1 bt364.1 bt364.2 t368 bt371.1 bt371.2 (bt371.2 != bt364.2)) else (laws_FnExactLongestFirst.j0 k l0 a1 bt364.1 bt364.2 t368 bt371.1 bt371.2 true)))))))))=some r:=h
 clear h
 replace H:=Option.bind_eq_some_iff.mp H
 obtain ⟨t360,A30,H⟩:=H
 replace H:(if t360<0 then (some true) else ((laws_toJobS.f k l0).bind fun t361=>((spec_LongestFirst.f k t361 a1).bind fun bt364=>((laws_toJobS.f k l0).bind fun t368=>((impl_LongestFirst.f k t368 a1).bind fun bt371=>((laws_eqTaskS.f k bt371.1 bt364.1).bind fun t375=>(if t375=true then (laws_FnExactLongestFirst.j0 k l0 a1 bt364.1 bt364.2 t368 bt371.1 bt371.2 (bt371.2 != bt364.2)) else (laws_FnExactLongestFirst.j0 k l0 a1 bt364.1 bt364.2 t368 bt371.1 bt371.2 true))))))))=some r:=H
 have A3:=Aside0.mk A30
 clear A30
 by_cases c4:t360<0
 ·rw [if_pos c4] at H
  have c4b0:decide (t360<0)=true:=decide_eq_true c4
  clear c4
  obtain rfl:=Option.some.inj H
  go_enter Try.func3,Try.ntmps3
  go_wp2_with (first|((with_reducible refine gate_callee (f:=9) rfl ?_);refine goesL_ (some 18) rfl rfl Try.func9 (by kernel_rfl) rfl #[.slice A0 l0.length c0,.int .i64 1048576] rfl zl ?_;(with_reducible refine (laws_szJobS.calls _ _ l0 1048576 t360 _ ?side1 ?side2 A3.out).mono ?_);(case side1=>exact zC HR0.out);(case side2=>exact HC0.out);rintro e w' ⟨rfl,⟨nd,rfl⟩⟩;refine ⟨_,rfl,?_⟩))
  go_ret
  exact ⟨by first|rfl|(simp [errW_none,errW_some] <;> rfl)|(simp [*,errW_none,errW_some] <;> rfl),zb⟩
 ·rw [if_neg c4] at H
  have c4b0:decide (t360<0)=false:=decide_eq_false c4
  clear c4
  replace H:=Option.bind_eq_some_iff.mp H
  obtain ⟨t361,A50,H⟩:=H
  replace H:((spec_LongestFirst.f k t361 a1).bind fun bt364=>((laws_toJobS.f k l0).bind fun t368=>((impl_LongestFirst.f k t368 a1).bind fun bt371=>((laws_eqTaskS.f k bt371.1 bt364.1).bind fun t375=>(if t375=true then (laws_FnExactLongestFirst.j0 k l0 a1 bt364.1 bt364.2 t368 bt371.1 bt371.2 (bt371.2 != bt364.2)) else (laws_FnExactLongestFirst.j0 k l0 a1 bt364.1 bt364.2 t368 bt371.1 bt371.2 true))))))=some r:=H
  have A5:=Aside0.mk A50
  clear A50
  replace H:=Option.bind_eq_some_iff.mp H
  obtain ⟨⟨t364,t365⟩,A60,H⟩:=H
  replace H:((laws_toJobS.f k l0).bind fun t368=>((impl_LongestFirst.f k t368 a1).bind fun bt371=>((laws_eqTaskS.f k bt371.1 t364).bind fun t375=>(if t375=true then (laws_FnExactLongestFirst.j0 k l0 a1 t364 t365 t368 bt371.1 bt371.2 (bt371.2 != t365)) else (laws_FnExactLongestFirst.j0 k l0 a1 t364 t365 t368 bt371.1 bt371.2 true)))))=some r:=H
  have A6:=Aside0.mk A60
  clear A60
  replace H:=Option.bind_eq_some_iff.mp H
  obtain ⟨t368,A70,H⟩:=H
  replace H:((impl_LongestFirst.f k t368 a1).bind fun bt371=>((laws_eqTaskS.f k bt371.1 t364).bind fun t375=>(if t375=true then (laws_FnExactLongestFirst.j0 k l0 a1 t364 t365 t368 bt371.1 bt371.2 (bt371.2 != t365)) else (laws_FnExactLongestFirst.j0 k l0 a1 t364 t365 t368 bt371.1 bt371.2 true))))=some r:=H
  have A7:=Aside0.mk A70
  clear A70
  replace H:=Option.bind_eq_some_iff.mp H
  obtain ⟨⟨t371,t372⟩,A80,H⟩:=H
  replace H:((laws_eqTaskS.f k t371 t364).bind fun t375=>(if t375=true then (laws_FnExactLongestFirst.j0 k l0 a1 t364 t365 t368 t371 t372 (t372 != t365)) else (laws_FnExactLongestFirst.j0 k l0 a1 t364 t365 t368 t371 t372 true)))=some r:=H
  have A8:=Aside0.mk A80
  clear A80
  have HC9:=Aside0.mk H
  clear H
  go_enter Try.func3,Try.ntmps3
  go_upto_region 8 with (first|((with_reducible refine gate_callee (f:=9) rfl ?_);refine goesL_ (some 18) rfl rfl Try.func9 (by kernel_rfl) rfl #[.slice A0 l0.length c0,.int .i64 1048576] rfl zl ?_;(with_reducible refine (laws_szJobS.calls _ _ l0 1048576 t360 _ ?side1 ?side2 A3.out).mono ?_);(case side1=>exact zC HR0.out);(case side2=>exact HC0.out);rintro e w' ⟨rfl,⟨nd,rfl⟩⟩;refine ⟨_,rfl,?_⟩)|((with_reducible refine gate_callee (f:=11) rfl ?_);refine goesL_ (some 23) rfl rfl Try.func11 (by kernel_rfl) rfl #[.slice A0 l0.length c0] rfl zl ?_;(with_reducible refine (laws_toJobS.calls k _ _ l0 t361 _ ?side1 ?side2 A5.out).mono ?_);(case side1=>exact zC HR0.out);(case side2=>exact HC0.out);rintro e w10 ⟨v362,rfl,ho0,hb⟩;refine ⟨_,rfl,?_⟩;have n0_:=Aside0.mk (Kd.R_lower ho0 (below_size zb));have n1_:=Aside0.mk (below_step zb hb);clear HB;have HO363:=n0_;have HB:=n1_;clear n0_ n1_;(try clear hb);(try clear hb2);(try clear hk);(try clear hi);(try clear ho0);obtain ⟨Ao11,co11,eo11⟩:=Kd.R_slice HO363.out;subst eo11)|((with_reducible refine gate_callee (f:=10) rfl ?_);refine goesL_ (some 25) rfl rfl Try.func10 (by kernel_rfl) rfl #[.slice Ao11 t361.length co11,.int .i64 a1] rfl zl ?_;(with_reducible refine (spec_LongestFirst.calls k _ _ t361 a1 t364 t365 _ ?side1 ?side2 A6.out).mono ?_);(case side1=>exact zC ((Kd.R_reads' HO363.out).2.2));(case side2=>exact (Kd.R_reads' HO363.out).2.1);rintro e w12 ⟨v366,rfl,ho0,hb⟩;refine ⟨_,rfl,?_⟩;have n0_:=Aside0.mk (Kd.R_below (zR HO363.out) hb);have n1_:=Aside0.mk (Kd.R_lower ho0 (below_size zb));have n2_:=Aside0.mk (below_step zb hb);clear HO363;clear HB;have HO363:=n0_;have HO367:=n1_;have HB:=n2_;clear n0_ n1_ n2_;(try clear hb);(try clear hb2);(try clear hk);(try clear hi);(try clear ho0))|((with_reducible refine gate_callee (f:=11) rfl ?_);refine goesL_ (some 29) rfl rfl Try.func11 (by kernel_rfl) rfl #[.slice A0 l0.length c0] rfl zl ?_;(with_reducible refine (laws_toJobS.calls k _ _ l0 t368 _ ?side1 ?side2 A7.out).mono ?_);(case side1=>exact zC (Kd.C_below HR0.out HB.out));(case side2=>exact HC0.out);rintro e w13 ⟨v369,rfl,ho0,hb⟩;refine ⟨_,rfl,?_⟩;have n0_:=Aside0.mk (Kd.R_elder' (zR HO363.out) (Kd.R_base ho0) hb);have n1_:=Aside0.mk (Kd.R_below (zR HO367.out) hb);have n2_:=Aside0.mk (Kd.R_lower (Kd.R_new' ho0 (Kd.R_lt (zR HO363.out))) (below_size zb));have n3_:=Aside0.mk (below_step zb hb);clear HO363;clear HO367;clear HB;have HO363:=n0_;have HO367:=n1_;have HO370:=n2_;have HB:=n3_;clear n0_ n1_ n2_ n3_;(try clear hb);(try clear hb2);(try clear hk);(try clear hi);(try clear ho0);obtain ⟨Ao14,co14,eo14⟩:=Kd.R_slice HO370.out;subst eo14)|((with_reducible refine gate_callee (f:=12) rfl ?_);refine goesL_ (some 33) rfl rfl Try.func12 (by kernel_rfl) rfl #[.slice Ao14 t368.length co14,.int .i64 a1] rfl zl ?_;(with_reducible refine (impl_LongestFirst.calls k _ _ t368 a1 t371 t372 _ ?side1 ?side2 A8.out).mono ?_);(case side1=>exact zC ((Kd.R_reads' HO370.out).2.2));(case side2=>exact (Kd.R_reads' HO370.out).2.1);rintro e w15 ⟨v373,rfl,ho0,hb⟩;refine ⟨_,rfl,?_⟩;have n0_:=Aside0.mk (Kd.R_below (zR HO363.out) hb);have n1_:=Aside0.mk (Kd.R_elder' (zR HO367.out) (Kd.R_base ho0) hb);have n2_:=Aside0.mk (Kd.R_below (zR HO370.out) hb);have n3_:=Aside0.mk (Kd.R_lower (Kd.R_new' ho0 (Kd.R_lt (zR HO367.out))) (below_size zb));have n4_:=Aside0.mk (below_step zb hb);clear HO363;clear HO367;clear HO370;clear HB;have HO363:=n0_;have HO367:=n1_;have HO370:=n2_;have HO374:=n3_;have HB:=n4_;clear n0_ n1_ n2_ n3_ n4_;(try clear hb);(try clear hb2);(try clear hk);(try clear hi);(try clear ho0)))
  (try simp only [Act.put,List.setIfInBounds_toArray,List.set_cons_zero,List.set_cons_succ])
  go_cut [44] (fun v44 wc=>∃ (kq:Nat) (x44_8:Bool),v44=.bool x44_8∧Aside0 (laws_FnExactLongestFirst.j0 kq l0 a1 t364 t365 t368 t371 t372 x44_8=some r)∧Aside0 (kq≤k)∧Aside0 (Kd.R k89 89 wc w.heap.size (fun k_=>some k_≠(v373:Value).ownBlock) v366 t364)∧Aside0 (Kd.R k47 47 wc w.heap.size (fun _=>True) (.slice Ao14 t368.length co14) t368)∧Aside0 (Kd.R k89 89 wc w.heap.size (fun k_=>some k_≠(v366:Value).ownBlock) v373 t371)∧Aside0 (Below w.heap.size w wc))
  case first=>
   have H:=HC9.out
   clear HC9
   replace H:=Option.bind_eq_some_iff.mp H
   obtain ⟨t375,A160,H⟩:=H
   replace H:(if t375=true then (laws_FnExactLongestFirst.j0 k l0 a1 t364 t365 t368 t371 t372 (t372 != t365)) else (laws_FnExactLongestFirst.j0 k l0 a1 t364 t365 t368 t371 t372 true))=some r:=H
   have A16:=Aside0.mk A160
   clear A160
   by_cases c17:t375=true
   ·subst c17
    have H1:(laws_FnExactLongestFirst.j0 k l0 a1 t364 t365 t368 t371 t372 (t372 != t365))=some r:=by rw [if_pos rfl] at H;exact H
    clear H
    have H:=H1
    clear H1
    have H':=Aside0.mk H
    clear H
    obtain ⟨Ao18,co18,eo18⟩:=Kd.R_slice HO374.out
    subst eo18
    obtain ⟨Ao19,co19,eo19⟩:=Kd.R_slice HO367.out
    subst eo19
    go_wp2_with (first|((with_reducible refine gate_callee (f:=13) rfl ?_);refine goesL_ (some 38) rfl rfl Try.func13 (by kernel_rfl) rfl #[.slice Ao18 t371.length co18,.slice Ao19 t364.length co19] rfl zl ?_;(with_reducible refine (laws_eqTaskS.calls k _ _ t371 _ _ t364 true _ ?side1 ?side2 ?side3 ?side4 A16.out).mono ?_);(case side1=>exact zC ((Kd.R_reads' HO374.out).2.2));(case side2=>exact (Kd.R_reads' HO374.out).2.1);(case side3=>exact zC ((Kd.R_reads' HO367.out).2.2));(case side4=>exact (Kd.R_reads' HO367.out).2.1);rintro e w20 ⟨rfl,hb⟩;refine ⟨_,rfl,?_⟩;have n0_:=Aside0.mk (Kd.R_below (zR HO363.out) hb);have n1_:=Aside0.mk (Kd.R_below (zR HO367.out) hb);have n2_:=Aside0.mk (Kd.R_below (zR HO370.out) hb);have n3_:=Aside0.mk (Kd.R_below (zR HO374.out) hb);have n4_:=Aside0.mk (below_step zb hb);clear HO363;clear HO367;clear HO370;clear HO374;clear HB;have HO363:=n0_;have HO367:=n1_;have HO370:=n2_;have HO374:=n3_;have HB:=n4_;clear n0_ n1_ n2_ n3_ n4_;(try clear hb);(try clear hb2);(try clear hk);(try clear hi)))
    go_meet
    case rel=>exact ⟨_,((t372 != t365)),zo,H',⟨by first|omega|exact Nat.le_refl _⟩,⟨zR (Kd.R_mono HO367.out (fun _ hk=>hk.2))⟩,⟨zR (Kd.R_mono HO370.out (fun _ hk=>trivial))⟩,⟨zR (Kd.R_mono HO374.out (fun _ hk=>hk.2))⟩,⟨zb⟩⟩
   ·replace c17:=Bool.eq_false_iff.mpr c17
    subst c17
    have H1:(laws_FnExactLongestFirst.j0 k l0 a1 t364 t365 t368 t371 t372 true)=some r:=by rw [if_neg (show ¬ (false=true) by decide)] at H;exact H
    clear H
    have H:=H1
    clear H1
    have H':=Aside0.mk H
    clear H
    obtain ⟨Ao21,co21,eo21⟩:=Kd.R_slice HO374.out
    subst eo21
    obtain ⟨Ao22,co22,eo22⟩:=Kd.R_slice HO367.out
    subst eo22
    go_wp2_with (first|((with_reducible refine gate_callee (f:=13) rfl ?_);refine goesL_ (some 38) rfl rfl Try.func13 (by kernel_rfl) rfl #[.slice Ao21 t371.length co21,.slice Ao22 t364.length co22] rfl zl ?_;(with_reducible refine (laws_eqTaskS.calls k _ _ t371 _ _ t364 false _ ?side1 ?side2 ?side3 ?side4 A16.out).mono ?_);(case side1=>exact zC ((Kd.R_reads' HO374.out).2.2));(case side2=>exact (Kd.R_reads' HO374.out).2.1);(case side3=>exact zC ((Kd.R_reads' HO367.out).2.2));(case side4=>exact (Kd.R_reads' HO367.out).2.1);rintro e w23 ⟨rfl,hb⟩;refine ⟨_,rfl,?_⟩;have n0_:=Aside0.mk (Kd.R_below (zR HO363.out) hb);have n1_:=Aside0.mk (Kd.R_below (zR HO367.out) hb);have n2_:=Aside0.mk (Kd.R_below (zR HO370.out) hb);have n3_:=Aside0.mk (Kd.R_below (zR HO374.out) hb);have n4_:=Aside0.mk (below_step zb hb);clear HO363;clear HO367;clear HO370;clear HO374;clear HB;have HO363:=n0_;have HO367:=n1_;have HO370:=n2_;have HO374:=n3_;have HB:=n4_;clear n0_ n1_ n2_ n3_ n4_;(try clear hb);(try clear hb2);(try clear hk);(try clear hi)))
    go_meet
    case rel=>exact ⟨_,(true),zo,H',⟨by first|omega|exact Nat.le_refl _⟩,⟨zR (Kd.R_mono HO367.out (fun _ hk=>hk.2))⟩,⟨zR (Kd.R_mono HO370.out (fun _ hk=>trivial))⟩,⟨zR (Kd.R_mono HO374.out (fun _ hk=>hk.2))⟩,⟨zb⟩⟩
  case rest=>
   clear HC9
   (try clear c1);(try clear p2);(try clear c3);(try clear c4);(try clear c4b0);(try clear c9);(try clear c10);(try clear c11);(try clear c12);(try clear c13);(try clear c17)
   obtain ⟨kq,x44_8,rfl,HA,HJ8,HO_6,HO_8,HO_9,HB⟩:=hcut
   cases kq with
   | zero=>exact absurd HA.out (by simp [laws_FnExactLongestFirst.j0])
   | succ kj8=>
    have H:=HA.out
    clear HA
    simp only [laws_FnExactLongestFirst.j0] at H
    by_cases c24:x44_8=true
    ·subst c24
     have H1:(some false)=some r:=by rw [if_pos rfl] at H;exact H
     clear H
     have H:=H1
     clear H1
     obtain rfl:=Option.some.inj H
     go_wp2
     go_ret
     exact ⟨by first|rfl|(simp [errW_none,errW_some] <;> rfl)|(simp [*,errW_none,errW_some] <;> rfl),zb⟩
    ·replace c24:=Bool.eq_false_iff.mpr c24
     subst c24
     have H1:((laws_toJobS.f kj8 l0).bind fun t376=>((laws_eqJobS.f kj8 t368 t376).bind fun t379=>(if t379=true then ((laws_markJobS.f kj8 t368 1).bind fun bt380=>(if bt380.1<0 then (laws_FnExactLongestFirst.j1 kj8 l0 a1 t364 t365 t371 true) else ((laws_eqTaskS.f kj8 t371 t364).bind fun t382=>(if t382=true then (laws_FnExactLongestFirst.j1 kj8 l0 a1 t364 t365 t371 (t372 != t365)) else (laws_FnExactLongestFirst.j1 kj8 l0 a1 t364 t365 t371 true))))) else (some false))))=some r:=by rw [if_neg (show ¬ (false=true) by decide)] at H;exact H
     clear H
     have H:=H1
     clear H1
     replace H:=Option.bind_eq_some_iff.mp H
     obtain ⟨t376,A250,H⟩:=H
     replace H:((laws_eqJobS.f kj8 t368 t376).bind fun t379=>(if t379=true then ((laws_markJobS.f kj8 t368 1).bind fun bt380=>(if bt380.1<0 then (laws_FnExactLongestFirst.j1 kj8 l0 a1 t364 t365 t371 true) else ((laws_eqTaskS.f kj8 t371 t364).bind fun t382=>(if t382=true then (laws_FnExactLongestFirst.j1 kj8 l0 a1 t364 t365 t371 (t372 != t365)) else (laws_FnExactLongestFirst.j1 kj8 l0 a1 t364 t365 t371 true))))) else (some false)))=some r:=H
     have A25:=Aside0.mk A250
     clear A250
     replace H:=Option.bind_eq_some_iff.mp H
     obtain ⟨t379,A260,H⟩:=H
     replace H:(if t379=true then ((laws_markJobS.f kj8 t368 1).bind fun bt380=>(if bt380.1<0 then (laws_FnExactLongestFirst.j1 kj8 l0 a1 t364 t365 t371 true) else ((laws_eqTaskS.f kj8 t371 t364).bind fun t382=>(if t382=true then (laws_FnExactLongestFirst.j1 kj8 l0 a1 t364 t365 t371 (t372 != t365)) else (laws_FnExactLongestFirst.j1 kj8 l0 a1 t364 t365 t371 true))))) else (some false))=some r:=H
     have A26:=Aside0.mk A260
     clear A260
     by_cases c27:t379=true
     ·subst c27
      have H1:((laws_markJobS.f kj8 t368 1).bind fun bt380=>(if bt380.1<0 then (laws_FnExactLongestFirst.j1 kj8 l0 a1 t364 t365 t371 true) else ((laws_eqTaskS.f kj8 t371 t364).bind fun t382=>(if t382=true then (laws_FnExactLongestFirst.j1 kj8 l0 a1 t364 t365 t371 (t372 != t365)) else (laws_FnExactLongestFirst.j1 kj8 l0 a1 t364 t365 t371 true)))))=some r:=by rw [if_pos rfl] at H;exact H
      clear H
      have H:=H1
      clear H1
      replace H:=Option.bind_eq_some_iff.mp H
      obtain ⟨⟨t380,t381⟩,A280,H⟩:=H
      replace H:(if t380<0 then (laws_FnExactLongestFirst.j1 kj8 l0 a1 t364 t365 t371 true) else ((laws_eqTaskS.f kj8 t371 t364).bind fun t382=>(if t382=true then (laws_FnExactLongestFirst.j1 kj8 l0 a1 t364 t365 t371 (t372 != t365)) else (laws_FnExactLongestFirst.j1 kj8 l0 a1 t364 t365 t371 true))))=some r:=H
      have A28:=Aside0.mk A280
      clear A280
      have HC29:=Aside0.mk H
      clear H
      go_upto_region 14 with (first|((with_reducible refine gate_callee (f:=11) rfl ?_);refine goesL_ (some 47) rfl rfl Try.func11 (by kernel_rfl) rfl #[.slice A0 l0.length c0] rfl zl ?_;(with_reducible refine (laws_toJobS.calls kj8 _ _ l0 t376 _ ?side1 ?side2 A25.out).mono ?_);(case side1=>exact zC (Kd.C_below HR0.out HB.out));(case side2=>exact HC0.out);rintro e w30 ⟨v377,rfl,ho0,hb⟩;refine ⟨_,rfl,?_⟩;have n0_:=Aside0.mk (Kd.R_below (zR HO_6.out) hb);have n1_:=Aside0.mk (Kd.R_elder' (zR HO_8.out) (Kd.R_base ho0) hb);have n2_:=Aside0.mk (Kd.R_below (zR HO_9.out) hb);have n3_:=Aside0.mk (Kd.R_lower (Kd.R_new' ho0 (Kd.R_lt (zR HO_8.out))) (below_size zb));have n4_:=Aside0.mk (below_step zb hb);clear HO_6;clear HO_8;clear HO_9;clear HB;have HO_6:=n0_;have HO_8:=n1_;have HO_9:=n2_;have HO378:=n3_;have HB:=n4_;clear n0_ n1_ n2_ n3_ n4_;(try clear hb);(try clear hb2);(try clear hk);(try clear hi);(try clear ho0);obtain ⟨Ao31,co31,eo31⟩:=Kd.R_slice HO378.out;subst eo31)|((with_reducible refine gate_callee (f:=14) rfl ?_);refine goesL_ (some 48) rfl rfl Try.func14 (by kernel_rfl) rfl #[.slice Ao14 t368.length co14,.slice Ao31 t376.length co31] rfl zl ?_;(with_reducible refine (laws_eqJobS.calls kj8 _ _ t368 _ _ t376 true _ ?side1 ?side2 ?side3 ?side4 A26.out).mono ?_);(case side1=>exact zC ((Kd.R_reads' HO_8.out).2.2));(case side2=>exact (Kd.R_reads' HO_8.out).2.1);(case side3=>exact zC ((Kd.R_reads' HO378.out).2.2));(case side4=>exact (Kd.R_reads' HO378.out).2.1);rintro e w32 ⟨rfl,hb⟩;refine ⟨_,rfl,?_⟩;have n0_:=Aside0.mk (Kd.R_below (zR HO_6.out) hb);have n1_:=Aside0.mk (Kd.R_below (zR HO_8.out) hb);have n2_:=Aside0.mk (Kd.R_below (zR HO_9.out) hb);have n3_:=Aside0.mk (Kd.R_below (zR HO378.out) hb);have n4_:=Aside0.mk (below_step zb hb);clear HO_6;clear HO_8;clear HO_9;clear HO378;clear HB;have HO_6:=n0_;have HO_8:=n1_;have HO_9:=n2_;have HO378:=n3_;have HB:=n4_;clear n0_ n1_ n2_ n3_ n4_;(try clear hb);(try clear hb2);(try clear hk);(try clear hi))|((with_reducible refine gate_callee (f:=15) rfl ?_);refine goesL_ (some 52) rfl rfl Try.func15 (by kernel_rfl) rfl #[.slice Ao14 t368.length co14,.int .i64 1] rfl zl ?_;(with_reducible refine (laws_markJobS.calls kj8 (fun k_=>some k_=(.slice Ao14 t368.length co14:Value).ownBlock) (.slice Ao14 t368.length co14) t368 1 t380 t381 w _ ?side1 ?side2 A28.out).mono ?_);(case side1=>repeat (first|(with_reducible first|exact HB.out|apply below_alloc|apply pw_below_drewN|apply below_drew1)|exact HB.out));(case side2=>exact Kd.R_tight rfl HO_8.out);rintro e w33 ⟨rfl,hy0,hb,hkp⟩;refine ⟨_,rfl,?_⟩;have n0_:=Aside0.mk (Kd.R_mono (ok':=fun k_=>some k_≠(v373:Value).ownBlock) (Kd.R_keptB ((Kd.R_apart' HO_6.out (Kd.R_typed HO_8.out) (by decide))) hkp (fun k_ hk_ hs_=>(hk_.2) hs_)) (fun k_ hk_=>hk_.1.1));have n1_:=Aside0.mk (Kd.R_reok rfl hy0 (fun k_ e_=>HO_8.out.1 k_ e_));have n2_:=Aside0.mk (Kd.R_mono (ok':=fun k_=>some k_≠(v366:Value).ownBlock) (Kd.R_keptB ((Kd.R_apart' HO_9.out (Kd.R_typed HO_8.out) (by decide))) hkp (fun k_ hk_ hs_=>(hk_.2) hs_)) (fun k_ hk_=>hk_.1.1));have n3_:=Aside0.mk (Kd.R_mono (ok':=fun k_=>some k_≠(.slice Ao14 t368.length co14:Value).ownBlock) (Kd.R_keptB (HO378.out) hkp (fun k_ hk_ hs_=>(hk_.2) hs_)) (fun k_ hk_=>hk_.1.2));have n4_:=Aside0.mk (hb);clear HO_6;clear HO_8;clear HO_9;clear HO378;clear HB;have HO_6:=n0_;have HO_8:=n1_;have HO_9:=n2_;have HO378:=n3_;have HB:=n4_;clear n0_ n1_ n2_ n3_ n4_;(try clear hb);(try clear hkp);(try clear hy0)))
      (try simp only [Act.put,List.setIfInBounds_toArray,List.set_cons_zero,List.set_cons_succ])
      go_cut [65] (fun v65 wc=>∃ (kq:Nat) (x65_28:Bool),v65=.bool x65_28∧Aside0 (laws_FnExactLongestFirst.j1 kq l0 a1 t364 t365 t371 x65_28=some r)∧Aside0 (kq≤kj8)∧Aside0 (Kd.R k89 89 wc w.heap.size (fun k_=>some k_≠(v373:Value).ownBlock) v366 t364)∧Aside0 (Kd.R k89 89 wc w.heap.size (fun k_=>some k_≠(v366:Value).ownBlock) v373 t371)∧Aside0 (Below w.heap.size w wc))
      case first=>
       have H:=HC29.out
       clear HC29
       by_cases c34:t380<0
       ·rw [if_pos c34] at H
        have c34b0:decide (t380<0)=true:=decide_eq_true c34
        clear c34
        (first|rw [c34b0]|(simp only [i64_w,i32_w];rw [c34b0])|skip)
        have H':=Aside0.mk H
        clear H
        go_wp2
        go_meet
        case rel=>exact ⟨_,(true),zo,H',⟨by have:=HJ8.out;first|omega|exact Nat.le_refl _⟩,⟨zR HO_6.out⟩,⟨zR HO_9.out⟩,⟨zb⟩⟩
       ·rw [if_neg c34] at H
        have c34b0:decide (t380<0)=false:=decide_eq_false c34
        clear c34
        (first|rw [c34b0]|(simp only [i64_w,i32_w];rw [c34b0])|skip)
        replace H:=Option.bind_eq_some_iff.mp H
        obtain ⟨t382,A350,H⟩:=H
        replace H:(if t382=true then (laws_FnExactLongestFirst.j1 kj8 l0 a1 t364 t365 t371 (t372 != t365)) else (laws_FnExactLongestFirst.j1 kj8 l0 a1 t364 t365 t371 true))=some r:=H
        have A35:=Aside0.mk A350
        clear A350
        by_cases c36:t382=true
        ·subst c36
         have H1:(laws_FnExactLongestFirst.j1 kj8 l0 a1 t364 t365 t371 (t372 != t365))=some r:=by rw [if_pos rfl] at H;exact H
         clear H
         have H:=H1
         clear H1
         have H':=Aside0.mk H
         clear H
         obtain ⟨Ao37,co37,eo37⟩:=Kd.R_slice HO_9.out
         subst eo37
         obtain ⟨Ao38,co38,eo38⟩:=Kd.R_slice HO_6.out
         subst eo38
         go_wp2_with (first|(go_at_call 13;(with_reducible refine (laws_eqTaskS.calls kj8 _ _ t371 _ _ t364 true _ ?side1 ?side2 ?side3 ?side4 A35.out).mono ?_);(case side1=>exact zC ((Kd.R_reads' HO_9.out).2.2));(case side2=>exact (Kd.R_reads' HO_9.out).2.1);(case side3=>exact zC ((Kd.R_reads' HO_6.out).2.2));(case side4=>exact (Kd.R_reads' HO_6.out).2.1);rintro e w39 ⟨rfl,hb⟩;have n0_:=Aside0.mk (Kd.R_below (zR HO_6.out) hb);have n1_:=Aside0.mk (Kd.R_below (zR HO_8.out) hb);have n2_:=Aside0.mk (Kd.R_below (zR HO_9.out) hb);have n3_:=Aside0.mk (Kd.R_below (zR HO378.out) hb);have n4_:=Aside0.mk (below_step zb hb);clear HO_6;clear HO_8;clear HO_9;clear HO378;clear HB;have HO_6:=n0_;have HO_8:=n1_;have HO_9:=n2_;have HO378:=n3_;have HB:=n4_;clear n0_ n1_ n2_ n3_ n4_;(try clear hb);(try clear hb2);(try clear hk);(try clear hi)))
         go_meet
         case rel=>exact ⟨_,((t372 != t365)),zo,H',⟨by have:=HJ8.out;first|omega|exact Nat.le_refl _⟩,⟨zR HO_6.out⟩,⟨zR HO_9.out⟩,⟨zb⟩⟩
        ·replace c36:=Bool.eq_false_iff.mpr c36
         subst c36
         have H1:(laws_FnExactLongestFirst.j1 kj8 l0 a1 t364 t365 t371 true)=some r:=by rw [if_neg (show ¬ (false=true) by decide)] at H;exact H
         clear H
         have H:=H1
         clear H1
         have H':=Aside0.mk H
         clear H
         obtain ⟨Ao40,co40,eo40⟩:=Kd.R_slice HO_9.out
         subst eo40
         obtain ⟨Ao41,co41,eo41⟩:=Kd.R_slice HO_6.out
         subst eo41
         go_wp2_with (first|(go_at_call 13;(with_reducible refine (laws_eqTaskS.calls kj8 _ _ t371 _ _ t364 false _ ?side1 ?side2 ?side3 ?side4 A35.out).mono ?_);(case side1=>exact zC ((Kd.R_reads' HO_9.out).2.2));(case side2=>exact (Kd.R_reads' HO_9.out).2.1);(case side3=>exact zC ((Kd.R_reads' HO_6.out).2.2));(case side4=>exact (Kd.R_reads' HO_6.out).2.1);rintro e w42 ⟨rfl,hb⟩;have n0_:=Aside0.mk (Kd.R_below (zR HO_6.out) hb);have n1_:=Aside0.mk (Kd.R_below (zR HO_8.out) hb);have n2_:=Aside0.mk (Kd.R_below (zR HO_9.out) hb);have n3_:=Aside0.mk (Kd.R_below (zR HO378.out) hb);have n4_:=Aside0.mk (below_step zb hb);clear HO_6;clear HO_8;clear HO_9;clear HO378;clear HB;have HO_6:=n0_;have HO_8:=n1_;have HO_9:=n2_;have HO378:=n3_;have HB:=n4_;clear n0_ n1_ n2_ n3_ n4_;(try clear hb);(try clear hb2);(try clear hk);(try clear hi)))
         go_meet
         case rel=>exact ⟨_,(true),zo,H',⟨by have:=HJ8.out;first|omega|exact Nat.le_refl _⟩,⟨zR HO_6.out⟩,⟨zR HO_9.out⟩,⟨zb⟩⟩
      case rest=>
       clear HC29
       (try clear c1);(try clear c2);(try clear p2);(try clear c3);(try clear c4);(try clear c4b0);(try clear c9);(try clear c10);(try clear c11);(try clear c12);(try clear c13);(try clear c14);(try clear c15);(try clear c17);(try clear c24);(try clear c27);(try clear c34);(try clear c34b0);(try clear c36)
       obtain ⟨kq,x65_28,rfl,HA,HJ28,HO_6,HO_9,HB⟩:=hcut
       cases kq with
       | zero=>exact absurd HA.out (by simp [laws_FnExactLongestFirst.j1])
       | succ kj28=>
        have H:=HA.out
        clear HA
        simp only [laws_FnExactLongestFirst.j1] at H
        by_cases c43:x65_28=true
        ·subst c43
         have H1:(some false)=some r:=by rw [if_pos rfl] at H;exact H
         clear H
         have H:=H1
         clear H1
         obtain rfl:=Option.some.inj H
         go_wp2
         go_ret
         exact ⟨by first|rfl|(simp [errW_none,errW_some] <;> rfl)|(simp [*,errW_none,errW_some] <;> rfl),zb⟩
        ·replace c43:=Bool.eq_false_iff.mpr c43
         subst c43
         have H1:((laws_markTaskS.f kj28 t371 1).bind fun bt383=>((laws_heldTaskS.f kj28 bt383.2 1).bind fun t385=>(if t385<0 then (some false) else (if t385=bt383.1 then ((laws_toJobS.f kj28 l0).bind fun t386=>((impl_LongestFirst.f kj28 t386 a1).bind fun bt389=>((laws_eqTaskS.f kj28 bt389.1 t364).bind fun t393=>(if t393=true then (laws_FnExactLongestFirst.j2 kj28 bt383.2 bt383.1 (bt389.2 != t365)) else (laws_FnExactLongestFirst.j2 kj28 bt383.2 bt383.1 true))))) else (some false)))))=some r:=by rw [if_neg (show ¬ (false=true) by decide)] at H;exact H
         clear H
         have H:=H1
         clear H1
         replace H:=Option.bind_eq_some_iff.mp H
         obtain ⟨⟨t383,t384⟩,A440,H⟩:=H
         replace H:((laws_heldTaskS.f kj28 t384 1).bind fun t385=>(if t385<0 then (some false) else (if t385=t383 then ((laws_toJobS.f kj28 l0).bind fun t386=>((impl_LongestFirst.f kj28 t386 a1).bind fun bt389=>((laws_eqTaskS.f kj28 bt389.1 t364).bind fun t393=>(if t393=true then (laws_FnExactLongestFirst.j2 kj28 t384 t383 (bt389.2 != t365)) else (laws_FnExactLongestFirst.j2 kj28 t384 t383 true))))) else (some false))))=some r:=H
         have A44:=Aside0.mk A440
         clear A440
         replace H:=Option.bind_eq_some_iff.mp H
         obtain ⟨t385,A450,H⟩:=H
         replace H:(if t385<0 then (some false) else (if t385=t383 then ((laws_toJobS.f kj28 l0).bind fun t386=>((impl_LongestFirst.f kj28 t386 a1).bind fun bt389=>((laws_eqTaskS.f kj28 bt389.1 t364).bind fun t393=>(if t393=true then (laws_FnExactLongestFirst.j2 kj28 t384 t383 (bt389.2 != t365)) else (laws_FnExactLongestFirst.j2 kj28 t384 t383 true))))) else (some false)))=some r:=H
         have A45:=Aside0.mk A450
         clear A450
         by_cases c46:t385<0
         ·rw [if_pos c46] at H
          have c46b0:decide (t385<0)=true:=decide_eq_true c46
          clear c46
          obtain rfl:=Option.some.inj H
          obtain ⟨Ao47,co47,eo47⟩:=Kd.R_slice HO_9.out
          subst eo47
          go_wp2_with (first|((with_reducible refine gate_callee (f:=16) rfl ?_);refine goesL_ (some 68) rfl rfl Try.func16 (by kernel_rfl) rfl #[.slice Ao47 t371.length co47,.int .i64 1] rfl zl ?_;(with_reducible refine (laws_markTaskS.calls kj28 (fun k_=>some k_=(.slice Ao47 t371.length co47:Value).ownBlock) (.slice Ao47 t371.length co47) t371 1 t383 t384 w _ ?side1 ?side2 A44.out).mono ?_);(case side1=>repeat (first|(with_reducible first|exact HB.out|apply below_alloc|apply pw_below_drewN|apply below_drew1)|exact HB.out));(case side2=>exact Kd.R_tight rfl HO_9.out);rintro e w48 ⟨rfl,hy0,hb,hkp⟩;refine ⟨_,rfl,?_⟩;have n0_:=Aside0.mk (Kd.R_mono (ok':=fun k_=>some k_≠(.slice Ao47 t371.length co47:Value).ownBlock) (Kd.R_keptB (HO_6.out) hkp (fun k_ hk_ hs_=>(hk_) hs_)) (fun k_ hk_=>hk_.1));have n1_:=Aside0.mk (Kd.R_reok rfl hy0 (fun k_ e_=>HO_9.out.1 k_ e_));have n2_:=Aside0.mk (hb);clear HO_6;clear HO_9;clear HB;have HO_6:=n0_;have HO_9:=n1_;have HB:=n2_;clear n0_ n1_ n2_;(try clear hb);(try clear hkp);(try clear hy0))|((with_reducible refine gate_callee (f:=17) rfl ?_);refine goesL_ (some 71) rfl rfl Try.func17 (by kernel_rfl) rfl #[.slice Ao47 t384.length co47,.int .i64 1] rfl (by (try simp only [List.map_toArray,List.map_cons,List.map_nil]);first|done|(rw [show t384.length=t371.length from (Kd.R_reads' HO_9.out).1.symm] <;> rfl)|rfl|(simp only [List.length_drop,List.length_take];rfl)) ?_;(with_reducible refine (laws_heldTaskS.calls kj28 _ _ t384 1 t385 _ ?side1 ?side2 A45.out).mono ?_);(case side1=>exact zC ((Kd.R_reads' HO_9.out).2.2));(case side2=>rw [show t384.length=t371.length from (Kd.R_reads' HO_9.out).1.symm];exact (Kd.R_reads' HO_9.out).2.1);rintro e w' ⟨rfl,⟨nd,rfl⟩⟩;refine ⟨_,rfl,?_⟩))
          go_ret
          exact ⟨by first|rfl|(simp [errW_none,errW_some] <;> rfl)|(simp [*,errW_none,errW_some] <;> rfl),zb⟩
         ·rw [if_neg c46] at H
          have c46b0:decide (t385<0)=false:=decide_eq_false c46
          clear c46
          by_cases c49:t385=t383
          ·rw [if_pos c49] at H
           have c49b0:(t385 == t383)=true:=beq_iff_eq.mpr c49
           have c49b1:(t385 != t383)=false:=bne_eq_false_iff_eq.mpr c49
           clear c49
           replace H:=Option.bind_eq_some_iff.mp H
           obtain ⟨t386,A500,H⟩:=H
           replace H:((impl_LongestFirst.f kj28 t386 a1).bind fun bt389=>((laws_eqTaskS.f kj28 bt389.1 t364).bind fun t393=>(if t393=true then (laws_FnExactLongestFirst.j2 kj28 t384 t383 (bt389.2 != t365)) else (laws_FnExactLongestFirst.j2 kj28 t384 t383 true))))=some r:=H
           have A50:=Aside0.mk A500
           clear A500
           replace H:=Option.bind_eq_some_iff.mp H
           obtain ⟨⟨t389,t390⟩,A510,H⟩:=H
           replace H:((laws_eqTaskS.f kj28 t389 t364).bind fun t393=>(if t393=true then (laws_FnExactLongestFirst.j2 kj28 t384 t383 (t390 != t365)) else (laws_FnExactLongestFirst.j2 kj28 t384 t383 true)))=some r:=H
           have A51:=Aside0.mk A510
           clear A510
           have HC52:=Aside0.mk H
           clear H
           obtain ⟨Ao53,co53,eo53⟩:=Kd.R_slice HO_9.out
           subst eo53
           go_upto_region 25 with (first|((with_reducible refine gate_callee (f:=16) rfl ?_);refine goesL_ (some 68) rfl rfl Try.func16 (by kernel_rfl) rfl #[.slice Ao53 t371.length co53,.int .i64 1] rfl zl ?_;(with_reducible refine (laws_markTaskS.calls kj28 (fun k_=>some k_=(.slice Ao53 t371.length co53:Value).ownBlock) (.slice Ao53 t371.length co53) t371 1 t383 t384 w _ ?side1 ?side2 A44.out).mono ?_);(case side1=>repeat (first|(with_reducible first|exact HB.out|apply below_alloc|apply pw_below_drewN|apply below_drew1)|exact HB.out));(case side2=>exact Kd.R_tight rfl HO_9.out);rintro e w54 ⟨rfl,hy0,hb,hkp⟩;refine ⟨_,rfl,?_⟩;have n0_:=Aside0.mk (Kd.R_mono (ok':=fun k_=>some k_≠(.slice Ao53 t371.length co53:Value).ownBlock) (Kd.R_keptB (HO_6.out) hkp (fun k_ hk_ hs_=>(hk_) hs_)) (fun k_ hk_=>hk_.1));have n1_:=Aside0.mk (Kd.R_reok rfl hy0 (fun k_ e_=>HO_9.out.1 k_ e_));have n2_:=Aside0.mk (hb);clear HO_6;clear HO_9;clear HB;have HO_6:=n0_;have HO_9:=n1_;have HB:=n2_;clear n0_ n1_ n2_;(try clear hb);(try clear hkp);(try clear hy0))|((with_reducible refine gate_callee (f:=17) rfl ?_);refine goesL_ (some 71) rfl rfl Try.func17 (by kernel_rfl) rfl #[.slice Ao53 t384.length co53,.int .i64 1] rfl (by (try simp only [List.map_toArray,List.map_cons,List.map_nil]);first|done|(rw [show t384.length=t371.length from (Kd.R_reads' HO_9.out).1.symm] <;> rfl)|rfl|(simp only [List.length_drop,List.length_take];rfl)) ?_;(with_reducible refine (laws_heldTaskS.calls kj28 _ _ t384 1 t385 _ ?side1 ?side2 A45.out).mono ?_);(case side1=>exact zC ((Kd.R_reads' HO_9.out).2.2));(case side2=>rw [show t384.length=t371.length from (Kd.R_reads' HO_9.out).1.symm];exact (Kd.R_reads' HO_9.out).2.1);rintro e w' ⟨rfl,⟨nd,rfl⟩⟩;refine ⟨_,rfl,?_⟩)|((with_reducible refine gate_callee (f:=11) rfl ?_);refine goesL_ (some 79) rfl rfl Try.func11 (by kernel_rfl) rfl #[.slice A0 l0.length c0] rfl zl ?_;(with_reducible refine (laws_toJobS.calls kj28 _ _ l0 t386 _ ?side1 ?side2 A50.out).mono ?_);(case side1=>exact zC (Kd.C_below HR0.out zb));(case side2=>exact HC0.out);rintro e w55 ⟨v387,rfl,ho0,hb⟩;refine ⟨_,rfl,?_⟩;have n0_:=Aside0.mk (Kd.R_below (zR HO_6.out) hb);have n1_:=Aside0.mk (Kd.R_below (zR HO_9.out) hb);have n2_:=Aside0.mk (Kd.R_lower ho0 (below_size zb));have n3_:=Aside0.mk (below_step zb hb);clear HO_6;clear HO_9;clear HB;have HO_6:=n0_;have HO_9:=n1_;have HO388:=n2_;have HB:=n3_;clear n0_ n1_ n2_ n3_;(try clear hb);(try clear hb2);(try clear hk);(try clear hi);(try clear ho0);obtain ⟨Ao56,co56,eo56⟩:=Kd.R_slice HO388.out;subst eo56)|((with_reducible refine gate_callee (f:=12) rfl ?_);refine goesL_ (some 81) rfl rfl Try.func12 (by kernel_rfl) rfl #[.slice Ao56 t386.length co56,.int .i64 a1] rfl zl ?_;(with_reducible refine (impl_LongestFirst.calls kj28 _ _ t386 a1 t389 t390 _ ?side1 ?side2 A51.out).mono ?_);(case side1=>exact zC ((Kd.R_reads' HO388.out).2.2));(case side2=>exact (Kd.R_reads' HO388.out).2.1);rintro e w57 ⟨v391,rfl,ho0,hb⟩;refine ⟨_,rfl,?_⟩;have n0_:=Aside0.mk (Kd.R_elder' (zR HO_6.out) (Kd.R_base ho0) hb);have n1_:=Aside0.mk (Kd.R_elder' (zR HO_9.out) (Kd.R_base ho0) hb);have n2_:=Aside0.mk (Kd.R_below (zR HO388.out) hb);have n3_:=Aside0.mk (Kd.R_lower (Kd.R_new' (Kd.R_new' ho0 (Kd.R_lt (zR HO_6.out))) (Kd.R_lt (zR HO_9.out))) (below_size zb));have n4_:=Aside0.mk (below_step zb hb);clear HO_6;clear HO_9;clear HO388;clear HB;have HO_6:=n0_;have HO_9:=n1_;have HO388:=n2_;have HO392:=n3_;have HB:=n4_;clear n0_ n1_ n2_ n3_ n4_;(try clear hb);(try clear hb2);(try clear hk);(try clear hi);(try clear ho0)))
           (try simp only [Act.put,List.setIfInBounds_toArray,List.set_cons_zero,List.set_cons_succ])
           go_cut [92] (fun v92 wc=>∃ (kq:Nat) (x92_51:Bool),v92=.bool x92_51∧Aside0 (laws_FnExactLongestFirst.j2 kq t384 t383 x92_51=some r)∧Aside0 (kq≤kj28)∧Aside0 (Kd.R k89 89 wc w.heap.size (fun _=>True) (.slice Ao53 t371.length co53) t384)∧Aside0 (Below w.heap.size w wc))
           case first=>
            have H:=HC52.out
            clear HC52
            replace H:=Option.bind_eq_some_iff.mp H
            obtain ⟨t393,A580,H⟩:=H
            replace H:(if t393=true then (laws_FnExactLongestFirst.j2 kj28 t384 t383 (t390 != t365)) else (laws_FnExactLongestFirst.j2 kj28 t384 t383 true))=some r:=H
            have A58:=Aside0.mk A580
            clear A580
            by_cases c59:t393=true
            ·subst c59
             have H1:(laws_FnExactLongestFirst.j2 kj28 t384 t383 (t390 != t365))=some r:=by rw [if_pos rfl] at H;exact H
             clear H
             have H:=H1
             clear H1
             have H':=Aside0.mk H
             clear H
             obtain ⟨Ao60,co60,eo60⟩:=Kd.R_slice HO392.out
             subst eo60
             obtain ⟨Ao61,co61,eo61⟩:=Kd.R_slice HO_6.out
             subst eo61
             go_wp2_with (first|((with_reducible refine gate_callee (f:=13) rfl ?_);refine goesL_ (some 86) rfl rfl Try.func13 (by kernel_rfl) rfl #[.slice Ao60 t389.length co60,.slice Ao61 t364.length co61] rfl zl ?_;(with_reducible refine (laws_eqTaskS.calls kj28 _ _ t389 _ _ t364 true _ ?side1 ?side2 ?side3 ?side4 A58.out).mono ?_);(case side1=>exact zC ((Kd.R_reads' HO392.out).2.2));(case side2=>exact (Kd.R_reads' HO392.out).2.1);(case side3=>exact zC ((Kd.R_reads' HO_6.out).2.2));(case side4=>exact (Kd.R_reads' HO_6.out).2.1);rintro e w62 ⟨rfl,hb⟩;refine ⟨_,rfl,?_⟩;have n0_:=Aside0.mk (Kd.R_below (zR HO_6.out) hb);have n1_:=Aside0.mk (Kd.R_below (zR HO_9.out) hb);have n2_:=Aside0.mk (Kd.R_below (zR HO388.out) hb);have n3_:=Aside0.mk (Kd.R_below (zR HO392.out) hb);have n4_:=Aside0.mk (below_step zb hb);clear HO_6;clear HO_9;clear HO388;clear HO392;clear HB;have HO_6:=n0_;have HO_9:=n1_;have HO388:=n2_;have HO392:=n3_;have HB:=n4_;clear n0_ n1_ n2_ n3_ n4_;(try clear hb);(try clear hb2);(try clear hk);(try clear hi)))
             go_meet
             case rel=>exact ⟨_,((t390 != t365)),zo,H',⟨by have:=HJ8.out;have:=HJ28.out;first|omega|exact Nat.le_refl _⟩,⟨zR (Kd.R_mono HO_9.out (fun _ hk=>trivial))⟩,⟨zb⟩⟩
            ·replace c59:=Bool.eq_false_iff.mpr c59
             subst c59
             have H1:(laws_FnExactLongestFirst.j2 kj28 t384 t383 true)=some r:=by rw [if_neg (show ¬ (false=true) by decide)] at H;exact H
             clear H
             have H:=H1
             clear H1
             have H':=Aside0.mk H
             clear H
             obtain ⟨Ao63,co63,eo63⟩:=Kd.R_slice HO392.out
             subst eo63
             obtain ⟨Ao64,co64,eo64⟩:=Kd.R_slice HO_6.out
             subst eo64
             go_wp2_with (first|((with_reducible refine gate_callee (f:=13) rfl ?_);refine goesL_ (some 86) rfl rfl Try.func13 (by kernel_rfl) rfl #[.slice Ao63 t389.length co63,.slice Ao64 t364.length co64] rfl zl ?_;(with_reducible refine (laws_eqTaskS.calls kj28 _ _ t389 _ _ t364 false _ ?side1 ?side2 ?side3 ?side4 A58.out).mono ?_);(case side1=>exact zC ((Kd.R_reads' HO392.out).2.2));(case side2=>exact (Kd.R_reads' HO392.out).2.1);(case side3=>exact zC ((Kd.R_reads' HO_6.out).2.2));(case side4=>exact (Kd.R_reads' HO_6.out).2.1);rintro e w65 ⟨rfl,hb⟩;refine ⟨_,rfl,?_⟩;have n0_:=Aside0.mk (Kd.R_below (zR HO_6.out) hb);have n1_:=Aside0.mk (Kd.R_below (zR HO_9.out) hb);have n2_:=Aside0.mk (Kd.R_below (zR HO388.out) hb);have n3_:=Aside0.mk (Kd.R_below (zR HO392.out) hb);have n4_:=Aside0.mk (below_step zb hb);clear HO_6;clear HO_9;clear HO388;clear HO392;clear HB;have HO_6:=n0_;have HO_9:=n1_;have HO388:=n2_;have HO392:=n3_;have HB:=n4_;clear n0_ n1_ n2_ n3_ n4_;(try clear hb);(try clear hb2);(try clear hk);(try clear hi)))
             go_meet
             case rel=>exact ⟨_,(true),zo,H',⟨by have:=HJ8.out;have:=HJ28.out;first|omega|exact Nat.le_refl _⟩,⟨zR (Kd.R_mono HO_9.out (fun _ hk=>trivial))⟩,⟨zb⟩⟩
           case rest=>
            clear HC52
            (try clear c1);(try clear c2);(try clear p2);(try clear c3);(try clear c4);(try clear c4b0);(try clear c5);(try clear c9);(try clear c10);(try clear c11);(try clear c12);(try clear c13);(try clear c14);(try clear c15);(try clear c16);(try clear c17);(try clear c24);(try clear c27);(try clear c34);(try clear c34b0);(try clear c36);(try clear c43);(try clear c46);(try clear c46b0);(try clear c49);(try clear c49b0);(try clear c49b1);(try clear c59)
            obtain ⟨kq,x92_51,rfl,HA,HJ51,HO_9,HB⟩:=hcut
            have hl9_51:=(Kd.R_reads' HO_9.out).1
            rw [hl9_51] at HO_9
            (try simp only [hl9_51])
            cases kq with
            | zero=>exact absurd HA.out (by simp [laws_FnExactLongestFirst.j2])
            | succ kj51=>
             have H:=HA.out
             clear HA
             simp only [laws_FnExactLongestFirst.j2] at H
             by_cases c66:x92_51=true
             ·subst c66
              have H1:(some false)=some r:=by rw [if_pos rfl] at H;exact H
              clear H
              have H:=H1
              clear H1
              obtain rfl:=Option.some.inj H
              go_wp2
              go_ret
              exact ⟨by first|rfl|(simp [errW_none,errW_some] <;> rfl)|(simp [*,errW_none,errW_some] <;> rfl),zb⟩
             ·replace c66:=Bool.eq_false_iff.mpr c66
              subst c66
              have H1:((laws_heldTaskS.f kj51 t384 1).bind fun t394=>(if t394<0 then (some false) else (if t394=t383 then (some true) else (some false))))=some r:=by rw [if_neg (show ¬ (false=true) by decide)] at H;exact H
              clear H
              have H:=H1
              clear H1
              replace H:=Option.bind_eq_some_iff.mp H
              obtain ⟨t394,A670,H⟩:=H
              replace H:(if t394<0 then (some false) else (if t394=t383 then (some true) else (some false)))=some r:=H
              have A67:=Aside0.mk A670
              clear A670
              by_cases c68:t394<0
              ·rw [if_pos c68] at H
               have c68b0:decide (t394<0)=true:=decide_eq_true c68
               clear c68
               obtain rfl:=Option.some.inj H
               go_wp2_with (first|((with_reducible refine gate_callee (f:=17) rfl ?_);refine goesL_ (some 95) rfl rfl Try.func17 (by kernel_rfl) rfl #[.slice Ao53 t384.length co53,.int .i64 1] rfl zl ?_;(with_reducible refine (laws_heldTaskS.calls kj51 _ _ t384 1 t394 _ ?side1 ?side2 A67.out).mono ?_);(case side1=>exact zC ((Kd.R_reads' HO_9.out).2.2));(case side2=>exact (Kd.R_reads' HO_9.out).2.1);rintro e w' ⟨rfl,⟨nd,rfl⟩⟩;refine ⟨_,rfl,?_⟩))
               go_ret
               exact ⟨by first|rfl|(simp [errW_none,errW_some] <;> rfl)|(simp [*,errW_none,errW_some] <;> rfl),zb⟩
              ·rw [if_neg c68] at H
               have c68b0:decide (t394<0)=false:=decide_eq_false c68
               clear c68
               by_cases c69:t394=t383
               ·rw [if_pos c69] at H
                have c69b0:(t394 == t383)=true:=beq_iff_eq.mpr c69
                have c69b1:(t394 != t383)=false:=bne_eq_false_iff_eq.mpr c69
                clear c69
                obtain rfl:=Option.some.inj H
                go_wp2_with (first|((with_reducible refine gate_callee (f:=17) rfl ?_);refine goesL_ (some 95) rfl rfl Try.func17 (by kernel_rfl) rfl #[.slice Ao53 t384.length co53,.int .i64 1] rfl zl ?_;(with_reducible refine (laws_heldTaskS.calls kj51 _ _ t384 1 t394 _ ?side1 ?side2 A67.out).mono ?_);(case side1=>exact zC ((Kd.R_reads' HO_9.out).2.2));(case side2=>exact (Kd.R_reads' HO_9.out).2.1);rintro e w' ⟨rfl,⟨nd,rfl⟩⟩;refine ⟨_,rfl,?_⟩))
                go_ret
                exact ⟨by first|rfl|(simp [errW_none,errW_some] <;> rfl)|(simp [*,errW_none,errW_some] <;> rfl),zb⟩
               ·rw [if_neg c69] at H
                have c69b0:(t394 == t383)=false:=beq_eq_false_iff_ne.mpr c69
                have c69b1:(t394 != t383)=true:=bne_iff_ne.mpr c69
                obtain rfl:=Option.some.inj H
                go_wp2_with (first|((with_reducible refine gate_callee (f:=17) rfl ?_);refine goesL_ (some 95) rfl rfl Try.func17 (by kernel_rfl) rfl #[.slice Ao53 t384.length co53,.int .i64 1] rfl zl ?_;(with_reducible refine (laws_heldTaskS.calls kj51 _ _ t384 1 t394 _ ?side1 ?side2 A67.out).mono ?_);(case side1=>exact zC ((Kd.R_reads' HO_9.out).2.2));(case side2=>exact (Kd.R_reads' HO_9.out).2.1);rintro e w' ⟨rfl,⟨nd,rfl⟩⟩;refine ⟨_,rfl,?_⟩))
                go_ret
                exact ⟨by first|rfl|(simp [errW_none,errW_some] <;> rfl)|(simp [*,errW_none,errW_some] <;> rfl),zb⟩
          ·rw [if_neg c49] at H
           have c49b0:(t385 == t383)=false:=beq_eq_false_iff_ne.mpr c49
           have c49b1:(t385 != t383)=true:=bne_iff_ne.mpr c49
           obtain rfl:=Option.some.inj H
           obtain ⟨Ao70,co70,eo70⟩:=Kd.R_slice HO_9.out
           subst eo70
           go_wp2_with (first|((with_reducible refine gate_callee (f:=16) rfl ?_);refine goesL_ (some 68) rfl rfl Try.func16 (by kernel_rfl) rfl #[.slice Ao70 t371.length co70,.int .i64 1] rfl zl ?_;(with_reducible refine (laws_markTaskS.calls kj28 (fun k_=>some k_=(.slice Ao70 t371.length co70:Value).ownBlock) (.slice Ao70 t371.length co70) t371 1 t383 t384 w _ ?side1 ?side2 A44.out).mono ?_);(case side1=>repeat (first|(with_reducible first|exact HB.out|apply below_alloc|apply pw_below_drewN|apply below_drew1)|exact HB.out));(case side2=>exact Kd.R_tight rfl HO_9.out);rintro e w71 ⟨rfl,hy0,hb,hkp⟩;refine ⟨_,rfl,?_⟩;have n0_:=Aside0.mk (Kd.R_mono (ok':=fun k_=>some k_≠(.slice Ao70 t371.length co70:Value).ownBlock) (Kd.R_keptB (HO_6.out) hkp (fun k_ hk_ hs_=>(hk_) hs_)) (fun k_ hk_=>hk_.1));have n1_:=Aside0.mk (Kd.R_reok rfl hy0 (fun k_ e_=>HO_9.out.1 k_ e_));have n2_:=Aside0.mk (hb);clear HO_6;clear HO_9;clear HB;have HO_6:=n0_;have HO_9:=n1_;have HB:=n2_;clear n0_ n1_ n2_;(try clear hb);(try clear hkp);(try clear hy0))|((with_reducible refine gate_callee (f:=17) rfl ?_);refine goesL_ (some 71) rfl rfl Try.func17 (by kernel_rfl) rfl #[.slice Ao70 t384.length co70,.int .i64 1] rfl (by (try simp only [List.map_toArray,List.map_cons,List.map_nil]);first|done|(rw [show t384.length=t371.length from (Kd.R_reads' HO_9.out).1.symm] <;> rfl)|rfl|(simp only [List.length_drop,List.length_take];rfl)) ?_;(with_reducible refine (laws_heldTaskS.calls kj28 _ _ t384 1 t385 _ ?side1 ?side2 A45.out).mono ?_);(case side1=>exact zC ((Kd.R_reads' HO_9.out).2.2));(case side2=>rw [show t384.length=t371.length from (Kd.R_reads' HO_9.out).1.symm];exact (Kd.R_reads' HO_9.out).2.1);rintro e w' ⟨rfl,⟨nd,rfl⟩⟩;refine ⟨_,rfl,?_⟩))
           go_ret
           exact ⟨by first|rfl|(simp [errW_none,errW_some] <;> rfl)|(simp [*,errW_none,errW_some] <;> rfl),zb⟩
     ·replace c27:=Bool.eq_false_iff.mpr c27
      subst c27
      have H1:(some false)=some r:=by rw [if_neg (show ¬ (false=true) by decide)] at H;exact H
      clear H
      have H:=H1
      clear H1
      obtain rfl:=Option.some.inj H
      go_wp2_with (first|((with_reducible refine gate_callee (f:=11) rfl ?_);refine goesL_ (some 47) rfl rfl Try.func11 (by kernel_rfl) rfl #[.slice A0 l0.length c0] rfl zl ?_;(with_reducible refine (laws_toJobS.calls kj8 _ _ l0 t376 _ ?side1 ?side2 A25.out).mono ?_);(case side1=>exact zC (Kd.C_below HR0.out HB.out));(case side2=>exact HC0.out);rintro e w72 ⟨v377,rfl,ho0,hb⟩;refine ⟨_,rfl,?_⟩;have n0_:=Aside0.mk (Kd.R_below (zR HO_6.out) hb);have n1_:=Aside0.mk (Kd.R_elder' (zR HO_8.out) (Kd.R_base ho0) hb);have n2_:=Aside0.mk (Kd.R_below (zR HO_9.out) hb);have n3_:=Aside0.mk (Kd.R_lower (Kd.R_new' ho0 (Kd.R_lt (zR HO_8.out))) (below_size zb));have n4_:=Aside0.mk (below_step zb hb);clear HO_6;clear HO_8;clear HO_9;clear HB;have HO_6:=n0_;have HO_8:=n1_;have HO_9:=n2_;have HO378:=n3_;have HB:=n4_;clear n0_ n1_ n2_ n3_ n4_;(try clear hb);(try clear hb2);(try clear hk);(try clear hi);(try clear ho0);obtain ⟨Ao73,co73,eo73⟩:=Kd.R_slice HO378.out;subst eo73)|((with_reducible refine gate_callee (f:=14) rfl ?_);refine goesL_ (some 48) rfl rfl Try.func14 (by kernel_rfl) rfl #[.slice Ao14 t368.length co14,.slice Ao73 t376.length co73] rfl zl ?_;(with_reducible refine (laws_eqJobS.calls kj8 _ _ t368 _ _ t376 false _ ?side1 ?side2 ?side3 ?side4 A26.out).mono ?_);(case side1=>exact zC ((Kd.R_reads' HO_8.out).2.2));(case side2=>exact (Kd.R_reads' HO_8.out).2.1);(case side3=>exact zC ((Kd.R_reads' HO378.out).2.2));(case side4=>exact (Kd.R_reads' HO378.out).2.1);rintro e w74 ⟨rfl,hb⟩;refine ⟨_,rfl,?_⟩;have n0_:=Aside0.mk (Kd.R_below (zR HO_6.out) hb);have n1_:=Aside0.mk (Kd.R_below (zR HO_8.out) hb);have n2_:=Aside0.mk (Kd.R_below (zR HO_9.out) hb);have n3_:=Aside0.mk (Kd.R_below (zR HO378.out) hb);have n4_:=Aside0.mk (below_step zb hb);clear HO_6;clear HO_8;clear HO_9;clear HO378;clear HB;have HO_6:=n0_;have HO_8:=n1_;have HO_9:=n2_;have HO378:=n3_;have HB:=n4_;clear n0_ n1_ n2_ n3_ n4_;(try clear hb);(try clear hb2);(try clear hk);(try clear hi)))
      go_ret
      exact ⟨by first|rfl|(simp [errW_none,errW_some] <;> rfl)|(simp [*,errW_none,errW_some] <;> rfl),zb⟩

end Go.Proofs.Ytplbabjigikgjaa.XFnExactLongestFirst
-- minified
