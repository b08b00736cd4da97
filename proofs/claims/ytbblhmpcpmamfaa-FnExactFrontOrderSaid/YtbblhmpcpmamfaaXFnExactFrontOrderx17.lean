-- Written by a program of this session (the kit's print, widened). Proved here: what each function answers, for the arguments that its contract names.
import Derived.Test.YtbblhmpcpmamfaaXFnExactFrontOrderx0
import Derived.Test.YtbblhmpcpmamfaaXFnExactFrontOrderx2
import Derived.Test.YtbblhmpcpmamfaaXFnExactFrontOrderx3
import Derived.Test.YtbblhmpcpmamfaaXFnExactFrontOrderx9
import Derived.Test.YtbblhmpcpmamfaaXFnExactFrontOrderx16
namespace Go.Proofs.Ytbblhmpcpmamfaa.XFnExactFrontOrder
open Go.RowKit Go.Proofs.YtbblhmpcpmamfaaW.PrintWords Go.Proofs.YtbblhmpcpmamfaaW.PrintLast Go.Proofs.YtbblhmpcpmamfaaW.PrintMore
attribute [local go_sem] max2_int min2_int max_two min_two max_three min_three max_four min_four   -- for this text's walks alone
attribute [local go_sem] idxA_77_0 idxA_77_1 fldS_68_0 fldS_68_1 fldS_73_0 fldS_73_1 fldS_73_2
set_option linter.unusedVariables false
set_option linter.unusedSimpArgs false

/-! ### laws_FnExactFrontOrder: function 8 -/
mutual
def laws_FnExactFrontOrder.j0:Nat→List (S64)→Int→Int→Int→List Int→Bool→List (S62)→List Int→Bool→Bool→Option (Bool)
 | 0,_,_,_,_,_,_,_,_,_,_=>none
 | k + 1,x0,x1,x2,x3,x10,x11,x12,x13,x14,x52=>if x52=true then (some false) else ((laws_toJobS.f k x0).bind fun t338=>((laws_eqJobS.f k x12 t338).bind fun t341=>(if t341=true then ((laws_markJobS.f k x12 1).bind fun bt342=>(if bt342.1<0 then (laws_FnExactFrontOrder.j1 k x0 x1 x2 x3 x10 x11 x13 true) else ((laws_eqIntS.f k x13 x10).bind fun t344=>(if t344=true then (laws_FnExactFrontOrder.j1 k x0 x1 x2 x3 x10 x11 x13 (x14 != x11)) else (laws_FnExactFrontOrder.j1 k x0 x1 x2 x3 x10 x11 x13 true))))) else (some false))))
def laws_FnExactFrontOrder.j1:Nat→List (S64)→Int→Int→Int→List Int→Bool→List Int→Bool→Option (Bool)
 | 0,_,_,_,_,_,_,_,_=>none
 | k + 1,x0,x1,x2,x3,x10,x11,x13,x73=>if x73=true then (some false) else ((laws_markIntS.f k x13 1).bind fun bt345=>((laws_heldIntS.f k bt345.2 1).bind fun t347=>(if t347<0 then (some false) else (if t347=bt345.1 then ((laws_toJobS.f k x0).bind fun t348=>((impl_FrontOrder.f k t348 x1 x2 x3).bind fun bt351=>((laws_eqIntS.f k bt351.1 x10).bind fun t355=>(if t355=true then (laws_FnExactFrontOrder.j2 k bt345.2 bt345.1 (bt351.2 != x11)) else (laws_FnExactFrontOrder.j2 k bt345.2 bt345.1 true))))) else (some false)))))
def laws_FnExactFrontOrder.j2:Nat→List Int→Int→Bool→Option (Bool)
 | 0,_,_,_=>none
 | k + 1,x13,x16,x102=>if x102=true then (some false) else ((laws_heldIntS.f k x13 1).bind fun t356=>(if t356<0 then (some false) else (if t356=x16 then (some true) else (some false))))
end
def laws_FnExactFrontOrder.f (k:Nat) (l0:List (S64)) (a1:Int) (a2:Int) (a3:Int):Option (Bool):=(laws_szJobS.f l0 1048576).bind fun t322=>(if t322<0 then (some true) else ((laws_toJobS.f k l0).bind fun t323=>((spec_FrontOrder.f k t323 a1 a2 a3).bind fun bt326=>((laws_toJobS.f k l0).bind fun t330=>((impl_FrontOrder.f k t330 a1 a2 a3).bind fun bt333=>((laws_eqIntS.f k bt333.1 bt326.1).bind fun t337=>(if t337=true then (laws_FnExactFrontOrder.j0 k l0 a1 a2 a3 bt326.1 bt326.2 t330 bt333.1 bt333.2 (bt333.2 != bt326.2)) else (laws_FnExactFrontOrder.j0 k l0 a1 a2 a3 bt326.1 bt326.2 t330 bt333.1 bt333.2 true))))))))
theorem laws_FnExactFrontOrder.mono_l:∀ k,(∀ y0 y1 y2 y3 y4 y5 y6 y7 y8 y9,LeO (laws_FnExactFrontOrder.j0 k y0 y1 y2 y3 y4 y5 y6 y7 y8 y9) (laws_FnExactFrontOrder.j0 (k + 1) y0 y1 y2 y3 y4 y5 y6 y7 y8 y9))∧(∀ y0 y1 y2 y3 y4 y5 y6 y7,LeO (laws_FnExactFrontOrder.j1 k y0 y1 y2 y3 y4 y5 y6 y7) (laws_FnExactFrontOrder.j1 (k + 1) y0 y1 y2 y3 y4 y5 y6 y7))∧(∀ y0 y1 y2,LeO (laws_FnExactFrontOrder.j2 k y0 y1 y2) (laws_FnExactFrontOrder.j2 (k + 1) y0 y1 y2))
 | 0=>⟨fun _ _ _ _ _ _ _ _ _ _ r h=>by simp [laws_FnExactFrontOrder.j0] at h,fun _ _ _ _ _ _ _ _ r h=>by simp [laws_FnExactFrontOrder.j1] at h,fun _ _ _ r h=>by simp [laws_FnExactFrontOrder.j2] at h⟩
 | k + 1=>by
  obtain ⟨ih0,ih1,ih2⟩:=laws_FnExactFrontOrder.mono_l k
  refine ⟨?_,?_,?_⟩
  ·intro y0 y1 y2 y3 y4 y5 y6 y7 y8 y9
   unfold laws_FnExactFrontOrder.j0
   repeat' first
   | (with_reducible exact ih0 _ _ _ _ _ _ _ _ _ _)
   | (with_reducible exact ih1 _ _ _ _ _ _ _ _)
   | (with_reducible exact ih2 _ _ _)
   | (with_reducible exact impl_FrontOrder.mono _ _ _ _ _)
   | (with_reducible exact laws_eqIntS.mono _ _ _)
   | (with_reducible exact laws_eqJobS.mono _ _ _)
   | (with_reducible exact laws_heldIntS.mono _ _ _)
   | (with_reducible exact laws_markIntS.mono _ _ _)
   | (with_reducible exact laws_markJobS.mono _ _ _)
   | (with_reducible exact laws_toJobS.mono _ _)
   | (with_reducible exact spec_FrontOrder.mono _ _ _ _ _)
   | (with_reducible exact LeO.refl _)
   | (with_reducible exact LeO.none _)
   | (with_reducible refine LeO.ite ?_ ?_)
   | (with_reducible refine LeO.bind ?_ (fun _=>?_))
   | exact ih0 _ _ _ _ _ _ _ _ _ _
   | exact ih1 _ _ _ _ _ _ _ _
   | exact ih2 _ _ _
   | exact impl_FrontOrder.mono _ _ _ _ _
   | exact laws_eqIntS.mono _ _ _
   | exact laws_eqJobS.mono _ _ _
   | exact laws_heldIntS.mono _ _ _
   | exact laws_markIntS.mono _ _ _
   | exact laws_markJobS.mono _ _ _
   | exact laws_toJobS.mono _ _
   | exact spec_FrontOrder.mono _ _ _ _ _
   | exact LeO.none _
   | refine LeO.ite ?_ ?_
   | refine LeO.bind ?_ (fun _=>?_)
  ·intro y0 y1 y2 y3 y4 y5 y6 y7
   unfold laws_FnExactFrontOrder.j1
   repeat' first
   | (with_reducible exact ih0 _ _ _ _ _ _ _ _ _ _)
   | (with_reducible exact ih1 _ _ _ _ _ _ _ _)
   | (with_reducible exact ih2 _ _ _)
   | (with_reducible exact impl_FrontOrder.mono _ _ _ _ _)
   | (with_reducible exact laws_eqIntS.mono _ _ _)
   | (with_reducible exact laws_eqJobS.mono _ _ _)
   | (with_reducible exact laws_heldIntS.mono _ _ _)
   | (with_reducible exact laws_markIntS.mono _ _ _)
   | (with_reducible exact laws_markJobS.mono _ _ _)
   | (with_reducible exact laws_toJobS.mono _ _)
   | (with_reducible exact spec_FrontOrder.mono _ _ _ _ _)
   | (with_reducible exact LeO.refl _)
   | (with_reducible exact LeO.none _)
   | (with_reducible refine LeO.ite ?_ ?_)
   | (with_reducible refine LeO.bind ?_ (fun _=>?_))
   | exact ih0 _ _ _ _ _ _ _ _ _ _
   | exact ih1 _ _ _ _ _ _ _ _
   | exact ih2 _ _ _
   | exact impl_FrontOrder.mono _ _ _ _ _
   | exact laws_eqIntS.mono _ _ _
   | exact laws_eqJobS.mono _ _ _
   | exact laws_heldIntS.mono _ _ _
   | exact laws_markIntS.mono _ _ _
   | exact laws_markJobS.mono _ _ _
   | exact laws_toJobS.mono _ _
   | exact spec_FrontOrder.mono _ _ _ _ _
   | exact LeO.none _
   | refine LeO.ite ?_ ?_
   | refine LeO.bind ?_ (fun _=>?_)
  ·intro y0 y1 y2
   unfold laws_FnExactFrontOrder.j2
   repeat' first
   | (with_reducible exact ih0 _ _ _ _ _ _ _ _ _ _)
   | (with_reducible exact ih1 _ _ _ _ _ _ _ _)
   | (with_reducible exact ih2 _ _ _)
   | (with_reducible exact impl_FrontOrder.mono _ _ _ _ _)
   | (with_reducible exact laws_eqIntS.mono _ _ _)
   | (with_reducible exact laws_eqJobS.mono _ _ _)
   | (with_reducible exact laws_heldIntS.mono _ _ _)
   | (with_reducible exact laws_markIntS.mono _ _ _)
   | (with_reducible exact laws_markJobS.mono _ _ _)
   | (with_reducible exact laws_toJobS.mono _ _)
   | (with_reducible exact spec_FrontOrder.mono _ _ _ _ _)
   | (with_reducible exact LeO.refl _)
   | (with_reducible exact LeO.none _)
   | (with_reducible refine LeO.ite ?_ ?_)
   | (with_reducible refine LeO.bind ?_ (fun _=>?_))
   | exact ih0 _ _ _ _ _ _ _ _ _ _
   | exact ih1 _ _ _ _ _ _ _ _
   | exact ih2 _ _ _
   | exact impl_FrontOrder.mono _ _ _ _ _
   | exact laws_eqIntS.mono _ _ _
   | exact laws_eqJobS.mono _ _ _
   | exact laws_heldIntS.mono _ _ _
   | exact laws_markIntS.mono _ _ _
   | exact laws_markJobS.mono _ _ _
   | exact laws_toJobS.mono _ _
   | exact spec_FrontOrder.mono _ _ _ _ _
   | exact LeO.none _
   | refine LeO.ite ?_ ?_
   | refine LeO.bind ?_ (fun _=>?_)
theorem laws_FnExactFrontOrder.mono:∀ a0 a1 a2 a3 k,LeO (laws_FnExactFrontOrder.f k a0 a1 a2 a3) (laws_FnExactFrontOrder.f (k + 1) a0 a1 a2 a3):=by
 intro a0 a1 a2 a3 k
 obtain ⟨ih0,ih1,ih2⟩:=laws_FnExactFrontOrder.mono_l k
 unfold laws_FnExactFrontOrder.f
 repeat' first
   | (with_reducible exact ih0 _ _ _ _ _ _ _ _ _ _)
   | (with_reducible exact ih1 _ _ _ _ _ _ _ _)
   | (with_reducible exact ih2 _ _ _)
   | (with_reducible exact impl_FrontOrder.mono _ _ _ _ _)
   | (with_reducible exact laws_eqIntS.mono _ _ _)
   | (with_reducible exact laws_eqJobS.mono _ _ _)
   | (with_reducible exact laws_heldIntS.mono _ _ _)
   | (with_reducible exact laws_markIntS.mono _ _ _)
   | (with_reducible exact laws_markJobS.mono _ _ _)
   | (with_reducible exact laws_toJobS.mono _ _)
   | (with_reducible exact spec_FrontOrder.mono _ _ _ _ _)
   | (with_reducible exact LeO.refl _)
   | (with_reducible exact LeO.none _)
   | (with_reducible refine LeO.ite ?_ ?_)
   | (with_reducible refine LeO.bind ?_ (fun _=>?_))
   | exact ih0 _ _ _ _ _ _ _ _ _ _
   | exact ih1 _ _ _ _ _ _ _ _
   | exact ih2 _ _ _
   | exact impl_FrontOrder.mono _ _ _ _ _
   | exact laws_eqIntS.mono _ _ _
   | exact laws_eqJobS.mono _ _ _
   | exact laws_heldIntS.mono _ _ _
   | exact laws_markIntS.mono _ _ _
   | exact laws_markJobS.mono _ _ _
   | exact laws_toJobS.mono _ _
   | exact spec_FrontOrder.mono _ _ _ _ _
   | exact LeO.none _
   | refine LeO.ite ?_ ?_
   | refine LeO.bind ?_ (fun _=>?_)
set_option maxHeartbeats 8000000 in
set_option maxRecDepth 100000 in
theorem laws_FnExactFrontOrder.calls (k:Nat) (A0:Option Addr) (c0:Nat) (l0:List (S64)) (a1:Int) (a2:Int) (a3:Int) (r:Bool) (w:World) (hr0:Kd.C k64 w A0 l0.length l0) (hc0:l0.length≤c0) (h:laws_FnExactFrontOrder.f k l0 a1 a2 a3=some r) :
  Calls Try.prog 8 #[.slice A0 l0.length c0,.int .i64 a1,.int .i64 a2,.int .i64 a3] w fun e w'=>e=.returned (.bool r)∧Below w.heap.size w w':=by
 have HR0:=Aside0.mk hr0
 have HC0:=Aside0.mk hc0
 clear hr0 hc0
 have HB:=Aside0.mk (Below.refl w.heap.size w)
 have H:((laws_szJobS.f l0 1048576).bind fun t322=>(if t322<0 then (some true) else ((laws_toJobS.f k l0).bind fun t323=>((spec_FrontOrder.f k t323 a1 a2 a3).bind fun bt326=>((laws_toJobS.f k l0).bind fun t330=>((impl_FrontOrder.f k t330 a1 a2 a3).bind fun bt333=>((laws_eqIntS.f k bt333.1 bt326.1).bind fun t337=>(if t337=true then (laws_FnExactFrontOrder.j0 k l0 a1 a2 a3 bt326.1 bt326.2 t330 bt333.1 bt333.2 (bt333.2 != bt326.2)) else (laws_FnExactFrontOrder.j0 k l0 a1 a2 a3 bt326.1 bt326.2 t330 bt333.1 bt333.2 true)))))))))=some r:=h
 clear h
 replace H:=Option.bind_eq_some_iff.mp H
 obtain ⟨t322,A50,H⟩:=H
 replace H:(if t322<0 then (some true) else ((laws_toJobS.f k l0).bind fun t323=>((spec_FrontOrder.f k t323 a1 a2 a3).bind fun bt326=>((laws_toJobS.f k l0).bind fun t330=>((impl_FrontOrder.f k t330 a1 a2 a3).bind fun bt333=>((laws_eqIntS.f k bt333.1 bt326.1).bind fun t337=>(if t337=true then (laws_FnExactFrontOrder.j0 k l0 a1 a2 a3 bt326.1 bt326.2 t330 bt333.1 bt333.2 (bt333.2 != bt326.2)) else (laws_FnExactFrontOrder.j0 k l0 a1 a2 a3 bt326.1 bt326.2 t330 bt333.1 bt333.2 true))))))))=some r:=H
 have A5:=Aside0.mk A50
 clear A50
 by_cases c6:t322<0
 ·rw [if_pos c6] at H
  have c6b0:decide (t322<0)=true:=decide_eq_true c6
  clear c6
  obtain rfl:=Option.some.inj H
  go_enter Try.func8,Try.ntmps8
  go_wp2_with (first|((with_reducible refine gate_callee (f:=16) rfl ?_);refine goesL_ (some 22) rfl rfl Try.func16 (by kernel_rfl) rfl #[.slice A0 l0.length c0,.int .i64 1048576] rfl (by (try simp only [List.map_toArray,List.map_cons,List.map_nil]);first|done|rfl|(simp only [List.length_drop,List.length_take];rfl)) ?_;(with_reducible refine (laws_szJobS.calls _ _ l0 1048576 t322 _ ?side1 ?side2 A5.out).mono ?_);(case side1=>repeat (first|exact HR0.out|(with_reducible refine Kd.C_alloc ?_ _)|(with_reducible refine Kd.C_drewN ?_ _)|(with_reducible refine Kd.C_drew ?_)));(case side2=>exact HC0.out);rintro e w' ⟨rfl,⟨nd,rfl⟩⟩;refine ⟨_,rfl,?_⟩))
  go_ret
  exact ⟨by first|rfl|(simp [errW_none,errW_some] <;> rfl)|(simp [*,errW_none,errW_some] <;> rfl),by repeat (first|(with_reducible first|exact HB.out|apply below_alloc|apply pw_below_drewN|apply below_drew1)|exact HB.out)⟩
 ·rw [if_neg c6] at H
  have c6b0:decide (t322<0)=false:=decide_eq_false c6
  clear c6
  replace H:=Option.bind_eq_some_iff.mp H
  obtain ⟨t323,A70,H⟩:=H
  replace H:((spec_FrontOrder.f k t323 a1 a2 a3).bind fun bt326=>((laws_toJobS.f k l0).bind fun t330=>((impl_FrontOrder.f k t330 a1 a2 a3).bind fun bt333=>((laws_eqIntS.f k bt333.1 bt326.1).bind fun t337=>(if t337=true then (laws_FnExactFrontOrder.j0 k l0 a1 a2 a3 bt326.1 bt326.2 t330 bt333.1 bt333.2 (bt333.2 != bt326.2)) else (laws_FnExactFrontOrder.j0 k l0 a1 a2 a3 bt326.1 bt326.2 t330 bt333.1 bt333.2 true))))))=some r:=H
  have A7:=Aside0.mk A70
  clear A70
  replace H:=Option.bind_eq_some_iff.mp H
  obtain ⟨⟨t326,t327⟩,A80,H⟩:=H
  replace H:((laws_toJobS.f k l0).bind fun t330=>((impl_FrontOrder.f k t330 a1 a2 a3).bind fun bt333=>((laws_eqIntS.f k bt333.1 t326).bind fun t337=>(if t337=true then (laws_FnExactFrontOrder.j0 k l0 a1 a2 a3 t326 t327 t330 bt333.1 bt333.2 (bt333.2 != t327)) else (laws_FnExactFrontOrder.j0 k l0 a1 a2 a3 t326 t327 t330 bt333.1 bt333.2 true)))))=some r:=H
  have A8:=Aside0.mk A80
  clear A80
  replace H:=Option.bind_eq_some_iff.mp H
  obtain ⟨t330,A90,H⟩:=H
  replace H:((impl_FrontOrder.f k t330 a1 a2 a3).bind fun bt333=>((laws_eqIntS.f k bt333.1 t326).bind fun t337=>(if t337=true then (laws_FnExactFrontOrder.j0 k l0 a1 a2 a3 t326 t327 t330 bt333.1 bt333.2 (bt333.2 != t327)) else (laws_FnExactFrontOrder.j0 k l0 a1 a2 a3 t326 t327 t330 bt333.1 bt333.2 true))))=some r:=H
  have A9:=Aside0.mk A90
  clear A90
  replace H:=Option.bind_eq_some_iff.mp H
  obtain ⟨⟨t333,t334⟩,A100,H⟩:=H
  replace H:((laws_eqIntS.f k t333 t326).bind fun t337=>(if t337=true then (laws_FnExactFrontOrder.j0 k l0 a1 a2 a3 t326 t327 t330 t333 t334 (t334 != t327)) else (laws_FnExactFrontOrder.j0 k l0 a1 a2 a3 t326 t327 t330 t333 t334 true)))=some r:=H
  have A10:=Aside0.mk A100
  clear A100
  have HC11:=Aside0.mk H
  clear H
  go_enter Try.func8,Try.ntmps8
  go_upto_region 8 with (first|((with_reducible refine gate_callee (f:=16) rfl ?_);refine goesL_ (some 22) rfl rfl Try.func16 (by kernel_rfl) rfl #[.slice A0 l0.length c0,.int .i64 1048576] rfl (by (try simp only [List.map_toArray,List.map_cons,List.map_nil]);first|done|rfl|(simp only [List.length_drop,List.length_take];rfl)) ?_;(with_reducible refine (laws_szJobS.calls _ _ l0 1048576 t322 _ ?side1 ?side2 A5.out).mono ?_);(case side1=>repeat (first|exact HR0.out|(with_reducible refine Kd.C_alloc ?_ _)|(with_reducible refine Kd.C_drewN ?_ _)|(with_reducible refine Kd.C_drew ?_)));(case side2=>exact HC0.out);rintro e w' ⟨rfl,⟨nd,rfl⟩⟩;refine ⟨_,rfl,?_⟩)|((with_reducible refine gate_callee (f:=18) rfl ?_);refine goesL_ (some 27) rfl rfl Try.func18 (by kernel_rfl) rfl #[.slice A0 l0.length c0] rfl (by (try simp only [List.map_toArray,List.map_cons,List.map_nil]);first|done|rfl|(simp only [List.length_drop,List.length_take];rfl)) ?_;(with_reducible refine (laws_toJobS.calls k _ _ l0 t323 _ ?side1 ?side2 A7.out).mono ?_);(case side1=>repeat (first|exact HR0.out|(with_reducible refine Kd.C_alloc ?_ _)|(with_reducible refine Kd.C_drewN ?_ _)|(with_reducible refine Kd.C_drew ?_)));(case side2=>exact HC0.out);rintro e w12 ⟨v324,rfl,ho0,hb⟩;refine ⟨_,rfl,?_⟩;have n0_:=Aside0.mk (Kd.R_lower ho0 (below_size (by repeat (first|(with_reducible first|exact HB.out|apply below_alloc|apply pw_below_drewN|apply below_drew1)|exact HB.out))));have n1_:=Aside0.mk (below_step (by repeat (first|(with_reducible first|exact HB.out|apply below_alloc|apply pw_below_drewN|apply below_drew1)|exact HB.out)) hb);clear HB;have HO325:=n0_;have HB:=n1_;clear n0_ n1_;(try clear hb);(try clear hb2);(try clear hk);(try clear hi);(try clear ho0);obtain ⟨Ao13,co13,eo13⟩:=Kd.R_slice HO325.out;subst eo13)|((with_reducible refine gate_callee (f:=39) rfl ?_);refine goesL_ (some 31) rfl rfl Try.func39 (by kernel_rfl) rfl #[.slice Ao13 t323.length co13,.int .i64 a1,.int .i64 a2,.int .i64 a3] rfl (by (try simp only [List.map_toArray,List.map_cons,List.map_nil]);first|done|rfl|(simp only [List.length_drop,List.length_take];rfl)) ?_;(with_reducible refine (spec_FrontOrder.calls k _ _ t323 a1 a2 a3 t326 t327 _ ?side1 ?side2 A8.out).mono ?_);(case side1=>repeat (first|exact (Kd.R_reads' HO325.out).2.2|(with_reducible refine Kd.C_alloc ?_ _)|(with_reducible refine Kd.C_drewN ?_ _)|(with_reducible refine Kd.C_drew ?_)));(case side2=>exact (Kd.R_reads' HO325.out).2.1);rintro e w14 ⟨v328,rfl,ho0,hb⟩;refine ⟨_,rfl,?_⟩;have n0_:=Aside0.mk (Kd.R_below (by (with_reducible repeat (first|apply Kd.R_alloc|apply Kd.R_drewN|apply Kd.R_drew));exact HO325.out) hb);have n1_:=Aside0.mk (Kd.R_lower ho0 (below_size (by repeat (first|(with_reducible first|exact HB.out|apply below_alloc|apply pw_below_drewN|apply below_drew1)|exact HB.out))));have n2_:=Aside0.mk (below_step (by repeat (first|(with_reducible first|exact HB.out|apply below_alloc|apply pw_below_drewN|apply below_drew1)|exact HB.out)) hb);clear HO325;clear HB;have HO325:=n0_;have HO329:=n1_;have HB:=n2_;clear n0_ n1_ n2_;(try clear hb);(try clear hb2);(try clear hk);(try clear hi);(try clear ho0))|((with_reducible refine gate_callee (f:=18) rfl ?_);refine goesL_ (some 35) rfl rfl Try.func18 (by kernel_rfl) rfl #[.slice A0 l0.length c0] rfl (by (try simp only [List.map_toArray,List.map_cons,List.map_nil]);first|done|rfl|(simp only [List.length_drop,List.length_take];rfl)) ?_;(with_reducible refine (laws_toJobS.calls k _ _ l0 t330 _ ?side1 ?side2 A9.out).mono ?_);(case side1=>repeat (first|exact (Kd.C_below HR0.out HB.out)|(with_reducible refine Kd.C_alloc ?_ _)|(with_reducible refine Kd.C_drewN ?_ _)|(with_reducible refine Kd.C_drew ?_)));(case side2=>exact HC0.out);rintro e w15 ⟨v331,rfl,ho0,hb⟩;refine ⟨_,rfl,?_⟩;have n0_:=Aside0.mk (Kd.R_elder' (by (with_reducible repeat (first|apply Kd.R_alloc|apply Kd.R_drewN|apply Kd.R_drew));exact HO325.out) (Kd.R_base ho0) hb);have n1_:=Aside0.mk (Kd.R_below (by (with_reducible repeat (first|apply Kd.R_alloc|apply Kd.R_drewN|apply Kd.R_drew));exact HO329.out) hb);have n2_:=Aside0.mk (Kd.R_lower (Kd.R_new' ho0 (Kd.R_lt (by (with_reducible repeat (first|apply Kd.R_alloc|apply Kd.R_drewN|apply Kd.R_drew));exact HO325.out))) (below_size (by repeat (first|(with_reducible first|exact HB.out|apply below_alloc|apply pw_below_drewN|apply below_drew1)|exact HB.out))));have n3_:=Aside0.mk (below_step (by repeat (first|(with_reducible first|exact HB.out|apply below_alloc|apply pw_below_drewN|apply below_drew1)|exact HB.out)) hb);clear HO325;clear HO329;clear HB;have HO325:=n0_;have HO329:=n1_;have HO332:=n2_;have HB:=n3_;clear n0_ n1_ n2_ n3_;(try clear hb);(try clear hb2);(try clear hk);(try clear hi);(try clear ho0);obtain ⟨Ao16,co16,eo16⟩:=Kd.R_slice HO332.out;subst eo16)|((with_reducible refine gate_callee (f:=40) rfl ?_);refine goesL_ (some 41) rfl rfl Try.func40 (by kernel_rfl) rfl #[.slice Ao16 t330.length co16,.int .i64 a1,.int .i64 a2,.int .i64 a3] rfl (by (try simp only [List.map_toArray,List.map_cons,List.map_nil]);first|done|rfl|(simp only [List.length_drop,List.length_take];rfl)) ?_;(with_reducible refine (impl_FrontOrder.calls k _ _ t330 a1 a2 a3 t333 t334 _ ?side1 ?side2 A10.out).mono ?_);(case side1=>repeat (first|exact (Kd.R_reads' HO332.out).2.2|(with_reducible refine Kd.C_alloc ?_ _)|(with_reducible refine Kd.C_drewN ?_ _)|(with_reducible refine Kd.C_drew ?_)));(case side2=>exact (Kd.R_reads' HO332.out).2.1);rintro e w17 ⟨v335,rfl,ho0,hb⟩;refine ⟨_,rfl,?_⟩;have n0_:=Aside0.mk (Kd.R_below (by (with_reducible repeat (first|apply Kd.R_alloc|apply Kd.R_drewN|apply Kd.R_drew));exact HO325.out) hb);have n1_:=Aside0.mk (Kd.R_elder' (by (with_reducible repeat (first|apply Kd.R_alloc|apply Kd.R_drewN|apply Kd.R_drew));exact HO329.out) (Kd.R_base ho0) hb);have n2_:=Aside0.mk (Kd.R_below (by (with_reducible repeat (first|apply Kd.R_alloc|apply Kd.R_drewN|apply Kd.R_drew));exact HO332.out) hb);have n3_:=Aside0.mk (Kd.R_lower (Kd.R_new' ho0 (Kd.R_lt (by (with_reducible repeat (first|apply Kd.R_alloc|apply Kd.R_drewN|apply Kd.R_drew));exact HO329.out))) (below_size (by repeat (first|(with_reducible first|exact HB.out|apply below_alloc|apply pw_below_drewN|apply below_drew1)|exact HB.out))));have n4_:=Aside0.mk (below_step (by repeat (first|(with_reducible first|exact HB.out|apply below_alloc|apply pw_below_drewN|apply below_drew1)|exact HB.out)) hb);clear HO325;clear HO329;clear HO332;clear HB;have HO325:=n0_;have HO329:=n1_;have HO332:=n2_;have HO336:=n3_;have HB:=n4_;clear n0_ n1_ n2_ n3_ n4_;(try clear hb);(try clear hb2);(try clear hk);(try clear hi);(try clear ho0)))
  (try simp only [Act.put,List.setIfInBounds_toArray,List.set_cons_zero,List.set_cons_succ])
  go_cut [52] (fun v52 wc=>∃ (kq:Nat) (x52_10:Bool),v52=.bool x52_10∧Aside0 (laws_FnExactFrontOrder.j0 kq l0 a1 a2 a3 t326 t327 t330 t333 t334 x52_10=some r)∧Aside0 (kq≤k)∧Aside0 (Kd.R (Kd.int .i64) 3 wc w.heap.size (fun k_=>some k_≠(v335:Value).ownBlock) v328 t326)∧Aside0 (Kd.R k62 62 wc w.heap.size (fun _=>True) (.slice Ao16 t330.length co16) t330)∧Aside0 (Kd.R (Kd.int .i64) 3 wc w.heap.size (fun k_=>some k_≠(v328:Value).ownBlock) v335 t333)∧Aside0 (Below w.heap.size w wc))
  case first=>
   have H:=HC11.out
   clear HC11
   replace H:=Option.bind_eq_some_iff.mp H
   obtain ⟨t337,A180,H⟩:=H
   replace H:(if t337=true then (laws_FnExactFrontOrder.j0 k l0 a1 a2 a3 t326 t327 t330 t333 t334 (t334 != t327)) else (laws_FnExactFrontOrder.j0 k l0 a1 a2 a3 t326 t327 t330 t333 t334 true))=some r:=H
   have A18:=Aside0.mk A180
   clear A180
   by_cases c19:t337=true
   ·subst c19
    have H1:(laws_FnExactFrontOrder.j0 k l0 a1 a2 a3 t326 t327 t330 t333 t334 (t334 != t327))=some r:=by rw [if_pos rfl] at H;exact H
    clear H
    have H:=H1
    clear H1
    have H':=Aside0.mk H
    clear H
    obtain ⟨Ao20,co20,eo20⟩:=Kd.R_slice HO336.out
    subst eo20
    obtain ⟨Ao21,co21,eo21⟩:=Kd.R_slice HO329.out
    subst eo21
    go_wp2_with (first|((with_reducible refine gate_callee (f:=27) rfl ?_);refine goesL_ (some 46) rfl rfl Try.func27 (by kernel_rfl) rfl #[.slice Ao20 t333.length co20,.slice Ao21 t326.length co21] rfl (by (try simp only [List.map_toArray,List.map_cons,List.map_nil]);first|done|rfl|(simp only [List.length_drop,List.length_take];rfl)) ?_;(with_reducible refine (laws_eqIntS.calls k _ _ t333 _ _ t326 true _ ?side1 ?side2 ?side3 ?side4 A18.out).mono ?_);(case side1=>repeat (first|exact (Kd.R_reads' HO336.out).2.2|(with_reducible refine Kd.C_alloc ?_ _)|(with_reducible refine Kd.C_drewN ?_ _)|(with_reducible refine Kd.C_drew ?_)));(case side2=>exact (Kd.R_reads' HO336.out).2.1);(case side3=>repeat (first|exact (Kd.R_reads' HO329.out).2.2|(with_reducible refine Kd.C_alloc ?_ _)|(with_reducible refine Kd.C_drewN ?_ _)|(with_reducible refine Kd.C_drew ?_)));(case side4=>exact (Kd.R_reads' HO329.out).2.1);rintro e w' ⟨rfl,⟨nd,rfl⟩⟩;refine ⟨_,rfl,?_⟩))
    go_meet
    case rel=>exact ⟨_,((t334 != t327)),(by first|rfl|(simp;done)|(simp [*];done)),H',⟨by first|omega|exact Nat.le_refl _⟩,⟨by (with_reducible repeat (first|apply Kd.R_alloc|apply Kd.R_drewN|apply Kd.R_drew));exact Kd.R_mono HO329.out (fun _ hk=>hk.2)⟩,⟨by (with_reducible repeat (first|apply Kd.R_alloc|apply Kd.R_drewN|apply Kd.R_drew));exact Kd.R_mono HO332.out (fun _ hk=>trivial)⟩,⟨by (with_reducible repeat (first|apply Kd.R_alloc|apply Kd.R_drewN|apply Kd.R_drew));exact Kd.R_mono HO336.out (fun _ hk=>hk.2)⟩,⟨by repeat (first|(with_reducible first|exact HB.out|apply below_alloc|apply pw_below_drewN|apply below_drew1)|exact HB.out)⟩⟩
   ·replace c19:=Bool.eq_false_iff.mpr c19
    subst c19
    have H1:(laws_FnExactFrontOrder.j0 k l0 a1 a2 a3 t326 t327 t330 t333 t334 true)=some r:=by rw [if_neg (show ¬ (false=true) by decide)] at H;exact H
    clear H
    have H:=H1
    clear H1
    have H':=Aside0.mk H
    clear H
    obtain ⟨Ao22,co22,eo22⟩:=Kd.R_slice HO336.out
    subst eo22
    obtain ⟨Ao23,co23,eo23⟩:=Kd.R_slice HO329.out
    subst eo23
    go_wp2_with (first|((with_reducible refine gate_callee (f:=27) rfl ?_);refine goesL_ (some 46) rfl rfl Try.func27 (by kernel_rfl) rfl #[.slice Ao22 t333.length co22,.slice Ao23 t326.length co23] rfl (by (try simp only [List.map_toArray,List.map_cons,List.map_nil]);first|done|rfl|(simp only [List.length_drop,List.length_take];rfl)) ?_;(with_reducible refine (laws_eqIntS.calls k _ _ t333 _ _ t326 false _ ?side1 ?side2 ?side3 ?side4 A18.out).mono ?_);(case side1=>repeat (first|exact (Kd.R_reads' HO336.out).2.2|(with_reducible refine Kd.C_alloc ?_ _)|(with_reducible refine Kd.C_drewN ?_ _)|(with_reducible refine Kd.C_drew ?_)));(case side2=>exact (Kd.R_reads' HO336.out).2.1);(case side3=>repeat (first|exact (Kd.R_reads' HO329.out).2.2|(with_reducible refine Kd.C_alloc ?_ _)|(with_reducible refine Kd.C_drewN ?_ _)|(with_reducible refine Kd.C_drew ?_)));(case side4=>exact (Kd.R_reads' HO329.out).2.1);rintro e w' ⟨rfl,⟨nd,rfl⟩⟩;refine ⟨_,rfl,?_⟩))
    go_meet
    case rel=>exact ⟨_,(true),(by first|rfl|(simp;done)|(simp [*];done)),H',⟨by first|omega|exact Nat.le_refl _⟩,⟨by (with_reducible repeat (first|apply Kd.R_alloc|apply Kd.R_drewN|apply Kd.R_drew));exact Kd.R_mono HO329.out (fun _ hk=>hk.2)⟩,⟨by (with_reducible repeat (first|apply Kd.R_alloc|apply Kd.R_drewN|apply Kd.R_drew));exact Kd.R_mono HO332.out (fun _ hk=>trivial)⟩,⟨by (with_reducible repeat (first|apply Kd.R_alloc|apply Kd.R_drewN|apply Kd.R_drew));exact Kd.R_mono HO336.out (fun _ hk=>hk.2)⟩,⟨by repeat (first|(with_reducible first|exact HB.out|apply below_alloc|apply pw_below_drewN|apply below_drew1)|exact HB.out)⟩⟩
  case rest=>
   clear HC11
   try clear c1
   try clear c2
   try clear p2
   try clear c3
   try clear c4
   try clear c6
   try clear c6b0
   try clear c8
   try clear c16
   try clear c18
   try clear c19
   obtain ⟨kq,x52_10,rfl,HA,HJ10,HO_10,HO_12,HO_13,HB⟩:=hcut
   cases kq with
   | zero=>exact absurd HA.out (by simp [laws_FnExactFrontOrder.j0])
   | succ kj10=>
    have H:=HA.out
    clear HA
    simp only [laws_FnExactFrontOrder.j0] at H
    by_cases c24:x52_10=true
    ·subst c24
     have H1:(some false)=some r:=by rw [if_pos rfl] at H;exact H
     clear H
     have H:=H1
     clear H1
     obtain rfl:=Option.some.inj H
     go_wp2
     go_ret
     exact ⟨by first|rfl|(simp [errW_none,errW_some] <;> rfl)|(simp [*,errW_none,errW_some] <;> rfl),by repeat (first|(with_reducible first|exact HB.out|apply below_alloc|apply pw_below_drewN|apply below_drew1)|exact HB.out)⟩
    ·replace c24:=Bool.eq_false_iff.mpr c24
     subst c24
     have H1:((laws_toJobS.f kj10 l0).bind fun t338=>((laws_eqJobS.f kj10 t330 t338).bind fun t341=>(if t341=true then ((laws_markJobS.f kj10 t330 1).bind fun bt342=>(if bt342.1<0 then (laws_FnExactFrontOrder.j1 kj10 l0 a1 a2 a3 t326 t327 t333 true) else ((laws_eqIntS.f kj10 t333 t326).bind fun t344=>(if t344=true then (laws_FnExactFrontOrder.j1 kj10 l0 a1 a2 a3 t326 t327 t333 (t334 != t327)) else (laws_FnExactFrontOrder.j1 kj10 l0 a1 a2 a3 t326 t327 t333 true))))) else (some false))))=some r:=by rw [if_neg (show ¬ (false=true) by decide)] at H;exact H
     clear H
     have H:=H1
     clear H1
     replace H:=Option.bind_eq_some_iff.mp H
     obtain ⟨t338,A250,H⟩:=H
     replace H:((laws_eqJobS.f kj10 t330 t338).bind fun t341=>(if t341=true then ((laws_markJobS.f kj10 t330 1).bind fun bt342=>(if bt342.1<0 then (laws_FnExactFrontOrder.j1 kj10 l0 a1 a2 a3 t326 t327 t333 true) else ((laws_eqIntS.f kj10 t333 t326).bind fun t344=>(if t344=true then (laws_FnExactFrontOrder.j1 kj10 l0 a1 a2 a3 t326 t327 t333 (t334 != t327)) else (laws_FnExactFrontOrder.j1 kj10 l0 a1 a2 a3 t326 t327 t333 true))))) else (some false)))=some r:=H
     have A25:=Aside0.mk A250
     clear A250
     replace H:=Option.bind_eq_some_iff.mp H
     obtain ⟨t341,A260,H⟩:=H
     replace H:(if t341=true then ((laws_markJobS.f kj10 t330 1).bind fun bt342=>(if bt342.1<0 then (laws_FnExactFrontOrder.j1 kj10 l0 a1 a2 a3 t326 t327 t333 true) else ((laws_eqIntS.f kj10 t333 t326).bind fun t344=>(if t344=true then (laws_FnExactFrontOrder.j1 kj10 l0 a1 a2 a3 t326 t327 t333 (t334 != t327)) else (laws_FnExactFrontOrder.j1 kj10 l0 a1 a2 a3 t326 t327 t333 true))))) else (some false))=some r:=H
     have A26:=Aside0.mk A260
     clear A260
     by_cases c27:t341=true
     ·subst c27
      have H1:((laws_markJobS.f kj10 t330 1).bind fun bt342=>(if bt342.1<0 then (laws_FnExactFrontOrder.j1 kj10 l0 a1 a2 a3 t326 t327 t333 true) else ((laws_eqIntS.f kj10 t333 t326).bind fun t344=>(if t344=true then (laws_FnExactFrontOrder.j1 kj10 l0 a1 a2 a3 t326 t327 t333 (t334 != t327)) else (laws_FnExactFrontOrder.j1 kj10 l0 a1 a2 a3 t326 t327 t333 true)))))=some r:=by rw [if_pos rfl] at H;exact H
      clear H
      have H:=H1
      clear H1
      replace H:=Option.bind_eq_some_iff.mp H
      obtain ⟨⟨t342,t343⟩,A280,H⟩:=H
      replace H:(if t342<0 then (laws_FnExactFrontOrder.j1 kj10 l0 a1 a2 a3 t326 t327 t333 true) else ((laws_eqIntS.f kj10 t333 t326).bind fun t344=>(if t344=true then (laws_FnExactFrontOrder.j1 kj10 l0 a1 a2 a3 t326 t327 t333 (t334 != t327)) else (laws_FnExactFrontOrder.j1 kj10 l0 a1 a2 a3 t326 t327 t333 true))))=some r:=H
      have A28:=Aside0.mk A280
      clear A280
      have HC29:=Aside0.mk H
      clear H
      go_upto_region 14 with (first|((with_reducible refine gate_callee (f:=18) rfl ?_);refine goesL_ (some 55) rfl rfl Try.func18 (by kernel_rfl) rfl #[.slice A0 l0.length c0] rfl (by (try simp only [List.map_toArray,List.map_cons,List.map_nil]);first|done|rfl|(simp only [List.length_drop,List.length_take];rfl)) ?_;(with_reducible refine (laws_toJobS.calls kj10 _ _ l0 t338 _ ?side1 ?side2 A25.out).mono ?_);(case side1=>repeat (first|exact (Kd.C_below HR0.out HB.out)|(with_reducible refine Kd.C_alloc ?_ _)|(with_reducible refine Kd.C_drewN ?_ _)|(with_reducible refine Kd.C_drew ?_)));(case side2=>exact HC0.out);rintro e w30 ⟨v339,rfl,ho0,hb⟩;refine ⟨_,rfl,?_⟩;have n0_:=Aside0.mk (Kd.R_below (by (with_reducible repeat (first|apply Kd.R_alloc|apply Kd.R_drewN|apply Kd.R_drew));exact HO_10.out) hb);have n1_:=Aside0.mk (Kd.R_elder' (by (with_reducible repeat (first|apply Kd.R_alloc|apply Kd.R_drewN|apply Kd.R_drew));exact HO_12.out) (Kd.R_base ho0) hb);have n2_:=Aside0.mk (Kd.R_below (by (with_reducible repeat (first|apply Kd.R_alloc|apply Kd.R_drewN|apply Kd.R_drew));exact HO_13.out) hb);have n3_:=Aside0.mk (Kd.R_lower (Kd.R_new' ho0 (Kd.R_lt (by (with_reducible repeat (first|apply Kd.R_alloc|apply Kd.R_drewN|apply Kd.R_drew));exact HO_12.out))) (below_size (by repeat (first|(with_reducible first|exact HB.out|apply below_alloc|apply pw_below_drewN|apply below_drew1)|exact HB.out))));have n4_:=Aside0.mk (below_step (by repeat (first|(with_reducible first|exact HB.out|apply below_alloc|apply pw_below_drewN|apply below_drew1)|exact HB.out)) hb);clear HO_10;clear HO_12;clear HO_13;clear HB;have HO_10:=n0_;have HO_12:=n1_;have HO_13:=n2_;have HO340:=n3_;have HB:=n4_;clear n0_ n1_ n2_ n3_ n4_;(try clear hb);(try clear hb2);(try clear hk);(try clear hi);(try clear ho0);obtain ⟨Ao31,co31,eo31⟩:=Kd.R_slice HO340.out;subst eo31)|((with_reducible refine gate_callee (f:=21) rfl ?_);refine goesL_ (some 56) rfl rfl Try.func21 (by kernel_rfl) rfl #[.slice Ao16 t330.length co16,.slice Ao31 t338.length co31] rfl (by (try simp only [List.map_toArray,List.map_cons,List.map_nil]);first|done|rfl|(simp only [List.length_drop,List.length_take];rfl)) ?_;(with_reducible refine (laws_eqJobS.calls kj10 _ _ t330 _ _ t338 true _ ?side1 ?side2 ?side3 ?side4 A26.out).mono ?_);(case side1=>repeat (first|exact (Kd.R_reads' HO_12.out).2.2|(with_reducible refine Kd.C_alloc ?_ _)|(with_reducible refine Kd.C_drewN ?_ _)|(with_reducible refine Kd.C_drew ?_)));(case side2=>exact (Kd.R_reads' HO_12.out).2.1);(case side3=>repeat (first|exact (Kd.R_reads' HO340.out).2.2|(with_reducible refine Kd.C_alloc ?_ _)|(with_reducible refine Kd.C_drewN ?_ _)|(with_reducible refine Kd.C_drew ?_)));(case side4=>exact (Kd.R_reads' HO340.out).2.1);rintro e w32 ⟨rfl,hb⟩;refine ⟨_,rfl,?_⟩;have n0_:=Aside0.mk (Kd.R_below (by (with_reducible repeat (first|apply Kd.R_alloc|apply Kd.R_drewN|apply Kd.R_drew));exact HO_10.out) hb);have n1_:=Aside0.mk (Kd.R_below (by (with_reducible repeat (first|apply Kd.R_alloc|apply Kd.R_drewN|apply Kd.R_drew));exact HO_12.out) hb);have n2_:=Aside0.mk (Kd.R_below (by (with_reducible repeat (first|apply Kd.R_alloc|apply Kd.R_drewN|apply Kd.R_drew));exact HO_13.out) hb);have n3_:=Aside0.mk (Kd.R_below (by (with_reducible repeat (first|apply Kd.R_alloc|apply Kd.R_drewN|apply Kd.R_drew));exact HO340.out) hb);have n4_:=Aside0.mk (below_step (by repeat (first|(with_reducible first|exact HB.out|apply below_alloc|apply pw_below_drewN|apply below_drew1)|exact HB.out)) hb);clear HO_10;clear HO_12;clear HO_13;clear HO340;clear HB;have HO_10:=n0_;have HO_12:=n1_;have HO_13:=n2_;have HO340:=n3_;have HB:=n4_;clear n0_ n1_ n2_ n3_ n4_;(try clear hb);(try clear hb2);(try clear hk);(try clear hi))|((with_reducible refine gate_callee (f:=22) rfl ?_);refine goesL_ (some 60) rfl rfl Try.func22 (by kernel_rfl) rfl #[.slice Ao16 t330.length co16,.int .i64 1] rfl (by (try simp only [List.map_toArray,List.map_cons,List.map_nil]);first|done|rfl|(simp only [List.length_drop,List.length_take];rfl)) ?_;(with_reducible refine (laws_markJobS.calls kj10 (fun k_=>some k_=(.slice Ao16 t330.length co16:Value).ownBlock) (.slice Ao16 t330.length co16) t330 1 t342 t343 w _ ?side1 ?side2 A28.out).mono ?_);(case side1=>repeat (first|(with_reducible first|exact HB.out|apply below_alloc|apply pw_below_drewN|apply below_drew1)|exact HB.out));(case side2=>exact Kd.R_tight rfl HO_12.out);rintro e w33 ⟨rfl,hy0,hb,hkp⟩;refine ⟨_,rfl,?_⟩;have n0_:=Aside0.mk (Kd.R_mono (ok':=fun k_=>some k_≠(v335:Value).ownBlock) (Kd.R_keptB ((Kd.R_apart' HO_10.out (Kd.R_typed HO_12.out) (by decide))) hkp (fun k_ hk_ hs_=>(hk_.2) hs_)) (fun k_ hk_=>hk_.1.1));have n1_:=Aside0.mk (Kd.R_reok rfl hy0 (fun k_ e_=>HO_12.out.1 k_ e_));have n2_:=Aside0.mk (Kd.R_mono (ok':=fun k_=>some k_≠(v328:Value).ownBlock) (Kd.R_keptB ((Kd.R_apart' HO_13.out (Kd.R_typed HO_12.out) (by decide))) hkp (fun k_ hk_ hs_=>(hk_.2) hs_)) (fun k_ hk_=>hk_.1.1));have n3_:=Aside0.mk (Kd.R_mono (ok':=fun k_=>some k_≠(.slice Ao16 t330.length co16:Value).ownBlock) (Kd.R_keptB (HO340.out) hkp (fun k_ hk_ hs_=>(hk_.2) hs_)) (fun k_ hk_=>hk_.1.2));have n4_:=Aside0.mk (hb);clear HO_10;clear HO_12;clear HO_13;clear HO340;clear HB;have HO_10:=n0_;have HO_12:=n1_;have HO_13:=n2_;have HO340:=n3_;have HB:=n4_;clear n0_ n1_ n2_ n3_ n4_;(try clear hb);(try clear hkp);(try clear hy0)))
      (try simp only [Act.put,List.setIfInBounds_toArray,List.set_cons_zero,List.set_cons_succ])
      go_cut [73] (fun v73 wc=>∃ (kq:Nat) (x73_28:Bool),v73=.bool x73_28∧Aside0 (laws_FnExactFrontOrder.j1 kq l0 a1 a2 a3 t326 t327 t333 x73_28=some r)∧Aside0 (kq≤kj10)∧Aside0 (Kd.R (Kd.int .i64) 3 wc w.heap.size (fun k_=>some k_≠(v335:Value).ownBlock) v328 t326)∧Aside0 (Kd.R (Kd.int .i64) 3 wc w.heap.size (fun k_=>some k_≠(v328:Value).ownBlock) v335 t333)∧Aside0 (Below w.heap.size w wc))
      case first=>
       have H:=HC29.out
       clear HC29
       by_cases c34:t342<0
       ·rw [if_pos c34] at H
        have c34b0:decide (t342<0)=true:=decide_eq_true c34
        clear c34
        (first|rw [c34b0]|(simp only [i64_w,i32_w];rw [c34b0])|skip)
        have H':=Aside0.mk H
        clear H
        go_wp2
        go_meet
        case rel=>exact ⟨_,(true),(by first|rfl|(simp;done)|(simp [*];done)),H',⟨by have:=HJ10.out;first|omega|exact Nat.le_refl _⟩,⟨by (with_reducible repeat (first|apply Kd.R_alloc|apply Kd.R_drewN|apply Kd.R_drew));exact HO_10.out⟩,⟨by (with_reducible repeat (first|apply Kd.R_alloc|apply Kd.R_drewN|apply Kd.R_drew));exact HO_13.out⟩,⟨by repeat (first|(with_reducible first|exact HB.out|apply below_alloc|apply pw_below_drewN|apply below_drew1)|exact HB.out)⟩⟩
       ·rw [if_neg c34] at H
        have c34b0:decide (t342<0)=false:=decide_eq_false c34
        clear c34
        (first|rw [c34b0]|(simp only [i64_w,i32_w];rw [c34b0])|skip)
        replace H:=Option.bind_eq_some_iff.mp H
        obtain ⟨t344,A350,H⟩:=H
        replace H:(if t344=true then (laws_FnExactFrontOrder.j1 kj10 l0 a1 a2 a3 t326 t327 t333 (t334 != t327)) else (laws_FnExactFrontOrder.j1 kj10 l0 a1 a2 a3 t326 t327 t333 true))=some r:=H
        have A35:=Aside0.mk A350
        clear A350
        by_cases c36:t344=true
        ·subst c36
         have H1:(laws_FnExactFrontOrder.j1 kj10 l0 a1 a2 a3 t326 t327 t333 (t334 != t327))=some r:=by rw [if_pos rfl] at H;exact H
         clear H
         have H:=H1
         clear H1
         have H':=Aside0.mk H
         clear H
         obtain ⟨Ao37,co37,eo37⟩:=Kd.R_slice HO_13.out
         subst eo37
         obtain ⟨Ao38,co38,eo38⟩:=Kd.R_slice HO_10.out
         subst eo38
         go_wp2_with (first|(go_at_call 27;(with_reducible refine (laws_eqIntS.calls kj10 _ _ t333 _ _ t326 true _ ?side1 ?side2 ?side3 ?side4 A35.out).mono ?_);(case side1=>repeat (first|exact (Kd.R_reads' HO_13.out).2.2|(with_reducible refine Kd.C_alloc ?_ _)|(with_reducible refine Kd.C_drewN ?_ _)|(with_reducible refine Kd.C_drew ?_)));(case side2=>exact (Kd.R_reads' HO_13.out).2.1);(case side3=>repeat (first|exact (Kd.R_reads' HO_10.out).2.2|(with_reducible refine Kd.C_alloc ?_ _)|(with_reducible refine Kd.C_drewN ?_ _)|(with_reducible refine Kd.C_drew ?_)));(case side4=>exact (Kd.R_reads' HO_10.out).2.1);rintro e w' ⟨rfl,⟨nd,rfl⟩⟩))
         go_meet
         case rel=>exact ⟨_,((t334 != t327)),(by first|rfl|(simp;done)|(simp [*];done)),H',⟨by have:=HJ10.out;first|omega|exact Nat.le_refl _⟩,⟨by (with_reducible repeat (first|apply Kd.R_alloc|apply Kd.R_drewN|apply Kd.R_drew));exact HO_10.out⟩,⟨by (with_reducible repeat (first|apply Kd.R_alloc|apply Kd.R_drewN|apply Kd.R_drew));exact HO_13.out⟩,⟨by repeat (first|(with_reducible first|exact HB.out|apply below_alloc|apply pw_below_drewN|apply below_drew1)|exact HB.out)⟩⟩
        ·replace c36:=Bool.eq_false_iff.mpr c36
         subst c36
         have H1:(laws_FnExactFrontOrder.j1 kj10 l0 a1 a2 a3 t326 t327 t333 true)=some r:=by rw [if_neg (show ¬ (false=true) by decide)] at H;exact H
         clear H
         have H:=H1
         clear H1
         have H':=Aside0.mk H
         clear H
         obtain ⟨Ao39,co39,eo39⟩:=Kd.R_slice HO_13.out
         subst eo39
         obtain ⟨Ao40,co40,eo40⟩:=Kd.R_slice HO_10.out
         subst eo40
         go_wp2_with (first|(go_at_call 27;(with_reducible refine (laws_eqIntS.calls kj10 _ _ t333 _ _ t326 false _ ?side1 ?side2 ?side3 ?side4 A35.out).mono ?_);(case side1=>repeat (first|exact (Kd.R_reads' HO_13.out).2.2|(with_reducible refine Kd.C_alloc ?_ _)|(with_reducible refine Kd.C_drewN ?_ _)|(with_reducible refine Kd.C_drew ?_)));(case side2=>exact (Kd.R_reads' HO_13.out).2.1);(case side3=>repeat (first|exact (Kd.R_reads' HO_10.out).2.2|(with_reducible refine Kd.C_alloc ?_ _)|(with_reducible refine Kd.C_drewN ?_ _)|(with_reducible refine Kd.C_drew ?_)));(case side4=>exact (Kd.R_reads' HO_10.out).2.1);rintro e w' ⟨rfl,⟨nd,rfl⟩⟩))
         go_meet
         case rel=>exact ⟨_,(true),(by first|rfl|(simp;done)|(simp [*];done)),H',⟨by have:=HJ10.out;first|omega|exact Nat.le_refl _⟩,⟨by (with_reducible repeat (first|apply Kd.R_alloc|apply Kd.R_drewN|apply Kd.R_drew));exact HO_10.out⟩,⟨by (with_reducible repeat (first|apply Kd.R_alloc|apply Kd.R_drewN|apply Kd.R_drew));exact HO_13.out⟩,⟨by repeat (first|(with_reducible first|exact HB.out|apply below_alloc|apply pw_below_drewN|apply below_drew1)|exact HB.out)⟩⟩
      case rest=>
       clear HC29
       try clear c1
       try clear c2
       try clear p2
       try clear c3
       try clear c4
       try clear c6
       try clear c6b0
       try clear c8
       try clear c16
       try clear c18
       try clear c19
       try clear c21
       try clear c22
       try clear c24
       try clear c27
       try clear c34
       try clear c34b0
       try clear c36
       try clear c39
       try clear c40
       try clear p2
       obtain ⟨kq,x73_28,rfl,HA,HJ28,HO_10,HO_13,HB⟩:=hcut
       cases kq with
       | zero=>exact absurd HA.out (by simp [laws_FnExactFrontOrder.j1])
       | succ kj28=>
        have H:=HA.out
        clear HA
        simp only [laws_FnExactFrontOrder.j1] at H
        by_cases c41:x73_28=true
        ·subst c41
         have H1:(some false)=some r:=by rw [if_pos rfl] at H;exact H
         clear H
         have H:=H1
         clear H1
         obtain rfl:=Option.some.inj H
         go_wp2
         go_ret
         exact ⟨by first|rfl|(simp [errW_none,errW_some] <;> rfl)|(simp [*,errW_none,errW_some] <;> rfl),by repeat (first|(with_reducible first|exact HB.out|apply below_alloc|apply pw_below_drewN|apply below_drew1)|exact HB.out)⟩
        ·replace c41:=Bool.eq_false_iff.mpr c41
         subst c41
         have H1:((laws_markIntS.f kj28 t333 1).bind fun bt345=>((laws_heldIntS.f kj28 bt345.2 1).bind fun t347=>(if t347<0 then (some false) else (if t347=bt345.1 then ((laws_toJobS.f kj28 l0).bind fun t348=>((impl_FrontOrder.f kj28 t348 a1 a2 a3).bind fun bt351=>((laws_eqIntS.f kj28 bt351.1 t326).bind fun t355=>(if t355=true then (laws_FnExactFrontOrder.j2 kj28 bt345.2 bt345.1 (bt351.2 != t327)) else (laws_FnExactFrontOrder.j2 kj28 bt345.2 bt345.1 true))))) else (some false)))))=some r:=by rw [if_neg (show ¬ (false=true) by decide)] at H;exact H
         clear H
         have H:=H1
         clear H1
         replace H:=Option.bind_eq_some_iff.mp H
         obtain ⟨⟨t345,t346⟩,A420,H⟩:=H
         replace H:((laws_heldIntS.f kj28 t346 1).bind fun t347=>(if t347<0 then (some false) else (if t347=t345 then ((laws_toJobS.f kj28 l0).bind fun t348=>((impl_FrontOrder.f kj28 t348 a1 a2 a3).bind fun bt351=>((laws_eqIntS.f kj28 bt351.1 t326).bind fun t355=>(if t355=true then (laws_FnExactFrontOrder.j2 kj28 t346 t345 (bt351.2 != t327)) else (laws_FnExactFrontOrder.j2 kj28 t346 t345 true))))) else (some false))))=some r:=H
         have A42:=Aside0.mk A420
         clear A420
         replace H:=Option.bind_eq_some_iff.mp H
         obtain ⟨t347,A430,H⟩:=H
         replace H:(if t347<0 then (some false) else (if t347=t345 then ((laws_toJobS.f kj28 l0).bind fun t348=>((impl_FrontOrder.f kj28 t348 a1 a2 a3).bind fun bt351=>((laws_eqIntS.f kj28 bt351.1 t326).bind fun t355=>(if t355=true then (laws_FnExactFrontOrder.j2 kj28 t346 t345 (bt351.2 != t327)) else (laws_FnExactFrontOrder.j2 kj28 t346 t345 true))))) else (some false)))=some r:=H
         have A43:=Aside0.mk A430
         clear A430
         by_cases c44:t347<0
         ·rw [if_pos c44] at H
          have c44b0:decide (t347<0)=true:=decide_eq_true c44
          clear c44
          obtain rfl:=Option.some.inj H
          obtain ⟨Ao45,co45,eo45⟩:=Kd.R_slice HO_13.out
          subst eo45
          go_wp2_with (first|((with_reducible refine gate_callee (f:=28) rfl ?_);refine goesL_ (some 76) rfl rfl Try.func28 (by kernel_rfl) rfl #[.slice Ao45 t333.length co45,.int .i64 1] rfl (by (try simp only [List.map_toArray,List.map_cons,List.map_nil]);first|done|rfl|(simp only [List.length_drop,List.length_take];rfl)) ?_;(with_reducible refine (laws_markIntS.calls kj28 (fun k_=>some k_=(.slice Ao45 t333.length co45:Value).ownBlock) (.slice Ao45 t333.length co45) t333 1 t345 t346 w _ ?side1 ?side2 A42.out).mono ?_);(case side1=>repeat (first|(with_reducible first|exact HB.out|apply below_alloc|apply pw_below_drewN|apply below_drew1)|exact HB.out));(case side2=>exact Kd.R_tight rfl HO_13.out);rintro e w46 ⟨rfl,hy0,hb,hkp⟩;refine ⟨_,rfl,?_⟩;have n0_:=Aside0.mk (Kd.R_mono (ok':=fun k_=>some k_≠(.slice Ao45 t333.length co45:Value).ownBlock) (Kd.R_keptB (HO_10.out) hkp (fun k_ hk_ hs_=>(hk_) hs_)) (fun k_ hk_=>hk_.1));have n1_:=Aside0.mk (Kd.R_reok rfl hy0 (fun k_ e_=>HO_13.out.1 k_ e_));have n2_:=Aside0.mk (hb);clear HO_10;clear HO_13;clear HB;have HO_10:=n0_;have HO_13:=n1_;have HB:=n2_;clear n0_ n1_ n2_;(try clear hb);(try clear hkp);(try clear hy0))|((with_reducible refine gate_callee (f:=29) rfl ?_);refine goesL_ (some 79) rfl rfl Try.func29 (by kernel_rfl) rfl #[.slice Ao45 t346.length co45,.int .i64 1] rfl (by (try simp only [List.map_toArray,List.map_cons,List.map_nil]);first|done|(rw [show t346.length=t333.length from (Kd.R_reads' HO_13.out).1.symm] <;> rfl)|rfl|(simp only [List.length_drop,List.length_take];rfl)) ?_;(with_reducible refine (laws_heldIntS.calls kj28 _ _ t346 1 t347 _ ?side1 ?side2 A43.out).mono ?_);(case side1=>repeat (first|exact (Kd.R_reads' HO_13.out).2.2|(with_reducible refine Kd.C_alloc ?_ _)|(with_reducible refine Kd.C_drewN ?_ _)|(with_reducible refine Kd.C_drew ?_)));(case side2=>rw [show t346.length=t333.length from (Kd.R_reads' HO_13.out).1.symm];exact (Kd.R_reads' HO_13.out).2.1);rintro e w' ⟨rfl,⟨nd,rfl⟩⟩;refine ⟨_,rfl,?_⟩))
          go_ret
          exact ⟨by first|rfl|(simp [errW_none,errW_some] <;> rfl)|(simp [*,errW_none,errW_some] <;> rfl),by repeat (first|(with_reducible first|exact HB.out|apply below_alloc|apply pw_below_drewN|apply below_drew1)|exact HB.out)⟩
         ·rw [if_neg c44] at H
          have c44b0:decide (t347<0)=false:=decide_eq_false c44
          clear c44
          by_cases c47:t347=t345
          ·rw [if_pos c47] at H
           have c47b0:(t347 == t345)=true:=beq_iff_eq.mpr c47
           have c47b1:(t347 != t345)=false:=bne_eq_false_iff_eq.mpr c47
           clear c47
           replace H:=Option.bind_eq_some_iff.mp H
           obtain ⟨t348,A480,H⟩:=H
           replace H:((impl_FrontOrder.f kj28 t348 a1 a2 a3).bind fun bt351=>((laws_eqIntS.f kj28 bt351.1 t326).bind fun t355=>(if t355=true then (laws_FnExactFrontOrder.j2 kj28 t346 t345 (bt351.2 != t327)) else (laws_FnExactFrontOrder.j2 kj28 t346 t345 true))))=some r:=H
           have A48:=Aside0.mk A480
           clear A480
           replace H:=Option.bind_eq_some_iff.mp H
           obtain ⟨⟨t351,t352⟩,A490,H⟩:=H
           replace H:((laws_eqIntS.f kj28 t351 t326).bind fun t355=>(if t355=true then (laws_FnExactFrontOrder.j2 kj28 t346 t345 (t352 != t327)) else (laws_FnExactFrontOrder.j2 kj28 t346 t345 true)))=some r:=H
           have A49:=Aside0.mk A490
           clear A490
           have HC50:=Aside0.mk H
           clear H
           obtain ⟨Ao51,co51,eo51⟩:=Kd.R_slice HO_13.out
           subst eo51
           go_upto_region 25 with (first|((with_reducible refine gate_callee (f:=28) rfl ?_);refine goesL_ (some 76) rfl rfl Try.func28 (by kernel_rfl) rfl #[.slice Ao51 t333.length co51,.int .i64 1] rfl (by (try simp only [List.map_toArray,List.map_cons,List.map_nil]);first|done|rfl|(simp only [List.length_drop,List.length_take];rfl)) ?_;(with_reducible refine (laws_markIntS.calls kj28 (fun k_=>some k_=(.slice Ao51 t333.length co51:Value).ownBlock) (.slice Ao51 t333.length co51) t333 1 t345 t346 w _ ?side1 ?side2 A42.out).mono ?_);(case side1=>repeat (first|(with_reducible first|exact HB.out|apply below_alloc|apply pw_below_drewN|apply below_drew1)|exact HB.out));(case side2=>exact Kd.R_tight rfl HO_13.out);rintro e w52 ⟨rfl,hy0,hb,hkp⟩;refine ⟨_,rfl,?_⟩;have n0_:=Aside0.mk (Kd.R_mono (ok':=fun k_=>some k_≠(.slice Ao51 t333.length co51:Value).ownBlock) (Kd.R_keptB (HO_10.out) hkp (fun k_ hk_ hs_=>(hk_) hs_)) (fun k_ hk_=>hk_.1));have n1_:=Aside0.mk (Kd.R_reok rfl hy0 (fun k_ e_=>HO_13.out.1 k_ e_));have n2_:=Aside0.mk (hb);clear HO_10;clear HO_13;clear HB;have HO_10:=n0_;have HO_13:=n1_;have HB:=n2_;clear n0_ n1_ n2_;(try clear hb);(try clear hkp);(try clear hy0))|((with_reducible refine gate_callee (f:=29) rfl ?_);refine goesL_ (some 79) rfl rfl Try.func29 (by kernel_rfl) rfl #[.slice Ao51 t346.length co51,.int .i64 1] rfl (by (try simp only [List.map_toArray,List.map_cons,List.map_nil]);first|done|(rw [show t346.length=t333.length from (Kd.R_reads' HO_13.out).1.symm] <;> rfl)|rfl|(simp only [List.length_drop,List.length_take];rfl)) ?_;(with_reducible refine (laws_heldIntS.calls kj28 _ _ t346 1 t347 _ ?side1 ?side2 A43.out).mono ?_);(case side1=>repeat (first|exact (Kd.R_reads' HO_13.out).2.2|(with_reducible refine Kd.C_alloc ?_ _)|(with_reducible refine Kd.C_drewN ?_ _)|(with_reducible refine Kd.C_drew ?_)));(case side2=>rw [show t346.length=t333.length from (Kd.R_reads' HO_13.out).1.symm];exact (Kd.R_reads' HO_13.out).2.1);rintro e w' ⟨rfl,⟨nd,rfl⟩⟩;refine ⟨_,rfl,?_⟩)|((with_reducible refine gate_callee (f:=18) rfl ?_);refine goesL_ (some 87) rfl rfl Try.func18 (by kernel_rfl) rfl #[.slice A0 l0.length c0] rfl (by (try simp only [List.map_toArray,List.map_cons,List.map_nil]);first|done|rfl|(simp only [List.length_drop,List.length_take];rfl)) ?_;(with_reducible refine (laws_toJobS.calls kj28 _ _ l0 t348 _ ?side1 ?side2 A48.out).mono ?_);(case side1=>repeat (first|exact (Kd.C_below HR0.out (by repeat (first|(with_reducible first|exact HB.out|apply below_alloc|apply pw_below_drewN|apply below_drew1)|exact HB.out)))|(with_reducible refine Kd.C_alloc ?_ _)|(with_reducible refine Kd.C_drewN ?_ _)|(with_reducible refine Kd.C_drew ?_)));(case side2=>exact HC0.out);rintro e w53 ⟨v349,rfl,ho0,hb⟩;refine ⟨_,rfl,?_⟩;have n0_:=Aside0.mk (Kd.R_below (by (with_reducible repeat (first|apply Kd.R_alloc|apply Kd.R_drewN|apply Kd.R_drew));exact HO_10.out) hb);have n1_:=Aside0.mk (Kd.R_below (by (with_reducible repeat (first|apply Kd.R_alloc|apply Kd.R_drewN|apply Kd.R_drew));exact HO_13.out) hb);have n2_:=Aside0.mk (Kd.R_lower ho0 (below_size (by repeat (first|(with_reducible first|exact HB.out|apply below_alloc|apply pw_below_drewN|apply below_drew1)|exact HB.out))));have n3_:=Aside0.mk (below_step (by repeat (first|(with_reducible first|exact HB.out|apply below_alloc|apply pw_below_drewN|apply below_drew1)|exact HB.out)) hb);clear HO_10;clear HO_13;clear HB;have HO_10:=n0_;have HO_13:=n1_;have HO350:=n2_;have HB:=n3_;clear n0_ n1_ n2_ n3_;(try clear hb);(try clear hb2);(try clear hk);(try clear hi);(try clear ho0);obtain ⟨Ao54,co54,eo54⟩:=Kd.R_slice HO350.out;subst eo54)|((with_reducible refine gate_callee (f:=40) rfl ?_);refine goesL_ (some 91) rfl rfl Try.func40 (by kernel_rfl) rfl #[.slice Ao54 t348.length co54,.int .i64 a1,.int .i64 a2,.int .i64 a3] rfl (by (try simp only [List.map_toArray,List.map_cons,List.map_nil]);first|done|rfl|(simp only [List.length_drop,List.length_take];rfl)) ?_;(with_reducible refine (impl_FrontOrder.calls kj28 _ _ t348 a1 a2 a3 t351 t352 _ ?side1 ?side2 A49.out).mono ?_);(case side1=>repeat (first|exact (Kd.R_reads' HO350.out).2.2|(with_reducible refine Kd.C_alloc ?_ _)|(with_reducible refine Kd.C_drewN ?_ _)|(with_reducible refine Kd.C_drew ?_)));(case side2=>exact (Kd.R_reads' HO350.out).2.1);rintro e w55 ⟨v353,rfl,ho0,hb⟩;refine ⟨_,rfl,?_⟩;have n0_:=Aside0.mk (Kd.R_elder' (by (with_reducible repeat (first|apply Kd.R_alloc|apply Kd.R_drewN|apply Kd.R_drew));exact HO_10.out) (Kd.R_base ho0) hb);have n1_:=Aside0.mk (Kd.R_elder' (by (with_reducible repeat (first|apply Kd.R_alloc|apply Kd.R_drewN|apply Kd.R_drew));exact HO_13.out) (Kd.R_base ho0) hb);have n2_:=Aside0.mk (Kd.R_below (by (with_reducible repeat (first|apply Kd.R_alloc|apply Kd.R_drewN|apply Kd.R_drew));exact HO350.out) hb);have n3_:=Aside0.mk (Kd.R_lower (Kd.R_new' (Kd.R_new' ho0 (Kd.R_lt (by (with_reducible repeat (first|apply Kd.R_alloc|apply Kd.R_drewN|apply Kd.R_drew));exact HO_10.out))) (Kd.R_lt (by (with_reducible repeat (first|apply Kd.R_alloc|apply Kd.R_drewN|apply Kd.R_drew));exact HO_13.out))) (below_size (by repeat (first|(with_reducible first|exact HB.out|apply below_alloc|apply pw_below_drewN|apply below_drew1)|exact HB.out))));have n4_:=Aside0.mk (below_step (by repeat (first|(with_reducible first|exact HB.out|apply below_alloc|apply pw_below_drewN|apply below_drew1)|exact HB.out)) hb);clear HO_10;clear HO_13;clear HO350;clear HB;have HO_10:=n0_;have HO_13:=n1_;have HO350:=n2_;have HO354:=n3_;have HB:=n4_;clear n0_ n1_ n2_ n3_ n4_;(try clear hb);(try clear hb2);(try clear hk);(try clear hi);(try clear ho0)))
           (try simp only [Act.put,List.setIfInBounds_toArray,List.set_cons_zero,List.set_cons_succ])
           go_cut [102] (fun v102 wc=>∃ (kq:Nat) (x102_49:Bool),v102=.bool x102_49∧Aside0 (laws_FnExactFrontOrder.j2 kq t346 t345 x102_49=some r)∧Aside0 (kq≤kj28)∧Aside0 (Kd.R (Kd.int .i64) 3 wc w.heap.size (fun _=>True) (.slice Ao51 t333.length co51) t346)∧Aside0 (Below w.heap.size w wc))
           case first=>
            have H:=HC50.out
            clear HC50
            replace H:=Option.bind_eq_some_iff.mp H
            obtain ⟨t355,A560,H⟩:=H
            replace H:(if t355=true then (laws_FnExactFrontOrder.j2 kj28 t346 t345 (t352 != t327)) else (laws_FnExactFrontOrder.j2 kj28 t346 t345 true))=some r:=H
            have A56:=Aside0.mk A560
            clear A560
            by_cases c57:t355=true
            ·subst c57
             have H1:(laws_FnExactFrontOrder.j2 kj28 t346 t345 (t352 != t327))=some r:=by rw [if_pos rfl] at H;exact H
             clear H
             have H:=H1
             clear H1
             have H':=Aside0.mk H
             clear H
             obtain ⟨Ao58,co58,eo58⟩:=Kd.R_slice HO354.out
             subst eo58
             obtain ⟨Ao59,co59,eo59⟩:=Kd.R_slice HO_10.out
             subst eo59
             go_wp2_with (first|((with_reducible refine gate_callee (f:=27) rfl ?_);refine goesL_ (some 96) rfl rfl Try.func27 (by kernel_rfl) rfl #[.slice Ao58 t351.length co58,.slice Ao59 t326.length co59] rfl (by (try simp only [List.map_toArray,List.map_cons,List.map_nil]);first|done|rfl|(simp only [List.length_drop,List.length_take];rfl)) ?_;(with_reducible refine (laws_eqIntS.calls kj28 _ _ t351 _ _ t326 true _ ?side1 ?side2 ?side3 ?side4 A56.out).mono ?_);(case side1=>repeat (first|exact (Kd.R_reads' HO354.out).2.2|(with_reducible refine Kd.C_alloc ?_ _)|(with_reducible refine Kd.C_drewN ?_ _)|(with_reducible refine Kd.C_drew ?_)));(case side2=>exact (Kd.R_reads' HO354.out).2.1);(case side3=>repeat (first|exact (Kd.R_reads' HO_10.out).2.2|(with_reducible refine Kd.C_alloc ?_ _)|(with_reducible refine Kd.C_drewN ?_ _)|(with_reducible refine Kd.C_drew ?_)));(case side4=>exact (Kd.R_reads' HO_10.out).2.1);rintro e w' ⟨rfl,⟨nd,rfl⟩⟩;refine ⟨_,rfl,?_⟩))
             go_meet
             case rel=>exact ⟨_,((t352 != t327)),(by first|rfl|(simp;done)|(simp [*];done)),H',⟨by have:=HJ10.out;have:=HJ28.out;first|omega|exact Nat.le_refl _⟩,⟨by (with_reducible repeat (first|apply Kd.R_alloc|apply Kd.R_drewN|apply Kd.R_drew));exact Kd.R_mono HO_13.out (fun _ hk=>trivial)⟩,⟨by repeat (first|(with_reducible first|exact HB.out|apply below_alloc|apply pw_below_drewN|apply below_drew1)|exact HB.out)⟩⟩
            ·replace c57:=Bool.eq_false_iff.mpr c57
             subst c57
             have H1:(laws_FnExactFrontOrder.j2 kj28 t346 t345 true)=some r:=by rw [if_neg (show ¬ (false=true) by decide)] at H;exact H
             clear H
             have H:=H1
             clear H1
             have H':=Aside0.mk H
             clear H
             obtain ⟨Ao60,co60,eo60⟩:=Kd.R_slice HO354.out
             subst eo60
             obtain ⟨Ao61,co61,eo61⟩:=Kd.R_slice HO_10.out
             subst eo61
             go_wp2_with (first|((with_reducible refine gate_callee (f:=27) rfl ?_);refine goesL_ (some 96) rfl rfl Try.func27 (by kernel_rfl) rfl #[.slice Ao60 t351.length co60,.slice Ao61 t326.length co61] rfl (by (try simp only [List.map_toArray,List.map_cons,List.map_nil]);first|done|rfl|(simp only [List.length_drop,List.length_take];rfl)) ?_;(with_reducible refine (laws_eqIntS.calls kj28 _ _ t351 _ _ t326 false _ ?side1 ?side2 ?side3 ?side4 A56.out).mono ?_);(case side1=>repeat (first|exact (Kd.R_reads' HO354.out).2.2|(with_reducible refine Kd.C_alloc ?_ _)|(with_reducible refine Kd.C_drewN ?_ _)|(with_reducible refine Kd.C_drew ?_)));(case side2=>exact (Kd.R_reads' HO354.out).2.1);(case side3=>repeat (first|exact (Kd.R_reads' HO_10.out).2.2|(with_reducible refine Kd.C_alloc ?_ _)|(with_reducible refine Kd.C_drewN ?_ _)|(with_reducible refine Kd.C_drew ?_)));(case side4=>exact (Kd.R_reads' HO_10.out).2.1);rintro e w' ⟨rfl,⟨nd,rfl⟩⟩;refine ⟨_,rfl,?_⟩))
             go_meet
             case rel=>exact ⟨_,(true),(by first|rfl|(simp;done)|(simp [*];done)),H',⟨by have:=HJ10.out;have:=HJ28.out;first|omega|exact Nat.le_refl _⟩,⟨by (with_reducible repeat (first|apply Kd.R_alloc|apply Kd.R_drewN|apply Kd.R_drew));exact Kd.R_mono HO_13.out (fun _ hk=>trivial)⟩,⟨by repeat (first|(with_reducible first|exact HB.out|apply below_alloc|apply pw_below_drewN|apply below_drew1)|exact HB.out)⟩⟩
           case rest=>
            clear HC50
            try clear c1
            try clear c2
            try clear p2
            try clear c3
            try clear c4
            try clear c5
            try clear c6
            try clear c6b0
            try clear c8
            try clear c16
            try clear c18
            try clear c19
            try clear c21
            try clear c22
            try clear c24
            try clear c27
            try clear c28
            try clear c29
            try clear c34
            try clear c34b0
            try clear c36
            try clear c39
            try clear c40
            try clear c41
            try clear c44
            try clear c44b0
            try clear c47
            try clear c47b0
            try clear c47b1
            try clear c57
            try clear p2
            obtain ⟨kq,x102_49,rfl,HA,HJ49,HO_13,HB⟩:=hcut
            have hl13_49:=(Kd.R_reads' HO_13.out).1
            rw [hl13_49] at HO_13
            (try simp only [hl13_49])
            cases kq with
            | zero=>exact absurd HA.out (by simp [laws_FnExactFrontOrder.j2])
            | succ kj49=>
             have H:=HA.out
             clear HA
             simp only [laws_FnExactFrontOrder.j2] at H
             by_cases c62:x102_49=true
             ·subst c62
              have H1:(some false)=some r:=by rw [if_pos rfl] at H;exact H
              clear H
              have H:=H1
              clear H1
              obtain rfl:=Option.some.inj H
              go_wp2
              go_ret
              exact ⟨by first|rfl|(simp [errW_none,errW_some] <;> rfl)|(simp [*,errW_none,errW_some] <;> rfl),by repeat (first|(with_reducible first|exact HB.out|apply below_alloc|apply pw_below_drewN|apply below_drew1)|exact HB.out)⟩
             ·replace c62:=Bool.eq_false_iff.mpr c62
              subst c62
              have H1:((laws_heldIntS.f kj49 t346 1).bind fun t356=>(if t356<0 then (some false) else (if t356=t345 then (some true) else (some false))))=some r:=by rw [if_neg (show ¬ (false=true) by decide)] at H;exact H
              clear H
              have H:=H1
              clear H1
              replace H:=Option.bind_eq_some_iff.mp H
              obtain ⟨t356,A630,H⟩:=H
              replace H:(if t356<0 then (some false) else (if t356=t345 then (some true) else (some false)))=some r:=H
              have A63:=Aside0.mk A630
              clear A630
              by_cases c64:t356<0
              ·rw [if_pos c64] at H
               have c64b0:decide (t356<0)=true:=decide_eq_true c64
               clear c64
               obtain rfl:=Option.some.inj H
               go_wp2_with (first|((with_reducible refine gate_callee (f:=29) rfl ?_);refine goesL_ (some 105) rfl rfl Try.func29 (by kernel_rfl) rfl #[.slice Ao51 t346.length co51,.int .i64 1] rfl (by (try simp only [List.map_toArray,List.map_cons,List.map_nil]);first|done|rfl|(simp only [List.length_drop,List.length_take];rfl)) ?_;(with_reducible refine (laws_heldIntS.calls kj49 _ _ t346 1 t356 _ ?side1 ?side2 A63.out).mono ?_);(case side1=>repeat (first|exact (Kd.R_reads' HO_13.out).2.2|(with_reducible refine Kd.C_alloc ?_ _)|(with_reducible refine Kd.C_drewN ?_ _)|(with_reducible refine Kd.C_drew ?_)));(case side2=>exact (Kd.R_reads' HO_13.out).2.1);rintro e w' ⟨rfl,⟨nd,rfl⟩⟩;refine ⟨_,rfl,?_⟩))
               go_ret
               exact ⟨by first|rfl|(simp [errW_none,errW_some] <;> rfl)|(simp [*,errW_none,errW_some] <;> rfl),by repeat (first|(with_reducible first|exact HB.out|apply below_alloc|apply pw_below_drewN|apply below_drew1)|exact HB.out)⟩
              ·rw [if_neg c64] at H
               have c64b0:decide (t356<0)=false:=decide_eq_false c64
               clear c64
               by_cases c65:t356=t345
               ·rw [if_pos c65] at H
                have c65b0:(t356 == t345)=true:=beq_iff_eq.mpr c65
                have c65b1:(t356 != t345)=false:=bne_eq_false_iff_eq.mpr c65
                clear c65
                obtain rfl:=Option.some.inj H
                go_wp2_with (first|((with_reducible refine gate_callee (f:=29) rfl ?_);refine goesL_ (some 105) rfl rfl Try.func29 (by kernel_rfl) rfl #[.slice Ao51 t346.length co51,.int .i64 1] rfl (by (try simp only [List.map_toArray,List.map_cons,List.map_nil]);first|done|rfl|(simp only [List.length_drop,List.length_take];rfl)) ?_;(with_reducible refine (laws_heldIntS.calls kj49 _ _ t346 1 t356 _ ?side1 ?side2 A63.out).mono ?_);(case side1=>repeat (first|exact (Kd.R_reads' HO_13.out).2.2|(with_reducible refine Kd.C_alloc ?_ _)|(with_reducible refine Kd.C_drewN ?_ _)|(with_reducible refine Kd.C_drew ?_)));(case side2=>exact (Kd.R_reads' HO_13.out).2.1);rintro e w' ⟨rfl,⟨nd,rfl⟩⟩;refine ⟨_,rfl,?_⟩))
                go_ret
                exact ⟨by first|rfl|(simp [errW_none,errW_some] <;> rfl)|(simp [*,errW_none,errW_some] <;> rfl),by repeat (first|(with_reducible first|exact HB.out|apply below_alloc|apply pw_below_drewN|apply below_drew1)|exact HB.out)⟩
               ·rw [if_neg c65] at H
                have c65b0:(t356 == t345)=false:=beq_eq_false_iff_ne.mpr c65
                have c65b1:(t356 != t345)=true:=bne_iff_ne.mpr c65
                obtain rfl:=Option.some.inj H
                go_wp2_with (first|((with_reducible refine gate_callee (f:=29) rfl ?_);refine goesL_ (some 105) rfl rfl Try.func29 (by kernel_rfl) rfl #[.slice Ao51 t346.length co51,.int .i64 1] rfl (by (try simp only [List.map_toArray,List.map_cons,List.map_nil]);first|done|rfl|(simp only [List.length_drop,List.length_take];rfl)) ?_;(with_reducible refine (laws_heldIntS.calls kj49 _ _ t346 1 t356 _ ?side1 ?side2 A63.out).mono ?_);(case side1=>repeat (first|exact (Kd.R_reads' HO_13.out).2.2|(with_reducible refine Kd.C_alloc ?_ _)|(with_reducible refine Kd.C_drewN ?_ _)|(with_reducible refine Kd.C_drew ?_)));(case side2=>exact (Kd.R_reads' HO_13.out).2.1);rintro e w' ⟨rfl,⟨nd,rfl⟩⟩;refine ⟨_,rfl,?_⟩))
                go_ret
                exact ⟨by first|rfl|(simp [errW_none,errW_some] <;> rfl)|(simp [*,errW_none,errW_some] <;> rfl),by repeat (first|(with_reducible first|exact HB.out|apply below_alloc|apply pw_below_drewN|apply below_drew1)|exact HB.out)⟩
          ·rw [if_neg c47] at H
           have c47b0:(t347 == t345)=false:=beq_eq_false_iff_ne.mpr c47
           have c47b1:(t347 != t345)=true:=bne_iff_ne.mpr c47
           obtain rfl:=Option.some.inj H
           obtain ⟨Ao66,co66,eo66⟩:=Kd.R_slice HO_13.out
           subst eo66
           go_wp2_with (first|((with_reducible refine gate_callee (f:=28) rfl ?_);refine goesL_ (some 76) rfl rfl Try.func28 (by kernel_rfl) rfl #[.slice Ao66 t333.length co66,.int .i64 1] rfl (by (try simp only [List.map_toArray,List.map_cons,List.map_nil]);first|done|rfl|(simp only [List.length_drop,List.length_take];rfl)) ?_;(with_reducible refine (laws_markIntS.calls kj28 (fun k_=>some k_=(.slice Ao66 t333.length co66:Value).ownBlock) (.slice Ao66 t333.length co66) t333 1 t345 t346 w _ ?side1 ?side2 A42.out).mono ?_);(case side1=>repeat (first|(with_reducible first|exact HB.out|apply below_alloc|apply pw_below_drewN|apply below_drew1)|exact HB.out));(case side2=>exact Kd.R_tight rfl HO_13.out);rintro e w67 ⟨rfl,hy0,hb,hkp⟩;refine ⟨_,rfl,?_⟩;have n0_:=Aside0.mk (Kd.R_mono (ok':=fun k_=>some k_≠(.slice Ao66 t333.length co66:Value).ownBlock) (Kd.R_keptB (HO_10.out) hkp (fun k_ hk_ hs_=>(hk_) hs_)) (fun k_ hk_=>hk_.1));have n1_:=Aside0.mk (Kd.R_reok rfl hy0 (fun k_ e_=>HO_13.out.1 k_ e_));have n2_:=Aside0.mk (hb);clear HO_10;clear HO_13;clear HB;have HO_10:=n0_;have HO_13:=n1_;have HB:=n2_;clear n0_ n1_ n2_;(try clear hb);(try clear hkp);(try clear hy0))|((with_reducible refine gate_callee (f:=29) rfl ?_);refine goesL_ (some 79) rfl rfl Try.func29 (by kernel_rfl) rfl #[.slice Ao66 t346.length co66,.int .i64 1] rfl (by (try simp only [List.map_toArray,List.map_cons,List.map_nil]);first|done|(rw [show t346.length=t333.length from (Kd.R_reads' HO_13.out).1.symm] <;> rfl)|rfl|(simp only [List.length_drop,List.length_take];rfl)) ?_;(with_reducible refine (laws_heldIntS.calls kj28 _ _ t346 1 t347 _ ?side1 ?side2 A43.out).mono ?_);(case side1=>repeat (first|exact (Kd.R_reads' HO_13.out).2.2|(with_reducible refine Kd.C_alloc ?_ _)|(with_reducible refine Kd.C_drewN ?_ _)|(with_reducible refine Kd.C_drew ?_)));(case side2=>rw [show t346.length=t333.length from (Kd.R_reads' HO_13.out).1.symm];exact (Kd.R_reads' HO_13.out).2.1);rintro e w' ⟨rfl,⟨nd,rfl⟩⟩;refine ⟨_,rfl,?_⟩))
           go_ret
           exact ⟨by first|rfl|(simp [errW_none,errW_some] <;> rfl)|(simp [*,errW_none,errW_some] <;> rfl),by repeat (first|(with_reducible first|exact HB.out|apply below_alloc|apply pw_below_drewN|apply below_drew1)|exact HB.out)⟩
     ·replace c27:=Bool.eq_false_iff.mpr c27
      subst c27
      have H1:(some false)=some r:=by rw [if_neg (show ¬ (false=true) by decide)] at H;exact H
      clear H
      have H:=H1
      clear H1
      obtain rfl:=Option.some.inj H
      go_wp2_with (first|((with_reducible refine gate_callee (f:=18) rfl ?_);refine goesL_ (some 55) rfl rfl Try.func18 (by kernel_rfl) rfl #[.slice A0 l0.length c0] rfl (by (try simp only [List.map_toArray,List.map_cons,List.map_nil]);first|done|rfl|(simp only [List.length_drop,List.length_take];rfl)) ?_;(with_reducible refine (laws_toJobS.calls kj10 _ _ l0 t338 _ ?side1 ?side2 A25.out).mono ?_);(case side1=>repeat (first|exact (Kd.C_below HR0.out HB.out)|(with_reducible refine Kd.C_alloc ?_ _)|(with_reducible refine Kd.C_drewN ?_ _)|(with_reducible refine Kd.C_drew ?_)));(case side2=>exact HC0.out);rintro e w68 ⟨v339,rfl,ho0,hb⟩;refine ⟨_,rfl,?_⟩;have n0_:=Aside0.mk (Kd.R_below (by (with_reducible repeat (first|apply Kd.R_alloc|apply Kd.R_drewN|apply Kd.R_drew));exact HO_10.out) hb);have n1_:=Aside0.mk (Kd.R_elder' (by (with_reducible repeat (first|apply Kd.R_alloc|apply Kd.R_drewN|apply Kd.R_drew));exact HO_12.out) (Kd.R_base ho0) hb);have n2_:=Aside0.mk (Kd.R_below (by (with_reducible repeat (first|apply Kd.R_alloc|apply Kd.R_drewN|apply Kd.R_drew));exact HO_13.out) hb);have n3_:=Aside0.mk (Kd.R_lower (Kd.R_new' ho0 (Kd.R_lt (by (with_reducible repeat (first|apply Kd.R_alloc|apply Kd.R_drewN|apply Kd.R_drew));exact HO_12.out))) (below_size (by repeat (first|(with_reducible first|exact HB.out|apply below_alloc|apply pw_below_drewN|apply below_drew1)|exact HB.out))));have n4_:=Aside0.mk (below_step (by repeat (first|(with_reducible first|exact HB.out|apply below_alloc|apply pw_below_drewN|apply below_drew1)|exact HB.out)) hb);clear HO_10;clear HO_12;clear HO_13;clear HB;have HO_10:=n0_;have HO_12:=n1_;have HO_13:=n2_;have HO340:=n3_;have HB:=n4_;clear n0_ n1_ n2_ n3_ n4_;(try clear hb);(try clear hb2);(try clear hk);(try clear hi);(try clear ho0);obtain ⟨Ao69,co69,eo69⟩:=Kd.R_slice HO340.out;subst eo69)|((with_reducible refine gate_callee (f:=21) rfl ?_);refine goesL_ (some 56) rfl rfl Try.func21 (by kernel_rfl) rfl #[.slice Ao16 t330.length co16,.slice Ao69 t338.length co69] rfl (by (try simp only [List.map_toArray,List.map_cons,List.map_nil]);first|done|rfl|(simp only [List.length_drop,List.length_take];rfl)) ?_;(with_reducible refine (laws_eqJobS.calls kj10 _ _ t330 _ _ t338 false _ ?side1 ?side2 ?side3 ?side4 A26.out).mono ?_);(case side1=>repeat (first|exact (Kd.R_reads' HO_12.out).2.2|(with_reducible refine Kd.C_alloc ?_ _)|(with_reducible refine Kd.C_drewN ?_ _)|(with_reducible refine Kd.C_drew ?_)));(case side2=>exact (Kd.R_reads' HO_12.out).2.1);(case side3=>repeat (first|exact (Kd.R_reads' HO340.out).2.2|(with_reducible refine Kd.C_alloc ?_ _)|(with_reducible refine Kd.C_drewN ?_ _)|(with_reducible refine Kd.C_drew ?_)));(case side4=>exact (Kd.R_reads' HO340.out).2.1);rintro e w70 ⟨rfl,hb⟩;refine ⟨_,rfl,?_⟩;have n0_:=Aside0.mk (Kd.R_below (by (with_reducible repeat (first|apply Kd.R_alloc|apply Kd.R_drewN|apply Kd.R_drew));exact HO_10.out) hb);have n1_:=Aside0.mk (Kd.R_below (by (with_reducible repeat (first|apply Kd.R_alloc|apply Kd.R_drewN|apply Kd.R_drew));exact HO_12.out) hb);have n2_:=Aside0.mk (Kd.R_below (by (with_reducible repeat (first|apply Kd.R_alloc|apply Kd.R_drewN|apply Kd.R_drew));exact HO_13.out) hb);have n3_:=Aside0.mk (Kd.R_below (by (with_reducible repeat (first|apply Kd.R_alloc|apply Kd.R_drewN|apply Kd.R_drew));exact HO340.out) hb);have n4_:=Aside0.mk (below_step (by repeat (first|(with_reducible first|exact HB.out|apply below_alloc|apply pw_below_drewN|apply below_drew1)|exact HB.out)) hb);clear HO_10;clear HO_12;clear HO_13;clear HO340;clear HB;have HO_10:=n0_;have HO_12:=n1_;have HO_13:=n2_;have HO340:=n3_;have HB:=n4_;clear n0_ n1_ n2_ n3_ n4_;(try clear hb);(try clear hb2);(try clear hk);(try clear hi)))
      go_ret
      exact ⟨by first|rfl|(simp [errW_none,errW_some] <;> rfl)|(simp [*,errW_none,errW_some] <;> rfl),by repeat (first|(with_reducible first|exact HB.out|apply below_alloc|apply pw_below_drewN|apply below_drew1)|exact HB.out)⟩

end Go.Proofs.Ytbblhmpcpmamfaa.XFnExactFrontOrder
-- minified
