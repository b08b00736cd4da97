-- Written by a program of this session (the kit's print, widened). Proved here: what each function answers, for the arguments that its contract names.
import Derived.Test.YtplbabjigikgjaaXFnTailsx0
import Derived.Test.YtplbabjigikgjaaXFnTailsx1
import Derived.Test.YtplbabjigikgjaaXFnTailsx2
import Derived.Test.YtplbabjigikgjaaXFnTailsx5
import Derived.Test.YtplbabjigikgjaaXFnTailsx9
import Derived.Test.YtplbabjigikgjaaXFnTailsx14
import Derived.Test.YtplbabjigikgjaaXFnTailsx15
import Derived.Test.YtplbabjigikgjaaXFnTailsx16
import Derived.Test.YtplbabjigikgjaaXFnTailsx17
namespace Go.Proofs.Ytplbabjigikgjaa.XFnTails
open Go.RowKit Go.Proofs.YtplbabjigikgjaaW.PrintWords Go.Proofs.YtplbabjigikgjaaW.PrintLast Go.Proofs.YtplbabjigikgjaaW.PrintMore
attribute [local go_sem] max2_int min2_int max_two min_two max_three min_three max_four min_four   -- for this text's walks alone
attribute [local go_sem] idxA_45_0 idxA_45_1 fldS_94_0 fldS_94_1 fldS_94_2 fldS_125_0 fldS_125_1 fldS_125_2
set_option linter.unusedVariables false
set_option linter.unusedSimpArgs false

attribute [local go_sem] eqA45
/-! ### laws_FnTails: function 4 -/
mutual
def laws_FnTails.j0:Nat→List (S47)→List (S45)→List Int→Bool→List Int→Bool→Option (Bool)
 | 0,_,_,_,_,_,_=>none
 | k + 1,x3,x4,x5,x6,x9,x72=>if x72=true then (some false) else (if x6=true then ((impl_PrecedenceReduction.f k (x3.length:Int) x4).bind fun bt564=>(laws_FnTails.l0 k x3 x5 x9 bt564.1 0 0)) else (some true))
def laws_FnTails.l0:Nat→List (S47)→List Int→List Int→List (S45)→Int→Int→Option (Bool)
 | 0,_,_,_,_,_,_=>none
 | k + 1,x3,x5,x9,x13,x15,x16=>if x16<(x3.length:Int) then (laws_FnTails.l1 k x3 x5 x9 x13 x15 x16 0 0) else (laws_FnTails.l2 k x3 x9 x13 x15 1)
def laws_FnTails.l1:Nat→List (S47)→List Int→List Int→List (S45)→Int→Int→Int→Int→Option (Bool)
 | 0,_,_,_,_,_,_,_,_=>none
 | k + 1,x3,x5,x9,x13,x15,x16,x17,x18=>if x18<(x13.length:Int) then (if 0≤x18 then (if ((rd_T45 x13 x18).f0)=x16 then (if 0≤((rd_T45 x13 x18).f1) then (if ((rd_T45 x13 x18).f1)<(x5.length:Int) then (if (rd x5 ((rd_T45 x13 x18).f1))>x17 then (laws_FnTails.l1 k x3 x5 x9 x13 x15 x16 (rd x5 ((rd_T45 x13 x18).f1)) (wrap64 (x18 + 1))) else (laws_FnTails.l1 k x3 x5 x9 x13 x15 x16 x17 (wrap64 (x18 + 1)))) else (none)) else (none)) else (laws_FnTails.l1 k x3 x5 x9 x13 x15 x16 x17 (wrap64 (x18 + 1)))) else (none)) else (if 0≤x16 then (if x16<(x5.length:Int) then (if x16<(x3.length:Int) then (if (rd x5 x16)=(wrap64 (((rd_T47 x3 x16).f0) + x17)) then (if (rd x5 x16)>x15 then (laws_FnTails.l0 k x3 x5 x9 x13 (rd x5 x16) (wrap64 (x16 + 1))) else (laws_FnTails.l0 k x3 x5 x9 x13 x15 (wrap64 (x16 + 1)))) else (some false)) else (none)) else (none)) else (none))
def laws_FnTails.l2:Nat→List (S47)→List Int→List (S45)→Int→Int→Option (Bool)
 | 0,_,_,_,_,_=>none
 | k + 1,x3,x9,x13,x15,x19=>if x19<(x9.length:Int) then (laws_FnTails.l3 k x3 x9 x13 x15 x19 false 0) else ((laws_vTimes.f k x3 x9).bind fun t577=>(some (t577 == x15)))
def laws_FnTails.l3:Nat→List (S47)→List Int→List (S45)→Int→Int→Bool→Int→Option (Bool)
 | 0,_,_,_,_,_,_,_=>none
 | k + 1,x3,x9,x13,x15,x19,x20,x21=>if x21<(x13.length:Int) then (if x20=true then (laws_FnTails.l3 k x3 x9 x13 x15 x19 true (wrap64 (x21 + 1))) else (if 0≤x21 then (if 0≤(wrap64 (x19 - 1)) then (if (wrap64 (x19 - 1))<(x9.length:Int) then (if 0≤x19 then (if x19<(x9.length:Int) then (laws_FnTails.l3 k x3 x9 x13 x15 x19 (((rd_T45 x13 x21).f0) == (rd x9 (wrap64 (x19 - 1))) && (((rd_T45 x13 x21).f1) == (rd x9 x19))) (wrap64 (x21 + 1))) else (none)) else (none)) else (none)) else (none)) else (none))) else (if x20=true then (laws_FnTails.l2 k x3 x9 x13 x15 (wrap64 (x19 + 1))) else (some false))
end
def laws_FnTails.f (k:Nat) (l0:List Int):Option (Bool):=(laws_vBig.f l0).bind fun t539=>(if t539=true then (some true) else ((spec_DrawTailsOf.f k l0).bind fun bt540=>((impl_TailsOf.f k bt540.1 bt540.2).bind fun bt546=>((spec_TailsOf.f k bt540.1 bt540.2).bind fun bt550=>((impl_LongestChain.f k bt540.1 bt540.2).bind fun bt554=>((spec_LongestChain.f k bt540.1 bt540.2).bind fun bt558=>(if (bt546.2 != bt550.2)=true then (laws_FnTails.j0 k bt540.1 bt540.2 bt546.1 bt546.2 bt554.1 true) else ((laws_vInts.f k bt546.1 bt550.1).bind fun t562=>(if t562=true then (if (bt554.2 != bt558.2)=true then (laws_FnTails.j0 k bt540.1 bt540.2 bt546.1 bt546.2 bt554.1 true) else ((laws_vInts.f k bt554.1 bt558.1).bind fun t563=>(laws_FnTails.j0 k bt540.1 bt540.2 bt546.1 bt546.2 bt554.1 (!t563)))) else (laws_FnTails.j0 k bt540.1 bt540.2 bt546.1 bt546.2 bt554.1 true))))))))))
theorem laws_FnTails.mono_l:∀ k,(∀ y0 y1 y2 y3 y4 y5,LeO (laws_FnTails.j0 k y0 y1 y2 y3 y4 y5) (laws_FnTails.j0 (k + 1) y0 y1 y2 y3 y4 y5))∧(∀ y0 y1 y2 y3 y4 y5,LeO (laws_FnTails.l0 k y0 y1 y2 y3 y4 y5) (laws_FnTails.l0 (k + 1) y0 y1 y2 y3 y4 y5))∧(∀ y0 y1 y2 y3 y4 y5 y6 y7,LeO (laws_FnTails.l1 k y0 y1 y2 y3 y4 y5 y6 y7) (laws_FnTails.l1 (k + 1) y0 y1 y2 y3 y4 y5 y6 y7))∧(∀ y0 y1 y2 y3 y4,LeO (laws_FnTails.l2 k y0 y1 y2 y3 y4) (laws_FnTails.l2 (k + 1) y0 y1 y2 y3 y4))∧(∀ y0 y1 y2 y3 y4 y5 y6,LeO (laws_FnTails.l3 k y0 y1 y2 y3 y4 y5 y6) (laws_FnTails.l3 (k + 1) y0 y1 y2 y3 y4 y5 y6))
 | 0=>⟨fun _ _ _ _ _ _ r h=>by simp [laws_FnTails.j0] at h,fun _ _ _ _ _ _ r h=>by simp [laws_FnTails.l0] at h,fun _ _ _ _ _ _ _ _ r h=>by simp [laws_FnTails.l1] at h,fun _ _ _ _ _ r h=>by simp [laws_FnTails.l2] at h,fun _ _ _ _ _ _ _ r h=>by simp [laws_FnTails.l3] at h⟩
 | k + 1=>by
  obtain ⟨ih0,ih1,ih2,ih3,ih4⟩:=laws_FnTails.mono_l k
  refine ⟨?_,?_,?_,?_,?_⟩
  ·intro y0 y1 y2 y3 y4 y5
   unfold laws_FnTails.j0
   repeat' first
   | (with_reducible exact ih0 _ _ _ _ _ _)
   | (with_reducible exact ih1 _ _ _ _ _ _)
   | (with_reducible exact ih2 _ _ _ _ _ _ _ _)
   | (with_reducible exact ih3 _ _ _ _ _)
   | (with_reducible exact ih4 _ _ _ _ _ _ _)
   | (with_reducible exact impl_LongestChain.mono _ _ _)
   | (with_reducible exact impl_PrecedenceReduction.mono _ _ _)
   | (with_reducible exact impl_TailsOf.mono _ _ _)
   | (with_reducible exact laws_vInts.mono _ _ _)
   | (with_reducible exact laws_vTimes.mono _ _ _)
   | (with_reducible exact spec_DrawTailsOf.mono _ _)
   | (with_reducible exact spec_LongestChain.mono _ _ _)
   | (with_reducible exact spec_TailsOf.mono _ _ _)
   | (with_reducible exact LeO.refl _)
   | (with_reducible exact LeO.none _)
   | (with_reducible refine LeO.ite ?_ ?_)
   | (with_reducible refine LeO.bind ?_ (fun _=>?_))
   | exact ih0 _ _ _ _ _ _
   | exact ih1 _ _ _ _ _ _
   | exact ih2 _ _ _ _ _ _ _ _
   | exact ih3 _ _ _ _ _
   | exact ih4 _ _ _ _ _ _ _
   | exact impl_LongestChain.mono _ _ _
   | exact impl_PrecedenceReduction.mono _ _ _
   | exact impl_TailsOf.mono _ _ _
   | exact laws_vInts.mono _ _ _
   | exact laws_vTimes.mono _ _ _
   | exact spec_DrawTailsOf.mono _ _
   | exact spec_LongestChain.mono _ _ _
   | exact spec_TailsOf.mono _ _ _
   | exact LeO.none _
   | refine LeO.ite ?_ ?_
   | refine LeO.bind ?_ (fun _=>?_)
  ·intro y0 y1 y2 y3 y4 y5
   unfold laws_FnTails.l0
   repeat' first
   | (with_reducible exact ih0 _ _ _ _ _ _)
   | (with_reducible exact ih1 _ _ _ _ _ _)
   | (with_reducible exact ih2 _ _ _ _ _ _ _ _)
   | (with_reducible exact ih3 _ _ _ _ _)
   | (with_reducible exact ih4 _ _ _ _ _ _ _)
   | (with_reducible exact impl_LongestChain.mono _ _ _)
   | (with_reducible exact impl_PrecedenceReduction.mono _ _ _)
   | (with_reducible exact impl_TailsOf.mono _ _ _)
   | (with_reducible exact laws_vInts.mono _ _ _)
   | (with_reducible exact laws_vTimes.mono _ _ _)
   | (with_reducible exact spec_DrawTailsOf.mono _ _)
   | (with_reducible exact spec_LongestChain.mono _ _ _)
   | (with_reducible exact spec_TailsOf.mono _ _ _)
   | (with_reducible exact LeO.refl _)
   | (with_reducible exact LeO.none _)
   | (with_reducible refine LeO.ite ?_ ?_)
   | (with_reducible refine LeO.bind ?_ (fun _=>?_))
   | exact ih0 _ _ _ _ _ _
   | exact ih1 _ _ _ _ _ _
   | exact ih2 _ _ _ _ _ _ _ _
   | exact ih3 _ _ _ _ _
   | exact ih4 _ _ _ _ _ _ _
   | exact impl_LongestChain.mono _ _ _
   | exact impl_PrecedenceReduction.mono _ _ _
   | exact impl_TailsOf.mono _ _ _
   | exact laws_vInts.mono _ _ _
   | exact laws_vTimes.mono _ _ _
   | exact spec_DrawTailsOf.mono _ _
   | exact spec_LongestChain.mono _ _ _
   | exact spec_TailsOf.mono _ _ _
   | exact LeO.none _
   | refine LeO.ite ?_ ?_
   | refine LeO.bind ?_ (fun _=>?_)
  ·intro y0 y1 y2 y3 y4 y5 y6 y7
   unfold laws_FnTails.l1
   repeat' first
   | (with_reducible exact ih0 _ _ _ _ _ _)
   | (with_reducible exact ih1 _ _ _ _ _ _)
   | (with_reducible exact ih2 _ _ _ _ _ _ _ _)
   | (with_reducible exact ih3 _ _ _ _ _)
   | (with_reducible exact ih4 _ _ _ _ _ _ _)
   | (with_reducible exact impl_LongestChain.mono _ _ _)
   | (with_reducible exact impl_PrecedenceReduction.mono _ _ _)
   | (with_reducible exact impl_TailsOf.mono _ _ _)
   | (with_reducible exact laws_vInts.mono _ _ _)
   | (with_reducible exact laws_vTimes.mono _ _ _)
   | (with_reducible exact spec_DrawTailsOf.mono _ _)
   | (with_reducible exact spec_LongestChain.mono _ _ _)
   | (with_reducible exact spec_TailsOf.mono _ _ _)
   | (with_reducible exact LeO.refl _)
   | (with_reducible exact LeO.none _)
   | (with_reducible refine LeO.ite ?_ ?_)
   | (with_reducible refine LeO.bind ?_ (fun _=>?_))
   | exact ih0 _ _ _ _ _ _
   | exact ih1 _ _ _ _ _ _
   | exact ih2 _ _ _ _ _ _ _ _
   | exact ih3 _ _ _ _ _
   | exact ih4 _ _ _ _ _ _ _
   | exact impl_LongestChain.mono _ _ _
   | exact impl_PrecedenceReduction.mono _ _ _
   | exact impl_TailsOf.mono _ _ _
   | exact laws_vInts.mono _ _ _
   | exact laws_vTimes.mono _ _ _
   | exact spec_DrawTailsOf.mono _ _
   | exact spec_LongestChain.mono _ _ _
   | exact spec_TailsOf.mono _ _ _
   | exact LeO.none _
   | refine LeO.ite ?_ ?_
   | refine LeO.bind ?_ (fun _=>?_)
  ·intro y0 y1 y2 y3 y4
   unfold laws_FnTails.l2
   repeat' first
   | (with_reducible exact ih0 _ _ _ _ _ _)
   | (with_reducible exact ih1 _ _ _ _ _ _)
   | (with_reducible exact ih2 _ _ _ _ _ _ _ _)
   | (with_reducible exact ih3 _ _ _ _ _)
   | (with_reducible exact ih4 _ _ _ _ _ _ _)
   | (with_reducible exact impl_LongestChain.mono _ _ _)
   | (with_reducible exact impl_PrecedenceReduction.mono _ _ _)
   | (with_reducible exact impl_TailsOf.mono _ _ _)
   | (with_reducible exact laws_vInts.mono _ _ _)
   | (with_reducible exact laws_vTimes.mono _ _ _)
   | (with_reducible exact spec_DrawTailsOf.mono _ _)
   | (with_reducible exact spec_LongestChain.mono _ _ _)
   | (with_reducible exact spec_TailsOf.mono _ _ _)
   | (with_reducible exact LeO.refl _)
   | (with_reducible exact LeO.none _)
   | (with_reducible refine LeO.ite ?_ ?_)
   | (with_reducible refine LeO.bind ?_ (fun _=>?_))
   | exact ih0 _ _ _ _ _ _
   | exact ih1 _ _ _ _ _ _
   | exact ih2 _ _ _ _ _ _ _ _
   | exact ih3 _ _ _ _ _
   | exact ih4 _ _ _ _ _ _ _
   | exact impl_LongestChain.mono _ _ _
   | exact impl_PrecedenceReduction.mono _ _ _
   | exact impl_TailsOf.mono _ _ _
   | exact laws_vInts.mono _ _ _
   | exact laws_vTimes.mono _ _ _
   | exact spec_DrawTailsOf.mono _ _
   | exact spec_LongestChain.mono _ _ _
   | exact spec_TailsOf.mono _ _ _
   | exact LeO.none _
   | refine LeO.ite ?_ ?_
   | refine LeO.bind ?_ (fun _=>?_)
  ·intro y0 y1 y2 y3 y4 y5 y6
   unfold laws_FnTails.l3
   repeat' first
   | (with_reducible exact ih0 _ _ _ _ _ _)
   | (with_reducible exact ih1 _ _ _ _ _ _)
   | (with_reducible exact ih2 _ _ _ _ _ _ _ _)
   | (with_reducible exact ih3 _ _ _ _ _)
   | (with_reducible exact ih4 _ _ _ _ _ _ _)
   | (with_reducible exact impl_LongestChain.mono _ _ _)
   | (with_reducible exact impl_PrecedenceReduction.mono _ _ _)
   | (with_reducible exact impl_TailsOf.mono _ _ _)
   | (with_reducible exact laws_vInts.mono _ _ _)
   | (with_reducible exact laws_vTimes.mono _ _ _)
   | (with_reducible exact spec_DrawTailsOf.mono _ _)
   | (with_reducible exact spec_LongestChain.mono _ _ _)
   | (with_reducible exact spec_TailsOf.mono _ _ _)
   | (with_reducible exact LeO.refl _)
   | (with_reducible exact LeO.none _)
   | (with_reducible refine LeO.ite ?_ ?_)
   | (with_reducible refine LeO.bind ?_ (fun _=>?_))
   | exact ih0 _ _ _ _ _ _
   | exact ih1 _ _ _ _ _ _
   | exact ih2 _ _ _ _ _ _ _ _
   | exact ih3 _ _ _ _ _
   | exact ih4 _ _ _ _ _ _ _
   | exact impl_LongestChain.mono _ _ _
   | exact impl_PrecedenceReduction.mono _ _ _
   | exact impl_TailsOf.mono _ _ _
   | exact laws_vInts.mono _ _ _
   | exact laws_vTimes.mono _ _ _
   | exact spec_DrawTailsOf.mono _ _
   | exact spec_LongestChain.mono _ _ _
   | exact spec_TailsOf.mono _ _ _
   | exact LeO.none _
   | refine LeO.ite ?_ ?_
   | refine LeO.bind ?_ (fun _=>?_)
theorem laws_FnTails.mono:∀ a0 k,LeO (laws_FnTails.f k a0) (laws_FnTails.f (k + 1) a0):=by
 intro a0 k
 obtain ⟨ih0,ih1,ih2,ih3,ih4⟩:=laws_FnTails.mono_l k
 unfold laws_FnTails.f
 repeat' first
   | (with_reducible exact ih0 _ _ _ _ _ _)
   | (with_reducible exact ih1 _ _ _ _ _ _)
   | (with_reducible exact ih2 _ _ _ _ _ _ _ _)
   | (with_reducible exact ih3 _ _ _ _ _)
   | (with_reducible exact ih4 _ _ _ _ _ _ _)
   | (with_reducible exact impl_LongestChain.mono _ _ _)
   | (with_reducible exact impl_PrecedenceReduction.mono _ _ _)
   | (with_reducible exact impl_TailsOf.mono _ _ _)
   | (with_reducible exact laws_vInts.mono _ _ _)
   | (with_reducible exact laws_vTimes.mono _ _ _)
   | (with_reducible exact spec_DrawTailsOf.mono _ _)
   | (with_reducible exact spec_LongestChain.mono _ _ _)
   | (with_reducible exact spec_TailsOf.mono _ _ _)
   | (with_reducible exact LeO.refl _)
   | (with_reducible exact LeO.none _)
   | (with_reducible refine LeO.ite ?_ ?_)
   | (with_reducible refine LeO.bind ?_ (fun _=>?_))
   | exact ih0 _ _ _ _ _ _
   | exact ih1 _ _ _ _ _ _
   | exact ih2 _ _ _ _ _ _ _ _
   | exact ih3 _ _ _ _ _
   | exact ih4 _ _ _ _ _ _ _
   | exact impl_LongestChain.mono _ _ _
   | exact impl_PrecedenceReduction.mono _ _ _
   | exact impl_TailsOf.mono _ _ _
   | exact laws_vInts.mono _ _ _
   | exact laws_vTimes.mono _ _ _
   | exact spec_DrawTailsOf.mono _ _
   | exact spec_LongestChain.mono _ _ _
   | exact spec_TailsOf.mono _ _ _
   | exact LeO.none _
   | refine LeO.ite ?_ ?_
   | refine LeO.bind ?_ (fun _=>?_)
set_option maxHeartbeats 8000000 in
set_option maxRecDepth 100000 in
theorem laws_FnTails.calls (k:Nat) (A0:Option Addr) (c0:Nat) (l0:List Int) (r:Bool) (w:World) (hr0:Kd.C (Kd.int .u8) w A0 l0.length l0) (hc0:l0.length≤c0) (h:laws_FnTails.f k l0=some r) :
  Calls Try.prog 4 #[.slice A0 l0.length c0] w fun e w'=>e=.returned (.bool r)∧Below w.heap.size w w':=by
 have hu45:=Try.underlying45
 have HR0:=Aside0.mk hr0
 have HC0:=Aside0.mk hc0
 clear hr0 hc0
 have HB:=Aside0.mk (Below.refl w.heap.size w)
 have H:((laws_vBig.f l0).bind fun t539=>(if t539=true then (some true) else ((spec_DrawTailsOf.f k l0).bind fun bt540=>((impl_TailsOf.f k bt540.1 bt540.2).bind fun bt546=>((spec_TailsOf.f k bt540.1 bt540.2).bind fun bt550=>((impl_LongestChain.f k bt540.1 bt540.2).bind fun bt554=>((spec_LongestChain.f k bt540.1 bt540.2).bind fun bt558=>(if (bt546.2 != bt550.2)=true then (laws_FnTails.j0 k bt540.1 bt540.2 bt546.1 bt546.2 bt554.1 true) else ((laws_vInts.f k bt546.1 bt550.1).bind fun t562=>(if t562=true then (if (bt554.2 != bt558.2)=true then (laws_FnTails.j0 k bt540.1 bt540.2 bt546.1 bt546.2 bt554.1 true) else ((laws_vInts.f k bt554.1 bt558.1).bind fun t563=>(laws_FnTails.j0 k bt540.1 bt540.2 bt546.1 bt546.2 bt554.1 (!t563)))) else (laws_FnTails.j0 k bt540.1 bt540.2 bt546.1 bt546.2 bt554.1 true)))))))))))=some r:=h
 clear h
 replace H:=Option.bind_eq_some_iff.mp H
 obtain ⟨t539,A20,H⟩:=H
 try dsimp only at H
 have A2:=Aside0.mk A20
 clear A20
 by_cases c3:t539=true
 ·subst c3
  rw [if_pos rfl] at H
  obtain rfl:=Option.some.inj H
  go_enter Try.func4,Try.ntmps4
  go_wp2_with (first|(go_at_call 18;(with_reducible refine (laws_vBig.calls _ _ l0 true _ ?side1 ?side2 A2.out).mono ?_);(case side1=>exact zC HR0.out);(case side2=>exact HC0.out);rintro e w' ⟨rfl,⟨nd,rfl⟩⟩;(try first|exact ⟨rfl,_,World.drewN_drewN _ _ _⟩|exact ⟨rfl,_,Eq.trans (World.drewN_drewN _ _ _) (congrArg (World.drewN _) (Nat.add_assoc _ _ _))⟩)))
  repeat (go_quiet (first|(go_at_call 18;(with_reducible refine (laws_vBig.calls _ _ l0 true _ ?side1 ?side2 A2.out).mono ?_);(case side1=>exact zC HR0.out);(case side2=>exact HC0.out);rintro e w' ⟨rfl,⟨nd,rfl⟩⟩;(try first|exact ⟨rfl,_,World.drewN_drewN _ _ _⟩|exact ⟨rfl,_,Eq.trans (World.drewN_drewN _ _ _) (congrArg (World.drewN _) (Nat.add_assoc _ _ _))⟩)));try go_wp2_with (fail))
  go_ret
  exact ⟨by first|rfl|(simp [errW_none,errW_some] <;> rfl)|(simp [*,errW_none,errW_some] <;> rfl),zb⟩
 ·replace c3:=Bool.eq_false_iff.mpr c3
  subst c3
  rw [if_neg (show ¬ (false=true) by decide)] at H
  replace H:=Option.bind_eq_some_iff.mp H
  obtain ⟨⟨t540,t541⟩,A40,H⟩:=H
  try dsimp only at H
  have A4:=Aside0.mk A40
  clear A40
  replace H:=Option.bind_eq_some_iff.mp H
  obtain ⟨⟨t546,t547⟩,A50,H⟩:=H
  try dsimp only at H
  have A5:=Aside0.mk A50
  clear A50
  replace H:=Option.bind_eq_some_iff.mp H
  obtain ⟨⟨t550,t551⟩,A60,H⟩:=H
  try dsimp only at H
  have A6:=Aside0.mk A60
  clear A60
  replace H:=Option.bind_eq_some_iff.mp H
  obtain ⟨⟨t554,t555⟩,A70,H⟩:=H
  try dsimp only at H
  have A7:=Aside0.mk A70
  clear A70
  replace H:=Option.bind_eq_some_iff.mp H
  obtain ⟨⟨t558,t559⟩,A80,H⟩:=H
  try dsimp only at H
  have A8:=Aside0.mk A80
  clear A80
  have HC9:=Aside0.mk H
  clear H
  go_enter Try.func4,Try.ntmps4
  go_upto_region 8 with (first|(go_at_call 18;(with_reducible refine (laws_vBig.calls _ _ l0 false _ ?side1 ?side2 A2.out).mono ?_);(case side1=>exact zC HR0.out);(case side2=>exact HC0.out);rintro e w' ⟨rfl,⟨nd,rfl⟩⟩;(try first|exact ⟨rfl,_,World.drewN_drewN _ _ _⟩|exact ⟨rfl,_,Eq.trans (World.drewN_drewN _ _ _) (congrArg (World.drewN _) (Nat.add_assoc _ _ _))⟩))|(go_at_call 19;(with_reducible refine (spec_DrawTailsOf.calls k _ _ l0 t540 t541 _ ?side1 ?side2 A4.out).mono ?_);(case side1=>exact zC HR0.out);(case side2=>exact HC0.out);rintro e w10 ⟨v542,v544,rfl,ho0,ho1,hb⟩;have HO543:=Aside0.mk (Kd.R_lower ho0 (below_size zb));have HO545:=Aside0.mk (Kd.R_lower ho1 (below_size zb));replace HB:=Aside0.mk (below_step zb hb);(try clear hb);(try clear ho0);(try clear ho1);obtain ⟨Ao11,co11,eo11⟩:=Kd.R_slice HO543.out;subst eo11;obtain ⟨Ao12,co12,eo12⟩:=Kd.R_slice HO545.out;subst eo12)|(go_at_call 20;(with_reducible refine (impl_TailsOf.calls k _ _ t540 _ _ t541 t546 t547 _ ?side1 ?side2 ?side3 ?side4 A5.out).mono ?_);(case side1=>exact zC ((Kd.R_reads' HO543.out).2.2));(case side2=>exact (Kd.R_reads' HO543.out).2.1);(case side3=>exact zC ((Kd.R_reads' HO545.out).2.2));(case side4=>exact (Kd.R_reads' HO545.out).2.1);rintro e w13 ⟨v548,rfl,ho0,hb⟩;replace HO543:=Aside0.mk (Kd.R_below (zR HO543.out) hb);replace HO545:=Aside0.mk (Kd.R_below (zR HO545.out) hb);have HO549:=Aside0.mk (Kd.R_lower ho0 (below_size zb));replace HB:=Aside0.mk (below_step zb hb);(try clear hb);(try clear ho0))|(go_at_call 21;(with_reducible refine (spec_TailsOf.calls k _ _ t540 _ _ t541 t550 t551 _ ?side1 ?side2 ?side3 ?side4 A6.out).mono ?_);(case side1=>exact zC ((Kd.R_reads' HO543.out).2.2));(case side2=>exact (Kd.R_reads' HO543.out).2.1);(case side3=>exact zC ((Kd.R_reads' HO545.out).2.2));(case side4=>exact (Kd.R_reads' HO545.out).2.1);rintro e w14 ⟨v552,rfl,ho0,hb⟩;have n0_:=Aside0.mk (Kd.R_below (zR HO543.out) hb);have n1_:=Aside0.mk (Kd.R_below (zR HO545.out) hb);have n2_:=Aside0.mk (Kd.R_elder' (zR HO549.out) (Kd.R_base ho0) hb);have n3_:=Aside0.mk (Kd.R_lower (Kd.R_new' ho0 (Kd.R_lt (zR HO549.out))) (below_size zb));have n4_:=Aside0.mk (below_step zb hb);clear HO543;clear HO545;clear HO549;clear HB;have HO543:=n0_;have HO545:=n1_;have HO549:=n2_;have HO553:=n3_;have HB:=n4_;clear n0_ n1_ n2_ n3_ n4_;(try clear hb);(try clear ho0))|(go_at_call 22;(with_reducible refine (impl_LongestChain.calls k _ _ t540 _ _ t541 t554 t555 _ ?side1 ?side2 ?side3 ?side4 A7.out).mono ?_);(case side1=>exact zC ((Kd.R_reads' HO543.out).2.2));(case side2=>exact (Kd.R_reads' HO543.out).2.1);(case side3=>exact zC ((Kd.R_reads' HO545.out).2.2));(case side4=>exact (Kd.R_reads' HO545.out).2.1);rintro e w15 ⟨v556,rfl,ho0,hb⟩;have n0_:=Aside0.mk (Kd.R_below (zR HO543.out) hb);have n1_:=Aside0.mk (Kd.R_below (zR HO545.out) hb);have n2_:=Aside0.mk (Kd.R_elder' (zR HO549.out) (Kd.R_base ho0) hb);have n3_:=Aside0.mk (Kd.R_elder' (zR HO553.out) (Kd.R_base ho0) hb);have n4_:=Aside0.mk (Kd.R_lower (Kd.R_new' (Kd.R_new' ho0 (Kd.R_lt (zR HO549.out))) (Kd.R_lt (zR HO553.out))) (below_size zb));have n5_:=Aside0.mk (below_step zb hb);clear HO543;clear HO545;clear HO549;clear HO553;clear HB;have HO543:=n0_;have HO545:=n1_;have HO549:=n2_;have HO553:=n3_;have HO557:=n4_;have HB:=n5_;clear n0_ n1_ n2_ n3_ n4_ n5_;(try clear hb);(try clear ho0))|(go_at_call 23;(with_reducible refine (spec_LongestChain.calls k _ _ t540 _ _ t541 t558 t559 _ ?side1 ?side2 ?side3 ?side4 A8.out).mono ?_);(case side1=>exact zC ((Kd.R_reads' HO543.out).2.2));(case side2=>exact (Kd.R_reads' HO543.out).2.1);(case side3=>exact zC ((Kd.R_reads' HO545.out).2.2));(case side4=>exact (Kd.R_reads' HO545.out).2.1);rintro e w16 ⟨v560,rfl,ho0,hb⟩;have n0_:=Aside0.mk (Kd.R_below (zR HO543.out) hb);have n1_:=Aside0.mk (Kd.R_below (zR HO545.out) hb);have n2_:=Aside0.mk (Kd.R_elder' (zR HO549.out) (Kd.R_base ho0) hb);have n3_:=Aside0.mk (Kd.R_elder' (zR HO553.out) (Kd.R_base ho0) hb);have n4_:=Aside0.mk (Kd.R_elder' (zR HO557.out) (Kd.R_base ho0) hb);have n5_:=Aside0.mk (Kd.R_lower (Kd.R_new' (Kd.R_new' (Kd.R_new' ho0 (Kd.R_lt (zR HO549.out))) (Kd.R_lt (zR HO553.out))) (Kd.R_lt (zR HO557.out))) (below_size zb));have n6_:=Aside0.mk (below_step zb hb);clear HO543;clear HO545;clear HO549;clear HO553;clear HO557;clear HB;have HO543:=n0_;have HO545:=n1_;have HO549:=n2_;have HO553:=n3_;have HO557:=n4_;have HO561:=n5_;have HB:=n6_;clear n0_ n1_ n2_ n3_ n4_ n5_ n6_;(try clear hb);(try clear ho0)))
  repeat (go_quiet (first|(go_at_call 18;(with_reducible refine (laws_vBig.calls _ _ l0 false _ ?side1 ?side2 A2.out).mono ?_);(case side1=>exact zC HR0.out);(case side2=>exact HC0.out);rintro e w' ⟨rfl,⟨nd,rfl⟩⟩;(try first|exact ⟨rfl,_,World.drewN_drewN _ _ _⟩|exact ⟨rfl,_,Eq.trans (World.drewN_drewN _ _ _) (congrArg (World.drewN _) (Nat.add_assoc _ _ _))⟩))|(go_at_call 19;(with_reducible refine (spec_DrawTailsOf.calls k _ _ l0 t540 t541 _ ?side1 ?side2 A4.out).mono ?_);(case side1=>exact zC HR0.out);(case side2=>exact HC0.out);rintro e w10 ⟨v542,v544,rfl,ho0,ho1,hb⟩;have HO543:=Aside0.mk (Kd.R_lower ho0 (below_size zb));have HO545:=Aside0.mk (Kd.R_lower ho1 (below_size zb));replace HB:=Aside0.mk (below_step zb hb);(try clear hb);(try clear ho0);(try clear ho1);obtain ⟨Ao11,co11,eo11⟩:=Kd.R_slice HO543.out;subst eo11;obtain ⟨Ao12,co12,eo12⟩:=Kd.R_slice HO545.out;subst eo12)|(go_at_call 20;(with_reducible refine (impl_TailsOf.calls k _ _ t540 _ _ t541 t546 t547 _ ?side1 ?side2 ?side3 ?side4 A5.out).mono ?_);(case side1=>exact zC ((Kd.R_reads' HO543.out).2.2));(case side2=>exact (Kd.R_reads' HO543.out).2.1);(case side3=>exact zC ((Kd.R_reads' HO545.out).2.2));(case side4=>exact (Kd.R_reads' HO545.out).2.1);rintro e w13 ⟨v548,rfl,ho0,hb⟩;replace HO543:=Aside0.mk (Kd.R_below (zR HO543.out) hb);replace HO545:=Aside0.mk (Kd.R_below (zR HO545.out) hb);have HO549:=Aside0.mk (Kd.R_lower ho0 (below_size zb));replace HB:=Aside0.mk (below_step zb hb);(try clear hb);(try clear ho0))|(go_at_call 21;(with_reducible refine (spec_TailsOf.calls k _ _ t540 _ _ t541 t550 t551 _ ?side1 ?side2 ?side3 ?side4 A6.out).mono ?_);(case side1=>exact zC ((Kd.R_reads' HO543.out).2.2));(case side2=>exact (Kd.R_reads' HO543.out).2.1);(case side3=>exact zC ((Kd.R_reads' HO545.out).2.2));(case side4=>exact (Kd.R_reads' HO545.out).2.1);rintro e w14 ⟨v552,rfl,ho0,hb⟩;have n0_:=Aside0.mk (Kd.R_below (zR HO543.out) hb);have n1_:=Aside0.mk (Kd.R_below (zR HO545.out) hb);have n2_:=Aside0.mk (Kd.R_elder' (zR HO549.out) (Kd.R_base ho0) hb);have n3_:=Aside0.mk (Kd.R_lower (Kd.R_new' ho0 (Kd.R_lt (zR HO549.out))) (below_size zb));have n4_:=Aside0.mk (below_step zb hb);clear HO543;clear HO545;clear HO549;clear HB;have HO543:=n0_;have HO545:=n1_;have HO549:=n2_;have HO553:=n3_;have HB:=n4_;clear n0_ n1_ n2_ n3_ n4_;(try clear hb);(try clear ho0))|(go_at_call 22;(with_reducible refine (impl_LongestChain.calls k _ _ t540 _ _ t541 t554 t555 _ ?side1 ?side2 ?side3 ?side4 A7.out).mono ?_);(case side1=>exact zC ((Kd.R_reads' HO543.out).2.2));(case side2=>exact (Kd.R_reads' HO543.out).2.1);(case side3=>exact zC ((Kd.R_reads' HO545.out).2.2));(case side4=>exact (Kd.R_reads' HO545.out).2.1);rintro e w15 ⟨v556,rfl,ho0,hb⟩;have n0_:=Aside0.mk (Kd.R_below (zR HO543.out) hb);have n1_:=Aside0.mk (Kd.R_below (zR HO545.out) hb);have n2_:=Aside0.mk (Kd.R_elder' (zR HO549.out) (Kd.R_base ho0) hb);have n3_:=Aside0.mk (Kd.R_elder' (zR HO553.out) (Kd.R_base ho0) hb);have n4_:=Aside0.mk (Kd.R_lower (Kd.R_new' (Kd.R_new' ho0 (Kd.R_lt (zR HO549.out))) (Kd.R_lt (zR HO553.out))) (below_size zb));have n5_:=Aside0.mk (below_step zb hb);clear HO543;clear HO545;clear HO549;clear HO553;clear HB;have HO543:=n0_;have HO545:=n1_;have HO549:=n2_;have HO553:=n3_;have HO557:=n4_;have HB:=n5_;clear n0_ n1_ n2_ n3_ n4_ n5_;(try clear hb);(try clear ho0))|(go_at_call 23;(with_reducible refine (spec_LongestChain.calls k _ _ t540 _ _ t541 t558 t559 _ ?side1 ?side2 ?side3 ?side4 A8.out).mono ?_);(case side1=>exact zC ((Kd.R_reads' HO543.out).2.2));(case side2=>exact (Kd.R_reads' HO543.out).2.1);(case side3=>exact zC ((Kd.R_reads' HO545.out).2.2));(case side4=>exact (Kd.R_reads' HO545.out).2.1);rintro e w16 ⟨v560,rfl,ho0,hb⟩;have n0_:=Aside0.mk (Kd.R_below (zR HO543.out) hb);have n1_:=Aside0.mk (Kd.R_below (zR HO545.out) hb);have n2_:=Aside0.mk (Kd.R_elder' (zR HO549.out) (Kd.R_base ho0) hb);have n3_:=Aside0.mk (Kd.R_elder' (zR HO553.out) (Kd.R_base ho0) hb);have n4_:=Aside0.mk (Kd.R_elder' (zR HO557.out) (Kd.R_base ho0) hb);have n5_:=Aside0.mk (Kd.R_lower (Kd.R_new' (Kd.R_new' (Kd.R_new' ho0 (Kd.R_lt (zR HO549.out))) (Kd.R_lt (zR HO553.out))) (Kd.R_lt (zR HO557.out))) (below_size zb));have n6_:=Aside0.mk (below_step zb hb);clear HO543;clear HO545;clear HO549;clear HO553;clear HO557;clear HB;have HO543:=n0_;have HO545:=n1_;have HO549:=n2_;have HO553:=n3_;have HO557:=n4_;have HO561:=n5_;have HB:=n6_;clear n0_ n1_ n2_ n3_ n4_ n5_ n6_;(try clear hb);(try clear ho0)));go_upto_region 8 with (first|(go_at_call 18;(with_reducible refine (laws_vBig.calls _ _ l0 false _ ?side1 ?side2 A2.out).mono ?_);(case side1=>exact zC HR0.out);(case side2=>exact HC0.out);rintro e w' ⟨rfl,⟨nd,rfl⟩⟩;(try first|exact ⟨rfl,_,World.drewN_drewN _ _ _⟩|exact ⟨rfl,_,Eq.trans (World.drewN_drewN _ _ _) (congrArg (World.drewN _) (Nat.add_assoc _ _ _))⟩))|(go_at_call 19;(with_reducible refine (spec_DrawTailsOf.calls k _ _ l0 t540 t541 _ ?side1 ?side2 A4.out).mono ?_);(case side1=>exact zC HR0.out);(case side2=>exact HC0.out);rintro e w10 ⟨v542,v544,rfl,ho0,ho1,hb⟩;have HO543:=Aside0.mk (Kd.R_lower ho0 (below_size zb));have HO545:=Aside0.mk (Kd.R_lower ho1 (below_size zb));replace HB:=Aside0.mk (below_step zb hb);(try clear hb);(try clear ho0);(try clear ho1);obtain ⟨Ao11,co11,eo11⟩:=Kd.R_slice HO543.out;subst eo11;obtain ⟨Ao12,co12,eo12⟩:=Kd.R_slice HO545.out;subst eo12)|(go_at_call 20;(with_reducible refine (impl_TailsOf.calls k _ _ t540 _ _ t541 t546 t547 _ ?side1 ?side2 ?side3 ?side4 A5.out).mono ?_);(case side1=>exact zC ((Kd.R_reads' HO543.out).2.2));(case side2=>exact (Kd.R_reads' HO543.out).2.1);(case side3=>exact zC ((Kd.R_reads' HO545.out).2.2));(case side4=>exact (Kd.R_reads' HO545.out).2.1);rintro e w13 ⟨v548,rfl,ho0,hb⟩;replace HO543:=Aside0.mk (Kd.R_below (zR HO543.out) hb);replace HO545:=Aside0.mk (Kd.R_below (zR HO545.out) hb);have HO549:=Aside0.mk (Kd.R_lower ho0 (below_size zb));replace HB:=Aside0.mk (below_step zb hb);(try clear hb);(try clear ho0))|(go_at_call 21;(with_reducible refine (spec_TailsOf.calls k _ _ t540 _ _ t541 t550 t551 _ ?side1 ?side2 ?side3 ?side4 A6.out).mono ?_);(case side1=>exact zC ((Kd.R_reads' HO543.out).2.2));(case side2=>exact (Kd.R_reads' HO543.out).2.1);(case side3=>exact zC ((Kd.R_reads' HO545.out).2.2));(case side4=>exact (Kd.R_reads' HO545.out).2.1);rintro e w14 ⟨v552,rfl,ho0,hb⟩;have n0_:=Aside0.mk (Kd.R_below (zR HO543.out) hb);have n1_:=Aside0.mk (Kd.R_below (zR HO545.out) hb);have n2_:=Aside0.mk (Kd.R_elder' (zR HO549.out) (Kd.R_base ho0) hb);have n3_:=Aside0.mk (Kd.R_lower (Kd.R_new' ho0 (Kd.R_lt (zR HO549.out))) (below_size zb));have n4_:=Aside0.mk (below_step zb hb);clear HO543;clear HO545;clear HO549;clear HB;have HO543:=n0_;have HO545:=n1_;have HO549:=n2_;have HO553:=n3_;have HB:=n4_;clear n0_ n1_ n2_ n3_ n4_;(try clear hb);(try clear ho0))|(go_at_call 22;(with_reducible refine (impl_LongestChain.calls k _ _ t540 _ _ t541 t554 t555 _ ?side1 ?side2 ?side3 ?side4 A7.out).mono ?_);(case side1=>exact zC ((Kd.R_reads' HO543.out).2.2));(case side2=>exact (Kd.R_reads' HO543.out).2.1);(case side3=>exact zC ((Kd.R_reads' HO545.out).2.2));(case side4=>exact (Kd.R_reads' HO545.out).2.1);rintro e w15 ⟨v556,rfl,ho0,hb⟩;have n0_:=Aside0.mk (Kd.R_below (zR HO543.out) hb);have n1_:=Aside0.mk (Kd.R_below (zR HO545.out) hb);have n2_:=Aside0.mk (Kd.R_elder' (zR HO549.out) (Kd.R_base ho0) hb);have n3_:=Aside0.mk (Kd.R_elder' (zR HO553.out) (Kd.R_base ho0) hb);have n4_:=Aside0.mk (Kd.R_lower (Kd.R_new' (Kd.R_new' ho0 (Kd.R_lt (zR HO549.out))) (Kd.R_lt (zR HO553.out))) (below_size zb));have n5_:=Aside0.mk (below_step zb hb);clear HO543;clear HO545;clear HO549;clear HO553;clear HB;have HO543:=n0_;have HO545:=n1_;have HO549:=n2_;have HO553:=n3_;have HO557:=n4_;have HB:=n5_;clear n0_ n1_ n2_ n3_ n4_ n5_;(try clear hb);(try clear ho0))|(go_at_call 23;(with_reducible refine (spec_LongestChain.calls k _ _ t540 _ _ t541 t558 t559 _ ?side1 ?side2 ?side3 ?side4 A8.out).mono ?_);(case side1=>exact zC ((Kd.R_reads' HO543.out).2.2));(case side2=>exact (Kd.R_reads' HO543.out).2.1);(case side3=>exact zC ((Kd.R_reads' HO545.out).2.2));(case side4=>exact (Kd.R_reads' HO545.out).2.1);rintro e w16 ⟨v560,rfl,ho0,hb⟩;have n0_:=Aside0.mk (Kd.R_below (zR HO543.out) hb);have n1_:=Aside0.mk (Kd.R_below (zR HO545.out) hb);have n2_:=Aside0.mk (Kd.R_elder' (zR HO549.out) (Kd.R_base ho0) hb);have n3_:=Aside0.mk (Kd.R_elder' (zR HO553.out) (Kd.R_base ho0) hb);have n4_:=Aside0.mk (Kd.R_elder' (zR HO557.out) (Kd.R_base ho0) hb);have n5_:=Aside0.mk (Kd.R_lower (Kd.R_new' (Kd.R_new' (Kd.R_new' ho0 (Kd.R_lt (zR HO549.out))) (Kd.R_lt (zR HO553.out))) (Kd.R_lt (zR HO557.out))) (below_size zb));have n6_:=Aside0.mk (below_step zb hb);clear HO543;clear HO545;clear HO549;clear HO553;clear HO557;clear HB;have HO543:=n0_;have HO545:=n1_;have HO549:=n2_;have HO553:=n3_;have HO557:=n4_;have HO561:=n5_;have HB:=n6_;clear n0_ n1_ n2_ n3_ n4_ n5_ n6_;(try clear hb);(try clear ho0))))
  (try simp only [Act.put,List.setIfInBounds_toArray,List.set_cons_zero,List.set_cons_succ])
  go_cut [72] (fun v72 wc=>∃ (kq:Nat) (x72_8:Bool),v72=.bool x72_8∧Aside0 (laws_FnTails.j0 kq t540 t541 t546 t547 t554 x72_8=some r)∧Aside0 (kq≤k)∧Aside0 (Kd.R k47 47 wc w.heap.size (fun _=>True) (.slice Ao11 t540.length co11) t540)∧Aside0 (Kd.R k45 45 wc w.heap.size (fun _=>True) (.slice Ao12 t541.length co12) t541)∧Aside0 (Kd.R (Kd.int .i64) 3 wc w.heap.size (fun k_=>some k_≠(v556:Value).ownBlock) v548 t546)∧Aside0 (Kd.R (Kd.int .i64) 3 wc w.heap.size (fun k_=>some k_≠(v548:Value).ownBlock) v556 t554)∧Aside0 (Below w.heap.size w wc))
  case first=>
   have H:=HC9.out
   clear HC9
   by_cases c17:(t547 != t551)=true
   ·rw [if_pos c17] at H
    have c17b0:(t547 != t551)=true:=c17
    (try (have c17b1:decide (t547=t551)=false:=by simpa using c17))
    (try (have c17b2:(t547 == t551)=false:=by simpa using c17))
    (try (have c17b3:¬ (t547=t551):=by simpa using c17))
    clear c17
    (first|rw [c17b0]|(simp only [i64_w,i32_w];rw [c17b0])|skip)
    have H':=Aside0.mk H
    clear H
    go_wp2
    repeat (go_quiet (fail);try go_wp2)
    go_meet
    case rel=>exact ⟨_,(true),zo,H',⟨by first|omega|exact Nat.le_refl _⟩,⟨zR HO543.out⟩,⟨zR HO545.out⟩,⟨zR (Kd.R_mono HO549.out (fun _ hk=>hk.1.2))⟩,⟨zR (Kd.R_mono HO557.out (fun _ hk=>hk.1.1.2))⟩,⟨zb⟩⟩
   ·rw [if_neg c17] at H
    have c17b0:(t547 != t551)=false:=by simpa using c17
    (try (have c17b1:decide (t547=t551)=true:=by simpa using c17))
    (try (have c17b2:(t547 == t551)=true:=by simpa using c17))
    clear c17
    (first|rw [c17b0]|(simp only [i64_w,i32_w];rw [c17b0])|skip)
    replace H:=Option.bind_eq_some_iff.mp H
    obtain ⟨t562,A180,H⟩:=H
    try dsimp only at H
    have A18:=Aside0.mk A180
    clear A180
    by_cases c19:t562=true
    ·subst c19
     rw [if_pos rfl] at H
     by_cases c20:(t555 != t559)=true
     ·rw [if_pos c20] at H
      have c20b0:(t555 != t559)=true:=c20
      (try (have c20b1:decide (t555=t559)=false:=by simpa using c20))
      (try (have c20b2:(t555 == t559)=false:=by simpa using c20))
      (try (have c20b3:¬ (t555=t559):=by simpa using c20))
      clear c20
      have H':=Aside0.mk H
      clear H
      obtain ⟨Ao21,co21,eo21⟩:=Kd.R_slice HO549.out
      subst eo21
      obtain ⟨Ao22,co22,eo22⟩:=Kd.R_slice HO553.out
      subst eo22
      go_wp2_with (first|(go_at_call 24;(with_reducible refine (laws_vInts.calls k _ _ t546 _ _ t550 true _ ?side1 ?side2 ?side3 ?side4 A18.out).mono ?_);(case side1=>exact zC ((Kd.R_reads' HO549.out).2.2));(case side2=>exact (Kd.R_reads' HO549.out).2.1);(case side3=>exact zC ((Kd.R_reads' HO553.out).2.2));(case side4=>exact (Kd.R_reads' HO553.out).2.1);rintro e w' ⟨rfl,⟨nd,rfl⟩⟩;(try first|exact ⟨rfl,_,World.drewN_drewN _ _ _⟩|exact ⟨rfl,_,Eq.trans (World.drewN_drewN _ _ _) (congrArg (World.drewN _) (Nat.add_assoc _ _ _))⟩)))
      repeat (go_quiet (first|(go_at_call 24;(with_reducible refine (laws_vInts.calls k _ _ t546 _ _ t550 true _ ?side1 ?side2 ?side3 ?side4 A18.out).mono ?_);(case side1=>exact zC ((Kd.R_reads' HO549.out).2.2));(case side2=>exact (Kd.R_reads' HO549.out).2.1);(case side3=>exact zC ((Kd.R_reads' HO553.out).2.2));(case side4=>exact (Kd.R_reads' HO553.out).2.1);rintro e w' ⟨rfl,⟨nd,rfl⟩⟩;(try first|exact ⟨rfl,_,World.drewN_drewN _ _ _⟩|exact ⟨rfl,_,Eq.trans (World.drewN_drewN _ _ _) (congrArg (World.drewN _) (Nat.add_assoc _ _ _))⟩)));try go_wp2_with (fail))
      go_meet
      case rel=>exact ⟨_,(true),zo,H',⟨by first|omega|exact Nat.le_refl _⟩,⟨zR HO543.out⟩,⟨zR HO545.out⟩,⟨zR (Kd.R_mono HO549.out (fun _ hk=>hk.1.2))⟩,⟨zR (Kd.R_mono HO557.out (fun _ hk=>hk.1.1.2))⟩,⟨zb⟩⟩
     ·rw [if_neg c20] at H
      have c20b0:(t555 != t559)=false:=by simpa using c20
      (try (have c20b1:decide (t555=t559)=true:=by simpa using c20))
      (try (have c20b2:(t555 == t559)=true:=by simpa using c20))
      clear c20
      replace H:=Option.bind_eq_some_iff.mp H
      obtain ⟨t563,A230,H⟩:=H
      try dsimp only at H
      have A23:=Aside0.mk A230
      clear A230
      have H':=Aside0.mk H
      clear H
      obtain ⟨Ao24,co24,eo24⟩:=Kd.R_slice HO549.out
      subst eo24
      obtain ⟨Ao25,co25,eo25⟩:=Kd.R_slice HO553.out
      subst eo25
      obtain ⟨Ao26,co26,eo26⟩:=Kd.R_slice HO557.out
      subst eo26
      obtain ⟨Ao27,co27,eo27⟩:=Kd.R_slice HO561.out
      subst eo27
      go_wp2_with (first|(go_at_call 24;(with_reducible refine (laws_vInts.calls k _ _ t546 _ _ t550 true _ ?side1 ?side2 ?side3 ?side4 A18.out).mono ?_);(case side1=>exact zC ((Kd.R_reads' HO549.out).2.2));(case side2=>exact (Kd.R_reads' HO549.out).2.1);(case side3=>exact zC ((Kd.R_reads' HO553.out).2.2));(case side4=>exact (Kd.R_reads' HO553.out).2.1);rintro e w' ⟨rfl,⟨nd,rfl⟩⟩;(try first|exact ⟨rfl,_,World.drewN_drewN _ _ _⟩|exact ⟨rfl,_,Eq.trans (World.drewN_drewN _ _ _) (congrArg (World.drewN _) (Nat.add_assoc _ _ _))⟩))|(go_at_call 24;(with_reducible refine (laws_vInts.calls k _ _ t554 _ _ t558 t563 _ ?side1 ?side2 ?side3 ?side4 A23.out).mono ?_);(case side1=>exact zC ((Kd.R_reads' HO557.out).2.2));(case side2=>exact (Kd.R_reads' HO557.out).2.1);(case side3=>exact zC ((Kd.R_reads' HO561.out).2.2));(case side4=>exact (Kd.R_reads' HO561.out).2.1);rintro e w' ⟨rfl,⟨nd,rfl⟩⟩;(try first|exact ⟨rfl,_,World.drewN_drewN _ _ _⟩|exact ⟨rfl,_,Eq.trans (World.drewN_drewN _ _ _) (congrArg (World.drewN _) (Nat.add_assoc _ _ _))⟩)))
      repeat (go_quiet (first|(go_at_call 24;(with_reducible refine (laws_vInts.calls k _ _ t546 _ _ t550 true _ ?side1 ?side2 ?side3 ?side4 A18.out).mono ?_);(case side1=>exact zC ((Kd.R_reads' HO549.out).2.2));(case side2=>exact (Kd.R_reads' HO549.out).2.1);(case side3=>exact zC ((Kd.R_reads' HO553.out).2.2));(case side4=>exact (Kd.R_reads' HO553.out).2.1);rintro e w' ⟨rfl,⟨nd,rfl⟩⟩;(try first|exact ⟨rfl,_,World.drewN_drewN _ _ _⟩|exact ⟨rfl,_,Eq.trans (World.drewN_drewN _ _ _) (congrArg (World.drewN _) (Nat.add_assoc _ _ _))⟩))|(go_at_call 24;(with_reducible refine (laws_vInts.calls k _ _ t554 _ _ t558 t563 _ ?side1 ?side2 ?side3 ?side4 A23.out).mono ?_);(case side1=>exact zC ((Kd.R_reads' HO557.out).2.2));(case side2=>exact (Kd.R_reads' HO557.out).2.1);(case side3=>exact zC ((Kd.R_reads' HO561.out).2.2));(case side4=>exact (Kd.R_reads' HO561.out).2.1);rintro e w' ⟨rfl,⟨nd,rfl⟩⟩;(try first|exact ⟨rfl,_,World.drewN_drewN _ _ _⟩|exact ⟨rfl,_,Eq.trans (World.drewN_drewN _ _ _) (congrArg (World.drewN _) (Nat.add_assoc _ _ _))⟩)));try go_wp2_with (fail))
      go_meet
      case rel=>exact ⟨_,(!t563),zo,H',⟨by first|omega|exact Nat.le_refl _⟩,⟨zR HO543.out⟩,⟨zR HO545.out⟩,⟨zR (Kd.R_mono HO549.out (fun _ hk=>hk.1.2))⟩,⟨zR (Kd.R_mono HO557.out (fun _ hk=>hk.1.1.2))⟩,⟨zb⟩⟩
    ·replace c19:=Bool.eq_false_iff.mpr c19
     subst c19
     rw [if_neg (show ¬ (false=true) by decide)] at H
     have H':=Aside0.mk H
     clear H
     obtain ⟨Ao28,co28,eo28⟩:=Kd.R_slice HO549.out
     subst eo28
     obtain ⟨Ao29,co29,eo29⟩:=Kd.R_slice HO553.out
     subst eo29
     go_wp2_with (first|(go_at_call 24;(with_reducible refine (laws_vInts.calls k _ _ t546 _ _ t550 false _ ?side1 ?side2 ?side3 ?side4 A18.out).mono ?_);(case side1=>exact zC ((Kd.R_reads' HO549.out).2.2));(case side2=>exact (Kd.R_reads' HO549.out).2.1);(case side3=>exact zC ((Kd.R_reads' HO553.out).2.2));(case side4=>exact (Kd.R_reads' HO553.out).2.1);rintro e w' ⟨rfl,⟨nd,rfl⟩⟩;(try first|exact ⟨rfl,_,World.drewN_drewN _ _ _⟩|exact ⟨rfl,_,Eq.trans (World.drewN_drewN _ _ _) (congrArg (World.drewN _) (Nat.add_assoc _ _ _))⟩)))
     repeat (go_quiet (first|(go_at_call 24;(with_reducible refine (laws_vInts.calls k _ _ t546 _ _ t550 false _ ?side1 ?side2 ?side3 ?side4 A18.out).mono ?_);(case side1=>exact zC ((Kd.R_reads' HO549.out).2.2));(case side2=>exact (Kd.R_reads' HO549.out).2.1);(case side3=>exact zC ((Kd.R_reads' HO553.out).2.2));(case side4=>exact (Kd.R_reads' HO553.out).2.1);rintro e w' ⟨rfl,⟨nd,rfl⟩⟩;(try first|exact ⟨rfl,_,World.drewN_drewN _ _ _⟩|exact ⟨rfl,_,Eq.trans (World.drewN_drewN _ _ _) (congrArg (World.drewN _) (Nat.add_assoc _ _ _))⟩)));try go_wp2_with (fail))
     go_meet
     case rel=>exact ⟨_,(true),zo,H',⟨by first|omega|exact Nat.le_refl _⟩,⟨zR HO543.out⟩,⟨zR HO545.out⟩,⟨zR (Kd.R_mono HO549.out (fun _ hk=>hk.1.2))⟩,⟨zR (Kd.R_mono HO557.out (fun _ hk=>hk.1.1.2))⟩,⟨zb⟩⟩
  case rest=>
   clear HC9
   (try clear c1);(try clear c2);(try clear p2);(try clear c3);(try clear c4);(try clear c17);(try clear c17b0);(try clear c17b1);(try clear c17b2);(try clear c19);(try clear c20);(try clear c20b0);(try clear c20b1);(try clear c20b2)
   obtain ⟨kq,x72_8,rfl,HA,HJ8,HO_3,HO_4,HO_5,HO_9,HB⟩:=hcut
   cases kq with
   | zero=>exact absurd HA.out (by simp [laws_FnTails.j0])
   | succ kj8=>
    have H:=HA.out
    clear HA
    simp only [laws_FnTails.j0] at H
    by_cases c30:x72_8=true
    ·subst c30
     rw [if_pos rfl] at H
     obtain rfl:=Option.some.inj H
     go_wp2
     repeat (go_quiet (fail);try go_wp2)
     go_ret
     exact ⟨by first|rfl|(simp [errW_none,errW_some] <;> rfl)|(simp [*,errW_none,errW_some] <;> rfl),zb⟩
    ·replace c30:=Bool.eq_false_iff.mpr c30
     subst c30
     rw [if_neg (show ¬ (false=true) by decide)] at H
     by_cases c31:t547=true
     ·subst c31
      rw [if_pos rfl] at H
      replace H:=Option.bind_eq_some_iff.mp H
      obtain ⟨⟨t564,t565⟩,A320,H⟩:=H
      try dsimp only at H
      have A32:=Aside0.mk A320
      clear A320
      have H':=Aside0.mk H
      clear H
      go_wp2_with (first|(go_at_call 25;(with_reducible refine (impl_PrecedenceReduction.calls kj8 (t540.length:Int) _ _ t541 t564 t565 _ ?side1 ?side2 A32.out).mono ?_);(case side1=>exact zC ((Kd.R_reads' HO_4.out).2.2));(case side2=>exact (Kd.R_reads' HO_4.out).2.1);rintro e w33 ⟨v566,rfl,ho0,hb⟩;have n0_:=Aside0.mk (Kd.R_below (zR HO_3.out) hb);have n1_:=Aside0.mk (Kd.R_elder' (zR HO_4.out) (Kd.R_base ho0) hb);have n2_:=Aside0.mk (Kd.R_below (zR HO_5.out) hb);have n3_:=Aside0.mk (Kd.R_below (zR HO_9.out) hb);have n4_:=Aside0.mk (Kd.R_lower (Kd.R_new' ho0 (Kd.R_lt (zR HO_4.out))) (below_size zb));have n5_:=Aside0.mk (below_step zb hb);clear HO_3;clear HO_4;clear HO_5;clear HO_9;clear HB;have HO_3:=n0_;have HO_4:=n1_;have HO_5:=n2_;have HO_9:=n3_;have HO567:=n4_;have HB:=n5_;clear n0_ n1_ n2_ n3_ n4_ n5_;(try clear hb);(try clear ho0)))
      repeat (go_quiet (first|(go_at_call 25;(with_reducible refine (impl_PrecedenceReduction.calls kj8 (t540.length:Int) _ _ t541 t564 t565 _ ?side1 ?side2 A32.out).mono ?_);(case side1=>exact zC ((Kd.R_reads' HO_4.out).2.2));(case side2=>exact (Kd.R_reads' HO_4.out).2.1);rintro e w33 ⟨v566,rfl,ho0,hb⟩;have n0_:=Aside0.mk (Kd.R_below (zR HO_3.out) hb);have n1_:=Aside0.mk (Kd.R_elder' (zR HO_4.out) (Kd.R_base ho0) hb);have n2_:=Aside0.mk (Kd.R_below (zR HO_5.out) hb);have n3_:=Aside0.mk (Kd.R_below (zR HO_9.out) hb);have n4_:=Aside0.mk (Kd.R_lower (Kd.R_new' ho0 (Kd.R_lt (zR HO_4.out))) (below_size zb));have n5_:=Aside0.mk (below_step zb hb);clear HO_3;clear HO_4;clear HO_5;clear HO_9;clear HB;have HO_3:=n0_;have HO_4:=n1_;have HO_5:=n2_;have HO_9:=n3_;have HO567:=n4_;have HB:=n5_;clear n0_ n1_ n2_ n3_ n4_ n5_;(try clear hb);(try clear ho0)));try go_wp2_with (fail))
      go_loopg [15,16] kj8 (fun kq v15 v16 w'=>∃ (x15_2:Int) (x16_2:Int),v15=.int .i64 x15_2∧v16=.int .i64 x16_2∧Aside0 (laws_FnTails.l0 kq t540 t546 t554 t564 x15_2 x16_2=some r)∧Aside0 (kq≤kj8)∧Aside0 (Kd.R k47 47 w' w.heap.size (fun _=>True) (.slice Ao11 t540.length co11) t540)∧Aside0 (Kd.R (Kd.int .i64) 3 w' w.heap.size (fun k_=>some k_≠(v556:Value).ownBlock) v548 t546)∧Aside0 (Kd.R (Kd.int .i64) 3 w' w.heap.size (fun k_=>some k_≠(v548:Value).ownBlock) v556 t554)∧Aside0 (Kd.R k45 45 w' w.heap.size (fun _=>True) v566 t564)∧Aside0 (Below w.heap.size w w'))
      case atStart=>exact ⟨(0),(0),zo,zo,H',⟨Nat.le_refl _⟩,⟨zR HO_3.out⟩,⟨zR HO_5.out⟩,⟨zR HO_9.out⟩,⟨zR (Kd.R_mono HO567.out (fun _ hk=>trivial))⟩,⟨zb⟩⟩
      case round=>
       clear H'
       (try clear c1);(try clear c2);(try clear p2);(try clear c3);(try clear c4);(try clear c17);(try clear c17b0);(try clear c17b1);(try clear c17b2);(try clear c19);(try clear c20);(try clear c20b0);(try clear c20b1);(try clear c20b2);(try clear c30);(try clear c31)
       obtain ⟨x15_2,x16_2,rfl,rfl,HA,HK2,HO_3,HO_5,HO_9,HO_13,HB⟩:=hrel
       cases gk with
       | zero=>exact absurd HA.out (by simp [laws_FnTails.l0])
       | succ k2=>
        have H:=HA.out
        clear HA
        simp only [laws_FnTails.l0] at H
        by_cases c34:x16_2<(t540.length:Int)
        ·rw [if_pos c34] at H
         have c34b0:decide (x16_2<(t540.length:Int))=true:=decide_eq_true c34
         clear c34
         have H':=Aside0.mk H
         clear H
         go_wp2
         repeat (go_quiet (fail);try go_wp2)
         go_loopg [17,18] k2 (fun kq v17 v18 w'=>∃ (x17_3:Int) (x18_3:Int),v17=.int .i64 x17_3∧v18=.int .i64 x18_3∧Aside0 (laws_FnTails.l1 kq t540 t546 t554 t564 x15_2 x16_2 x17_3 x18_3=some r)∧Aside0 (kq≤k2)∧Aside0 (Kd.R k47 47 w' w.heap.size (fun _=>True) (.slice Ao11 t540.length co11) t540)∧Aside0 (Kd.R (Kd.int .i64) 3 w' w.heap.size (fun k_=>some k_≠(v556:Value).ownBlock) v548 t546)∧Aside0 (Kd.R (Kd.int .i64) 3 w' w.heap.size (fun k_=>some k_≠(v548:Value).ownBlock) v556 t554)∧Aside0 (Kd.R k45 45 w' w.heap.size (fun _=>True) v566 t564)∧Aside0 (Below w.heap.size w w'))
         case atStart=>exact ⟨(0),(0),zo,zo,H',⟨Nat.le_refl _⟩,⟨zR HO_3.out⟩,⟨zR HO_5.out⟩,⟨zR HO_9.out⟩,⟨zR HO_13.out⟩,⟨zb⟩⟩
         case round=>
          clear H'
          (try clear c1);(try clear c2);(try clear p2);(try clear c3);(try clear c4);(try clear c17);(try clear c17b0);(try clear c17b1);(try clear c17b2);(try clear c19);(try clear c20);(try clear c20b0);(try clear c20b1);(try clear c20b2);(try clear c30);(try clear c31);(try clear c34);(try clear c34b0)
          obtain ⟨x17_3,x18_3,rfl,rfl,HA,HK3,HO_3,HO_5,HO_9,HO_13,HB⟩:=hrel
          cases gk with
          | zero=>exact absurd HA.out (by simp [laws_FnTails.l1])
          | succ k3=>
           have H:=HA.out
           clear HA
           simp only [laws_FnTails.l1] at H
           by_cases c35:x18_3<(t564.length:Int)
           ·rw [if_pos c35] at H
            have c35b0:decide (x18_3<(t564.length:Int))=true:=decide_eq_true c35
            clear c35
            by_cases c36:0≤x18_3
            ·rw [if_pos c36] at H
             have c36b0:decide (0≤x18_3)=true:=decide_eq_true c36
             clear c36
             by_cases c37:((rd_T45 t564 x18_3).f0)=x16_2
             ·rw [if_pos c37] at H
              have c37b0:(((rd_T45 t564 x18_3).f0) == x16_2)=true:=beq_iff_eq.mpr c37
              have c37b1:(((rd_T45 t564 x18_3).f0) != x16_2)=false:=bne_eq_false_iff_eq.mpr c37
              clear c37
              by_cases c38:0≤((rd_T45 t564 x18_3).f1)
              ·rw [if_pos c38] at H
               have c38b0:decide (0≤((rd_T45 t564 x18_3).f1))=true:=decide_eq_true c38
               clear c38
               by_cases c39:((rd_T45 t564 x18_3).f1)<(t546.length:Int)
               ·rw [if_pos c39] at H
                have c39b0:decide (((rd_T45 t564 x18_3).f1)<(t546.length:Int))=true:=decide_eq_true c39
                clear c39
                by_cases c40:(rd t546 ((rd_T45 t564 x18_3).f1))>x17_3
                ·rw [if_pos c40] at H
                 have c40b0:decide (x17_3<(rd t546 ((rd_T45 t564 x18_3).f1)))=true:=decide_eq_true c40
                 clear c40
                 have H':=Aside0.mk H
                 clear H
                 obtain ⟨Ao41,co41,eo41⟩:=Kd.R_slice HO_13.out
                 subst eo41
                 have p568:0≤(x18_3:Int):=of_decide_eq_true za
                 have q568:x18_3<(t564.length:Int):=of_decide_eq_true za
                 obtain ⟨ad568,e568,hx568_0,hx568_1⟩:=at_T45 (Kd.R_reads' HO_13.out).2.2 x18_3 p568 q568
                 cases e568
                 replace p568:=eq_true p568
                 replace q568:=eq_true q568
                 have p569:0≤(x18_3:Int):=of_decide_eq_true za
                 have q569:x18_3<(t564.length:Int):=of_decide_eq_true za
                 obtain ⟨ad569,e569,hx569_0,hx569_1⟩:=at_T45 (Kd.R_reads' HO_13.out).2.2 x18_3 p569 q569
                 obtain rfl:ad568=ad569:=(by injection e569)
                 replace p569:=eq_true p569
                 replace q569:=eq_true q569
                 obtain ⟨Ao42,co42,eo42⟩:=Kd.R_slice HO_5.out
                 subst eo42
                 have p570:0≤(((rd_T45 t564 x18_3).f1):Int):=of_decide_eq_true za
                 have q570:((rd_T45 t564 x18_3).f1)<(t546.length:Int):=of_decide_eq_true za
                 obtain ⟨ad570,e570,hx570_0⟩:=Kd.at_int (Kd.R_reads' HO_5.out).2.2 ((rd_T45 t564 x18_3).f1) p570 q570
                 cases e570
                 replace p570:=eq_true p570
                 replace q570:=eq_true q570
                 have p571:0≤(x18_3:Int):=of_decide_eq_true za
                 have q571:x18_3<(t564.length:Int):=of_decide_eq_true za
                 obtain ⟨ad571,e571,hx571_0,hx571_1⟩:=at_T45 (Kd.R_reads' HO_13.out).2.2 x18_3 p571 q571
                 obtain rfl:ad568=ad571:=(by injection e571)
                 replace p571:=eq_true p571
                 replace q571:=eq_true q571
                 have p572:0≤(((rd_T45 t564 x18_3).f1):Int):=of_decide_eq_true za
                 have q572:((rd_T45 t564 x18_3).f1)<(t546.length:Int):=of_decide_eq_true za
                 obtain ⟨ad572,e572,hx572_0⟩:=Kd.at_int (Kd.R_reads' HO_5.out).2.2 ((rd_T45 t564 x18_3).f1) p572 q572
                 obtain rfl:ad570=ad572:=(by injection e572)
                 replace p572:=eq_true p572
                 replace q572:=eq_true q572
                 go_wp2
                 repeat (go_quiet (fail);try go_wp2)
                 go_roundg k3
                 case measure=>have:=HJ8.out;have:=HK2.out;have:=HK3.out;omega
                 case rel=>exact ⟨(rd t546 ((rd_T45 t564 x18_3).f1)),(wrap64 (x18_3 + 1)),zo,zo,H',⟨by have:=HJ8.out;have:=HK2.out;have:=HK3.out;omega⟩,⟨zR HO_3.out⟩,⟨zR HO_5.out⟩,⟨zR HO_9.out⟩,⟨zR HO_13.out⟩,⟨zb⟩⟩
                ·rw [if_neg c40] at H
                 have c40b0:decide (x17_3<(rd t546 ((rd_T45 t564 x18_3).f1)))=false:=decide_eq_false c40
                 clear c40
                 have H':=Aside0.mk H
                 clear H
                 obtain ⟨Ao43,co43,eo43⟩:=Kd.R_slice HO_13.out
                 subst eo43
                 have p568:0≤(x18_3:Int):=of_decide_eq_true za
                 have q568:x18_3<(t564.length:Int):=of_decide_eq_true za
                 obtain ⟨ad568,e568,hx568_0,hx568_1⟩:=at_T45 (Kd.R_reads' HO_13.out).2.2 x18_3 p568 q568
                 cases e568
                 replace p568:=eq_true p568
                 replace q568:=eq_true q568
                 have p569:0≤(x18_3:Int):=of_decide_eq_true za
                 have q569:x18_3<(t564.length:Int):=of_decide_eq_true za
                 obtain ⟨ad569,e569,hx569_0,hx569_1⟩:=at_T45 (Kd.R_reads' HO_13.out).2.2 x18_3 p569 q569
                 obtain rfl:ad568=ad569:=(by injection e569)
                 replace p569:=eq_true p569
                 replace q569:=eq_true q569
                 obtain ⟨Ao44,co44,eo44⟩:=Kd.R_slice HO_5.out
                 subst eo44
                 have p570:0≤(((rd_T45 t564 x18_3).f1):Int):=of_decide_eq_true za
                 have q570:((rd_T45 t564 x18_3).f1)<(t546.length:Int):=of_decide_eq_true za
                 obtain ⟨ad570,e570,hx570_0⟩:=Kd.at_int (Kd.R_reads' HO_5.out).2.2 ((rd_T45 t564 x18_3).f1) p570 q570
                 cases e570
                 replace p570:=eq_true p570
                 replace q570:=eq_true q570
                 go_wp2
                 repeat (go_quiet (fail);try go_wp2)
                 go_roundg k3
                 case measure=>have:=HJ8.out;have:=HK2.out;have:=HK3.out;omega
                 case rel=>exact ⟨(x17_3),(wrap64 (x18_3 + 1)),zo,zo,H',⟨by have:=HJ8.out;have:=HK2.out;have:=HK3.out;omega⟩,⟨zR HO_3.out⟩,⟨zR HO_5.out⟩,⟨zR HO_9.out⟩,⟨zR HO_13.out⟩,⟨zb⟩⟩
               ·rw [if_neg c39] at H
                exact absurd H (by simp)
              ·rw [if_neg c38] at H
               exact absurd H (by simp)
             ·rw [if_neg c37] at H
              have c37b0:(((rd_T45 t564 x18_3).f0) == x16_2)=false:=beq_eq_false_iff_ne.mpr c37
              have c37b1:(((rd_T45 t564 x18_3).f0) != x16_2)=true:=bne_iff_ne.mpr c37
              have H':=Aside0.mk H
              clear H
              obtain ⟨Ao45,co45,eo45⟩:=Kd.R_slice HO_13.out
              subst eo45
              have p568:0≤(x18_3:Int):=of_decide_eq_true za
              have q568:x18_3<(t564.length:Int):=of_decide_eq_true za
              obtain ⟨ad568,e568,hx568_0,hx568_1⟩:=at_T45 (Kd.R_reads' HO_13.out).2.2 x18_3 p568 q568
              cases e568
              replace p568:=eq_true p568
              replace q568:=eq_true q568
              go_wp2
              repeat (go_quiet (fail);try go_wp2)
              go_roundg k3
              case measure=>have:=HJ8.out;have:=HK2.out;have:=HK3.out;omega
              case rel=>exact ⟨(x17_3),(wrap64 (x18_3 + 1)),zo,zo,H',⟨by have:=HJ8.out;have:=HK2.out;have:=HK3.out;omega⟩,⟨zR HO_3.out⟩,⟨zR HO_5.out⟩,⟨zR HO_9.out⟩,⟨zR HO_13.out⟩,⟨zb⟩⟩
            ·rw [if_neg c36] at H
             exact absurd H (by simp)
           ·rw [if_neg c35] at H
            have c35b0:decide (x18_3<(t564.length:Int))=false:=decide_eq_false c35
            clear c35
            by_cases c46:0≤x16_2
            ·rw [if_pos c46] at H
             have c46b0:decide (0≤x16_2)=true:=decide_eq_true c46
             clear c46
             by_cases c47:x16_2<(t546.length:Int)
             ·rw [if_pos c47] at H
              have c47b0:decide (x16_2<(t546.length:Int))=true:=decide_eq_true c47
              clear c47
              by_cases c48:x16_2<(t540.length:Int)
              ·rw [if_pos c48] at H
               have c48b0:decide (x16_2<(t540.length:Int))=true:=decide_eq_true c48
               clear c48
               by_cases c49:(rd t546 x16_2)=(wrap64 (((rd_T47 t540 x16_2).f0) + x17_3))
               ·rw [if_pos c49] at H
                have c49b0:((rd t546 x16_2) == (wrap64 (((rd_T47 t540 x16_2).f0) + x17_3)))=true:=beq_iff_eq.mpr c49
                have c49b1:((rd t546 x16_2) != (wrap64 (((rd_T47 t540 x16_2).f0) + x17_3)))=false:=bne_eq_false_iff_eq.mpr c49
                clear c49
                by_cases c50:(rd t546 x16_2)>x15_2
                ·rw [if_pos c50] at H
                 have c50b0:decide (x15_2<(rd t546 x16_2))=true:=decide_eq_true c50
                 clear c50
                 have H':=Aside0.mk H
                 clear H
                 obtain ⟨Ao51,co51,eo51⟩:=Kd.R_slice HO_13.out
                 subst eo51
                 obtain ⟨Ao52,co52,eo52⟩:=Kd.R_slice HO_5.out
                 subst eo52
                 have p573:0≤(x16_2:Int):=of_decide_eq_true za
                 have q573:x16_2<(t546.length:Int):=of_decide_eq_true za
                 obtain ⟨ad573,e573,hx573_0⟩:=Kd.at_int (Kd.R_reads' HO_5.out).2.2 x16_2 p573 q573
                 cases e573
                 replace p573:=eq_true p573
                 replace q573:=eq_true q573
                 have p574:0≤(x16_2:Int):=of_decide_eq_true za
                 have q574:x16_2<(t540.length:Int):=of_decide_eq_true za
                 obtain ⟨ad574,e574,hx574_0,hx574_1,hx574_2,hx574_3⟩:=at_T47 (Kd.R_reads' HO_3.out).2.2 x16_2 p574 q574
                 cases e574
                 replace p574:=eq_true p574
                 replace q574:=eq_true q574
                 have p575:0≤(x16_2:Int):=of_decide_eq_true za
                 have q575:x16_2<(t546.length:Int):=of_decide_eq_true za
                 obtain ⟨ad575,e575,hx575_0⟩:=Kd.at_int (Kd.R_reads' HO_5.out).2.2 x16_2 p575 q575
                 obtain rfl:ad573=ad575:=(by injection e575)
                 replace p575:=eq_true p575
                 replace q575:=eq_true q575
                 have p576:0≤(x16_2:Int):=of_decide_eq_true za
                 have q576:x16_2<(t546.length:Int):=of_decide_eq_true za
                 obtain ⟨ad576,e576,hx576_0⟩:=Kd.at_int (Kd.R_reads' HO_5.out).2.2 x16_2 p576 q576
                 obtain rfl:ad573=ad576:=(by injection e576)
                 replace p576:=eq_true p576
                 replace q576:=eq_true q576
                 go_wp2
                 repeat (go_quiet (fail);try go_wp2)
                 go_roundg k3
                 case measure=>have:=HJ8.out;have:=HK2.out;have:=HK3.out;omega
                 case rel=>exact ⟨(rd t546 x16_2),(wrap64 (x16_2 + 1)),zo,zo,H',⟨by have:=HJ8.out;have:=HK2.out;have:=HK3.out;omega⟩,⟨zR HO_3.out⟩,⟨zR HO_5.out⟩,⟨zR HO_9.out⟩,⟨zR HO_13.out⟩,⟨zb⟩⟩
                ·rw [if_neg c50] at H
                 have c50b0:decide (x15_2<(rd t546 x16_2))=false:=decide_eq_false c50
                 clear c50
                 have H':=Aside0.mk H
                 clear H
                 obtain ⟨Ao53,co53,eo53⟩:=Kd.R_slice HO_13.out
                 subst eo53
                 obtain ⟨Ao54,co54,eo54⟩:=Kd.R_slice HO_5.out
                 subst eo54
                 have p573:0≤(x16_2:Int):=of_decide_eq_true za
                 have q573:x16_2<(t546.length:Int):=of_decide_eq_true za
                 obtain ⟨ad573,e573,hx573_0⟩:=Kd.at_int (Kd.R_reads' HO_5.out).2.2 x16_2 p573 q573
                 cases e573
                 replace p573:=eq_true p573
                 replace q573:=eq_true q573
                 have p574:0≤(x16_2:Int):=of_decide_eq_true za
                 have q574:x16_2<(t540.length:Int):=of_decide_eq_true za
                 obtain ⟨ad574,e574,hx574_0,hx574_1,hx574_2,hx574_3⟩:=at_T47 (Kd.R_reads' HO_3.out).2.2 x16_2 p574 q574
                 cases e574
                 replace p574:=eq_true p574
                 replace q574:=eq_true q574
                 have p575:0≤(x16_2:Int):=of_decide_eq_true za
                 have q575:x16_2<(t546.length:Int):=of_decide_eq_true za
                 obtain ⟨ad575,e575,hx575_0⟩:=Kd.at_int (Kd.R_reads' HO_5.out).2.2 x16_2 p575 q575
                 obtain rfl:ad573=ad575:=(by injection e575)
                 replace p575:=eq_true p575
                 replace q575:=eq_true q575
                 go_wp2
                 repeat (go_quiet (fail);try go_wp2)
                 go_roundg k3
                 case measure=>have:=HJ8.out;have:=HK2.out;have:=HK3.out;omega
                 case rel=>exact ⟨(x15_2),(wrap64 (x16_2 + 1)),zo,zo,H',⟨by have:=HJ8.out;have:=HK2.out;have:=HK3.out;omega⟩,⟨zR HO_3.out⟩,⟨zR HO_5.out⟩,⟨zR HO_9.out⟩,⟨zR HO_13.out⟩,⟨zb⟩⟩
               ·rw [if_neg c49] at H
                have c49b0:((rd t546 x16_2) == (wrap64 (((rd_T47 t540 x16_2).f0) + x17_3)))=false:=beq_eq_false_iff_ne.mpr c49
                have c49b1:((rd t546 x16_2) != (wrap64 (((rd_T47 t540 x16_2).f0) + x17_3)))=true:=bne_iff_ne.mpr c49
                obtain rfl:=Option.some.inj H
                obtain ⟨Ao55,co55,eo55⟩:=Kd.R_slice HO_13.out
                subst eo55
                obtain ⟨Ao56,co56,eo56⟩:=Kd.R_slice HO_5.out
                subst eo56
                have p573:0≤(x16_2:Int):=of_decide_eq_true za
                have q573:x16_2<(t546.length:Int):=of_decide_eq_true za
                obtain ⟨ad573,e573,hx573_0⟩:=Kd.at_int (Kd.R_reads' HO_5.out).2.2 x16_2 p573 q573
                cases e573
                replace p573:=eq_true p573
                replace q573:=eq_true q573
                have p574:0≤(x16_2:Int):=of_decide_eq_true za
                have q574:x16_2<(t540.length:Int):=of_decide_eq_true za
                obtain ⟨ad574,e574,hx574_0,hx574_1,hx574_2,hx574_3⟩:=at_T47 (Kd.R_reads' HO_3.out).2.2 x16_2 p574 q574
                cases e574
                replace p574:=eq_true p574
                replace q574:=eq_true q574
                go_wp2
                repeat (go_quiet (fail);try go_wp2)
                go_ret
                exact ⟨by first|rfl|(simp [errW_none,errW_some] <;> rfl)|(simp [*,errW_none,errW_some] <;> rfl),zb⟩
              ·rw [if_neg c48] at H
               exact absurd H (by simp)
             ·rw [if_neg c47] at H
              exact absurd H (by simp)
            ·rw [if_neg c46] at H
             exact absurd H (by simp)
        ·rw [if_neg c34] at H
         have c34b0:decide (x16_2<(t540.length:Int))=false:=decide_eq_false c34
         clear c34
         have H':=Aside0.mk H
         clear H
         go_wp2
         repeat (go_quiet (fail);try go_wp2)
         go_loopg [19] k2 (fun kq v19 w'=>∃ (x19_3:Int),v19=.int .i64 x19_3∧Aside0 (laws_FnTails.l2 kq t540 t554 t564 x15_2 x19_3=some r)∧Aside0 (kq≤k2)∧Aside0 (Kd.R k47 47 w' w.heap.size (fun _=>True) (.slice Ao11 t540.length co11) t540)∧Aside0 (Kd.R (Kd.int .i64) 3 w' w.heap.size (fun _=>True) v556 t554)∧Aside0 (Kd.R k45 45 w' w.heap.size (fun _=>True) v566 t564)∧Aside0 (Below w.heap.size w w'))
         case atStart=>exact ⟨(1),zo,H',⟨Nat.le_refl _⟩,⟨zR HO_3.out⟩,⟨zR (Kd.R_mono HO_9.out (fun _ hk=>trivial))⟩,⟨zR HO_13.out⟩,⟨zb⟩⟩
         case round=>
          clear H'
          (try clear c1);(try clear c2);(try clear p2);(try clear c3);(try clear c4);(try clear c5);(try clear p5);(try clear q5);(try clear hx5);(try clear p6);(try clear c17);(try clear c17b0);(try clear c17b1);(try clear c17b2);(try clear c19);(try clear c20);(try clear c20b0);(try clear c20b1);(try clear c20b2);(try clear c30);(try clear c31);(try clear c34);(try clear c34b0);(try clear c35);(try clear c35b0);(try clear c36);(try clear c36b0);(try clear c37);(try clear c37b0);(try clear c37b1);(try clear c38);(try clear c38b0);(try clear c39);(try clear c39b0);(try clear c40);(try clear c40b0);(try clear c46);(try clear c46b0);(try clear c47);(try clear c47b0);(try clear c48);(try clear c48b0);(try clear c49);(try clear c49b0);(try clear c49b1);(try clear c50);(try clear c50b0);(try clear p56);(try clear q56);(try clear hx56);(try clear hx568_0);(try clear hx568_1);(try clear hx569_0);(try clear hx569_1);(try clear hx570_0);(try clear hx571_0);(try clear hx571_1);(try clear hx572_0);(try clear hx573_0);(try clear hx574_0);(try clear hx574_1);(try clear hx574_2);(try clear hx574_3);(try clear hx575_0);(try clear hx576_0);(try clear p568);(try clear p569);(try clear p570);(try clear p571);(try clear p572);(try clear p573);(try clear p574);(try clear p575);(try clear p576);(try clear q568);(try clear q569);(try clear q570);(try clear q571);(try clear q572);(try clear q573);(try clear q574);(try clear q575);(try clear q576)
          obtain ⟨x19_3,rfl,HA,HK3,HO_3,HO_9,HO_13,HB⟩:=hrel
          cases gk with
          | zero=>exact absurd HA.out (by simp [laws_FnTails.l2])
          | succ k3=>
           have H:=HA.out
           clear HA
           simp only [laws_FnTails.l2] at H
           by_cases c57:x19_3<(t554.length:Int)
           ·rw [if_pos c57] at H
            have c57b0:decide (x19_3<(t554.length:Int))=true:=decide_eq_true c57
            clear c57
            have H':=Aside0.mk H
            clear H
            obtain ⟨Ao58,co58,eo58⟩:=Kd.R_slice HO_9.out
            subst eo58
            go_wp2
            repeat (go_quiet (fail);try go_wp2)
            go_loopg [20,21] k3 (fun kq v20 v21 w'=>∃ (x20_4:Bool) (x21_4:Int),v20=.bool x20_4∧v21=.int .i64 x21_4∧Aside0 (laws_FnTails.l3 kq t540 t554 t564 x15_2 x19_3 x20_4 x21_4=some r)∧Aside0 (kq≤k3)∧Aside0 (Kd.R k47 47 w' w.heap.size (fun _=>True) (.slice Ao11 t540.length co11) t540)∧Aside0 (Kd.R (Kd.int .i64) 3 w' w.heap.size (fun _=>True) (.slice Ao58 t554.length co58) t554)∧Aside0 (Kd.R k45 45 w' w.heap.size (fun _=>True) v566 t564)∧Aside0 (Below w.heap.size w w'))
            case atStart=>exact ⟨(false),(0),zo,zo,H',⟨Nat.le_refl _⟩,⟨zR HO_3.out⟩,⟨zR HO_9.out⟩,⟨zR HO_13.out⟩,⟨zb⟩⟩
            case round=>
             clear H'
             (try clear c1);(try clear c2);(try clear p2);(try clear c3);(try clear c4);(try clear c5);(try clear p5);(try clear q5);(try clear hx5);(try clear p6);(try clear c17);(try clear c17b0);(try clear c17b1);(try clear c17b2);(try clear c19);(try clear c20);(try clear c20b0);(try clear c20b1);(try clear c20b2);(try clear c30);(try clear c31);(try clear c34);(try clear c34b0);(try clear c35);(try clear c35b0);(try clear c36);(try clear c36b0);(try clear c37);(try clear c37b0);(try clear c37b1);(try clear c38);(try clear c38b0);(try clear c39);(try clear c39b0);(try clear c40);(try clear c40b0);(try clear c46);(try clear c46b0);(try clear c47);(try clear c47b0);(try clear c48);(try clear c48b0);(try clear c49);(try clear c49b0);(try clear c49b1);(try clear c50);(try clear c50b0);(try clear p56);(try clear q56);(try clear hx56);(try clear c57);(try clear c57b0);(try clear p57);(try clear q57);(try clear hx57);(try clear hx568_0);(try clear hx568_1);(try clear hx569_0);(try clear hx569_1);(try clear hx570_0);(try clear hx571_0);(try clear hx571_1);(try clear hx572_0);(try clear hx573_0);(try clear hx574_0);(try clear hx574_1);(try clear hx574_2);(try clear hx574_3);(try clear hx575_0);(try clear hx576_0);(try clear p568);(try clear p569);(try clear p570);(try clear p571);(try clear p572);(try clear p573);(try clear p574);(try clear p575);(try clear p576);(try clear q568);(try clear q569);(try clear q570);(try clear q571);(try clear q572);(try clear q573);(try clear q574);(try clear q575);(try clear q576)
             obtain ⟨x20_4,x21_4,rfl,rfl,HA,HK4,HO_3,HO_9,HO_13,HB⟩:=hrel
             cases gk with
             | zero=>exact absurd HA.out (by simp [laws_FnTails.l3])
             | succ k4=>
              have H:=HA.out
              clear HA
              simp only [laws_FnTails.l3] at H
              by_cases c59:x21_4<(t564.length:Int)
              ·rw [if_pos c59] at H
               have c59b0:decide (x21_4<(t564.length:Int))=true:=decide_eq_true c59
               clear c59
               by_cases c60:x20_4=true
               ·subst c60
                rw [if_pos rfl] at H
                have H':=Aside0.mk H
                clear H
                obtain ⟨Ao61,co61,eo61⟩:=Kd.R_slice HO_13.out
                subst eo61
                go_wp2
                repeat (go_quiet (fail);try go_wp2)
                go_roundg k4
                case measure=>have:=HJ8.out;have:=HK2.out;have:=HK3.out;have:=HK4.out;omega
                case rel=>exact ⟨(true),(wrap64 (x21_4 + 1)),zo,zo,H',⟨by have:=HJ8.out;have:=HK2.out;have:=HK3.out;have:=HK4.out;omega⟩,⟨zR HO_3.out⟩,⟨zR HO_9.out⟩,⟨zR HO_13.out⟩,⟨zb⟩⟩
               ·replace c60:=Bool.eq_false_iff.mpr c60
                subst c60
                rw [if_neg (show ¬ (false=true) by decide)] at H
                by_cases c62:0≤x21_4
                ·rw [if_pos c62] at H
                 have c62b0:decide (0≤x21_4)=true:=decide_eq_true c62
                 clear c62
                 obtain ⟨ji63,hji63⟩:∃ j_:Int,(wrap64 (x19_3 - 1))=j_:=⟨_,rfl⟩
                 replace H:(if 0≤(ji63) then (if (ji63)<(t554.length:Int) then (if 0≤x19_3 then (if x19_3<(t554.length:Int) then (laws_FnTails.l3 k4 t540 t554 t564 x15_2 x19_3 (((rd_T45 t564 x21_4).f0) == (rd t554 (ji63)) && (((rd_T45 t564 x21_4).f1) == (rd t554 x19_3))) (wrap64 (x21_4 + 1))) else (none)) else (none)) else (none)) else (none))=some r:=by first|(rw [hji63] at H;exact H)|(simp only [hji63] at H ⊢;exact H)
                 have hji63w:(IntKind.i64.wrap (x19_3 - 1))=ji63:=(i64_w _).trans hji63
                 by_cases c64:0≤(ji63)
                 ·rw [if_pos c64] at H
                  have c64b0:decide (0≤(ji63))=true:=decide_eq_true c64
                  clear c64
                  by_cases c65:(ji63)<(t554.length:Int)
                  ·rw [if_pos c65] at H
                   have c65b0:decide ((ji63)<(t554.length:Int))=true:=decide_eq_true c65
                   clear c65
                   by_cases c66:0≤x19_3
                   ·rw [if_pos c66] at H
                    have c66b0:decide (0≤x19_3)=true:=decide_eq_true c66
                    clear c66
                    by_cases c67:x19_3<(t554.length:Int)
                    ·rw [if_pos c67] at H
                     have c67b0:decide (x19_3<(t554.length:Int))=true:=decide_eq_true c67
                     clear c67
                     have H':=Aside0.mk H
                     clear H
                     obtain ⟨Ao68,co68,eo68⟩:=Kd.R_slice HO_13.out
                     subst eo68
                     have p578:0≤(x21_4:Int):=of_decide_eq_true za
                     have q578:x21_4<(t564.length:Int):=of_decide_eq_true za
                     obtain ⟨ad578,e578,hx578_0,hx578_1⟩:=at_T45 (Kd.R_reads' HO_13.out).2.2 x21_4 p578 q578
                     cases e578
                     replace p578:=eq_true p578
                     replace q578:=eq_true q578
                     have p579:0≤((ji63):Int):=of_decide_eq_true za
                     have q579:(ji63)<(t554.length:Int):=of_decide_eq_true za
                     obtain ⟨ad579,e579,hx579_0⟩:=Kd.at_int (Kd.R_reads' HO_9.out).2.2 (ji63) p579 q579
                     cases e579
                     replace p579:=eq_true p579
                     replace q579:=eq_true q579
                     have p580:0≤(x19_3:Int):=of_decide_eq_true za
                     have q580:x19_3<(t554.length:Int):=of_decide_eq_true za
                     obtain ⟨ad580,e580,hx580_0⟩:=Kd.at_int (Kd.R_reads' HO_9.out).2.2 x19_3 p580 q580
                     obtain rfl:ad579=ad580:=(by injection e580)
                     replace p580:=eq_true p580
                     replace q580:=eq_true q580
                     go_wp2
                     repeat (go_quiet (fail);try go_wp2)
                     go_roundg k4
                     case measure=>have:=HJ8.out;have:=HK2.out;have:=HK3.out;have:=HK4.out;omega
                     case rel=>exact ⟨((((rd_T45 t564 x21_4).f0) == (rd t554 (ji63)) && (((rd_T45 t564 x21_4).f1) == (rd t554 x19_3)))),(wrap64 (x21_4 + 1)),(by first|rfl|(simp;done)|(simp only [←hji63] <;> (first|rfl|simp))|(simp [*];done)),zo,H',⟨by have:=HJ8.out;have:=HK2.out;have:=HK3.out;have:=HK4.out;omega⟩,⟨zR HO_3.out⟩,⟨zR HO_9.out⟩,⟨zR HO_13.out⟩,⟨zb⟩⟩
                    ·rw [if_neg c67] at H
                     exact absurd H (by simp)
                   ·rw [if_neg c66] at H
                    exact absurd H (by simp)
                  ·rw [if_neg c65] at H
                   exact absurd H (by simp)
                 ·rw [if_neg c64] at H
                  exact absurd H (by simp)
                ·rw [if_neg c62] at H
                 exact absurd H (by simp)
              ·rw [if_neg c59] at H
               have c59b0:decide (x21_4<(t564.length:Int))=false:=decide_eq_false c59
               clear c59
               by_cases c69:x20_4=true
               ·subst c69
                rw [if_pos rfl] at H
                have H':=Aside0.mk H
                clear H
                obtain ⟨Ao70,co70,eo70⟩:=Kd.R_slice HO_13.out
                subst eo70
                go_wp2
                repeat (go_quiet (fail);try go_wp2)
                go_roundg k4
                case measure=>have:=HJ8.out;have:=HK2.out;have:=HK3.out;have:=HK4.out;omega
                case rel=>exact ⟨(wrap64 (x19_3 + 1)),zo,H',⟨by have:=HJ8.out;have:=HK2.out;have:=HK3.out;have:=HK4.out;omega⟩,⟨zR HO_3.out⟩,⟨zR HO_9.out⟩,⟨zR HO_13.out⟩,⟨zb⟩⟩
               ·replace c69:=Bool.eq_false_iff.mpr c69
                subst c69
                rw [if_neg (show ¬ (false=true) by decide)] at H
                obtain rfl:=Option.some.inj H
                obtain ⟨Ao71,co71,eo71⟩:=Kd.R_slice HO_13.out
                subst eo71
                go_wp2
                repeat (go_quiet (fail);try go_wp2)
                go_ret
                exact ⟨by first|rfl|(simp [errW_none,errW_some] <;> rfl)|(simp [*,errW_none,errW_some] <;> rfl),zb⟩
           ·rw [if_neg c57] at H
            have c57b0:decide (x19_3<(t554.length:Int))=false:=decide_eq_false c57
            clear c57
            replace H:=Option.bind_eq_some_iff.mp H
            obtain ⟨t577,A720,H⟩:=H
            try dsimp only at H
            have A72:=Aside0.mk A720
            clear A720
            obtain rfl:=Option.some.inj H
            obtain ⟨Ao73,co73,eo73⟩:=Kd.R_slice HO_9.out
            subst eo73
            go_wp2_with (first|(go_at_call 26;(with_reducible refine (laws_vTimes.calls k3 _ _ t540 _ _ t554 t577 _ ?side1 ?side2 ?side3 ?side4 A72.out).mono ?_);(case side1=>exact zC ((Kd.R_reads' HO_3.out).2.2));(case side2=>exact (Kd.R_reads' HO_3.out).2.1);(case side3=>exact zC ((Kd.R_reads' HO_9.out).2.2));(case side4=>exact (Kd.R_reads' HO_9.out).2.1);rintro e w' ⟨rfl,⟨nd,rfl⟩⟩;(try first|exact ⟨rfl,_,World.drewN_drewN _ _ _⟩|exact ⟨rfl,_,Eq.trans (World.drewN_drewN _ _ _) (congrArg (World.drewN _) (Nat.add_assoc _ _ _))⟩)))
            repeat (go_quiet (first|(go_at_call 26;(with_reducible refine (laws_vTimes.calls k3 _ _ t540 _ _ t554 t577 _ ?side1 ?side2 ?side3 ?side4 A72.out).mono ?_);(case side1=>exact zC ((Kd.R_reads' HO_3.out).2.2));(case side2=>exact (Kd.R_reads' HO_3.out).2.1);(case side3=>exact zC ((Kd.R_reads' HO_9.out).2.2));(case side4=>exact (Kd.R_reads' HO_9.out).2.1);rintro e w' ⟨rfl,⟨nd,rfl⟩⟩;(try first|exact ⟨rfl,_,World.drewN_drewN _ _ _⟩|exact ⟨rfl,_,Eq.trans (World.drewN_drewN _ _ _) (congrArg (World.drewN _) (Nat.add_assoc _ _ _))⟩)));try go_wp2_with (fail))
            go_ret
            exact ⟨by first|rfl|(simp [errW_none,errW_some] <;> rfl)|(simp [*,errW_none,errW_some] <;> rfl),zb⟩
     ·replace c31:=Bool.eq_false_iff.mpr c31
      subst c31
      rw [if_neg (show ¬ (false=true) by decide)] at H
      obtain rfl:=Option.some.inj H
      go_wp2
      repeat (go_quiet (fail);try go_wp2)
      go_ret
      exact ⟨by first|rfl|(simp [errW_none,errW_some] <;> rfl)|(simp [*,errW_none,errW_some] <;> rfl),zb⟩

/-- THE ONE PURE STATEMENT of laws_FnTails: yours. -/
def laws_FnTails.Pure:Prop:=∀ (l0:List Int),l0.length≤maxLen→l0.length * 1≤140737488351232→(∀ x ∈ l0,(Lit.int .u8 x).wf=true)→∃ k,laws_FnTails.f k l0=some true
theorem laws_FnTails.walk (P:laws_FnTails.Pure) (a0:Option Addr) (len0 cap0:Nat) (z0:List Int) (w:World) (w0:(a0=none∧len0=0∧cap0=0∧z0=[])∨∃ x,a0=some x∧len0≤cap0∧cap0≤maxLen∧z0.length=cap0∧(∀ i,i<z0.length→w.cell? (x.add i)=some (.int .u8 (z0.getD i 0)))∧∀ n ∈ z0,(Lit.int .u8 n).wf=true) (y0:len0 * 1≤140737488351232) :
  Calls Try.prog 4 #[.slice a0 len0 cap0] w fun e w'=>e=.returned (.bool true)∧Below w.heap.size w w':=by
 obtain ⟨l0,rfl,hr0,hm0,hw0,hc0⟩:=ReadsInt.ofRowC w0
 obtain ⟨k,h⟩:=P l0 hm0 y0 hw0
 refine (laws_FnTails.calls k _ _ l0 true w (Kd.C_of_reads (d:=(0:Int)) (h1:=fun _=>rfl) hr0) hc0 h).mono ?_
 rintro e w' ⟨rfl,hd⟩
 exact ⟨rfl,hd⟩

end Go.Proofs.Ytplbabjigikgjaa.XFnTails
-- minified
