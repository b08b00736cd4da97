-- Written by a program of this session (the kit's print, widened). Proved here: what each function answers, for the arguments that its contract names.
import Derived.Test.YtkcfmaiknmfokaaXFnTiesx0
import Derived.Test.YtkcfmaiknmfokaaXFnTiesx3
import Derived.Test.YtkcfmaiknmfokaaXFnTiesx16
import Derived.Test.YtkcfmaiknmfokaaXFnTiesx20
namespace Go.Proofs.Ytkcfmaiknmfokaa.XFnTies
open Go.RowKit Go.Proofs.YtkcfmaiknmfokaaW.PrintWords Go.Proofs.YtkcfmaiknmfokaaW.PrintLast Go.Proofs.YtkcfmaiknmfokaaW.PrintMore
attribute [local go_sem] max2_int min2_int max_two min_two max_three min_three max_four min_four   -- for this text's walks alone
attribute [local go_sem] fldS_52_0 fldS_52_1 fldS_52_2
set_option linter.unusedVariables false
set_option linter.unusedSimpArgs false

/-! ### impl_CountBest: function 14 -/
def impl_CountBest.f (k:Nat) (l0:List (S44)) (a1:Int):Option (Int × Bool):=(impl_IsJobs.f k l0).bind fun t485=>(if t485=true then ((impl_isObjective.f a1).bind fun t486=>(if t486=true then ((impl_best.f k l0 a1).bind fun bt487=>(some (bt487.2.2,true))) else (some (0,false)))) else (some (0,false)))
theorem impl_CountBest.mono:∀ a0 a1 k,LeO (impl_CountBest.f k a0 a1) (impl_CountBest.f (k + 1) a0 a1):=by
 intro a0 a1 k
 unfold impl_CountBest.f
 repeat' first|(with_reducible first|exact impl_IsJobs.mono _ _|exact impl_best.mono _ _ _|exact LeO.refl _|exact LeO.none _|refine LeO.ite ?_ ?_|refine LeO.bind ?_ (fun _=>?_))|exact impl_IsJobs.mono _ _|exact impl_best.mono _ _ _|exact LeO.none _|refine LeO.ite ?_ ?_|refine LeO.bind ?_ (fun _=>?_)
set_option maxHeartbeats 8000000 in
set_option maxRecDepth 100000 in
theorem impl_CountBest.calls (k:Nat) (A0:Option Addr) (c0:Nat) (l0:List (S44)) (a1:Int) (r1:Int) (r2:Bool) (w:World) (hr0:Kd.C k44 w A0 l0.length l0) (hc0:l0.length≤c0) (h:impl_CountBest.f k l0 a1=some (r1,r2)) :
  Calls Try.prog 14 #[.slice A0 l0.length c0,.int .i64 a1] w fun e w'=>e=.returned (.tuple #[.int .i64 r1,.bool r2])∧Below w.heap.size w w':=by
 have HR0:=Aside0.mk hr0
 have HC0:=Aside0.mk hc0
 clear hr0 hc0
 have HB:=Aside0.mk (Below.refl w.heap.size w)
 have H:((impl_IsJobs.f k l0).bind fun t485=>(if t485=true then ((impl_isObjective.f a1).bind fun t486=>(if t486=true then ((impl_best.f k l0 a1).bind fun bt487=>(some (bt487.2.2,true))) else (some (0,false)))) else (some (0,false))))=some (r1,r2):=h
 clear h
 replace H:=Option.bind_eq_some_iff.mp H
 obtain ⟨t485,A30,H⟩:=H
 try dsimp only at H
 have A3:=Aside0.mk A30
 clear A30
 by_cases c4:t485=true
 rotate_left
 ·replace c4:=Bool.eq_false_iff.mpr c4
  subst c4
  rw [if_neg (show ¬ (false=true) by decide)] at H
  simp only [Option.some.injEq,Prod.mk.injEq] at H
  obtain ⟨rfl,rfl⟩:=H
  go_enter Try.func14,Try.ntmps14
  go_wp2_with (first|((with_reducible refine gate_callee (f:=23) rfl ?_);refine zgo 10 Try.func23 #[.slice A0 l0.length c0] ?_;(with_reducible refine (impl_IsJobs.calls k _ _ l0 false _ ?side1 ?side2 A3.out).mono ?_);(case side1=>exact zC HR0.out);(case side2=>exact HC0.out);rintro e w11 ⟨rfl,hb⟩;refine ⟨_,rfl,?_⟩;replace HB:=zb1 hb;(try clear hb)))
  go_ret2
  exact ⟨zz1,zb⟩
 subst c4
 rw [if_pos rfl] at H
 replace H:=Option.bind_eq_some_iff.mp H
 obtain ⟨t486,A50,H⟩:=H
 try dsimp only at H
 have A5:=Aside0.mk A50
 clear A50
 by_cases c6:t486=true
 rotate_left
 ·replace c6:=Bool.eq_false_iff.mpr c6
  subst c6
  rw [if_neg (show ¬ (false=true) by decide)] at H
  simp only [Option.some.injEq,Prod.mk.injEq] at H
  obtain ⟨rfl,rfl⟩:=H
  go_enter Try.func14,Try.ntmps14
  go_wp2_with (first|((with_reducible refine gate_callee (f:=23) rfl ?_);refine zgo 10 Try.func23 #[.slice A0 l0.length c0] ?_;(with_reducible refine (impl_IsJobs.calls k _ _ l0 true _ ?side1 ?side2 A3.out).mono ?_);(case side1=>exact zC HR0.out);(case side2=>exact HC0.out);rintro e w10 ⟨rfl,hb⟩;refine ⟨_,rfl,?_⟩;replace HB:=zb1 hb;(try clear hb))|(go_at_call 24;(with_reducible refine (impl_isObjective.calls a1 false _ A5.out).mono ?_);rintro e w' ⟨rfl,⟨nd,rfl⟩⟩))
  go_ret2
  exact ⟨zz1,zb⟩
 subst c6
 rw [if_pos rfl] at H
 replace H:=Option.bind_eq_some_iff.mp H
 obtain ⟨⟨t487,t488,t489⟩,A70,H⟩:=H
 try dsimp only at H
 have A7:=Aside0.mk A70
 clear A70
 simp only [Option.some.injEq,Prod.mk.injEq] at H
 obtain ⟨rfl,rfl⟩:=H
 go_enter Try.func14,Try.ntmps14
 go_wp2_with (first|((with_reducible refine gate_callee (f:=23) rfl ?_);refine zgo 10 Try.func23 #[.slice A0 l0.length c0] ?_;(with_reducible refine (impl_IsJobs.calls k _ _ l0 true _ ?side1 ?side2 A3.out).mono ?_);(case side1=>exact zC HR0.out);(case side2=>exact HC0.out);rintro e w8 ⟨rfl,hb⟩;refine ⟨_,rfl,?_⟩;replace HB:=zb1 hb;(try clear hb))|(go_at_call 24;(with_reducible refine (impl_isObjective.calls a1 true _ A5.out).mono ?_);rintro e w' ⟨rfl,⟨nd,rfl⟩⟩)|((with_reducible refine gate_callee (f:=25) rfl ?_);refine zgo 20 Try.func25 #[.slice A0 l0.length c0,.int .i64 a1] ?_;(with_reducible refine (impl_best.calls k _ _ l0 a1 t487 t488 t489 _ ?side1 ?side2 A7.out).mono ?_);(case side1=>exact zC (Kd.C_below HR0.out zb));(case side2=>exact HC0.out);rintro e w9 ⟨v490,rfl,ho0,hb⟩;refine ⟨_,rfl,?_⟩;have HO491:=Aside0.mk (Kd.R_lower ho0 (below_size zb));replace HB:=zb1 hb;(try clear hb);(try clear ho0)))
 go_ret2
 exact ⟨zz1,zb⟩

end Go.Proofs.Ytkcfmaiknmfokaa.XFnTies
-- minified
