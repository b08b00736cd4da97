-- Written by a program of this session (the kit's print, widened). Proved here: what each function answers, for the arguments that its contract names.
import Derived.Test.YtkcfmaiknmfokaaXFnTiesx0
import Derived.Test.YtkcfmaiknmfokaaXFnTiesx3
import Derived.Test.YtkcfmaiknmfokaaXFnTiesx4
import Derived.Test.YtkcfmaiknmfokaaXFnTiesx7
import Derived.Test.YtkcfmaiknmfokaaXFnTiesx8
namespace Go.Proofs.Ytkcfmaiknmfokaa.XFnTies
open Go.RowKit Go.Proofs.YtkcfmaiknmfokaaW.PrintWords Go.Proofs.YtkcfmaiknmfokaaW.PrintLast Go.Proofs.YtkcfmaiknmfokaaW.PrintMore
attribute [local go_sem] max2_int min2_int max_two min_two max_three min_three max_four min_four   -- for this text's walks alone
attribute [local go_sem] fldS_52_0 fldS_52_1 fldS_52_2
set_option linter.unusedVariables false
set_option linter.unusedSimpArgs false

/-! ### impl_RuledOrder: function 11 -/
def impl_RuledOrder.f (k:Nat) (l0:List (S44)) (a1:Int):Option (List Int × Bool):=(impl_isRuled.f k l0 a1).bind fun t439=>(if t439=true then ((impl_ruledOrder.f k l0 a1).bind fun t440=>(some (t440,true))) else (some (([]:List Int),false)))
theorem impl_RuledOrder.mono:∀ a0 a1 k,LeO (impl_RuledOrder.f k a0 a1) (impl_RuledOrder.f (k + 1) a0 a1):=by
 intro a0 a1 k
 unfold impl_RuledOrder.f
 repeat' first|(with_reducible first|exact impl_isRuled.mono _ _ _|exact impl_ruledOrder.mono _ _ _|exact LeO.refl _|exact LeO.none _|refine LeO.ite ?_ ?_|refine LeO.bind ?_ (fun _=>?_))|exact impl_isRuled.mono _ _ _|exact impl_ruledOrder.mono _ _ _|exact LeO.none _|refine LeO.ite ?_ ?_|refine LeO.bind ?_ (fun _=>?_)
set_option maxHeartbeats 8000000 in
set_option maxRecDepth 100000 in
theorem impl_RuledOrder.calls (k:Nat) (A0:Option Addr) (c0:Nat) (l0:List (S44)) (a1:Int) (r1:List Int) (r2:Bool) (w:World) (hr0:Kd.C k44 w A0 l0.length l0) (hc0:l0.length≤c0) (h:impl_RuledOrder.f k l0 a1=some (r1,r2)) :
  Calls Try.prog 11 #[.slice A0 l0.length c0,.int .i64 a1] w fun e w'=>∃ v0_:Value,e=.returned (.tuple #[v0_,.bool r2])∧Kd.R (Kd.int .i64) 3 w' w.heap.size (fun _=>True) v0_ r1∧Below w.heap.size w w':=by
 have HR0:=Aside0.mk hr0
 have HC0:=Aside0.mk hc0
 clear hr0 hc0
 have HB:=Aside0.mk (Below.refl w.heap.size w)
 have H:((impl_isRuled.f k l0 a1).bind fun t439=>(if t439=true then ((impl_ruledOrder.f k l0 a1).bind fun t440=>(some (t440,true))) else (some (([]:List Int),false))))=some (r1,r2):=h
 clear h
 replace H:=Option.bind_eq_some_iff.mp H
 obtain ⟨t439,A30,H⟩:=H
 try dsimp only at H
 have A3:=Aside0.mk A30
 clear A30
 by_cases c4:t439=true
 rotate_left
 ·replace c4:=Bool.eq_false_iff.mpr c4
  subst c4
  rw [if_neg (show ¬ (false=true) by decide)] at H
  simp only [Option.some.injEq,Prod.mk.injEq] at H
  obtain ⟨rfl,rfl⟩:=H
  go_enter Try.func11,Try.ntmps11
  go_wp2_with (first|((with_reducible refine gate_callee (f:=16) rfl ?_);refine zgo 8 Try.func16 #[.slice A0 l0.length c0,.int .i64 a1] ?_;(with_reducible refine (impl_isRuled.calls k _ _ l0 a1 false _ ?side1 ?side2 A3.out).mono ?_);(case side1=>exact zC HR0.out);(case side2=>exact HC0.out);rintro e w8 ⟨rfl,hb⟩;refine ⟨_,rfl,?_⟩;replace HB:=zb1 hb;(try clear hb)))
  go_ret2
  exact ⟨_,zz1,by first|exact Kd.R_nil _ _ _ _ _|exact Kd.N_nil _ _ _ _ _|exact Kd.V_nil _ _ _ _ _|exact Kd.Q_nil _ _ _ _ _|exact Kd.S_nil _ _ _ _ _,zb⟩
 subst c4
 rw [if_pos rfl] at H
 replace H:=Option.bind_eq_some_iff.mp H
 obtain ⟨t440,A50,H⟩:=H
 try dsimp only at H
 have A5:=Aside0.mk A50
 clear A50
 simp only [Option.some.injEq,Prod.mk.injEq] at H
 obtain ⟨rfl,rfl⟩:=H
 go_enter Try.func11,Try.ntmps11
 go_wp2_with (first|((with_reducible refine gate_callee (f:=16) rfl ?_);refine zgo 8 Try.func16 #[.slice A0 l0.length c0,.int .i64 a1] ?_;(with_reducible refine (impl_isRuled.calls k _ _ l0 a1 true _ ?side1 ?side2 A3.out).mono ?_);(case side1=>exact zC HR0.out);(case side2=>exact HC0.out);rintro e w6 ⟨rfl,hb⟩;refine ⟨_,rfl,?_⟩;replace HB:=zb1 hb;(try clear hb))|((with_reducible refine gate_callee (f:=20) rfl ?_);refine zgo 12 Try.func20 #[.slice A0 l0.length c0,.int .i64 a1] ?_;(with_reducible refine (impl_ruledOrder.calls k _ _ l0 a1 t440 _ ?side1 ?side2 A5.out).mono ?_);(case side1=>exact zC (Kd.C_below HR0.out HB.out));(case side2=>exact HC0.out);rintro e w7 ⟨v441,rfl,ho0,hb⟩;refine ⟨_,rfl,?_⟩;have HO442:=Aside0.mk (Kd.R_lower ho0 (below_size zb));replace HB:=zb1 hb;(try clear hb);(try clear ho0)))
 go_ret2
 exact ⟨_,zz1,zR HO442.out,zb⟩

/-! ### impl_isNumber: function 21 -/
def impl_isNumber.f (a0:Int) (a1:Int):Option (Bool):=(impl_within.f a0 0 (wrap64 (a1 - 1))).bind fun t443=>(some t443)
set_option maxHeartbeats 8000000 in
set_option maxRecDepth 100000 in
theorem impl_isNumber.calls (a0:Int) (a1:Int) (r:Bool) (w:World) (h:impl_isNumber.f a0 a1=some r) :
  Calls Try.prog 21 #[.int .i64 a0,.int .i64 a1] w fun e w'=>e=.returned (.bool r)∧Drawn0 w w':=by
 have H:((impl_within.f a0 0 (wrap64 (a1 - 1))).bind fun t443=>(some t443))=some r:=h
 clear h
 replace H:=Option.bind_eq_some_iff.mp H
 obtain ⟨t443,A30,H⟩:=H
 try dsimp only at H
 have A3:=Aside0.mk A30
 clear A30
 obtain rfl:=Option.some.inj H
 go_enter Try.func21,Try.ntmps21
 go_wp2_with (first|((with_reducible refine gate_callee (f:=27) rfl ?_);refine zgo 8 Try.func27 #[.int .i64 a0,.int .i64 0,.int .i64 (wrap64 (a1 - 1))] ?_;(with_reducible refine (impl_within.calls a0 0 (wrap64 (a1 - 1)) t443 _ A3.out).mono ?_);rintro e w' ⟨rfl,⟨nd,rfl⟩⟩;refine ⟨_,rfl,?_⟩))
 go_ret
 exact ⟨zz10,zz5⟩

/-! ### impl_RuleDifference: function 12 -/
def impl_RuleDifference.f (k:Nat) (l0:List (S44)) (a1:Int) (a2:Int) (a3:Int):Option (Int × Bool):=(impl_isRuled.f k l0 a1).bind fun t444=>(if t444=true then ((impl_isNumber.f a2 (l0.length:Int)).bind fun t445=>(if t445=true then ((impl_isNumber.f a3 (l0.length:Int)).bind fun t446=>(if t446=true then (if 0≤a2 then (if a2<(l0.length:Int) then (if 0≤a3 then (if a3<(l0.length:Int) then ((impl_difference.f ((rd_T44 l0 a2).f0) ((rd_T44 l0 a2).f1) ((rd_T44 l0 a2).f2) ((rd_T44 l0 a2).f3) ((rd_T44 l0 a3).f0) ((rd_T44 l0 a3).f1) ((rd_T44 l0 a3).f2) ((rd_T44 l0 a3).f3) a1).bind fun t449=>(some (t449,true))) else (none)) else (none)) else (none)) else (none)) else (some (0,false)))) else (some (0,false)))) else (some (0,false)))
theorem impl_RuleDifference.mono:∀ a0 a1 a2 a3 k,LeO (impl_RuleDifference.f k a0 a1 a2 a3) (impl_RuleDifference.f (k + 1) a0 a1 a2 a3):=by
 intro a0 a1 a2 a3 k
 unfold impl_RuleDifference.f
 repeat' first|(with_reducible first|exact impl_isRuled.mono _ _ _|exact LeO.refl _|exact LeO.none _|refine LeO.ite ?_ ?_|refine LeO.bind ?_ (fun _=>?_))|exact impl_isRuled.mono _ _ _|exact LeO.none _|refine LeO.ite ?_ ?_|refine LeO.bind ?_ (fun _=>?_)
def impl_RuleDifference.T3:Bool × List (List Nat × List Nat):=(true,[([],[]),([],[]),([0,1],[0,1]),([2],[2]),([],[]),([],[]),([4,5],[4,5]),([6],[6]),([],[]),([3,7,8],[3,7,8]),([9,9,0,1,2,3,4,5,6,7,8,9],[9]),([10,0,1,2,3,4,5,6,7,8,9,10],[])])
def impl_RuleDifference.B3:List Nat:=[0,0,3,7,0,0,48,112,0,511,1023,2047]
theorem impl_RuleDifference.tab3:rtab .any (opsOf Try.f12 3)=impl_RuleDifference.T3:=by kernel_rfl
theorem impl_RuleDifference.bits3:waitsOk impl_RuleDifference.T3.2 impl_RuleDifference.B3=true:=by kernel_rfl
set_option maxHeartbeats 8000000 in
set_option maxRecDepth 100000 in
theorem impl_RuleDifference.calls (k:Nat) (A0:Option Addr) (c0:Nat) (l0:List (S44)) (a1:Int) (a2:Int) (a3:Int) (r1:Int) (r2:Bool) (w:World) (hr0:Kd.C k44 w A0 l0.length l0) (hc0:l0.length≤c0) (h:impl_RuleDifference.f k l0 a1 a2 a3=some (r1,r2)) :
  Calls Try.prog 12 #[.slice A0 l0.length c0,.int .i64 a1,.int .i64 a2,.int .i64 a3] w fun e w'=>e=.returned (.tuple #[.int .i64 r1,.bool r2])∧Below w.heap.size w w':=by
 have hu44:=Try.underlying44
 have HR0:=Aside0.mk hr0
 have HC0:=Aside0.mk hc0
 clear hr0 hc0
 have HB:=Aside0.mk (Below.refl w.heap.size w)
 have H:((impl_isRuled.f k l0 a1).bind fun t444=>(if t444=true then ((impl_isNumber.f a2 (l0.length:Int)).bind fun t445=>(if t445=true then ((impl_isNumber.f a3 (l0.length:Int)).bind fun t446=>(if t446=true then (if 0≤a2 then (if a2<(l0.length:Int) then (if 0≤a3 then (if a3<(l0.length:Int) then ((impl_difference.f ((rd_T44 l0 a2).f0) ((rd_T44 l0 a2).f1) ((rd_T44 l0 a2).f2) ((rd_T44 l0 a2).f3) ((rd_T44 l0 a3).f0) ((rd_T44 l0 a3).f1) ((rd_T44 l0 a3).f2) ((rd_T44 l0 a3).f3) a1).bind fun t449=>(some (t449,true))) else (none)) else (none)) else (none)) else (none)) else (some (0,false)))) else (some (0,false)))) else (some (0,false))))=some (r1,r2):=h
 clear h
 replace H:=Option.bind_eq_some_iff.mp H
 obtain ⟨t444,A50,H⟩:=H
 try dsimp only at H
 have A5:=Aside0.mk A50
 clear A50
 by_cases c6:t444=true
 rotate_left
 ·replace c6:=Bool.eq_false_iff.mpr c6
  subst c6
  rw [if_neg (show ¬ (false=true) by decide)] at H
  simp only [Option.some.injEq,Prod.mk.injEq] at H
  obtain ⟨rfl,rfl⟩:=H
  go_enter Try.func12,Try.ntmps12
  go_wp2_with (first|((with_reducible refine gate_callee (f:=16) rfl ?_);refine zgo 12 Try.func16 #[.slice A0 l0.length c0,.int .i64 a1] ?_;(with_reducible refine (impl_isRuled.calls k _ _ l0 a1 false _ ?side1 ?side2 A5.out).mono ?_);(case side1=>exact zC HR0.out);(case side2=>exact HC0.out);rintro e w21 ⟨rfl,hb⟩;refine ⟨_,rfl,?_⟩;replace HB:=zb1 hb;(try clear hb)))
  go_ret2
  exact ⟨zz1,zb⟩
 subst c6
 rw [if_pos rfl] at H
 replace H:=Option.bind_eq_some_iff.mp H
 obtain ⟨t445,A70,H⟩:=H
 try dsimp only at H
 have A7:=Aside0.mk A70
 clear A70
 by_cases c8:t445=true
 rotate_left
 ·replace c8:=Bool.eq_false_iff.mpr c8
  subst c8
  rw [if_neg (show ¬ (false=true) by decide)] at H
  simp only [Option.some.injEq,Prod.mk.injEq] at H
  obtain ⟨rfl,rfl⟩:=H
  go_enter Try.func12,Try.ntmps12
  go_wp2_with (first|((with_reducible refine gate_callee (f:=16) rfl ?_);refine zgo 12 Try.func16 #[.slice A0 l0.length c0,.int .i64 a1] ?_;(with_reducible refine (impl_isRuled.calls k _ _ l0 a1 true _ ?side1 ?side2 A5.out).mono ?_);(case side1=>exact zC HR0.out);(case side2=>exact HC0.out);rintro e w20 ⟨rfl,hb⟩;refine ⟨_,rfl,?_⟩;replace HB:=zb1 hb;(try clear hb))|(go_at_call 21;(with_reducible refine (impl_isNumber.calls a2 (l0.length:Int) false _ A7.out).mono ?_);rintro e w' ⟨rfl,⟨nd,rfl⟩⟩))
  go_ret2
  exact ⟨zz1,zb⟩
 subst c8
 rw [if_pos rfl] at H
 replace H:=Option.bind_eq_some_iff.mp H
 obtain ⟨t446,A90,H⟩:=H
 try dsimp only at H
 have A9:=Aside0.mk A90
 clear A90
 by_cases c10:t446=true
 rotate_left
 ·replace c10:=Bool.eq_false_iff.mpr c10
  subst c10
  rw [if_neg (show ¬ (false=true) by decide)] at H
  simp only [Option.some.injEq,Prod.mk.injEq] at H
  obtain ⟨rfl,rfl⟩:=H
  go_enter Try.func12,Try.ntmps12
  go_wp2_with (first|((with_reducible refine gate_callee (f:=16) rfl ?_);refine zgo 12 Try.func16 #[.slice A0 l0.length c0,.int .i64 a1] ?_;(with_reducible refine (impl_isRuled.calls k _ _ l0 a1 true _ ?side1 ?side2 A5.out).mono ?_);(case side1=>exact zC HR0.out);(case side2=>exact HC0.out);rintro e w19 ⟨rfl,hb⟩;refine ⟨_,rfl,?_⟩;replace HB:=zb1 hb;(try clear hb))|(go_at_call 21;(with_reducible refine (impl_isNumber.calls a2 (l0.length:Int) true _ A7.out).mono ?_);rintro e w' ⟨rfl,⟨nd,rfl⟩⟩)|(go_at_call 21;(with_reducible refine (impl_isNumber.calls a3 (l0.length:Int) false _ A9.out).mono ?_);rintro e w' ⟨rfl,⟨nd,rfl⟩⟩))
  go_ret2
  exact ⟨zz1,zb⟩
 subst c10
 rw [if_pos rfl] at H
 by_cases c11:0≤a2
 rotate_left
 ·rw [if_neg c11] at H
  exact absurd H (by simp)
 rw [if_pos c11] at H
 have c11b0:=decide_eq_true c11
 clear c11
 by_cases c12:a2<(l0.length:Int)
 rotate_left
 ·rw [if_neg c12] at H
  exact absurd H (by simp)
 rw [if_pos c12] at H
 have c12b0:=decide_eq_true c12
 clear c12
 by_cases c13:0≤a3
 rotate_left
 ·rw [if_neg c13] at H
  exact absurd H (by simp)
 rw [if_pos c13] at H
 have c13b0:=decide_eq_true c13
 clear c13
 by_cases c14:a3<(l0.length:Int)
 rotate_left
 ·rw [if_neg c14] at H
  exact absurd H (by simp)
 rw [if_pos c14] at H
 have c14b0:=decide_eq_true c14
 clear c14
 replace H:=Option.bind_eq_some_iff.mp H
 obtain ⟨t449,A150,H⟩:=H
 try dsimp only at H
 have A15:=Aside0.mk A150
 clear A150
 simp only [Option.some.injEq,Prod.mk.injEq] at H
 obtain ⟨rfl,rfl⟩:=H
 go_enter Try.func12,Try.ntmps12
 try go_wp2_with (first|((with_reducible refine gate_callee (f:=16) rfl ?_);refine zgo 12 Try.func16 #[.slice A0 l0.length c0,.int .i64 a1] ?_;(with_reducible refine (impl_isRuled.calls k _ _ l0 a1 true _ ?side1 ?side2 A5.out).mono ?_);(case side1=>exact zC HR0.out);(case side2=>exact HC0.out);rintro e w16 ⟨rfl,hb⟩;refine ⟨_,rfl,?_⟩;replace HB:=zb1 hb;(try clear hb))|(go_at_call 21;(with_reducible refine (impl_isNumber.calls a2 (l0.length:Int) true _ A7.out).mono ?_);rintro e w' ⟨rfl,⟨nd,rfl⟩⟩)|(go_at_call 21;(with_reducible refine (impl_isNumber.calls a3 (l0.length:Int) true _ A9.out).mono ?_);rintro e w' ⟨rfl,⟨nd,rfl⟩⟩))
 (try (rw [drewN_self w16];generalize hq_:World.drewN w16 _=w16;have n0_:Aside0 (Below w.heap.size w w16):=⟨by rw [←hq_];exact zb⟩;clear HB hq_;have HB:=n0_;clear n0_))
 replace HB:=Aside0.mk (below_drew1 HB.out)
 have p447:0≤(a2:Int):=of_decide_eq_true za
 have q447:a2<(l0.length:Int):=of_decide_eq_true za
 obtain ⟨ad447,e447,hx447_0,hx447_1,hx447_2,hx447_3⟩:=at_T44 HR0.out a2 p447 q447
 have hw447_3:=hx447_3
 have hw447_2:=hx447_2
 have hw447_1:=hx447_1
 have hw447_0:=hx447_0
 cases e447
 replace hx447_0:=zh_ HB hx447_0
 replace hx447_1:=zh_ HB hx447_1
 replace hx447_2:=zh_ HB hx447_2
 replace hx447_3:=zh_ HB hx447_3
 replace p447:=eq_true p447
 replace q447:=eq_true q447
 have p448:0≤(a3:Int):=of_decide_eq_true za
 have q448:a3<(l0.length:Int):=of_decide_eq_true za
 obtain ⟨ad448,e448,hx448_0,hx448_1,hx448_2,hx448_3⟩:=at_T44 HR0.out a3 p448 q448
 have hw448_3:=hx448_3
 have hw448_2:=hx448_2
 have hw448_1:=hx448_1
 have hw448_0:=hx448_0
 obtain rfl:ad447=ad448:=(by injection e448)
 replace hx448_0:=zh_ HB hx448_0
 replace hx448_1:=zh_ HB hx448_1
 replace hx448_2:=zh_ HB hx448_2
 replace hx448_3:=zh_ HB hx448_3
 replace p448:=eq_true p448
 replace q448:=eq_true q448
 refine start_ (n:=12) (S:=fun w'=>w'.cell? (ad447.add ((a2).toNat * 4))=some (.int .i64 ((rd_T44 l0 a2).f0))∧w'.cell? ⟨(ad447.add ((a2).toNat * 4)).block,(ad447.add ((a2).toNat * 4)).off + 1,none⟩=some (.int .i64 ((rd_T44 l0 a2).f1))∧w'.cell? ⟨(ad447.add ((a2).toNat * 4)).block,(ad447.add ((a2).toNat * 4)).off + 2,none⟩=some (.int .i64 ((rd_T44 l0 a2).f2))∧w'.cell? ⟨(ad447.add ((a2).toNat * 4)).block,(ad447.add ((a2).toNat * 4)).off + 3,none⟩=some (.int .i64 ((rd_T44 l0 a2).f3))∧w'.cell? (ad447.add ((a3).toNat * 4))=some (.int .i64 ((rd_T44 l0 a3).f0))∧w'.cell? ⟨(ad447.add ((a3).toNat * 4)).block,(ad447.add ((a3).toNat * 4)).off + 1,none⟩=some (.int .i64 ((rd_T44 l0 a3).f1))∧w'.cell? ⟨(ad447.add ((a3).toNat * 4)).block,(ad447.add ((a3).toNat * 4)).off + 2,none⟩=some (.int .i64 ((rd_T44 l0 a3).f2))∧w'.cell? ⟨(ad447.add ((a3).toNat * 4)).block,(ad447.add ((a3).toNat * 4)).off + 3,none⟩=some (.int .i64 ((rd_T44 l0 a3).f3))) (ds:=[]) #[false,false,false,false,false,false,false,false,false,false,false,false] (by kernel_rfl) rfl rfl ⟨((HB.out.cell (World.block_lt_of_cell? w _ hw447_0)).trans hw447_0),((HB.out.cell (World.block_lt_of_cell? w _ hw447_1)).trans hw447_1),((HB.out.cell (World.block_lt_of_cell? w _ hw447_2)).trans hw447_2),((HB.out.cell (World.block_lt_of_cell? w _ hw447_3)).trans hw447_3),((HB.out.cell (World.block_lt_of_cell? w _ hw448_0)).trans hw448_0),((HB.out.cell (World.block_lt_of_cell? w _ hw448_1)).trans hw448_1),((HB.out.cell (World.block_lt_of_cell? w _ hw448_2)).trans hw448_2),((HB.out.cell (World.block_lt_of_cell? w _ hw448_3)).trans hw448_3)⟩ (fun hHeld=>?_);refine with_tabW impl_RuleDifference.tab3 impl_RuleDifference.bits3 (fun HT_ HW_=>?_)
 generalize w16.drew=w17 at HB hx447_0 hx447_1 hx447_2 hx447_3 hx448_0 hx448_1 hx448_2 hx448_3 hHeld ⊢
 refine pu_ 0 28 ?_
 refine pu_ 1 29 ?_
 refine pu_ 2 30 ?_
 refine pu_ 4 32 ?_
 refine pu_ 5 33 ?_
 refine pu_ 6 34 ?_
 refine pu_ 8 36 ?_
 refine tk_ 3 31 hHeld ?_
 refine tk_ 7 35 hHeld ?_
 refine one_ (i:=9) (N:=some 37) #[true,true,true,true,true,true,true,true,true,true,false,false] rfl rfl (one_of HT_.out (by kernel_rfl)) (by decide) (fun K hK=>?_)
 refine goes_ Try.func22 (by kernel_rfl) rfl #[.agg #[.int .i64 ((rd_T44 l0 a2).f0),.int .i64 ((rd_T44 l0 a2).f1),.int .i64 ((rd_T44 l0 a2).f2),.int .i64 ((rd_T44 l0 a2).f3)],.agg #[.int .i64 ((rd_T44 l0 a3).f0),.int .i64 ((rd_T44 l0 a3).f1),.int .i64 ((rd_T44 l0 a3).f2),.int .i64 ((rd_T44 l0 a3).f3)],.int .i64 a1] (by rfl) rfl rfl zl ?_
 with_reducible refine (impl_difference.calls ((rd_T44 l0 a2).f0) ((rd_T44 l0 a2).f1) ((rd_T44 l0 a2).f2) ((rd_T44 l0 a2).f3) ((rd_T44 l0 a3).f0) ((rd_T44 l0 a3).f1) ((rd_T44 l0 a3).f2) ((rd_T44 l0 a3).f3) a1 t449 _ A15.out).mono ?_
 rintro e w18 ⟨rfl,hb⟩
 refine ⟨_,rfl,?_⟩
 replace HB:=zb1 hb
 refine hK.out _ _ ⟨((HB.out.cell (World.block_lt_of_cell? w _ hw447_0)).trans hw447_0),((HB.out.cell (World.block_lt_of_cell? w _ hw447_1)).trans hw447_1),((HB.out.cell (World.block_lt_of_cell? w _ hw447_2)).trans hw447_2),((HB.out.cell (World.block_lt_of_cell? w _ hw447_3)).trans hw447_3),((HB.out.cell (World.block_lt_of_cell? w _ hw448_0)).trans hw448_0),((HB.out.cell (World.block_lt_of_cell? w _ hw448_1)).trans hw448_1),((HB.out.cell (World.block_lt_of_cell? w _ hw448_2)).trans hw448_2),((HB.out.cell (World.block_lt_of_cell? w _ hw448_3)).trans hw448_3)⟩ (fun hHeld=>?_)
 clear hK K
 refine norm_ (a':=?_) ?_ ?_
 rotate_left
 ·show Act.put _ (some 37) _=_
  simp only [Act.put,List.setIfInBounds_toArray,List.set_cons_zero,List.set_cons_succ,i64_w,i32_w]
  rfl
 refine pu_ 10 8 ?_
 refine pu_ 11 9 ?_
 refine done_ (done_of HT_.out (by kernel_rfl)) ?_
 try go_wp2
 go_ret2
 exact ⟨zz1,zb⟩

/-! ### impl_isObjective: function 24 -/
def impl_isObjective.f (a0:Int):Option (Bool):=(impl_within.f a0 1 8).bind fun t450=>(some t450)
set_option maxHeartbeats 8000000 in
set_option maxRecDepth 100000 in
theorem impl_isObjective.calls (a0:Int) (r:Bool) (w:World) (h:impl_isObjective.f a0=some r) :
  Calls Try.prog 24 #[.int .i64 a0] w fun e w'=>e=.returned (.bool r)∧Drawn0 w w':=by
 have H:((impl_within.f a0 1 8).bind fun t450=>(some t450))=some r:=h
 clear h
 replace H:=Option.bind_eq_some_iff.mp H
 obtain ⟨t450,A20,H⟩:=H
 try dsimp only at H
 have A2:=Aside0.mk A20
 clear A20
 obtain rfl:=Option.some.inj H
 go_enter Try.func24,Try.ntmps24
 go_wp2_with (first|((with_reducible refine gate_callee (f:=27) rfl ?_);refine zgo 4 Try.func27 #[.int .i64 a0,.int .i64 1,.int .i64 8] ?_;(with_reducible refine (impl_within.calls a0 1 8 t450 _ A2.out).mono ?_);rintro e w' ⟨rfl,⟨nd,rfl⟩⟩;refine ⟨_,rfl,?_⟩))
 go_ret
 exact ⟨zz10,zz5⟩

end Go.Proofs.Ytkcfmaiknmfokaa.XFnTies
-- minified
