-- Written by a program of this session (the kit's print, widened). Proved here: what each function answers, for the arguments that its contract names.
import Derived.Test.YtplbabjigikgjaaXFnExactWrapAroundx0
import Derived.Test.YtplbabjigikgjaaXFnExactWrapAroundx6
namespace Go.Proofs.Ytplbabjigikgjaa.XFnExactWrapAround
open Go.RowKit Go.Proofs.YtplbabjigikgjaaW.PrintWords Go.Proofs.YtplbabjigikgjaaW.PrintLast Go.Proofs.YtplbabjigikgjaaW.PrintMore
attribute [local go_sem] max2_int min2_int max_two min_two max_three min_three max_four min_four   -- for this text's walks alone
attribute [local go_sem] idxA_45_0 idxA_45_1 fldS_94_0 fldS_94_1 fldS_94_2 fldS_125_0 fldS_125_1 fldS_125_2
set_option linter.unusedVariables false
set_option linter.unusedSimpArgs false

/-! ### spec_l7Bound: function 95 -/
def spec_l7Bound.f (k : Nat) (l0 : List (S47)) (a1 : Int) (l2 : List (S45)) : Option (Int) := (spec_l7Tails.f k l0 l2).bind fun t194 => ((spec_l2Last.f k t194).bind fun t197 => ((spec_l2Times.f k l0).bind fun t198 => (if a1 = 0 then (none) else ((spec_l1Most.f t197 (wrap64 (Int.tdiv (wrap64 ((wrap64 (t198 + a1)) - 1)) a1))).bind fun t199 => (some t199)))))
theorem spec_l7Bound.mono : ∀ a0 a1 a2 k, LeO (spec_l7Bound.f k a0 a1 a2) (spec_l7Bound.f (k + 1) a0 a1 a2) := by
 intro a0 a1 a2 k
 unfold spec_l7Bound.f
 repeat' first
   | (with_reducible exact spec_l2Last.mono _ _)
   | (with_reducible exact spec_l2Times.mono _ _)
   | (with_reducible exact spec_l7Tails.mono _ _ _)
   | (with_reducible exact LeO.refl _)
   | (with_reducible exact LeO.none _)
   | (with_reducible refine LeO.ite ?_ ?_)
   | (with_reducible refine LeO.bind ?_ (fun _ => ?_))
   | exact spec_l2Last.mono _ _
   | exact spec_l2Times.mono _ _
   | exact spec_l7Tails.mono _ _ _
   | exact LeO.none _
   | refine LeO.ite ?_ ?_
   | refine LeO.bind ?_ (fun _ => ?_)
set_option maxHeartbeats 8000000 in
set_option maxRecDepth 100000 in
theorem spec_l7Bound.calls (k : Nat) (A0 : Option Addr) (c0 : Nat) (l0 : List (S47)) (a1 : Int) (A2 : Option Addr) (c2 : Nat) (l2 : List (S45)) (r : Int) (w : World) (hr0 : Kd.C k47 w A0 l0.length l0) (hc0 : l0.length ≤ c0) (hr2 : Kd.C k45 w A2 l2.length l2) (hc2 : l2.length ≤ c2) (h : spec_l7Bound.f k l0 a1 l2 = some r) :
  Calls Try.prog 95 #[.slice A0 l0.length c0, .int .i64 a1, .slice A2 l2.length c2] w fun e w' => e = .returned (.int .i64 r) ∧ Below w.heap.size w w' := by
 have HR0 := Aside0.mk hr0
 have HC0 := Aside0.mk hc0
 clear hr0 hc0
 have HR2 := Aside0.mk hr2
 have HC2 := Aside0.mk hc2
 clear hr2 hc2
 have HB := Aside0.mk (Below.refl w.heap.size w)
 have H : ((spec_l7Tails.f k l0 l2).bind fun t194 => ((spec_l2Last.f k t194).bind fun t197 => ((spec_l2Times.f k l0).bind fun t198 => (if a1 = 0 then (none) else ((spec_l1Most.f t197 (wrap64 (Int.tdiv (wrap64 ((wrap64 (t198 + a1)) - 1)) a1))).bind fun t199 => (some t199)))))) = some r := h
 clear h
 replace H := Option.bind_eq_some_iff.mp H
 obtain ⟨t194, A40, H⟩ := H
 replace H : ((spec_l2Last.f k t194).bind fun t197 => ((spec_l2Times.f k l0).bind fun t198 => (if a1 = 0 then (none) else ((spec_l1Most.f t197 (wrap64 (Int.tdiv (wrap64 ((wrap64 (t198 + a1)) - 1)) a1))).bind fun t199 => (some t199))))) = some r := H
 have A4 := Aside0.mk A40
 clear A40
 replace H := Option.bind_eq_some_iff.mp H
 obtain ⟨t197, A50, H⟩ := H
 replace H : ((spec_l2Times.f k l0).bind fun t198 => (if a1 = 0 then (none) else ((spec_l1Most.f t197 (wrap64 (Int.tdiv (wrap64 ((wrap64 (t198 + a1)) - 1)) a1))).bind fun t199 => (some t199)))) = some r := H
 have A5 := Aside0.mk A50
 clear A50
 replace H := Option.bind_eq_some_iff.mp H
 obtain ⟨t198, A60, H⟩ := H
 replace H : (if a1 = 0 then (none) else ((spec_l1Most.f t197 (wrap64 (Int.tdiv (wrap64 ((wrap64 (t198 + a1)) - 1)) a1))).bind fun t199 => (some t199))) = some r := H
 have A6 := Aside0.mk A60
 clear A60
 by_cases c7 : a1 = 0
 ·
  rw [if_pos c7] at H
  exact absurd H (by simp)
 ·
  rw [if_neg c7] at H
  have c7b0 : (a1 == 0) = false := beq_eq_false_iff_ne.mpr c7
  have c7b1 : (a1 != 0) = true := bne_iff_ne.mpr c7
  replace H := Option.bind_eq_some_iff.mp H
  obtain ⟨t199, A80, H⟩ := H
  replace H : (some t199) = some r := H
  have A8 := Aside0.mk A80
  clear A80
  obtain rfl := Option.some.inj H
  go_enter Try.func95, Try.ntmps95
  go_wp2_with (first | ((with_reducible refine gate_callee (f := 70) rfl ?_); refine goesL_ (some 9) rfl rfl Try.func70 (by kernel_rfl) rfl #[.slice A0 l0.length c0, .slice A2 l2.length c2] rfl (by (try simp only [List.map_toArray, List.map_cons, List.map_nil]); first | done | rfl | (simp only [List.length_drop, List.length_take]; rfl)) ?_; (with_reducible refine (spec_l7Tails.calls k _ _ l0 _ _ l2 t194 _ ?side1 ?side2 ?side3 ?side4 A4.out).mono ?_); (case side1 => repeat (first | exact HR0.out | (with_reducible refine Kd.C_alloc ?_ _) | (with_reducible refine Kd.C_drewN ?_ _) | (with_reducible refine Kd.C_drew ?_))); (case side2 => exact HC0.out); (case side3 => repeat (first | exact HR2.out | (with_reducible refine Kd.C_alloc ?_ _) | (with_reducible refine Kd.C_drewN ?_ _) | (with_reducible refine Kd.C_drew ?_))); (case side4 => exact HC2.out); rintro e w9 ⟨v195, rfl, ho0, hb⟩; refine ⟨_, rfl, ?_⟩; have n0_ := Aside0.mk (Kd.R_lower ho0 (below_size (by repeat (first | (with_reducible first | exact HB.out | apply below_alloc | apply pw_below_drewN | apply below_drew1) | exact HB.out)))); have n1_ := Aside0.mk (below_step (by repeat (first | (with_reducible first | exact HB.out | apply below_alloc | apply pw_below_drewN | apply below_drew1) | exact HB.out)) hb); clear HB; have HO196 := n0_; have HB := n1_; clear n0_ n1_; (try clear hb); (try clear hb2); (try clear hk); (try clear hi); (try clear ho0); obtain ⟨Ao10, co10, eo10⟩ := Kd.R_slice HO196.out; subst eo10) | ((with_reducible refine gate_callee (f := 74) rfl ?_); refine goesL_ (some 10) rfl rfl Try.func74 (by kernel_rfl) rfl #[.slice Ao10 t194.length co10] rfl (by (try simp only [List.map_toArray, List.map_cons, List.map_nil]); first | done | rfl | (simp only [List.length_drop, List.length_take]; rfl)) ?_; (with_reducible refine (spec_l2Last.calls k _ _ t194 t197 _ ?side1 ?side2 A5.out).mono ?_); (case side1 => repeat (first | exact (Kd.R_reads' HO196.out).2.2 | (with_reducible refine Kd.C_alloc ?_ _) | (with_reducible refine Kd.C_drewN ?_ _) | (with_reducible refine Kd.C_drew ?_))); (case side2 => exact (Kd.R_reads' HO196.out).2.1); rintro e w' ⟨rfl, ⟨nd, rfl⟩⟩; refine ⟨_, rfl, ?_⟩) | ((with_reducible refine gate_callee (f := 138) rfl ?_); refine goesL_ (some 12) rfl rfl Try.func138 (by kernel_rfl) rfl #[.slice A0 l0.length c0] rfl (by (try simp only [List.map_toArray, List.map_cons, List.map_nil]); first | done | rfl | (simp only [List.length_drop, List.length_take]; rfl)) ?_; (with_reducible refine (spec_l2Times.calls k _ _ l0 t198 _ ?side1 ?side2 A6.out).mono ?_); (case side1 => repeat (first | exact (Kd.C_below HR0.out (by repeat (first | (with_reducible first | exact HB.out | apply below_alloc | apply pw_below_drewN | apply below_drew1) | exact HB.out))) | (with_reducible refine Kd.C_alloc ?_ _) | (with_reducible refine Kd.C_drewN ?_ _) | (with_reducible refine Kd.C_drew ?_))); (case side2 => exact HC0.out); rintro e w' ⟨rfl, ⟨nd, rfl⟩⟩; refine ⟨_, rfl, ?_⟩) | ((with_reducible refine gate_callee (f := 120) rfl ?_); refine goesL_ (some 18) rfl rfl Try.func120 (by kernel_rfl) rfl #[.int .i64 t197, .int .i64 (wrap64 (Int.tdiv (wrap64 ((wrap64 (t198 + a1)) - 1)) a1))] rfl (by (try simp only [List.map_toArray, List.map_cons, List.map_nil]); first | done | rfl | (simp only [List.length_drop, List.length_take]; rfl)) ?_; (with_reducible refine (spec_l1Most.calls t197 (wrap64 (Int.tdiv (wrap64 ((wrap64 (t198 + a1)) - 1)) a1)) t199 _ A8.out).mono ?_); rintro e w' ⟨rfl, ⟨nd, rfl⟩⟩; refine ⟨_, rfl, ?_⟩))
  go_ret
  exact ⟨by first | rfl | (simp [errW_none, errW_some] <;> rfl) | (simp [*, errW_none, errW_some] <;> rfl), by repeat (first | (with_reducible first | exact HB.out | apply below_alloc | apply pw_below_drewN | apply below_drew1) | exact HB.out)⟩

/-! ### spec_l1Least: function 96 -/
def spec_l1Least.f (a0 : Int) (a1 : Int) : Option (Int) := if a0 < a1 then (some a0) else (some a1)
set_option maxHeartbeats 8000000 in
set_option maxRecDepth 100000 in
theorem spec_l1Least.calls (a0 : Int) (a1 : Int) (r : Int) (w : World) (h : spec_l1Least.f a0 a1 = some r) :
  Calls Try.prog 96 #[.int .i64 a0, .int .i64 a1] w fun e w' => e = .returned (.int .i64 r) ∧ Drawn0 w w' := by
 have H : (if a0 < a1 then (some a0) else (some a1)) = some r := h
 clear h
 by_cases c3 : a0 < a1
 ·
  rw [if_pos c3] at H
  have c3b0 : decide (a0 < a1) = true := decide_eq_true c3
  clear c3
  obtain rfl := Option.some.inj H
  go_enter Try.func96, Try.ntmps96
  go_wp2
  go_ret
  exact ⟨by first | rfl | (simp; done) | (simp [*]; done), by repeat (first | exact Drawn0.refl _ | apply Drawn0.step)⟩
 ·
  rw [if_neg c3] at H
  have c3b0 : decide (a0 < a1) = false := decide_eq_false c3
  clear c3
  obtain rfl := Option.some.inj H
  go_enter Try.func96, Try.ntmps96
  go_wp2
  go_ret
  exact ⟨by first | rfl | (simp; done) | (simp [*]; done), by repeat (first | exact Drawn0.refl _ | apply Drawn0.step)⟩

/-! ### spec_WrapAround: function 41 -/
mutual
def spec_WrapAround.l0 : Nat → List (S47) → Int → List (List (S120)) → Int → Int → Int → Option ((List (List (S120))) × Bool)
 | 0, _, _, _, _, _, _ => none
 | k + 1, x0, x6, x7, x8, x9, x10 => if x10 < (x0.length : Int) then (if 0 ≤ x10 then (spec_WrapAround.l1 k x0 x6 x7 x8 x9 x10 ((rd_T47 x0 x10).f0)) else (none)) else (some (x7, true))
def spec_WrapAround.l1 : Nat → List (S47) → Int → List (List (S120)) → Int → Int → Int → Int → Option ((List (List (S120))) × Bool)
 | 0, _, _, _, _, _, _, _ => none
 | k + 1, x0, x6, x7, x8, x9, x10, x11 => if x11 > 0 then ((spec_l1Least.f x11 (wrap64 (x6 - x9))).bind fun t215 => (if t215 > 0 then (if 0 ≤ x8 then (if x8 < (x7.length : Int) then (if (rd_L7 x7 x8).length < 5864062014805 then ((some (x7.set (x8 : Int).toNat ((rd_L7 x7 x8) ++ [(⟨x10, x9, wrap64 (x9 + t215)⟩ : S120)]) : List (List (S120)))).bind fun y220 => (if (wrap64 (x9 + t215)) = x6 then (spec_WrapAround.l1 k x0 x6 y220 (wrap64 (x8 + 1)) 0 x10 (wrap64 (x11 - t215))) else (spec_WrapAround.l1 k x0 x6 y220 x8 (wrap64 (x9 + t215)) x10 (wrap64 (x11 - t215))))) else (none)) else (none)) else (none)) else (if (wrap64 (x9 + t215)) = x6 then (spec_WrapAround.l1 k x0 x6 x7 (wrap64 (x8 + 1)) 0 x10 (wrap64 (x11 - t215))) else (spec_WrapAround.l1 k x0 x6 x7 x8 (wrap64 (x9 + t215)) x10 (wrap64 (x11 - t215)))))) else (spec_WrapAround.l0 k x0 x6 x7 x8 x9 (wrap64 (x10 + 1)))
end
def spec_WrapAround.f (k : Nat) (l0 : List (S47)) (a1 : Int) : Option ((List (List (S120))) × Bool) := (spec_l7Good.f k l0 a1 (([] : List (S45)))).bind fun t203 => (if t203 = true then ((spec_l7Bound.f k l0 a1 (([] : List (S45)))).bind fun t210 => (if 0 ≤ a1 then (if (a1 : Int).toNat ≤ 11728124029610 then (spec_WrapAround.l0 k l0 t210 (List.replicate (a1 : Int).toNat []) 0 0 0) else (none)) else (none))) else (some ((([] : List (List (S120)))), false)))
theorem spec_WrapAround.mono_l : ∀ k, (∀ y0 y1 y2 y3 y4 y5, LeO (spec_WrapAround.l0 k y0 y1 y2 y3 y4 y5) (spec_WrapAround.l0 (k + 1) y0 y1 y2 y3 y4 y5)) ∧ (∀ y0 y1 y2 y3 y4 y5 y6, LeO (spec_WrapAround.l1 k y0 y1 y2 y3 y4 y5 y6) (spec_WrapAround.l1 (k + 1) y0 y1 y2 y3 y4 y5 y6))
 | 0 => ⟨fun _ _ _ _ _ _ r h => by simp [spec_WrapAround.l0] at h, fun _ _ _ _ _ _ _ r h => by simp [spec_WrapAround.l1] at h⟩
 | k + 1 => by
  obtain ⟨ih0, ih1⟩ := spec_WrapAround.mono_l k
  refine ⟨?_, ?_⟩
  ·
   intro y0 y1 y2 y3 y4 y5
   unfold spec_WrapAround.l0
   repeat' first
   | (with_reducible exact ih0 _ _ _ _ _ _)
   | (with_reducible exact ih1 _ _ _ _ _ _ _)
   | (with_reducible exact spec_l7Bound.mono _ _ _ _)
   | (with_reducible exact spec_l7Good.mono _ _ _ _)
   | (with_reducible exact LeO.refl _)
   | (with_reducible exact LeO.none _)
   | (with_reducible refine LeO.ite ?_ ?_)
   | (with_reducible refine LeO.bind ?_ (fun _ => ?_))
   | exact ih0 _ _ _ _ _ _
   | exact ih1 _ _ _ _ _ _ _
   | exact spec_l7Bound.mono _ _ _ _
   | exact spec_l7Good.mono _ _ _ _
   | exact LeO.none _
   | refine LeO.ite ?_ ?_
   | refine LeO.bind ?_ (fun _ => ?_)
  ·
   intro y0 y1 y2 y3 y4 y5 y6
   unfold spec_WrapAround.l1
   repeat' first
   | (with_reducible exact ih0 _ _ _ _ _ _)
   | (with_reducible exact ih1 _ _ _ _ _ _ _)
   | (with_reducible exact spec_l7Bound.mono _ _ _ _)
   | (with_reducible exact spec_l7Good.mono _ _ _ _)
   | (with_reducible exact LeO.refl _)
   | (with_reducible exact LeO.none _)
   | (with_reducible refine LeO.ite ?_ ?_)
   | (with_reducible refine LeO.bind ?_ (fun _ => ?_))
   | exact ih0 _ _ _ _ _ _
   | exact ih1 _ _ _ _ _ _ _
   | exact spec_l7Bound.mono _ _ _ _
   | exact spec_l7Good.mono _ _ _ _
   | exact LeO.none _
   | refine LeO.ite ?_ ?_
   | refine LeO.bind ?_ (fun _ => ?_)
theorem spec_WrapAround.mono : ∀ a0 a1 k, LeO (spec_WrapAround.f k a0 a1) (spec_WrapAround.f (k + 1) a0 a1) := by
 intro a0 a1 k
 obtain ⟨ih0, ih1⟩ := spec_WrapAround.mono_l k
 unfold spec_WrapAround.f
 repeat' first
   | (with_reducible exact ih0 _ _ _ _ _ _)
   | (with_reducible exact ih1 _ _ _ _ _ _ _)
   | (with_reducible exact spec_l7Bound.mono _ _ _ _)
   | (with_reducible exact spec_l7Good.mono _ _ _ _)
   | (with_reducible exact LeO.refl _)
   | (with_reducible exact LeO.none _)
   | (with_reducible refine LeO.ite ?_ ?_)
   | (with_reducible refine LeO.bind ?_ (fun _ => ?_))
   | exact ih0 _ _ _ _ _ _
   | exact ih1 _ _ _ _ _ _ _
   | exact spec_l7Bound.mono _ _ _ _
   | exact spec_l7Good.mono _ _ _ _
   | exact LeO.none _
   | refine LeO.ite ?_ ?_
   | refine LeO.bind ?_ (fun _ => ?_)
set_option maxHeartbeats 8000000 in
set_option maxRecDepth 100000 in
theorem spec_WrapAround.calls (k : Nat) (A0 : Option Addr) (c0 : Nat) (l0 : List (S47)) (a1 : Int) (r1 : List (List (S120))) (r2 : Bool) (w : World) (hr0 : Kd.C k47 w A0 l0.length l0) (hc0 : l0.length ≤ c0) (h : spec_WrapAround.f k l0 a1 = some (r1, r2)) :
  Calls Try.prog 41 #[.slice A0 l0.length c0, .int .i64 a1] w fun e w' => ∃ v0_ : Value, e = .returned (.tuple #[v0_, .bool r2]) ∧ Kd.S (Kd.slice 120 k120) 118 w' w.heap.size (fun _ => True) v0_ r1 ∧ Below w.heap.size w w' := by
 have hu120 := Try.underlying120
 have HR0 := Aside0.mk hr0
 have HC0 := Aside0.mk hc0
 clear hr0 hc0
 have HB := Aside0.mk (Below.refl w.heap.size w)
 have H : ((spec_l7Good.f k l0 a1 (([] : List (S45)))).bind fun t203 => (if t203 = true then ((spec_l7Bound.f k l0 a1 (([] : List (S45)))).bind fun t210 => (if 0 ≤ a1 then (if (a1 : Int).toNat ≤ 11728124029610 then (spec_WrapAround.l0 k l0 t210 (List.replicate (a1 : Int).toNat []) 0 0 0) else (none)) else (none))) else (some ((([] : List (List (S120)))), false)))) = some (r1, r2) := h
 clear h
 obtain ⟨y200, hy200⟩ : ∃ y_ : List (S45), y_ = (([] : List (S45))) := ⟨_, rfl⟩
 replace H : ((spec_l7Good.f k l0 a1 y200).bind fun t203 => (if t203 = true then ((spec_l7Bound.f k l0 a1 (([] : List (S45)))).bind fun t210 => (if 0 ≤ a1 then (if (a1 : Int).toNat ≤ 11728124029610 then (spec_WrapAround.l0 k l0 t210 (List.replicate (a1 : Int).toNat []) 0 0 0) else (none)) else (none))) else (some ((([] : List (List (S120)))), false)))) = some (r1, r2) := by first | (rw [hy200]; with_reducible exact H) | (have H2_ := (Option.bind_some _ _).symm.trans H; rw [hy200]; with_reducible exact H2_) | (have H2_ := (Option.bind_some _ _).symm.trans H; with_reducible exact H2_) | with_reducible exact H | (rw [hy200]; exact H) | exact H
 have Ny200 := Aside0.mk hy200
 clear hy200
 replace H := Option.bind_eq_some_iff.mp H
 obtain ⟨t203, A30, H⟩ := H
 replace H : (if t203 = true then ((spec_l7Bound.f k l0 a1 (([] : List (S45)))).bind fun t210 => (if 0 ≤ a1 then (if (a1 : Int).toNat ≤ 11728124029610 then (spec_WrapAround.l0 k l0 t210 (List.replicate (a1 : Int).toNat []) 0 0 0) else (none)) else (none))) else (some ((([] : List (List (S120)))), false))) = some (r1, r2) := H
 have A3 := Aside0.mk A30
 clear A30
 by_cases c4 : t203 = true
 ·
  subst c4
  have H1 : ((spec_l7Bound.f k l0 a1 (([] : List (S45)))).bind fun t210 => (if 0 ≤ a1 then (if (a1 : Int).toNat ≤ 11728124029610 then (spec_WrapAround.l0 k l0 t210 (List.replicate (a1 : Int).toNat []) 0 0 0) else (none)) else (none))) = some (r1, r2) := by rw [if_pos rfl] at H; exact H
  clear H
  have H := H1
  clear H1
  obtain ⟨y207, hy207⟩ : ∃ y_ : List (S45), y_ = (([] : List (S45))) := ⟨_, rfl⟩
  replace H : ((spec_l7Bound.f k l0 a1 y207).bind fun t210 => (if 0 ≤ a1 then (if (a1 : Int).toNat ≤ 11728124029610 then (spec_WrapAround.l0 k l0 t210 (List.replicate (a1 : Int).toNat []) 0 0 0) else (none)) else (none))) = some (r1, r2) := by first | (rw [hy207]; with_reducible exact H) | (have H2_ := (Option.bind_some _ _).symm.trans H; rw [hy207]; with_reducible exact H2_) | (have H2_ := (Option.bind_some _ _).symm.trans H; with_reducible exact H2_) | with_reducible exact H | (rw [hy207]; exact H) | exact H
  have Ny207 := Aside0.mk hy207
  clear hy207
  replace H := Option.bind_eq_some_iff.mp H
  obtain ⟨t210, A50, H⟩ := H
  replace H : (if 0 ≤ a1 then (if (a1 : Int).toNat ≤ 11728124029610 then (spec_WrapAround.l0 k l0 t210 (List.replicate (a1 : Int).toNat []) 0 0 0) else (none)) else (none)) = some (r1, r2) := H
  have A5 := Aside0.mk A50
  clear A50
  by_cases c6 : 0 ≤ a1
  ·
   rw [if_pos c6] at H
   have c6b0 := eq_true c6
   have c6b1 : decide (0 ≤ a1) = true := decide_eq_true c6
   clear c6
   by_cases c7 : (a1 : Int).toNat ≤ 11728124029610
   ·
    rw [if_pos c7] at H
    have c7b0 := eq_true c7
    have c7b1 : decide ((a1 : Int).toNat ≤ 11728124029610) = true := decide_eq_true c7
    clear c7
    obtain ⟨y211, hy211⟩ : ∃ y_ : List (List (S120)), y_ = (List.replicate (a1 : Int).toNat []) := ⟨_, rfl⟩
    replace H : (spec_WrapAround.l0 k l0 t210 y211 0 0 0) = some (r1, r2) := by first | (rw [hy211]; with_reducible exact H) | (have H2_ := (Option.bind_some _ _).symm.trans H; rw [hy211]; with_reducible exact H2_) | (have H2_ := (Option.bind_some _ _).symm.trans H; with_reducible exact H2_) | with_reducible exact H | (rw [hy211]; exact H) | exact H
    have Ny211 := Aside0.mk hy211
    clear hy211
    have H' := Aside0.mk H
    clear H
    go_enter Try.func41, Try.ntmps41
    go_wp2_with (first | ((with_reducible refine gate_dst (N := 15) rfl ?_); refine Kd.R_lit k45 _ 45 ?hg (N := 15) ?hd (xs := ([] : List (S45))) (inner := []) (ok := fun _ => True) (okp := fun _ => True) ?hr ?hp (fun _ hk => hk) trivial (Below.refl _ _) (Nat.le_refl _) (by simp) ?_; (case hd => rfl); (case hg => rfl); (case hr => first | (go_simp; done) | (go_simp; rfl)); (case hp => exact (Reps.none _ _)); intro v201 w8 ho9 hb hg_ hnew_; clear hg_ hnew_; (first | rw [← Ny200.out] at ho9 | (simp only [Int.reduceToNat] at ho9; rw [← Ny200.out] at ho9)); have n0_ := Aside0.mk (Kd.R_lower ho9 (below_size (by repeat (first | (with_reducible first | exact HB.out | apply below_alloc | apply pw_below_drewN | apply below_drew1) | exact HB.out)))); have n1_ := Aside0.mk (below_step (by repeat (first | (with_reducible first | exact HB.out | apply below_alloc | apply pw_below_drewN | apply below_drew1) | exact HB.out)) hb); clear HB; have HO202 := n0_; have HB := n1_; clear n0_ n1_; clear hb ho9; obtain ⟨Ao10, co10, eo10⟩ := Kd.R_slice HO202.out; subst eo10) | ((with_reducible refine gate_callee (f := 55) rfl ?_); refine goesL_ (some 16) rfl rfl Try.func55 (by kernel_rfl) rfl #[.slice A0 l0.length c0, .int .i64 a1, .slice Ao10 y200.length co10] rfl (by (try simp only [List.map_toArray, List.map_cons, List.map_nil]); first | done | rfl | (simp only [List.length_drop, List.length_take]; rfl)) ?_; (with_reducible refine (spec_l7Good.calls k _ _ l0 a1 _ _ y200 true _ ?side1 ?side2 ?side3 ?side4 A3.out).mono ?_); (case side1 => repeat (first | exact (Kd.C_below HR0.out HB.out) | (with_reducible refine Kd.C_alloc ?_ _) | (with_reducible refine Kd.C_drewN ?_ _) | (with_reducible refine Kd.C_drew ?_))); (case side2 => exact HC0.out); (case side3 => repeat (first | exact (Kd.R_reads' HO202.out).2.2 | (with_reducible refine Kd.C_alloc ?_ _) | (with_reducible refine Kd.C_drewN ?_ _) | (with_reducible refine Kd.C_drew ?_))); (case side4 => exact (Kd.R_reads' HO202.out).2.1); rintro e w11 ⟨rfl, hb⟩; refine ⟨_, rfl, ?_⟩; have n0_ := Aside0.mk (Kd.R_below (by (with_reducible repeat (first | apply Kd.R_alloc | apply Kd.R_drewN | apply Kd.R_drew)); exact HO202.out) hb); have n1_ := Aside0.mk (below_step (by repeat (first | (with_reducible first | exact HB.out | apply below_alloc | apply pw_below_drewN | apply below_drew1) | exact HB.out)) hb); clear HO202; clear HB; have HO202 := n0_; have HB := n1_; clear n0_ n1_; (try clear hb); (try clear hb2); (try clear hk); (try clear hi)) | ((with_reducible refine gate_dst (N := 21) rfl ?_); refine Kd.R_lit k45 _ 45 ?hg (N := 21) ?hd (xs := ([] : List (S45))) (inner := []) (ok := fun _ => True) (okp := fun _ => True) ?hr ?hp (fun _ hk => hk) trivial (Below.refl _ _) (Nat.le_refl _) (by simp) ?_; (case hd => rfl); (case hg => rfl); (case hr => first | (go_simp; done) | (go_simp; rfl)); (case hp => exact (Reps.none _ _)); intro v208 w12 ho13 hb hg_ hnew_; clear hg_ hnew_; (first | rw [← Ny207.out] at ho13 | (simp only [Int.reduceToNat] at ho13; rw [← Ny207.out] at ho13)); have n0_ := Aside0.mk (Kd.R_elder' (by (with_reducible repeat (first | apply Kd.R_alloc | apply Kd.R_drewN | apply Kd.R_drew)); exact HO202.out) (Kd.R_base ho13) hb); have n1_ := Aside0.mk (Kd.R_lower (Kd.R_new' ho13 (Kd.R_lt (by (with_reducible repeat (first | apply Kd.R_alloc | apply Kd.R_drewN | apply Kd.R_drew)); exact HO202.out))) (below_size (by repeat (first | (with_reducible first | exact HB.out | apply below_alloc | apply pw_below_drewN | apply below_drew1) | exact HB.out)))); have n2_ := Aside0.mk (below_step (by repeat (first | (with_reducible first | exact HB.out | apply below_alloc | apply pw_below_drewN | apply below_drew1) | exact HB.out)) hb); clear HO202; clear HB; have HO202 := n0_; have HO209 := n1_; have HB := n2_; clear n0_ n1_ n2_; clear hb ho13; obtain ⟨Ao14, co14, eo14⟩ := Kd.R_slice HO209.out; subst eo14) | ((with_reducible refine gate_callee (f := 95) rfl ?_); refine goesL_ (some 22) rfl rfl Try.func95 (by kernel_rfl) rfl #[.slice A0 l0.length c0, .int .i64 a1, .slice Ao14 y207.length co14] rfl (by (try simp only [List.map_toArray, List.map_cons, List.map_nil]); first | done | rfl | (simp only [List.length_drop, List.length_take]; rfl)) ?_; (with_reducible refine (spec_l7Bound.calls k _ _ l0 a1 _ _ y207 t210 _ ?side1 ?side2 ?side3 ?side4 A5.out).mono ?_); (case side1 => repeat (first | exact (Kd.C_below HR0.out HB.out) | (with_reducible refine Kd.C_alloc ?_ _) | (with_reducible refine Kd.C_drewN ?_ _) | (with_reducible refine Kd.C_drew ?_))); (case side2 => exact HC0.out); (case side3 => repeat (first | exact (Kd.R_reads' HO209.out).2.2 | (with_reducible refine Kd.C_alloc ?_ _) | (with_reducible refine Kd.C_drewN ?_ _) | (with_reducible refine Kd.C_drew ?_))); (case side4 => exact (Kd.R_reads' HO209.out).2.1); rintro e w15 ⟨rfl, hb⟩; refine ⟨_, rfl, ?_⟩; have n0_ := Aside0.mk (Kd.R_below (by (with_reducible repeat (first | apply Kd.R_alloc | apply Kd.R_drewN | apply Kd.R_drew)); exact HO202.out) hb); have n1_ := Aside0.mk (Kd.R_below (by (with_reducible repeat (first | apply Kd.R_alloc | apply Kd.R_drewN | apply Kd.R_drew)); exact HO209.out) hb); have n2_ := Aside0.mk (below_step (by repeat (first | (with_reducible first | exact HB.out | apply below_alloc | apply pw_below_drewN | apply below_drew1) | exact HB.out)) hb); clear HO202; clear HO209; clear HB; have HO202 := n0_; have HO209 := n1_; have HB := n2_; clear n0_ n1_ n2_; (try clear hb); (try clear hb2); (try clear hk); (try clear hi)) | ((with_reducible refine gate_dst (N := 24) rfl ?_); refine Kd.S_make (Kd.slice 120 k120) _ 118 rfl (N := 24) rfl 63 _ _ rfl a1 rfl rfl Try.underlying63 (.slice none 0 0) 24 info118 rfl (by decide) (by omega) [] (ok := fun _ => True) (okp := fun _ => True) ⟨_, rfl, Kd.R_nil _ _ _ _ _⟩ (fun _ hk => hk) trivial (of_decide_eq_true (by first | (with_reducible assumption) | assumption)) (Nat.le_trans (Nat.mul_le_mul_right _ (of_decide_eq_true (by first | (with_reducible assumption) | assumption) : a1.toNat ≤ 11728124029610)) (by omega)) (Below.refl _ _) (Nat.le_refl _) ?_; intro v212 w16 ho17 hb hg_ hnew_; clear hg_ hnew_; (first | rw [← Ny211.out] at ho17 | (simp only [Int.reduceToNat] at ho17; rw [← Ny211.out] at ho17)); have n0_ := Aside0.mk (Kd.R_below (by (with_reducible repeat (first | apply Kd.R_alloc | apply Kd.R_drewN | apply Kd.R_drew)); exact HO202.out) hb); have n1_ := Aside0.mk (Kd.R_below (by (with_reducible repeat (first | apply Kd.R_alloc | apply Kd.R_drewN | apply Kd.R_drew)); exact HO209.out) hb); have n2_ := Aside0.mk (Kd.S_lower ho17 (below_size (by repeat (first | (with_reducible first | exact HB.out | apply below_alloc | apply pw_below_drewN | apply below_drew1) | exact HB.out)))); have n3_ := Aside0.mk (below_step (by repeat (first | (with_reducible first | exact HB.out | apply below_alloc | apply pw_below_drewN | apply below_drew1) | exact HB.out)) hb); clear HO202; clear HO209; clear HB; have HO202 := n0_; have HO209 := n1_; have HO213 := n2_; have HB := n3_; clear n0_ n1_ n2_ n3_; clear hb ho17))
    go_loopg [8, 9, 10] k (fun kq v8 v9 v10 w' => ∃ (x7_1 : List (List (S120))) (x8_1 : Int) (x9_1 : Int) (x10_1 : Int), v8 = .int .i64 x8_1 ∧ v9 = .int .i64 x9_1 ∧ v10 = .int .i64 x10_1 ∧ Aside0 (spec_WrapAround.l0 kq l0 t210 x7_1 x8_1 x9_1 x10_1 = some (r1, r2)) ∧ Aside0 (kq ≤ k) ∧ Aside0 (Kd.S (Kd.slice 120 k120) 118 w' w.heap.size (fun _ => True) v212 x7_1) ∧ Aside0 (Below w.heap.size w w'))
    case atStart => exact ⟨(y211), (0), (0), (0), (by first | rfl | (simp; done) | (simp [*]; done)), (by first | rfl | (simp; done) | (simp [*]; done)), (by first | rfl | (simp; done) | (simp [*]; done)), H', ⟨Nat.le_refl _⟩, ⟨by (with_reducible repeat (first | apply Kd.S_alloc | apply Kd.S_drewN | apply Kd.S_drew)); exact HO213.out⟩, ⟨by repeat (first | (with_reducible first | exact HB.out | apply below_alloc | apply pw_below_drewN | apply below_drew1) | exact HB.out)⟩⟩
    case round =>
     clear H'
     try clear p2
     try clear c4
     try clear c5
     try clear c6
     try clear c6b0
     try clear c6b1
     try clear c7
     try clear c7b0
     try clear c7b1
     try clear c9
     obtain ⟨x7_1, x8_1, x9_1, x10_1, rfl, rfl, rfl, HA, HK1, HO_7, HB⟩ := hrel
     cases gk with
     | zero => exact absurd HA.out (by simp [spec_WrapAround.l0])
     | succ k1 =>
      have H := HA.out
      clear HA
      simp only [spec_WrapAround.l0] at H
      by_cases c18 : x10_1 < (l0.length : Int)
      ·
       rw [if_pos c18] at H
       have c18b0 : decide (x10_1 < (l0.length : Int)) = true := decide_eq_true c18
       clear c18
       by_cases c19 : 0 ≤ x10_1
       ·
        rw [if_pos c19] at H
        have c19b0 : decide (0 ≤ x10_1) = true := decide_eq_true c19
        clear c19
        have H' := Aside0.mk H
        clear H
        have p214 : 0 ≤ (x10_1 : Int) := of_decide_eq_true (by first | (with_reducible assumption) | assumption)
        have q214 : x10_1 < (l0.length : Int) := of_decide_eq_true (by first | (with_reducible assumption) | assumption)
        obtain ⟨ad214, e214, hx214_0, hx214_1, hx214_2, hx214_3⟩ := at_T47 HR0.out x10_1 p214 q214
        cases e214
        replace hx214_0 := (HB.out.cell (World.block_lt_of_cell? w _ hx214_0)).trans hx214_0
        replace hx214_1 := (HB.out.cell (World.block_lt_of_cell? w _ hx214_1)).trans hx214_1
        replace hx214_2 := (HB.out.cell (World.block_lt_of_cell? w _ hx214_2)).trans hx214_2
        replace hx214_3 := (HB.out.cell (World.block_lt_of_cell? w _ hx214_3)).trans hx214_3
        replace p214 := eq_true p214
        replace q214 := eq_true q214
        go_wp2
        go_loopg [8, 9, 11] k1 (fun kq v8 v9 v11 w' => ∃ (x7_2 : List (List (S120))) (x8_2 : Int) (x9_2 : Int) (x11_2 : Int), v8 = .int .i64 x8_2 ∧ v9 = .int .i64 x9_2 ∧ v11 = .int .i64 x11_2 ∧ Aside0 (spec_WrapAround.l1 kq l0 t210 x7_2 x8_2 x9_2 x10_1 x11_2 = some (r1, r2)) ∧ Aside0 (kq ≤ k1) ∧ Aside0 (Kd.S (Kd.slice 120 k120) 118 w' w.heap.size (fun _ => True) v212 x7_2) ∧ Aside0 (Below w.heap.size w w'))
        case atStart => exact ⟨(x7_1), (x8_1), (x9_1), ((rd_T47 l0 x10_1).f0), (by first | rfl | (simp; done) | (simp [*]; done)), (by first | rfl | (simp; done) | (simp [*]; done)), (by first | rfl | (simp; done) | (simp [*]; done)), H', ⟨Nat.le_refl _⟩, ⟨by (with_reducible repeat (first | apply Kd.S_alloc | apply Kd.S_drewN | apply Kd.S_drew)); exact HO_7.out⟩, ⟨by repeat (first | (with_reducible first | exact HB.out | apply below_alloc | apply pw_below_drewN | apply below_drew1) | exact HB.out)⟩⟩
        case round =>
         clear H'
         try clear c1
         try clear p2
         try clear q2
         try clear hx2
         try clear c4
         try clear c5
         try clear c6
         try clear c6b0
         try clear c6b1
         try clear c7
         try clear c7b0
         try clear c7b1
         try clear c9
         try clear c18
         try clear c18b0
         try clear c19
         try clear c19b0
         try clear hx214_0
         try clear hx214_1
         try clear hx214_2
         try clear hx214_3
         try clear p2
         try clear p214
         try clear q214
         obtain ⟨x7_2, x8_2, x9_2, x11_2, rfl, rfl, rfl, HA, HK2, HO_7, HB⟩ := hrel
         cases gk with
         | zero => exact absurd HA.out (by simp [spec_WrapAround.l1])
         | succ k2 =>
          have H := HA.out
          clear HA
          simp only [spec_WrapAround.l1] at H
          by_cases c20 : x11_2 > 0
          ·
           rw [if_pos c20] at H
           have c20b0 : decide (0 < x11_2) = true := decide_eq_true c20
           clear c20
           replace H := Option.bind_eq_some_iff.mp H
           obtain ⟨t215, A210, H⟩ := H
           replace H : (if t215 > 0 then (if 0 ≤ x8_2 then (if x8_2 < (x7_2.length : Int) then (if (rd_L7 x7_2 x8_2).length < 5864062014805 then ((some (x7_2.set (x8_2 : Int).toNat ((rd_L7 x7_2 x8_2) ++ [(⟨x10_1, x9_2, wrap64 (x9_2 + t215)⟩ : S120)]) : List (List (S120)))).bind fun y220 => (if (wrap64 (x9_2 + t215)) = t210 then (spec_WrapAround.l1 k2 l0 t210 y220 (wrap64 (x8_2 + 1)) 0 x10_1 (wrap64 (x11_2 - t215))) else (spec_WrapAround.l1 k2 l0 t210 y220 x8_2 (wrap64 (x9_2 + t215)) x10_1 (wrap64 (x11_2 - t215))))) else (none)) else (none)) else (none)) else (if (wrap64 (x9_2 + t215)) = t210 then (spec_WrapAround.l1 k2 l0 t210 x7_2 (wrap64 (x8_2 + 1)) 0 x10_1 (wrap64 (x11_2 - t215))) else (spec_WrapAround.l1 k2 l0 t210 x7_2 x8_2 (wrap64 (x9_2 + t215)) x10_1 (wrap64 (x11_2 - t215))))) = some (r1, r2) := H
           have A21 := Aside0.mk A210
           clear A210
           by_cases c22 : t215 > 0
           ·
            rw [if_pos c22] at H
            have c22b0 : decide (0 < t215) = true := decide_eq_true c22
            clear c22
            by_cases c23 : 0 ≤ x8_2
            ·
             rw [if_pos c23] at H
             have c23b0 : decide (0 ≤ x8_2) = true := decide_eq_true c23
             clear c23
             by_cases c24 : x8_2 < (x7_2.length : Int)
             ·
              rw [if_pos c24] at H
              have c24b0 : decide (x8_2 < (x7_2.length : Int)) = true := decide_eq_true c24
              clear c24
              by_cases c25 : (rd_L7 x7_2 x8_2).length < 5864062014805
              ·
               rw [if_pos c25] at H
               have LMc25 := Aside0.mk c25
               clear c25
               obtain ⟨y217, hy217⟩ : ∃ y_ : List (S120), y_ = ((rd_L7 x7_2 x8_2) ++ [(⟨x10_1, x9_2, wrap64 (x9_2 + t215)⟩ : S120)]) := ⟨_, rfl⟩
               replace H : ((some (x7_2.set (x8_2 : Int).toNat y217 : List (List (S120)))).bind fun y220 => (if (wrap64 (x9_2 + t215)) = t210 then (spec_WrapAround.l1 k2 l0 t210 y220 (wrap64 (x8_2 + 1)) 0 x10_1 (wrap64 (x11_2 - t215))) else (spec_WrapAround.l1 k2 l0 t210 y220 x8_2 (wrap64 (x9_2 + t215)) x10_1 (wrap64 (x11_2 - t215))))) = some (r1, r2) := by first | (rw [hy217]; with_reducible exact H) | (have H2_ := (Option.bind_some _ _).symm.trans H; rw [hy217]; with_reducible exact H2_) | (have H2_ := (Option.bind_some _ _).symm.trans H; with_reducible exact H2_) | with_reducible exact H | (rw [hy217]; exact H) | exact H
               have Ny217 := Aside0.mk hy217
               clear hy217
               obtain ⟨y220, hy220⟩ : ∃ y_ : List (List (S120)), y_ = (x7_2.set (x8_2 : Int).toNat y217) := ⟨_, rfl⟩
               replace H : (if (wrap64 (x9_2 + t215)) = t210 then (spec_WrapAround.l1 k2 l0 t210 y220 (wrap64 (x8_2 + 1)) 0 x10_1 (wrap64 (x11_2 - t215))) else (spec_WrapAround.l1 k2 l0 t210 y220 x8_2 (wrap64 (x9_2 + t215)) x10_1 (wrap64 (x11_2 - t215)))) = some (r1, r2) := by first | (rw [hy220]; with_reducible exact H) | (have H2_ := (Option.bind_some _ _).symm.trans H; rw [hy220]; with_reducible exact H2_) | (have H2_ := (Option.bind_some _ _).symm.trans H; with_reducible exact H2_) | with_reducible exact H | (rw [hy220]; exact H) | exact H
               have Ny220 := Aside0.mk hy220
               clear hy220
               by_cases c27 : (wrap64 (x9_2 + t215)) = t210
               ·
                rw [if_pos c27] at H
                have c27b0 : ((wrap64 (x9_2 + t215)) == t210) = true := beq_iff_eq.mpr c27
                have c27b1 : ((wrap64 (x9_2 + t215)) != t210) = false := bne_eq_false_iff_eq.mpr c27
                clear c27
                have H' := Aside0.mk H
                clear H
                go_wp2_with (first | ((with_reducible refine gate_callee (f := 96) rfl ?_); refine goesL_ (some 42) rfl rfl Try.func96 (by kernel_rfl) rfl #[.int .i64 x11_2, .int .i64 (wrap64 (t210 - x9_2))] rfl (by (try simp only [List.map_toArray, List.map_cons, List.map_nil]); first | done | rfl | (simp only [List.length_drop, List.length_take]; rfl)) ?_; (with_reducible refine (spec_l1Least.calls x11_2 (wrap64 (t210 - x9_2)) t215 _ A21.out).mono ?_); rintro e w' ⟨rfl, ⟨nd, rfl⟩⟩; refine ⟨_, rfl, ?_⟩; (try (rw [drewN_self wr]; generalize hq_ : World.drewN wr _ = wr; have n0_ : Aside0 (Kd.S (Kd.slice 120 k120) 118 wr w.heap.size (fun _ => True) v212 x7_2) := ⟨by rw [← hq_]; exact (by (with_reducible repeat (first | apply Kd.S_alloc | apply Kd.S_drewN | apply Kd.S_drew)); exact HO_7.out)⟩; have n1_ : Aside0 (Below w.heap.size w wr) := ⟨by rw [← hq_]; exact (by repeat (first | (with_reducible first | exact HB.out | apply below_alloc | apply pw_below_drewN | apply below_drew1) | exact HB.out))⟩; clear HO_7 HB hq_; have HO_7 := n0_; have HB := n1_; clear n0_ n1_)); obtain ⟨Ao28, co28, eo28⟩ := Kd.S_slice HO_7.out; subst eo28; have p216 : 0 ≤ (x8_2 : Int) := of_decide_eq_true (by first | (with_reducible assumption) | assumption); have q216 : x8_2 < (x7_2.length : Int) := of_decide_eq_true (by first | (with_reducible assumption) | assumption); obtain ⟨ad216, A216_0, c216_0, e216, hx216_0, hl216_0, hi216_0⟩ := at_L7 (Kd.S_reads' HO_7.out).2.2 x8_2 p216 q216; cases e216; obtain ⟨ce216, hce216, hMe216, hcc216⟩ := Kd.S_get HO_7.out [] x8_2 p216 (by first | exact q216 | exact of_decide_eq_true (by first | (with_reducible assumption) | assumption) | (have e_ := (Kd.S_reads' HO_7.out).1; omega)); obtain ⟨ve216_0, rfl, ge216_0⟩ := hMe216; have hv216_0 := hcc216 0 _ rfl; rw [Nat.add_zero, show ((Kd.slice 120 k120)).sz = 1 from rfl, Nat.mul_one] at hv216_0; replace hv216_0 := Option.some.inj (hv216_0.symm.trans hx216_0); rw [hv216_0] at ge216_0; have HL216_0 := Aside0.mk (show Kd.R k120 120 _ _ _ _ (rd_L7 x7_2 x8_2) from ge216_0); clear hv216_0 ge216_0; have HX216_0 := Aside0.mk hx216_0; clear hcc216 hce216; have HR216_0 := Aside0.mk hi216_0; have HC216_0 := Aside0.mk hl216_0; clear hi216_0 hl216_0; replace p216 := eq_true p216; replace q216 := eq_true q216; obtain ⟨go29, co29, eo29, gb29, gl29, cl29, HG29⟩ := Kd.S_form HO_7.out (by have h_ : (x8_2 : Int) < ((x7_2.length : Int) : Int) := of_decide_eq_true (by first | (with_reducible assumption) | assumption); have h2_ : 0 ≤ (x8_2 : Int) := (of_decide_eq_true (by first | (with_reducible assumption) | assumption)); omega); (first | cases eo29 | (injection eo29 with ea_ en_ ec_; (first | subst ea_ | (injection ea_ with ea_; subst ea_)); subst ec_; clear en_)); have GB29 := Aside0.mk gb29; have GG29 := Aside0.mk HG29; clear gb29 gl29 HG29; (first | simp only [add_plain] at hx216_0 | skip); obtain ⟨oki29, ce29, hcl29, hM29, hcc29, _, _, hH29⟩ := Kd.S_elem HO_7.out [] (x8_2 : Int) (of_decide_eq_true (by first | (with_reducible assumption) | assumption)) (by have h_ : (x8_2 : Int) < ((x7_2.length : Int) : Int) := of_decide_eq_true (by first | (with_reducible assumption) | assumption); first | exact h_ | (have e_ := (Kd.S_reads' HO_7.out).1; omega) | simpa using h_); obtain ⟨ve29_0, rfl, ge29_0⟩ := hM29; have hv29 := hcc29 0 _ rfl; have hX29 := HX216_0.out; (try simp only [add_plain] at hX29); (try simp only [Nat.add_zero] at hv29); (try rw [show ((Kd.slice 120 k120)).sz = 1 from rfl, Nat.mul_one] at hv29); replace hv29 := Option.some.inj (hv29.symm.trans hX29); subst hv29; clear hX29 hcc29 hcl29; have UU29 := Aside0.mk (show Kd.R k120 120 _ w.heap.size oki29 (.slice A216_0 (rd_L7 x7_2 x8_2).length c216_0) (rd_L7 x7_2 x8_2) from ge29_0); have HH29 := Aside0.mk hH29; have HN29 := Aside0.mk (Kd.S_reads' HO_7.out).1; clear hH29 ge29_0) | ((with_reducible refine gate_builtin (b := .append) (xs := #[.tmp 50, .tmp 57]) rfl ?_); at_builtin; refine Kd.R_append k120 (w0 := w) w.heap.size rfl (.tmp 50) (.tmp 57) 118 120 (.agg #[(.int .i64 0), (.int .i64 0), (.int .i64 0)]) 24 rfl Try.underlying118 info120 rfl (by decide) (by omega) (.slice A216_0 (rd_L7 x7_2 x8_2).length c216_0) (rd_L7 x7_2 x8_2) (⟨x10_1, x9_2, wrap64 (x9_2 + t215)⟩ : S120) [.int .i64 x10_1, .int .i64 x9_2, .int .i64 (wrap64 (x9_2 + t215))] (fun k_ => oki29 k_ ∨ ((fun _ => True)) k_ ∧ wr.heap.size ≤ k_) (fun _ => False) rfl rfl ?aP (fun _ hk => hk.elim) ?aF ?aO ?aB ?aS ?aL ?_; (case aP => exact k120_mkM _ _ _ (⟨x10_1, x9_2, wrap64 (x9_2 + t215)⟩ : S120)); (case aB => exact (by repeat (first | (with_reducible first | exact HB.out | apply below_alloc | apply pw_below_drewN | apply below_drew1) | exact HB.out))); (case aF => exact (fun k_ hk => .inr ⟨trivial, hk⟩)); (case aO => exact (by (with_reducible repeat (first | apply Kd.R_alloc | apply Kd.R_drewN | apply Kd.R_drew)); exact Kd.R_mono UU29.out (fun _ hk => .inl hk))); (case aS => exact (below_size (by repeat (first | (with_reducible first | exact HB.out | apply below_alloc | apply pw_below_drewN | apply below_drew1) | exact HB.out)))); (case aL => have := LMc25.out; omega); intro v218 w30 ho hb hg hat; rw [← Ny217.out] at ho; have n0_ := Aside0.mk (hb); have n1_ := Aside0.mk (Kd.H_grown (Kd.H_widen (by repeat (first | exact HH29.out | refine Kd.H_alloc ?_ _ | refine Kd.H_drewN ?_ _ | refine Kd.H_drew ?_))) hg (fun k_ e_ => .inl (UU29.out.1 k_ e_))); have n2_ := Aside0.mk (ho); clear HB; clear HH29; clear HO_7; clear UU29; clear HL216_0; have HB := n0_; have HH29 := n1_; have HO219 := n2_; clear n0_ n1_ n2_; clear ho hb hg hat; have p26 : 0 ≤ (x8_2 : Int) := of_decide_eq_true (by first | (with_reducible assumption) | assumption); have q26 : (x8_2 : Int) < ((x7_2.length : Int) : Int) := of_decide_eq_true (by first | (with_reducible assumption) | assumption); replace p26 := eq_true p26; replace q26 := eq_true q26; obtain ⟨Ao33, co33, eo33⟩ := Kd.R_slice HO219.out; subst eo33; obtain ⟨_, _, hraw31, _, _, hcc31, _⟩ := Kd.H_raw HH29.out (of_decide_eq_true (by first | (with_reducible assumption) | assumption)) (by have h_ : (x8_2 : Int) < ((x7_2.length : Int) : Int) := of_decide_eq_true (by first | (with_reducible assumption) | assumption); first | exact h_ | (have e_ := (HN29.out); omega) | simpa using h_); obtain ⟨_, hfr31⟩ := Kd.H_at HH29.out (of_decide_eq_true (by first | (with_reducible assumption) | assumption)) (by have h_ : (x8_2 : Int) < ((x7_2.length : Int) : Int) := of_decide_eq_true (by first | (with_reducible assumption) | assumption); first | exact h_ | (have e_ := (HN29.out); omega) | simpa using h_); have hx31_0 := hcc31 0 _ rfl; have hf31_0 := hfr31 0; (try simp only [Nat.add_zero] at hx31_0 hf31_0); (try rw [show ((Kd.slice 120 k120)).sz = 1 from rfl, Nat.mul_one] at hx31_0); (try rw [show ((Kd.slice 120 k120)).sz = 1 from rfl, Nat.mul_one] at hf31_0); have HP31 := Kd.S_seg0 HH29.out (of_decide_eq_true (by first | (with_reducible assumption) | assumption)) (by have h_ : (x8_2 : Int) < ((x7_2.length : Int) : Int) := of_decide_eq_true (by first | (with_reducible assumption) | assumption); first | exact h_ | (have e_ := (HN29.out); omega) | simpa using h_) (seg := [.slice Ao33 y217.length co33]) (j := 0) (show 1 ≤ 1 from by decide) (x' := y217) (Kd.M_row HO219.out) (fun _ hk => hk); (try simp only [show ((Kd.slice 120 k120)).sz = 1 from rfl, Nat.mul_one, Nat.add_zero] at HP31); clear hcc31 hfr31) | ((with_reducible refine gate_store (t := 118) (p := 59) rfl ?_); (try (rw [drewN_self w30]; generalize hq_ : World.drewN w30 _ = w30; have n0_ := Aside0.mk (Kd.S_at hq_ HO_7.out); have n1_ := Aside0.mk (below_at hq_ HB.out); (try replace hx31_0 := cell_at hq_ hx31_0); (try replace hf31_0 := (fun {W_ W2_ : World} {n_ : Nat} {a_ : Addr} {b_ : Bool} (h_ : W_.drewN n_ = W2_) (e_ : W_.frozen? a_ = b_) => (by subst h_; exact e_ : W2_.frozen? a_ = b_)) hq_ hf31_0); clear hq_ HO_7 HB; have HO_7 := n0_; have HB := n1_; clear n0_ n1_; (try (obtain ⟨Ao33, co33, eo33⟩ := Kd.R_slice HO219.out)); (try (subst eo33)); (try (obtain ⟨_, _, hraw31, _, _, hcc31, _⟩ := Kd.H_raw HH29.out (of_decide_eq_true (by first | (with_reducible assumption) | assumption)) (by have h_ : (x8_2 : Int) < ((x7_2.length : Int) : Int) := of_decide_eq_true (by first | (with_reducible assumption) | assumption); first | exact h_ | (have e_ := (HN29.out); omega) | simpa using h_))); (try (obtain ⟨_, hfr31⟩ := Kd.H_at HH29.out (of_decide_eq_true (by first | (with_reducible assumption) | assumption)) (by have h_ : (x8_2 : Int) < ((x7_2.length : Int) : Int) := of_decide_eq_true (by first | (with_reducible assumption) | assumption); first | exact h_ | (have e_ := (HN29.out); omega) | simpa using h_))); (try (have hx31_0 := hcc31 0 _ rfl)); (try (have hf31_0 := hfr31 0)); (try (try simp only [Nat.add_zero] at hx31_0 hf31_0)); (try (try rw [show ((Kd.slice 120 k120)).sz = 1 from rfl, Nat.mul_one] at hx31_0)); (try (try rw [show ((Kd.slice 120 k120)).sz = 1 from rfl, Nat.mul_one] at hf31_0)); (try (have HP31 := Kd.S_seg0 HH29.out (of_decide_eq_true (by first | (with_reducible assumption) | assumption)) (by have h_ : (x8_2 : Int) < ((x7_2.length : Int) : Int) := of_decide_eq_true (by first | (with_reducible assumption) | assumption); first | exact h_ | (have e_ := (HN29.out); omega) | simpa using h_) (seg := [.slice Ao33 y217.length co33]) (j := 0) (show 1 ≤ 1 from by decide) (x' := y217) (Kd.M_row HO219.out) (fun _ hk => hk))); (try (try simp only [show ((Kd.slice 120 k120)).sz = 1 from rfl, Nat.mul_one, Nat.add_zero] at HP31)); (try (clear hcc31 hfr31)))); refine store_event (t := 118) (p := 59) (v := ?vo_w32) (w1 := (w30.setCell ⟨go29, (x8_2 : Int).toNat, none⟩ (.slice Ao33 y217.length co33))) ?hg ?ho ?hn ?hr ?_; (case ho => rfl); (case hg => rfl); (case hn => rfl); (case hr => first | (go_simp; done) | (go_simp; rfl)); intro w32 hw; have hg : w30.grownBy w32 (some go29) := (by rw [hw]; exact HP31.2); have hp_ : Kd.S (Kd.slice 120 k120) 118 w32 w.heap.size (fun _ => True) (.slice (some ⟨go29, 0, none⟩) x7_2.length co28) y220 := (by rw [hw, Ny220.out]; exact HP31.1); clear HP31; have n0_ := Aside0.mk ((by rw [hw]; exact below_set HB.out GB29.out : Below w.heap.size w w32)); have n1_ := Aside0.mk (hp_); clear HB; clear HO219; clear HH29; have HB := n0_; have HO_7 := n1_; clear n0_ n1_; clear hg hw hp_ hraw31))
                go_roundg k2
                case measure => have := HK1.out; have := HK2.out; omega
                case rel => exact ⟨(y220), (wrap64 (x8_2 + 1)), (0), (wrap64 (x11_2 - t215)), (by first | rfl | (simp; done) | (simp [*]; done)), (by first | rfl | (simp; done) | (simp [*]; done)), (by first | rfl | (simp; done) | (simp [*]; done)), H', ⟨by have := HK1.out; have := HK2.out; omega⟩, ⟨by (with_reducible repeat (first | apply Kd.S_alloc | apply Kd.S_drewN | apply Kd.S_drew)); exact HO_7.out⟩, ⟨by repeat (first | (with_reducible first | exact HB.out | apply below_alloc | apply pw_below_drewN | apply below_drew1) | exact HB.out)⟩⟩
               ·
                rw [if_neg c27] at H
                have c27b0 : ((wrap64 (x9_2 + t215)) == t210) = false := beq_eq_false_iff_ne.mpr c27
                have c27b1 : ((wrap64 (x9_2 + t215)) != t210) = true := bne_iff_ne.mpr c27
                have H' := Aside0.mk H
                clear H
                go_wp2_with (first | ((with_reducible refine gate_callee (f := 96) rfl ?_); refine goesL_ (some 42) rfl rfl Try.func96 (by kernel_rfl) rfl #[.int .i64 x11_2, .int .i64 (wrap64 (t210 - x9_2))] rfl (by (try simp only [List.map_toArray, List.map_cons, List.map_nil]); first | done | rfl | (simp only [List.length_drop, List.length_take]; rfl)) ?_; (with_reducible refine (spec_l1Least.calls x11_2 (wrap64 (t210 - x9_2)) t215 _ A21.out).mono ?_); rintro e w' ⟨rfl, ⟨nd, rfl⟩⟩; refine ⟨_, rfl, ?_⟩; (try (rw [drewN_self wr]; generalize hq_ : World.drewN wr _ = wr; have n0_ : Aside0 (Kd.S (Kd.slice 120 k120) 118 wr w.heap.size (fun _ => True) v212 x7_2) := ⟨by rw [← hq_]; exact (by (with_reducible repeat (first | apply Kd.S_alloc | apply Kd.S_drewN | apply Kd.S_drew)); exact HO_7.out)⟩; have n1_ : Aside0 (Below w.heap.size w wr) := ⟨by rw [← hq_]; exact (by repeat (first | (with_reducible first | exact HB.out | apply below_alloc | apply pw_below_drewN | apply below_drew1) | exact HB.out))⟩; clear HO_7 HB hq_; have HO_7 := n0_; have HB := n1_; clear n0_ n1_)); obtain ⟨Ao34, co34, eo34⟩ := Kd.S_slice HO_7.out; subst eo34; have p216 : 0 ≤ (x8_2 : Int) := of_decide_eq_true (by first | (with_reducible assumption) | assumption); have q216 : x8_2 < (x7_2.length : Int) := of_decide_eq_true (by first | (with_reducible assumption) | assumption); obtain ⟨ad216, A216_0, c216_0, e216, hx216_0, hl216_0, hi216_0⟩ := at_L7 (Kd.S_reads' HO_7.out).2.2 x8_2 p216 q216; cases e216; obtain ⟨ce216, hce216, hMe216, hcc216⟩ := Kd.S_get HO_7.out [] x8_2 p216 (by first | exact q216 | exact of_decide_eq_true (by first | (with_reducible assumption) | assumption) | (have e_ := (Kd.S_reads' HO_7.out).1; omega)); obtain ⟨ve216_0, rfl, ge216_0⟩ := hMe216; have hv216_0 := hcc216 0 _ rfl; rw [Nat.add_zero, show ((Kd.slice 120 k120)).sz = 1 from rfl, Nat.mul_one] at hv216_0; replace hv216_0 := Option.some.inj (hv216_0.symm.trans hx216_0); rw [hv216_0] at ge216_0; have HL216_0 := Aside0.mk (show Kd.R k120 120 _ _ _ _ (rd_L7 x7_2 x8_2) from ge216_0); clear hv216_0 ge216_0; have HX216_0 := Aside0.mk hx216_0; clear hcc216 hce216; have HR216_0 := Aside0.mk hi216_0; have HC216_0 := Aside0.mk hl216_0; clear hi216_0 hl216_0; replace p216 := eq_true p216; replace q216 := eq_true q216; obtain ⟨go35, co35, eo35, gb35, gl35, cl35, HG35⟩ := Kd.S_form HO_7.out (by have h_ : (x8_2 : Int) < ((x7_2.length : Int) : Int) := of_decide_eq_true (by first | (with_reducible assumption) | assumption); have h2_ : 0 ≤ (x8_2 : Int) := (of_decide_eq_true (by first | (with_reducible assumption) | assumption)); omega); (first | cases eo35 | (injection eo35 with ea_ en_ ec_; (first | subst ea_ | (injection ea_ with ea_; subst ea_)); subst ec_; clear en_)); have GB35 := Aside0.mk gb35; have GG35 := Aside0.mk HG35; clear gb35 gl35 HG35; (first | simp only [add_plain] at hx216_0 | skip); obtain ⟨oki35, ce35, hcl35, hM35, hcc35, _, _, hH35⟩ := Kd.S_elem HO_7.out [] (x8_2 : Int) (of_decide_eq_true (by first | (with_reducible assumption) | assumption)) (by have h_ : (x8_2 : Int) < ((x7_2.length : Int) : Int) := of_decide_eq_true (by first | (with_reducible assumption) | assumption); first | exact h_ | (have e_ := (Kd.S_reads' HO_7.out).1; omega) | simpa using h_); obtain ⟨ve35_0, rfl, ge35_0⟩ := hM35; have hv35 := hcc35 0 _ rfl; have hX35 := HX216_0.out; (try simp only [add_plain] at hX35); (try simp only [Nat.add_zero] at hv35); (try rw [show ((Kd.slice 120 k120)).sz = 1 from rfl, Nat.mul_one] at hv35); replace hv35 := Option.some.inj (hv35.symm.trans hX35); subst hv35; clear hX35 hcc35 hcl35; have UU35 := Aside0.mk (show Kd.R k120 120 _ w.heap.size oki35 (.slice A216_0 (rd_L7 x7_2 x8_2).length c216_0) (rd_L7 x7_2 x8_2) from ge35_0); have HH35 := Aside0.mk hH35; have HN35 := Aside0.mk (Kd.S_reads' HO_7.out).1; clear hH35 ge35_0) | ((with_reducible refine gate_builtin (b := .append) (xs := #[.tmp 50, .tmp 57]) rfl ?_); at_builtin; refine Kd.R_append k120 (w0 := w) w.heap.size rfl (.tmp 50) (.tmp 57) 118 120 (.agg #[(.int .i64 0), (.int .i64 0), (.int .i64 0)]) 24 rfl Try.underlying118 info120 rfl (by decide) (by omega) (.slice A216_0 (rd_L7 x7_2 x8_2).length c216_0) (rd_L7 x7_2 x8_2) (⟨x10_1, x9_2, wrap64 (x9_2 + t215)⟩ : S120) [.int .i64 x10_1, .int .i64 x9_2, .int .i64 (wrap64 (x9_2 + t215))] (fun k_ => oki35 k_ ∨ ((fun _ => True)) k_ ∧ wr.heap.size ≤ k_) (fun _ => False) rfl rfl ?aP (fun _ hk => hk.elim) ?aF ?aO ?aB ?aS ?aL ?_; (case aP => exact k120_mkM _ _ _ (⟨x10_1, x9_2, wrap64 (x9_2 + t215)⟩ : S120)); (case aB => exact (by repeat (first | (with_reducible first | exact HB.out | apply below_alloc | apply pw_below_drewN | apply below_drew1) | exact HB.out))); (case aF => exact (fun k_ hk => .inr ⟨trivial, hk⟩)); (case aO => exact (by (with_reducible repeat (first | apply Kd.R_alloc | apply Kd.R_drewN | apply Kd.R_drew)); exact Kd.R_mono UU35.out (fun _ hk => .inl hk))); (case aS => exact (below_size (by repeat (first | (with_reducible first | exact HB.out | apply below_alloc | apply pw_below_drewN | apply below_drew1) | exact HB.out)))); (case aL => have := LMc25.out; omega); intro v218 w36 ho hb hg hat; rw [← Ny217.out] at ho; have n0_ := Aside0.mk (hb); have n1_ := Aside0.mk (Kd.H_grown (Kd.H_widen (by repeat (first | exact HH35.out | refine Kd.H_alloc ?_ _ | refine Kd.H_drewN ?_ _ | refine Kd.H_drew ?_))) hg (fun k_ e_ => .inl (UU35.out.1 k_ e_))); have n2_ := Aside0.mk (ho); clear HB; clear HH35; clear HO_7; clear UU35; clear HL216_0; have HB := n0_; have HH35 := n1_; have HO219 := n2_; clear n0_ n1_ n2_; clear ho hb hg hat; have p26 : 0 ≤ (x8_2 : Int) := of_decide_eq_true (by first | (with_reducible assumption) | assumption); have q26 : (x8_2 : Int) < ((x7_2.length : Int) : Int) := of_decide_eq_true (by first | (with_reducible assumption) | assumption); replace p26 := eq_true p26; replace q26 := eq_true q26; obtain ⟨Ao39, co39, eo39⟩ := Kd.R_slice HO219.out; subst eo39; obtain ⟨_, _, hraw37, _, _, hcc37, _⟩ := Kd.H_raw HH35.out (of_decide_eq_true (by first | (with_reducible assumption) | assumption)) (by have h_ : (x8_2 : Int) < ((x7_2.length : Int) : Int) := of_decide_eq_true (by first | (with_reducible assumption) | assumption); first | exact h_ | (have e_ := (HN35.out); omega) | simpa using h_); obtain ⟨_, hfr37⟩ := Kd.H_at HH35.out (of_decide_eq_true (by first | (with_reducible assumption) | assumption)) (by have h_ : (x8_2 : Int) < ((x7_2.length : Int) : Int) := of_decide_eq_true (by first | (with_reducible assumption) | assumption); first | exact h_ | (have e_ := (HN35.out); omega) | simpa using h_); have hx37_0 := hcc37 0 _ rfl; have hf37_0 := hfr37 0; (try simp only [Nat.add_zero] at hx37_0 hf37_0); (try rw [show ((Kd.slice 120 k120)).sz = 1 from rfl, Nat.mul_one] at hx37_0); (try rw [show ((Kd.slice 120 k120)).sz = 1 from rfl, Nat.mul_one] at hf37_0); have HP37 := Kd.S_seg0 HH35.out (of_decide_eq_true (by first | (with_reducible assumption) | assumption)) (by have h_ : (x8_2 : Int) < ((x7_2.length : Int) : Int) := of_decide_eq_true (by first | (with_reducible assumption) | assumption); first | exact h_ | (have e_ := (HN35.out); omega) | simpa using h_) (seg := [.slice Ao39 y217.length co39]) (j := 0) (show 1 ≤ 1 from by decide) (x' := y217) (Kd.M_row HO219.out) (fun _ hk => hk); (try simp only [show ((Kd.slice 120 k120)).sz = 1 from rfl, Nat.mul_one, Nat.add_zero] at HP37); clear hcc37 hfr37) | ((with_reducible refine gate_store (t := 118) (p := 59) rfl ?_); (try (rw [drewN_self w36]; generalize hq_ : World.drewN w36 _ = w36; have n0_ := Aside0.mk (Kd.S_at hq_ HO_7.out); have n1_ := Aside0.mk (below_at hq_ HB.out); (try replace hx37_0 := cell_at hq_ hx37_0); (try replace hf37_0 := (fun {W_ W2_ : World} {n_ : Nat} {a_ : Addr} {b_ : Bool} (h_ : W_.drewN n_ = W2_) (e_ : W_.frozen? a_ = b_) => (by subst h_; exact e_ : W2_.frozen? a_ = b_)) hq_ hf37_0); clear hq_ HO_7 HB; have HO_7 := n0_; have HB := n1_; clear n0_ n1_; (try (obtain ⟨Ao39, co39, eo39⟩ := Kd.R_slice HO219.out)); (try (subst eo39)); (try (obtain ⟨_, _, hraw37, _, _, hcc37, _⟩ := Kd.H_raw HH35.out (of_decide_eq_true (by first | (with_reducible assumption) | assumption)) (by have h_ : (x8_2 : Int) < ((x7_2.length : Int) : Int) := of_decide_eq_true (by first | (with_reducible assumption) | assumption); first | exact h_ | (have e_ := (HN35.out); omega) | simpa using h_))); (try (obtain ⟨_, hfr37⟩ := Kd.H_at HH35.out (of_decide_eq_true (by first | (with_reducible assumption) | assumption)) (by have h_ : (x8_2 : Int) < ((x7_2.length : Int) : Int) := of_decide_eq_true (by first | (with_reducible assumption) | assumption); first | exact h_ | (have e_ := (HN35.out); omega) | simpa using h_))); (try (have hx37_0 := hcc37 0 _ rfl)); (try (have hf37_0 := hfr37 0)); (try (try simp only [Nat.add_zero] at hx37_0 hf37_0)); (try (try rw [show ((Kd.slice 120 k120)).sz = 1 from rfl, Nat.mul_one] at hx37_0)); (try (try rw [show ((Kd.slice 120 k120)).sz = 1 from rfl, Nat.mul_one] at hf37_0)); (try (have HP37 := Kd.S_seg0 HH35.out (of_decide_eq_true (by first | (with_reducible assumption) | assumption)) (by have h_ : (x8_2 : Int) < ((x7_2.length : Int) : Int) := of_decide_eq_true (by first | (with_reducible assumption) | assumption); first | exact h_ | (have e_ := (HN35.out); omega) | simpa using h_) (seg := [.slice Ao39 y217.length co39]) (j := 0) (show 1 ≤ 1 from by decide) (x' := y217) (Kd.M_row HO219.out) (fun _ hk => hk))); (try (try simp only [show ((Kd.slice 120 k120)).sz = 1 from rfl, Nat.mul_one, Nat.add_zero] at HP37)); (try (clear hcc37 hfr37)))); refine store_event (t := 118) (p := 59) (v := ?vo_w38) (w1 := (w36.setCell ⟨go35, (x8_2 : Int).toNat, none⟩ (.slice Ao39 y217.length co39))) ?hg ?ho ?hn ?hr ?_; (case ho => rfl); (case hg => rfl); (case hn => rfl); (case hr => first | (go_simp; done) | (go_simp; rfl)); intro w38 hw; have hg : w36.grownBy w38 (some go35) := (by rw [hw]; exact HP37.2); have hp_ : Kd.S (Kd.slice 120 k120) 118 w38 w.heap.size (fun _ => True) (.slice (some ⟨go35, 0, none⟩) x7_2.length co34) y220 := (by rw [hw, Ny220.out]; exact HP37.1); clear HP37; have n0_ := Aside0.mk ((by rw [hw]; exact below_set HB.out GB35.out : Below w.heap.size w w38)); have n1_ := Aside0.mk (hp_); clear HB; clear HO219; clear HH35; have HB := n0_; have HO_7 := n1_; clear n0_ n1_; clear hg hw hp_ hraw37))
                go_roundg k2
                case measure => have := HK1.out; have := HK2.out; omega
                case rel => exact ⟨(y220), (x8_2), (wrap64 (x9_2 + t215)), (wrap64 (x11_2 - t215)), (by first | rfl | (simp; done) | (simp [*]; done)), (by first | rfl | (simp; done) | (simp [*]; done)), (by first | rfl | (simp; done) | (simp [*]; done)), H', ⟨by have := HK1.out; have := HK2.out; omega⟩, ⟨by (with_reducible repeat (first | apply Kd.S_alloc | apply Kd.S_drewN | apply Kd.S_drew)); exact HO_7.out⟩, ⟨by repeat (first | (with_reducible first | exact HB.out | apply below_alloc | apply pw_below_drewN | apply below_drew1) | exact HB.out)⟩⟩
              ·
               rw [if_neg c25] at H
               exact absurd H (by simp)
             ·
              rw [if_neg c24] at H
              exact absurd H (by simp)
            ·
             rw [if_neg c23] at H
             exact absurd H (by simp)
           ·
            rw [if_neg c22] at H
            have c22b0 : decide (0 < t215) = false := decide_eq_false c22
            clear c22
            by_cases c40 : (wrap64 (x9_2 + t215)) = t210
            ·
             rw [if_pos c40] at H
             have c40b0 : ((wrap64 (x9_2 + t215)) == t210) = true := beq_iff_eq.mpr c40
             have c40b1 : ((wrap64 (x9_2 + t215)) != t210) = false := bne_eq_false_iff_eq.mpr c40
             clear c40
             have H' := Aside0.mk H
             clear H
             go_wp2_with (first | ((with_reducible refine gate_callee (f := 96) rfl ?_); refine goesL_ (some 42) rfl rfl Try.func96 (by kernel_rfl) rfl #[.int .i64 x11_2, .int .i64 (wrap64 (t210 - x9_2))] rfl (by (try simp only [List.map_toArray, List.map_cons, List.map_nil]); first | done | rfl | (simp only [List.length_drop, List.length_take]; rfl)) ?_; (with_reducible refine (spec_l1Least.calls x11_2 (wrap64 (t210 - x9_2)) t215 _ A21.out).mono ?_); rintro e w' ⟨rfl, ⟨nd, rfl⟩⟩; refine ⟨_, rfl, ?_⟩))
             go_roundg k2
             case measure => have := HK1.out; have := HK2.out; omega
             case rel => exact ⟨(x7_2), (wrap64 (x8_2 + 1)), (0), (wrap64 (x11_2 - t215)), (by first | rfl | (simp; done) | (simp [*]; done)), (by first | rfl | (simp; done) | (simp [*]; done)), (by first | rfl | (simp; done) | (simp [*]; done)), H', ⟨by have := HK1.out; have := HK2.out; omega⟩, ⟨by (with_reducible repeat (first | apply Kd.S_alloc | apply Kd.S_drewN | apply Kd.S_drew)); exact HO_7.out⟩, ⟨by repeat (first | (with_reducible first | exact HB.out | apply below_alloc | apply pw_below_drewN | apply below_drew1) | exact HB.out)⟩⟩
            ·
             rw [if_neg c40] at H
             have c40b0 : ((wrap64 (x9_2 + t215)) == t210) = false := beq_eq_false_iff_ne.mpr c40
             have c40b1 : ((wrap64 (x9_2 + t215)) != t210) = true := bne_iff_ne.mpr c40
             have H' := Aside0.mk H
             clear H
             go_wp2_with (first | ((with_reducible refine gate_callee (f := 96) rfl ?_); refine goesL_ (some 42) rfl rfl Try.func96 (by kernel_rfl) rfl #[.int .i64 x11_2, .int .i64 (wrap64 (t210 - x9_2))] rfl (by (try simp only [List.map_toArray, List.map_cons, List.map_nil]); first | done | rfl | (simp only [List.length_drop, List.length_take]; rfl)) ?_; (with_reducible refine (spec_l1Least.calls x11_2 (wrap64 (t210 - x9_2)) t215 _ A21.out).mono ?_); rintro e w' ⟨rfl, ⟨nd, rfl⟩⟩; refine ⟨_, rfl, ?_⟩))
             go_roundg k2
             case measure => have := HK1.out; have := HK2.out; omega
             case rel => exact ⟨(x7_2), (x8_2), (wrap64 (x9_2 + t215)), (wrap64 (x11_2 - t215)), (by first | rfl | (simp; done) | (simp [*]; done)), (by first | rfl | (simp; done) | (simp [*]; done)), (by first | rfl | (simp; done) | (simp [*]; done)), H', ⟨by have := HK1.out; have := HK2.out; omega⟩, ⟨by (with_reducible repeat (first | apply Kd.S_alloc | apply Kd.S_drewN | apply Kd.S_drew)); exact HO_7.out⟩, ⟨by repeat (first | (with_reducible first | exact HB.out | apply below_alloc | apply pw_below_drewN | apply below_drew1) | exact HB.out)⟩⟩
          ·
           rw [if_neg c20] at H
           have c20b0 : decide (0 < x11_2) = false := decide_eq_false c20
           clear c20
           have H' := Aside0.mk H
           clear H
           go_wp2
           go_roundg k2
           case measure => have := HK1.out; have := HK2.out; omega
           case rel => exact ⟨(x7_2), (x8_2), (x9_2), (wrap64 (x10_1 + 1)), (by first | rfl | (simp; done) | (simp [*]; done)), (by first | rfl | (simp; done) | (simp [*]; done)), (by first | rfl | (simp; done) | (simp [*]; done)), H', ⟨by have := HK1.out; have := HK2.out; omega⟩, ⟨by (with_reducible repeat (first | apply Kd.S_alloc | apply Kd.S_drewN | apply Kd.S_drew)); exact HO_7.out⟩, ⟨by repeat (first | (with_reducible first | exact HB.out | apply below_alloc | apply pw_below_drewN | apply below_drew1) | exact HB.out)⟩⟩
       ·
        rw [if_neg c19] at H
        exact absurd H (by simp)
      ·
       rw [if_neg c18] at H
       have c18b0 : decide (x10_1 < (l0.length : Int)) = false := decide_eq_false c18
       clear c18
       simp only [Option.some.injEq, Prod.mk.injEq] at H
       obtain ⟨rfl, rfl⟩ := H
       go_wp2
       go_ret2
       exact ⟨_, by first | rfl | (simp [errW_none, errW_some] <;> rfl) | (simp [*, errW_none, errW_some] <;> rfl), by (with_reducible repeat (first | apply Kd.S_alloc | apply Kd.S_drewN | apply Kd.S_drew)); exact HO_7.out, by repeat (first | (with_reducible first | exact HB.out | apply below_alloc | apply pw_below_drewN | apply below_drew1) | exact HB.out)⟩
   ·
    rw [if_neg c7] at H
    exact absurd H (by simp)
  ·
   rw [if_neg c6] at H
   exact absurd H (by simp)
 ·
  replace c4 := Bool.eq_false_iff.mpr c4
  subst c4
  have H1 : (some ((([] : List (List (S120)))), false)) = some (r1, r2) := by rw [if_neg (show ¬ (false = true) by decide)] at H; exact H
  clear H
  have H := H1
  clear H1
  obtain ⟨y204, hy204⟩ : ∃ y_ : List (List (S120)), y_ = (([] : List (List (S120)))) := ⟨_, rfl⟩
  replace H : (some (y204, false)) = some (r1, r2) := by first | (rw [hy204]; with_reducible exact H) | (have H2_ := (Option.bind_some _ _).symm.trans H; rw [hy204]; with_reducible exact H2_) | (have H2_ := (Option.bind_some _ _).symm.trans H; with_reducible exact H2_) | with_reducible exact H | (rw [hy204]; exact H) | exact H
  have Ny204 := Aside0.mk hy204
  clear hy204
  simp only [Option.some.injEq, Prod.mk.injEq] at H
  obtain ⟨rfl, rfl⟩ := H
  go_enter Try.func41, Try.ntmps41
  go_wp2_with (first | ((with_reducible refine gate_dst (N := 15) rfl ?_); refine Kd.R_lit k45 _ 45 ?hg (N := 15) ?hd (xs := ([] : List (S45))) (inner := []) (ok := fun _ => True) (okp := fun _ => True) ?hr ?hp (fun _ hk => hk) trivial (Below.refl _ _) (Nat.le_refl _) (by simp) ?_; (case hd => rfl); (case hg => rfl); (case hr => first | (go_simp; done) | (go_simp; rfl)); (case hp => exact (Reps.none _ _)); intro v201 w41 ho42 hb hg_ hnew_; clear hg_ hnew_; (first | rw [← Ny200.out] at ho42 | (simp only [Int.reduceToNat] at ho42; rw [← Ny200.out] at ho42)); have n0_ := Aside0.mk (Kd.R_lower ho42 (below_size (by repeat (first | (with_reducible first | exact HB.out | apply below_alloc | apply pw_below_drewN | apply below_drew1) | exact HB.out)))); have n1_ := Aside0.mk (below_step (by repeat (first | (with_reducible first | exact HB.out | apply below_alloc | apply pw_below_drewN | apply below_drew1) | exact HB.out)) hb); clear HB; have HO202 := n0_; have HB := n1_; clear n0_ n1_; clear hb ho42; obtain ⟨Ao43, co43, eo43⟩ := Kd.R_slice HO202.out; subst eo43) | ((with_reducible refine gate_callee (f := 55) rfl ?_); refine goesL_ (some 16) rfl rfl Try.func55 (by kernel_rfl) rfl #[.slice A0 l0.length c0, .int .i64 a1, .slice Ao43 y200.length co43] rfl (by (try simp only [List.map_toArray, List.map_cons, List.map_nil]); first | done | rfl | (simp only [List.length_drop, List.length_take]; rfl)) ?_; (with_reducible refine (spec_l7Good.calls k _ _ l0 a1 _ _ y200 false _ ?side1 ?side2 ?side3 ?side4 A3.out).mono ?_); (case side1 => repeat (first | exact (Kd.C_below HR0.out HB.out) | (with_reducible refine Kd.C_alloc ?_ _) | (with_reducible refine Kd.C_drewN ?_ _) | (with_reducible refine Kd.C_drew ?_))); (case side2 => exact HC0.out); (case side3 => repeat (first | exact (Kd.R_reads' HO202.out).2.2 | (with_reducible refine Kd.C_alloc ?_ _) | (with_reducible refine Kd.C_drewN ?_ _) | (with_reducible refine Kd.C_drew ?_))); (case side4 => exact (Kd.R_reads' HO202.out).2.1); rintro e w44 ⟨rfl, hb⟩; refine ⟨_, rfl, ?_⟩; have n0_ := Aside0.mk (Kd.R_below (by (with_reducible repeat (first | apply Kd.R_alloc | apply Kd.R_drewN | apply Kd.R_drew)); exact HO202.out) hb); have n1_ := Aside0.mk (below_step (by repeat (first | (with_reducible first | exact HB.out | apply below_alloc | apply pw_below_drewN | apply below_drew1) | exact HB.out)) hb); clear HO202; clear HB; have HO202 := n0_; have HB := n1_; clear n0_ n1_; (try clear hb); (try clear hb2); (try clear hk); (try clear hi)) | ((with_reducible refine gate_dst (N := 18) rfl ?_); refine Kd.S_lit (Kd.slice 120 k120) _ 118 ?hg (N := 18) ?hd (xs := ([] : List (List (S120)))) (inner := []) (ok := fun _ => True) (okp := fun _ => True) ?hr ?hp (fun _ hk => hk) trivial (Below.refl _ _) (Nat.le_refl _) (by simp) ?_; (case hd => rfl); (case hg => rfl); (case hr => first | (go_simp; done) | (go_simp; rfl)); (case hp => exact (Reps.none _ _)); intro v205 w45 ho46 hb hg_ hnew_; clear hg_ hnew_; (first | rw [← Ny204.out] at ho46 | (simp only [Int.reduceToNat] at ho46; rw [← Ny204.out] at ho46)); have n0_ := Aside0.mk (Kd.R_below (by (with_reducible repeat (first | apply Kd.R_alloc | apply Kd.R_drewN | apply Kd.R_drew)); exact HO202.out) hb); have n1_ := Aside0.mk (Kd.S_lower ho46 (below_size (by repeat (first | (with_reducible first | exact HB.out | apply below_alloc | apply pw_below_drewN | apply below_drew1) | exact HB.out)))); have n2_ := Aside0.mk (below_step (by repeat (first | (with_reducible first | exact HB.out | apply below_alloc | apply pw_below_drewN | apply below_drew1) | exact HB.out)) hb); clear HO202; clear HB; have HO202 := n0_; have HO206 := n1_; have HB := n2_; clear n0_ n1_ n2_; clear hb ho46))
  go_ret2
  exact ⟨_, by first | rfl | (simp [errW_none, errW_some] <;> rfl) | (simp [*, errW_none, errW_some] <;> rfl), by (with_reducible repeat (first | apply Kd.S_alloc | apply Kd.S_drewN | apply Kd.S_drew)); exact HO206.out, by repeat (first | (with_reducible first | exact HB.out | apply below_alloc | apply pw_below_drewN | apply below_drew1) | exact HB.out)⟩

end Go.Proofs.Ytplbabjigikgjaa.XFnExactWrapAround
