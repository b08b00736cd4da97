-- Written by a program of this session (the kit's print, widened). Proved here: what each function answers, for the arguments that its contract names.
import Derived.Test.YtgelmpoaainlfaaXFnExactFlowBoundx0
import Derived.Test.YtgelmpoaainlfaaXFnExactFlowBoundx1
import Derived.Test.YtgelmpoaainlfaaXFnExactFlowBoundx3
import Derived.Test.YtgelmpoaainlfaaXFnExactFlowBoundx4
namespace Go.Proofs.Ytgelmpoaainlfaa.XFnExactFlowBound
open Go.RowKit Go.Proofs.YtgelmpoaainlfaaW.PrintWords Go.Proofs.YtgelmpoaainlfaaW.PrintLast Go.Proofs.YtgelmpoaainlfaaW.PrintMore
attribute [local go_sem] max2_int min2_int max_two min_two max_three min_three max_four min_four   -- for this text's walks alone
set_option linter.unusedVariables false
set_option linter.unusedSimpArgs false

/-! ### impl_FlowBound: function 49 -/
mutual
def impl_FlowBound.l0 : Nat → List (List Int) → Int → Int → Option (Int × Bool)
  | 0, _, _, _ => none
  | k + 1, x0, x4, x5 => (impl_machinesOf.f x0).bind fun t152 => (if x5 < t152 then (impl_FlowBound.j1 k x0 x4 x5 (decide ((x0.length : Int) > 0))) else (impl_FlowBound.j1 k x0 x4 x5 false))
def impl_FlowBound.j1 : Nat → List (List Int) → Int → Int → Bool → Option (Int × Bool)
  | 0, _, _, _, _ => none
  | k + 1, x0, x4, x5, x24 => if x24 = true then (impl_FlowBound.l1 k x0 x4 x5 0 (-1) (-1) x0 (x0.length : Int) 0) else (some (x4, true))
def impl_FlowBound.l1 : Nat → List (List Int) → Int → Int → Int → Int → Int → List (List Int) → Int → Int → Option (Int × Bool)
  | 0, _, _, _, _, _, _, _, _, _ => none
  | k + 1, x0, x4, x5, x6, x7, x8, x27, x28, x29 => if x29 < x28 then (if 0 ≤ x29 then (if x29 < (x27.length : Int) then (if 0 ≤ x5 then (if x5 ≤ ((rd_L1 x27 x29).length : Int) then ((impl_sum.f k ((rd_L1 x27 x29).take (x5 : Int).toNat)).bind fun t155 => (if 0 ≤ (wrap64 (x5 + 1)) then (if (wrap64 (x5 + 1)) ≤ ((rd_L1 x27 x29).length : Int) then ((impl_sum.f k ((rd_L1 x27 x29).drop ((wrap64 (x5 + 1)) : Int).toNat)).bind fun t157 => (if x7 < 0 then (impl_FlowBound.j3 k x0 x4 x5 x6 x7 x8 (rd_L1 x27 x29) t155 t157 x27 x28 x29 true) else (impl_FlowBound.j3 k x0 x4 x5 x6 x7 x8 (rd_L1 x27 x29) t155 t157 x27 x28 x29 (decide (t155 < x7))))) else (none)) else (none))) else (none)) else (none)) else (none)) else (none)) else (impl_FlowBound.l0 k x0 (mx x4 (wrap64 ((wrap64 (x6 + x7)) + x8))) (wrap64 (x5 + 1)))
def impl_FlowBound.j3 : Nat → List (List Int) → Int → Int → Int → Int → Int → List Int → Int → Int → List (List Int) → Int → Int → Bool → Option (Int × Bool)
  | 0, _, _, _, _, _, _, _, _, _, _, _, _, _ => none
  | k + 1, x0, x4, x5, x6, x7, x8, x10, x11, x12, x27, x28, x29, x48 => if x48 = true then (if x8 < 0 then (if 0 ≤ x5 then (if x5 < (x10.length : Int) then (impl_FlowBound.l1 k x0 x4 x5 (wrap64 (x6 + (rd x10 x5))) x11 x12 x27 x28 (wrap64 (x29 + 1))) else (none)) else (none)) else (if x12 < x8 then (if 0 ≤ x5 then (if x5 < (x10.length : Int) then (impl_FlowBound.l1 k x0 x4 x5 (wrap64 (x6 + (rd x10 x5))) x11 x12 x27 x28 (wrap64 (x29 + 1))) else (none)) else (none)) else (if 0 ≤ x5 then (if x5 < (x10.length : Int) then (impl_FlowBound.l1 k x0 x4 x5 (wrap64 (x6 + (rd x10 x5))) x11 x8 x27 x28 (wrap64 (x29 + 1))) else (none)) else (none)))) else (if x8 < 0 then (if 0 ≤ x5 then (if x5 < (x10.length : Int) then (impl_FlowBound.l1 k x0 x4 x5 (wrap64 (x6 + (rd x10 x5))) x7 x12 x27 x28 (wrap64 (x29 + 1))) else (none)) else (none)) else (if x12 < x8 then (if 0 ≤ x5 then (if x5 < (x10.length : Int) then (impl_FlowBound.l1 k x0 x4 x5 (wrap64 (x6 + (rd x10 x5))) x7 x12 x27 x28 (wrap64 (x29 + 1))) else (none)) else (none)) else (if 0 ≤ x5 then (if x5 < (x10.length : Int) then (impl_FlowBound.l1 k x0 x4 x5 (wrap64 (x6 + (rd x10 x5))) x7 x8 x27 x28 (wrap64 (x29 + 1))) else (none)) else (none))))
end
def impl_FlowBound.f (k : Nat) (l0 : List (List Int)) : Option (Int × Bool) := (impl_isShop.f k l0).bind fun t151 => (if t151 = true then (impl_FlowBound.l0 k l0 0 0) else (some (0, false)))
theorem impl_FlowBound.mono_l : ∀ k, (∀ y0 y1 y2, LeO (impl_FlowBound.l0 k y0 y1 y2) (impl_FlowBound.l0 (k + 1) y0 y1 y2)) ∧ (∀ y0 y1 y2 y3, LeO (impl_FlowBound.j1 k y0 y1 y2 y3) (impl_FlowBound.j1 (k + 1) y0 y1 y2 y3)) ∧ (∀ y0 y1 y2 y3 y4 y5 y6 y7 y8, LeO (impl_FlowBound.l1 k y0 y1 y2 y3 y4 y5 y6 y7 y8) (impl_FlowBound.l1 (k + 1) y0 y1 y2 y3 y4 y5 y6 y7 y8)) ∧ (∀ y0 y1 y2 y3 y4 y5 y6 y7 y8 y9 y10 y11 y12, LeO (impl_FlowBound.j3 k y0 y1 y2 y3 y4 y5 y6 y7 y8 y9 y10 y11 y12) (impl_FlowBound.j3 (k + 1) y0 y1 y2 y3 y4 y5 y6 y7 y8 y9 y10 y11 y12))
  | 0 => ⟨fun _ _ _ r h => by simp [impl_FlowBound.l0] at h, fun _ _ _ _ r h => by simp [impl_FlowBound.j1] at h, fun _ _ _ _ _ _ _ _ _ r h => by simp [impl_FlowBound.l1] at h, fun _ _ _ _ _ _ _ _ _ _ _ _ _ r h => by simp [impl_FlowBound.j3] at h⟩
  | k + 1 => by
    obtain ⟨ih0, ih1, ih2, ih3⟩ := impl_FlowBound.mono_l k
    refine ⟨?_, ?_, ?_, ?_⟩
    · intro y0 y1 y2
      unfold impl_FlowBound.l0
      repeat' first
      | (with_reducible exact ih0 _ _ _)
      | (with_reducible exact ih1 _ _ _ _)
      | (with_reducible exact ih2 _ _ _ _ _ _ _ _ _)
      | (with_reducible exact ih3 _ _ _ _ _ _ _ _ _ _ _ _ _)
      | (with_reducible exact impl_isShop.mono _ _)
      | (with_reducible exact impl_sum.mono _ _)
      | (with_reducible exact LeO.refl _)
      | (with_reducible exact LeO.none _)
      | (with_reducible refine LeO.ite ?_ ?_)
      | (with_reducible refine LeO.bind ?_ (fun _ => ?_))
      | exact ih0 _ _ _
      | exact ih1 _ _ _ _
      | exact ih2 _ _ _ _ _ _ _ _ _
      | exact ih3 _ _ _ _ _ _ _ _ _ _ _ _ _
      | exact impl_isShop.mono _ _
      | exact impl_sum.mono _ _
      | exact LeO.none _
      | refine LeO.ite ?_ ?_
      | refine LeO.bind ?_ (fun _ => ?_)
    · intro y0 y1 y2 y3
      unfold impl_FlowBound.j1
      repeat' first
      | (with_reducible exact ih0 _ _ _)
      | (with_reducible exact ih1 _ _ _ _)
      | (with_reducible exact ih2 _ _ _ _ _ _ _ _ _)
      | (with_reducible exact ih3 _ _ _ _ _ _ _ _ _ _ _ _ _)
      | (with_reducible exact impl_isShop.mono _ _)
      | (with_reducible exact impl_sum.mono _ _)
      | (with_reducible exact LeO.refl _)
      | (with_reducible exact LeO.none _)
      | (with_reducible refine LeO.ite ?_ ?_)
      | (with_reducible refine LeO.bind ?_ (fun _ => ?_))
      | exact ih0 _ _ _
      | exact ih1 _ _ _ _
      | exact ih2 _ _ _ _ _ _ _ _ _
      | exact ih3 _ _ _ _ _ _ _ _ _ _ _ _ _
      | exact impl_isShop.mono _ _
      | exact impl_sum.mono _ _
      | exact LeO.none _
      | refine LeO.ite ?_ ?_
      | refine LeO.bind ?_ (fun _ => ?_)
    · intro y0 y1 y2 y3 y4 y5 y6 y7 y8
      unfold impl_FlowBound.l1
      repeat' first
      | (with_reducible exact ih0 _ _ _)
      | (with_reducible exact ih1 _ _ _ _)
      | (with_reducible exact ih2 _ _ _ _ _ _ _ _ _)
      | (with_reducible exact ih3 _ _ _ _ _ _ _ _ _ _ _ _ _)
      | (with_reducible exact impl_isShop.mono _ _)
      | (with_reducible exact impl_sum.mono _ _)
      | (with_reducible exact LeO.refl _)
      | (with_reducible exact LeO.none _)
      | (with_reducible refine LeO.ite ?_ ?_)
      | (with_reducible refine LeO.bind ?_ (fun _ => ?_))
      | exact ih0 _ _ _
      | exact ih1 _ _ _ _
      | exact ih2 _ _ _ _ _ _ _ _ _
      | exact ih3 _ _ _ _ _ _ _ _ _ _ _ _ _
      | exact impl_isShop.mono _ _
      | exact impl_sum.mono _ _
      | exact LeO.none _
      | refine LeO.ite ?_ ?_
      | refine LeO.bind ?_ (fun _ => ?_)
    · intro y0 y1 y2 y3 y4 y5 y6 y7 y8 y9 y10 y11 y12
      unfold impl_FlowBound.j3
      repeat' first
      | (with_reducible exact ih0 _ _ _)
      | (with_reducible exact ih1 _ _ _ _)
      | (with_reducible exact ih2 _ _ _ _ _ _ _ _ _)
      | (with_reducible exact ih3 _ _ _ _ _ _ _ _ _ _ _ _ _)
      | (with_reducible exact impl_isShop.mono _ _)
      | (with_reducible exact impl_sum.mono _ _)
      | (with_reducible exact LeO.refl _)
      | (with_reducible exact LeO.none _)
      | (with_reducible refine LeO.ite ?_ ?_)
      | (with_reducible refine LeO.bind ?_ (fun _ => ?_))
      | exact ih0 _ _ _
      | exact ih1 _ _ _ _
      | exact ih2 _ _ _ _ _ _ _ _ _
      | exact ih3 _ _ _ _ _ _ _ _ _ _ _ _ _
      | exact impl_isShop.mono _ _
      | exact impl_sum.mono _ _
      | exact LeO.none _
      | refine LeO.ite ?_ ?_
      | refine LeO.bind ?_ (fun _ => ?_)
theorem impl_FlowBound.mono : ∀ a0 k, LeO (impl_FlowBound.f k a0) (impl_FlowBound.f (k + 1) a0) := by
  intro a0 k
  obtain ⟨ih0, ih1, ih2, ih3⟩ := impl_FlowBound.mono_l k
  unfold impl_FlowBound.f
  repeat' first
      | (with_reducible exact ih0 _ _ _)
      | (with_reducible exact ih1 _ _ _ _)
      | (with_reducible exact ih2 _ _ _ _ _ _ _ _ _)
      | (with_reducible exact ih3 _ _ _ _ _ _ _ _ _ _ _ _ _)
      | (with_reducible exact impl_isShop.mono _ _)
      | (with_reducible exact impl_sum.mono _ _)
      | (with_reducible exact LeO.refl _)
      | (with_reducible exact LeO.none _)
      | (with_reducible refine LeO.ite ?_ ?_)
      | (with_reducible refine LeO.bind ?_ (fun _ => ?_))
      | exact ih0 _ _ _
      | exact ih1 _ _ _ _
      | exact ih2 _ _ _ _ _ _ _ _ _
      | exact ih3 _ _ _ _ _ _ _ _ _ _ _ _ _
      | exact impl_isShop.mono _ _
      | exact impl_sum.mono _ _
      | exact LeO.none _
      | refine LeO.ite ?_ ?_
      | refine LeO.bind ?_ (fun _ => ?_)
set_option maxHeartbeats 8000000 in
set_option maxRecDepth 100000 in
theorem impl_FlowBound.calls (k : Nat) (A0 : Option Addr) (c0 : Nat) (l0 : List (List Int)) (r1 : Int) (r2 : Bool) (w : World) (hr0 : Kd.C (Kd.slice 3 (Kd.int .i64)) w A0 l0.length l0) (hc0 : l0.length ≤ c0) (h : impl_FlowBound.f k l0 = some (r1, r2)) :
    Calls Try.prog 49 #[.slice A0 l0.length c0] w fun e w' => e = .returned (.tuple #[.int .i64 r1, .bool r2]) ∧ Below w.heap.size w w' := by
  have HR0 := Aside0.mk hr0
  have HC0 := Aside0.mk hc0
  clear hr0 hc0
  have HB := Aside0.mk (Below.refl w.heap.size w)
  have H : ((impl_isShop.f k l0).bind fun t151 => (if t151 = true then (impl_FlowBound.l0 k l0 0 0) else (some (0, false)))) = some (r1, r2) := h
  clear h
  replace H := Option.bind_eq_some_iff.mp H
  obtain ⟨t151, A20, H⟩ := H
  replace H : (if t151 = true then (impl_FlowBound.l0 k l0 0 0) else (some (0, false))) = some (r1, r2) := H
  have A2 := Aside0.mk A20
  clear A20
  by_cases c3 : t151 = true
  · subst c3
    have H1 : (impl_FlowBound.l0 k l0 0 0) = some (r1, r2) := by rw [if_pos rfl] at H; exact H
    clear H
    have H := H1
    clear H1
    have H' := Aside0.mk H
    clear H
    go_enter Try.func49, Try.ntmps49
    go_wp2_with (first | (go_at_call 107; (with_reducible refine (impl_isShop.calls k _ _ l0 true _ ?side1 ?side2 A2.out).mono ?_); (case side1 => repeat (first | exact HR0.out | (with_reducible refine Kd.C_alloc ?_ _) | (with_reducible refine Kd.C_drewN ?_ _) | (with_reducible refine Kd.C_drew ?_))); (case side2 => exact HC0.out); rintro e w' ⟨rfl, ⟨nd, rfl⟩⟩; (try first | exact ⟨rfl, _, World.drewN_drewN _ _ _⟩ | exact ⟨rfl, _, Eq.trans (World.drewN_drewN _ _ _) (congrArg (World.drewN _) (Nat.add_assoc _ _ _))⟩)))
    repeat (go_quiet (first | (go_at_call 107; (with_reducible refine (impl_isShop.calls k _ _ l0 true _ ?side1 ?side2 A2.out).mono ?_); (case side1 => repeat (first | exact HR0.out | (with_reducible refine Kd.C_alloc ?_ _) | (with_reducible refine Kd.C_drewN ?_ _) | (with_reducible refine Kd.C_drew ?_))); (case side2 => exact HC0.out); rintro e w' ⟨rfl, ⟨nd, rfl⟩⟩; (try first | exact ⟨rfl, _, World.drewN_drewN _ _ _⟩ | exact ⟨rfl, _, Eq.trans (World.drewN_drewN _ _ _) (congrArg (World.drewN _) (Nat.add_assoc _ _ _))⟩))); try go_wp2_with (first | (go_at_call 107; (with_reducible refine (impl_isShop.calls k _ _ l0 true _ ?side1 ?side2 A2.out).mono ?_); (case side1 => repeat (first | exact HR0.out | (with_reducible refine Kd.C_alloc ?_ _) | (with_reducible refine Kd.C_drewN ?_ _) | (with_reducible refine Kd.C_drew ?_))); (case side2 => exact HC0.out); rintro e w' ⟨rfl, ⟨nd, rfl⟩⟩; (try first | exact ⟨rfl, _, World.drewN_drewN _ _ _⟩ | exact ⟨rfl, _, Eq.trans (World.drewN_drewN _ _ _) (congrArg (World.drewN _) (Nat.add_assoc _ _ _))⟩))))
    go_loopg [4, 5] k (fun kq v4 v5 w' => ∃ (x4_1 : Int) (x5_1 : Int), v4 = .int .i64 x4_1 ∧ v5 = .int .i64 x5_1 ∧ Aside0 (impl_FlowBound.l0 kq l0 x4_1 x5_1 = some (r1, r2)) ∧ Aside0 (kq ≤ k) ∧ Aside0 (Below w.heap.size w w'))
    case atStart => exact ⟨(0), (0), (by first | rfl | (simp; done) | (simp [*]; done)), (by first | rfl | (simp; done) | (simp [*]; done)), H', ⟨Nat.le_refl _⟩, ⟨by repeat (first | (with_reducible first | exact HB.out | apply below_alloc | apply pw_below_drewN | apply below_drew1) | exact HB.out)⟩⟩
    case round =>
      clear H'
      try clear p2
      try clear c3
      obtain ⟨x4_1, x5_1, rfl, rfl, HA, HK1, HB⟩ := hrel
      cases gk with
      | zero => exact absurd HA.out (by simp [impl_FlowBound.l0])
      | succ k1 =>
        have H := HA.out
        clear HA
        simp only [impl_FlowBound.l0] at H
        have HC4 := Aside0.mk H
        clear H
        go_upto_region 5 with (fail)
        repeat (go_quiet (fail); go_upto_region 5 with (fail))
        go_cut [24] (fun v24 wc => ∃ (kq : Nat) (x24_3 : Bool), v24 = .bool x24_3 ∧ Aside0 (impl_FlowBound.j1 kq l0 x4_1 x5_1 x24_3 = some (r1, r2)) ∧ Aside0 (kq ≤ k1) ∧ Aside0 (Below w.heap.size w wc))
        case first =>
          have H := HC4.out
          clear HC4
          replace H := Option.bind_eq_some_iff.mp H
          obtain ⟨t152, A50, H⟩ := H
          replace H : (if x5_1 < t152 then (impl_FlowBound.j1 k1 l0 x4_1 x5_1 (decide ((l0.length : Int) > 0))) else (impl_FlowBound.j1 k1 l0 x4_1 x5_1 false)) = some (r1, r2) := H
          have A5 := Aside0.mk A50
          clear A50
          by_cases c6 : x5_1 < t152
          · rw [if_pos c6] at H
            have c6b0 : decide (x5_1 < t152) = true := decide_eq_true c6
            clear c6
            (first | rw [c6b0] | (simp only [i64_w, i32_w]; rw [c6b0]) | skip)
            have H' := Aside0.mk H
            clear H
            go_wp2_with (first | (go_at_call 108; (with_reducible refine (impl_machinesOf.calls _ _ l0 t152 _ ?side1 ?side2 A5.out).mono ?_); (case side1 => repeat (first | exact (Kd.C_below HR0.out HB.out) | (with_reducible refine Kd.C_alloc ?_ _) | (with_reducible refine Kd.C_drewN ?_ _) | (with_reducible refine Kd.C_drew ?_))); (case side2 => exact HC0.out); rintro e w' ⟨rfl, ⟨nd, rfl⟩⟩; (try first | exact ⟨rfl, _, World.drewN_drewN _ _ _⟩ | exact ⟨rfl, _, Eq.trans (World.drewN_drewN _ _ _) (congrArg (World.drewN _) (Nat.add_assoc _ _ _))⟩)))
            repeat (go_quiet (first | (go_at_call 108; (with_reducible refine (impl_machinesOf.calls _ _ l0 t152 _ ?side1 ?side2 A5.out).mono ?_); (case side1 => repeat (first | exact (Kd.C_below HR0.out HB.out) | (with_reducible refine Kd.C_alloc ?_ _) | (with_reducible refine Kd.C_drewN ?_ _) | (with_reducible refine Kd.C_drew ?_))); (case side2 => exact HC0.out); rintro e w' ⟨rfl, ⟨nd, rfl⟩⟩; (try first | exact ⟨rfl, _, World.drewN_drewN _ _ _⟩ | exact ⟨rfl, _, Eq.trans (World.drewN_drewN _ _ _) (congrArg (World.drewN _) (Nat.add_assoc _ _ _))⟩))); try go_wp2_with (first | (go_at_call 108; (with_reducible refine (impl_machinesOf.calls _ _ l0 t152 _ ?side1 ?side2 A5.out).mono ?_); (case side1 => repeat (first | exact (Kd.C_below HR0.out HB.out) | (with_reducible refine Kd.C_alloc ?_ _) | (with_reducible refine Kd.C_drewN ?_ _) | (with_reducible refine Kd.C_drew ?_))); (case side2 => exact HC0.out); rintro e w' ⟨rfl, ⟨nd, rfl⟩⟩; (try first | exact ⟨rfl, _, World.drewN_drewN _ _ _⟩ | exact ⟨rfl, _, Eq.trans (World.drewN_drewN _ _ _) (congrArg (World.drewN _) (Nat.add_assoc _ _ _))⟩))))
            go_meet
            case rel => exact ⟨_, (decide ((l0.length : Int) > 0)), (by first | rfl | (simp; done) | (simp [*]; done)), H', ⟨by have := HK1.out; first | omega | exact Nat.le_refl _⟩, ⟨by repeat (first | (with_reducible first | exact HB.out | apply below_alloc | apply pw_below_drewN | apply below_drew1) | exact HB.out)⟩⟩
          · rw [if_neg c6] at H
            have c6b0 : decide (x5_1 < t152) = false := decide_eq_false c6
            clear c6
            (first | rw [c6b0] | (simp only [i64_w, i32_w]; rw [c6b0]) | skip)
            have H' := Aside0.mk H
            clear H
            go_wp2_with (first | (go_at_call 108; (with_reducible refine (impl_machinesOf.calls _ _ l0 t152 _ ?side1 ?side2 A5.out).mono ?_); (case side1 => repeat (first | exact (Kd.C_below HR0.out HB.out) | (with_reducible refine Kd.C_alloc ?_ _) | (with_reducible refine Kd.C_drewN ?_ _) | (with_reducible refine Kd.C_drew ?_))); (case side2 => exact HC0.out); rintro e w' ⟨rfl, ⟨nd, rfl⟩⟩; (try first | exact ⟨rfl, _, World.drewN_drewN _ _ _⟩ | exact ⟨rfl, _, Eq.trans (World.drewN_drewN _ _ _) (congrArg (World.drewN _) (Nat.add_assoc _ _ _))⟩)))
            repeat (go_quiet (first | (go_at_call 108; (with_reducible refine (impl_machinesOf.calls _ _ l0 t152 _ ?side1 ?side2 A5.out).mono ?_); (case side1 => repeat (first | exact (Kd.C_below HR0.out HB.out) | (with_reducible refine Kd.C_alloc ?_ _) | (with_reducible refine Kd.C_drewN ?_ _) | (with_reducible refine Kd.C_drew ?_))); (case side2 => exact HC0.out); rintro e w' ⟨rfl, ⟨nd, rfl⟩⟩; (try first | exact ⟨rfl, _, World.drewN_drewN _ _ _⟩ | exact ⟨rfl, _, Eq.trans (World.drewN_drewN _ _ _) (congrArg (World.drewN _) (Nat.add_assoc _ _ _))⟩))); try go_wp2_with (first | (go_at_call 108; (with_reducible refine (impl_machinesOf.calls _ _ l0 t152 _ ?side1 ?side2 A5.out).mono ?_); (case side1 => repeat (first | exact (Kd.C_below HR0.out HB.out) | (with_reducible refine Kd.C_alloc ?_ _) | (with_reducible refine Kd.C_drewN ?_ _) | (with_reducible refine Kd.C_drew ?_))); (case side2 => exact HC0.out); rintro e w' ⟨rfl, ⟨nd, rfl⟩⟩; (try first | exact ⟨rfl, _, World.drewN_drewN _ _ _⟩ | exact ⟨rfl, _, Eq.trans (World.drewN_drewN _ _ _) (congrArg (World.drewN _) (Nat.add_assoc _ _ _))⟩))))
            go_meet
            case rel => exact ⟨_, (false), (by first | rfl | (simp; done) | (simp [*]; done)), H', ⟨by have := HK1.out; first | omega | exact Nat.le_refl _⟩, ⟨by repeat (first | (with_reducible first | exact HB.out | apply below_alloc | apply pw_below_drewN | apply below_drew1) | exact HB.out)⟩⟩
        case rest =>
          clear HC4
          try clear p2
          try clear c3
          try clear c4
          try clear c6
          try clear c6b0
          try clear p2
          obtain ⟨kq, x24_3, rfl, HA, HJ3, HB⟩ := hcut
          cases kq with
          | zero => exact absurd HA.out (by simp [impl_FlowBound.j1])
          | succ kj3 =>
            have H := HA.out
            clear HA
            simp only [impl_FlowBound.j1] at H
            by_cases c7 : x24_3 = true
            · subst c7
              have H1 : (impl_FlowBound.l1 kj3 l0 x4_1 x5_1 0 (-1) (-1) l0 (l0.length : Int) 0) = some (r1, r2) := by rw [if_pos rfl] at H; exact H
              clear H
              have H := H1
              clear H1
              have H' := Aside0.mk H
              clear H
              go_wp2
              repeat (go_quiet (fail); try go_wp2)
              go_loopg [6, 7, 8, 29] kj3 (fun kq v6 v7 v8 v29 w' => ∃ (x6_3 : Int) (x7_3 : Int) (x8_3 : Int) (x29_3 : Int), v6 = .int .i64 x6_3 ∧ v7 = .int .i64 x7_3 ∧ v8 = .int .i64 x8_3 ∧ v29 = .int .i64 x29_3 ∧ Aside0 (impl_FlowBound.l1 kq l0 x4_1 x5_1 x6_3 x7_3 x8_3 l0 (l0.length : Int) x29_3 = some (r1, r2)) ∧ Aside0 (kq ≤ kj3) ∧ Aside0 (Below w.heap.size w w'))
              case atStart => exact ⟨(0), ((-1)), ((-1)), (0), (by first | rfl | (simp; done) | (simp [*]; done)), (by first | rfl | (simp; done) | (simp [*]; done)), (by first | rfl | (simp; done) | (simp [*]; done)), (by first | rfl | (simp; done) | (simp [*]; done)), H', ⟨Nat.le_refl _⟩, ⟨by repeat (first | (with_reducible first | exact HB.out | apply below_alloc | apply pw_below_drewN | apply below_drew1) | exact HB.out)⟩⟩
              case round =>
                clear H'
                try clear p2
                try clear c3
                try clear c4
                try clear c6
                try clear c6b0
                try clear c7
                try clear p2
                obtain ⟨x6_3, x7_3, x8_3, x29_3, rfl, rfl, rfl, rfl, HA, HK3, HB⟩ := hrel
                cases gk with
                | zero => exact absurd HA.out (by simp [impl_FlowBound.l1])
                | succ k3 =>
                  have H := HA.out
                  clear HA
                  simp only [impl_FlowBound.l1] at H
                  by_cases c8 : x29_3 < (l0.length : Int)
                  · rw [if_pos c8] at H
                    have c8b0 : decide (x29_3 < (l0.length : Int)) = true := decide_eq_true c8
                    clear c8
                    by_cases c9 : 0 ≤ x29_3
                    · rw [if_pos c9] at H
                      have c9b0 : decide (0 ≤ x29_3) = true := decide_eq_true c9
                      clear c9
                      by_cases c10 : x29_3 < (l0.length : Int)
                      · rw [if_pos c10] at H
                        have c10b0 : decide (x29_3 < (l0.length : Int)) = true := decide_eq_true c10
                        clear c10
                        by_cases c11 : 0 ≤ x5_1
                        · rw [if_pos c11] at H
                          have c11b0 := eq_true c11
                          have c11b1 : decide (0 ≤ x5_1) = true := decide_eq_true c11
                          clear c11
                          by_cases c12 : x5_1 ≤ ((rd_L1 l0 x29_3).length : Int)
                          · rw [if_pos c12] at H
                            have c12b0 := eq_true c12
                            have c12b1 : decide (x5_1 ≤ ((rd_L1 l0 x29_3).length : Int)) = true := decide_eq_true c12
                            clear c12
                            replace H := Option.bind_eq_some_iff.mp H
                            obtain ⟨t155, A130, H⟩ := H
                            replace H : (if 0 ≤ (wrap64 (x5_1 + 1)) then (if (wrap64 (x5_1 + 1)) ≤ ((rd_L1 l0 x29_3).length : Int) then ((impl_sum.f k3 ((rd_L1 l0 x29_3).drop ((wrap64 (x5_1 + 1)) : Int).toNat)).bind fun t157 => (if x7_3 < 0 then (impl_FlowBound.j3 k3 l0 x4_1 x5_1 x6_3 x7_3 x8_3 (rd_L1 l0 x29_3) t155 t157 l0 (l0.length : Int) x29_3 true) else (impl_FlowBound.j3 k3 l0 x4_1 x5_1 x6_3 x7_3 x8_3 (rd_L1 l0 x29_3) t155 t157 l0 (l0.length : Int) x29_3 (decide (t155 < x7_3))))) else (none)) else (none)) = some (r1, r2) := H
                            have A13 := Aside0.mk A130
                            clear A130
                            obtain ⟨ji14, hji14⟩ : ∃ j_ : Int, (wrap64 (x5_1 + 1)) = j_ := ⟨_, rfl⟩
                            replace H : (if 0 ≤ (ji14) then (if (ji14) ≤ ((rd_L1 l0 x29_3).length : Int) then ((impl_sum.f k3 ((rd_L1 l0 x29_3).drop ((ji14) : Int).toNat)).bind fun t157 => (if x7_3 < 0 then (impl_FlowBound.j3 k3 l0 x4_1 x5_1 x6_3 x7_3 x8_3 (rd_L1 l0 x29_3) t155 t157 l0 (l0.length : Int) x29_3 true) else (impl_FlowBound.j3 k3 l0 x4_1 x5_1 x6_3 x7_3 x8_3 (rd_L1 l0 x29_3) t155 t157 l0 (l0.length : Int) x29_3 (decide (t155 < x7_3))))) else (none)) else (none)) = some (r1, r2) := by first | (rw [hji14] at H; exact H) | (simp only [hji14] at H ⊢; exact H)
                            (try rw [hji14] at A13)
                            have hji14w : (IntKind.i64.wrap (x5_1 + 1)) = ji14 := (i64_w _).trans hji14
                            by_cases c15 : 0 ≤ (ji14)
                            · rw [if_pos c15] at H
                              have c15b0 := eq_true c15
                              have c15b1 : decide (0 ≤ (ji14)) = true := decide_eq_true c15
                              clear c15
                              by_cases c16 : (ji14) ≤ ((rd_L1 l0 x29_3).length : Int)
                              · rw [if_pos c16] at H
                                have c16b0 := eq_true c16
                                have c16b1 : decide ((ji14) ≤ ((rd_L1 l0 x29_3).length : Int)) = true := decide_eq_true c16
                                clear c16
                                replace H := Option.bind_eq_some_iff.mp H
                                obtain ⟨t157, A170, H⟩ := H
                                replace H : (if x7_3 < 0 then (impl_FlowBound.j3 k3 l0 x4_1 x5_1 x6_3 x7_3 x8_3 (rd_L1 l0 x29_3) t155 t157 l0 (l0.length : Int) x29_3 true) else (impl_FlowBound.j3 k3 l0 x4_1 x5_1 x6_3 x7_3 x8_3 (rd_L1 l0 x29_3) t155 t157 l0 (l0.length : Int) x29_3 (decide (t155 < x7_3)))) = some (r1, r2) := H
                                have A17 := Aside0.mk A170
                                clear A170
                                have HC18 := Aside0.mk H
                                clear H
                                have p153 : 0 ≤ (x29_3 : Int) := of_decide_eq_true (by first | (with_reducible assumption) | assumption)
                                have q153 : x29_3 < (l0.length : Int) := of_decide_eq_true (by first | (with_reducible assumption) | assumption)
                                obtain ⟨ad153, A153_0, c153_0, e153, hx153_0, hl153_0, hi153_0⟩ := at_L1 HR0.out x29_3 p153 q153
                                cases e153
                                replace hx153_0 := (HB.out.cell (World.block_lt_of_cell? w _ hx153_0)).trans hx153_0
                                have HR153_0 := Aside0.mk hi153_0
                                have HC153_0 := Aside0.mk hl153_0
                                clear hi153_0 hl153_0
                                replace p153 := eq_true p153
                                replace q153 := eq_true q153
                                obtain ⟨i019, hi019, _, hsz19, _⟩ := info_parts info3
                                obtain ⟨hcut19, hA19, hC19⟩ := print_take_of (P := Try.prog) (Value.int .i64) 0 42 3 .i64 Try.underlying42 hi019 hsz19 A153_0 c153_0 (rd_L1 l0 x29_3) x5_1 (of_decide_eq_true (by first | (with_reducible assumption) | assumption)) (of_decide_eq_true (by first | (with_reducible assumption) | assumption)) HC153_0.out
                                have HR154 := Aside0.mk (Kd.C_of_reads (h1 := fun _ => rfl) (hA19 _ (Kd.reads_of_C HR153_0.out)))
                                have HC154 := Aside0.mk hC19
                                clear hA19 hC19 hi019 hsz19
                                obtain ⟨i020, hi020, _, hsz20, _⟩ := info_parts info3
                                obtain ⟨A20, hcut20, hA20, hC20⟩ := print_drop_of (P := Try.prog) (Value.int .i64) 0 42 3 .i64 Try.underlying42 hi020 hsz20 A153_0 c153_0 (rd_L1 l0 x29_3) (ji14) (of_decide_eq_true (by first | (with_reducible assumption) | assumption)) (of_decide_eq_true (by first | (with_reducible assumption) | assumption)) HC153_0.out
                                have HR156 := Aside0.mk (Kd.C_of_reads (h1 := fun _ => rfl) (hA20 _ (Kd.reads_of_C HR153_0.out)))
                                have HC156 := Aside0.mk hC20
                                clear hA20 hC20 hi020 hsz20
                                go_upto_region 12 with (first | (go_at_call 109; refine calls_of_args (args' := #[.slice A153_0 ((rd_L1 l0 x29_3).take (x5_1 : Int).toNat).length c153_0]) (by first | (rw [List.length_take, Nat.min_eq_left (by have h_ : (x5_1 : Int) ≤ ((rd_L1 l0 x29_3).length : Int) := of_decide_eq_true (by first | (with_reducible assumption) | assumption); omega)] <;> rfl) | rfl) ?_; (with_reducible refine (impl_sum.calls k3 _ _ ((rd_L1 l0 x29_3).take (x5_1 : Int).toNat) t155 _ ?side1 ?side2 A13.out).mono ?_); (case side1 => repeat (first | exact (Kd.C_below HR154.out HB.out) | (with_reducible refine Kd.C_alloc ?_ _) | (with_reducible refine Kd.C_drewN ?_ _) | (with_reducible refine Kd.C_drew ?_))); (case side2 => exact HC154.out); rintro e w' ⟨rfl, ⟨nd, rfl⟩⟩; (try first | exact ⟨rfl, _, World.drewN_drewN _ _ _⟩ | exact ⟨rfl, _, Eq.trans (World.drewN_drewN _ _ _) (congrArg (World.drewN _) (Nat.add_assoc _ _ _))⟩)) | (go_at_call 109; refine calls_of_args (args' := #[.slice A20 ((rd_L1 l0 x29_3).drop ((ji14) : Int).toNat).length (c153_0 - (ji14).toNat)]) (by first | (simp only [List.length_drop] <;> rfl) | rfl) ?_; (with_reducible refine (impl_sum.calls k3 _ _ ((rd_L1 l0 x29_3).drop ((ji14) : Int).toNat) t157 _ ?side1 ?side2 A17.out).mono ?_); (case side1 => repeat (first | exact (Kd.C_below HR156.out (by repeat (first | (with_reducible first | exact HB.out | apply below_alloc | apply pw_below_drewN | apply below_drew1) | exact HB.out))) | (with_reducible refine Kd.C_alloc ?_ _) | (with_reducible refine Kd.C_drewN ?_ _) | (with_reducible refine Kd.C_drew ?_))); (case side2 => exact HC156.out); rintro e w' ⟨rfl, ⟨nd, rfl⟩⟩; (try first | exact ⟨rfl, _, World.drewN_drewN _ _ _⟩ | exact ⟨rfl, _, Eq.trans (World.drewN_drewN _ _ _) (congrArg (World.drewN _) (Nat.add_assoc _ _ _))⟩)))
                                repeat (go_quiet (first | (go_at_call 109; refine calls_of_args (args' := #[.slice A153_0 ((rd_L1 l0 x29_3).take (x5_1 : Int).toNat).length c153_0]) (by first | (rw [List.length_take, Nat.min_eq_left (by have h_ : (x5_1 : Int) ≤ ((rd_L1 l0 x29_3).length : Int) := of_decide_eq_true (by first | (with_reducible assumption) | assumption); omega)] <;> rfl) | rfl) ?_; (with_reducible refine (impl_sum.calls k3 _ _ ((rd_L1 l0 x29_3).take (x5_1 : Int).toNat) t155 _ ?side1 ?side2 A13.out).mono ?_); (case side1 => repeat (first | exact (Kd.C_below HR154.out HB.out) | (with_reducible refine Kd.C_alloc ?_ _) | (with_reducible refine Kd.C_drewN ?_ _) | (with_reducible refine Kd.C_drew ?_))); (case side2 => exact HC154.out); rintro e w' ⟨rfl, ⟨nd, rfl⟩⟩; (try first | exact ⟨rfl, _, World.drewN_drewN _ _ _⟩ | exact ⟨rfl, _, Eq.trans (World.drewN_drewN _ _ _) (congrArg (World.drewN _) (Nat.add_assoc _ _ _))⟩)) | (go_at_call 109; refine calls_of_args (args' := #[.slice A20 ((rd_L1 l0 x29_3).drop ((ji14) : Int).toNat).length (c153_0 - (ji14).toNat)]) (by first | (simp only [List.length_drop] <;> rfl) | rfl) ?_; (with_reducible refine (impl_sum.calls k3 _ _ ((rd_L1 l0 x29_3).drop ((ji14) : Int).toNat) t157 _ ?side1 ?side2 A17.out).mono ?_); (case side1 => repeat (first | exact (Kd.C_below HR156.out (by repeat (first | (with_reducible first | exact HB.out | apply below_alloc | apply pw_below_drewN | apply below_drew1) | exact HB.out))) | (with_reducible refine Kd.C_alloc ?_ _) | (with_reducible refine Kd.C_drewN ?_ _) | (with_reducible refine Kd.C_drew ?_))); (case side2 => exact HC156.out); rintro e w' ⟨rfl, ⟨nd, rfl⟩⟩; (try first | exact ⟨rfl, _, World.drewN_drewN _ _ _⟩ | exact ⟨rfl, _, Eq.trans (World.drewN_drewN _ _ _) (congrArg (World.drewN _) (Nat.add_assoc _ _ _))⟩))); go_upto_region 12 with (first | (go_at_call 109; refine calls_of_args (args' := #[.slice A153_0 ((rd_L1 l0 x29_3).take (x5_1 : Int).toNat).length c153_0]) (by first | (rw [List.length_take, Nat.min_eq_left (by have h_ : (x5_1 : Int) ≤ ((rd_L1 l0 x29_3).length : Int) := of_decide_eq_true (by first | (with_reducible assumption) | assumption); omega)] <;> rfl) | rfl) ?_; (with_reducible refine (impl_sum.calls k3 _ _ ((rd_L1 l0 x29_3).take (x5_1 : Int).toNat) t155 _ ?side1 ?side2 A13.out).mono ?_); (case side1 => repeat (first | exact (Kd.C_below HR154.out HB.out) | (with_reducible refine Kd.C_alloc ?_ _) | (with_reducible refine Kd.C_drewN ?_ _) | (with_reducible refine Kd.C_drew ?_))); (case side2 => exact HC154.out); rintro e w' ⟨rfl, ⟨nd, rfl⟩⟩; (try first | exact ⟨rfl, _, World.drewN_drewN _ _ _⟩ | exact ⟨rfl, _, Eq.trans (World.drewN_drewN _ _ _) (congrArg (World.drewN _) (Nat.add_assoc _ _ _))⟩)) | (go_at_call 109; refine calls_of_args (args' := #[.slice A20 ((rd_L1 l0 x29_3).drop ((ji14) : Int).toNat).length (c153_0 - (ji14).toNat)]) (by first | (simp only [List.length_drop] <;> rfl) | rfl) ?_; (with_reducible refine (impl_sum.calls k3 _ _ ((rd_L1 l0 x29_3).drop ((ji14) : Int).toNat) t157 _ ?side1 ?side2 A17.out).mono ?_); (case side1 => repeat (first | exact (Kd.C_below HR156.out (by repeat (first | (with_reducible first | exact HB.out | apply below_alloc | apply pw_below_drewN | apply below_drew1) | exact HB.out))) | (with_reducible refine Kd.C_alloc ?_ _) | (with_reducible refine Kd.C_drewN ?_ _) | (with_reducible refine Kd.C_drew ?_))); (case side2 => exact HC156.out); rintro e w' ⟨rfl, ⟨nd, rfl⟩⟩; (try first | exact ⟨rfl, _, World.drewN_drewN _ _ _⟩ | exact ⟨rfl, _, Eq.trans (World.drewN_drewN _ _ _) (congrArg (World.drewN _) (Nat.add_assoc _ _ _))⟩))))
                                (try simp only [Act.put, List.setIfInBounds_toArray, List.set_cons_zero, List.set_cons_succ])
                                go_cut [48] (fun v48 wc => ∃ (kq : Nat) (x48_17 : Bool), v48 = .bool x48_17 ∧ Aside0 (impl_FlowBound.j3 kq l0 x4_1 x5_1 x6_3 x7_3 x8_3 (rd_L1 l0 x29_3) t155 t157 l0 (l0.length : Int) x29_3 x48_17 = some (r1, r2)) ∧ Aside0 (kq ≤ k3) ∧ Aside0 (Below w.heap.size w wc))
                                case first =>
                                  have H := HC18.out
                                  clear HC18
                                  by_cases c21 : x7_3 < 0
                                  · rw [if_pos c21] at H
                                    have c21b0 : decide (x7_3 < 0) = true := decide_eq_true c21
                                    clear c21
                                    (first | rw [c21b0] | (simp only [i64_w, i32_w]; rw [c21b0]) | skip)
                                    have H' := Aside0.mk H
                                    clear H
                                    go_wp2
                                    repeat (go_quiet (fail); try go_wp2)
                                    go_meet
                                    case rel => exact ⟨_, (true), (by first | rfl | (simp; done) | (simp [*]; done)), H', ⟨by have := HK1.out; have := HJ3.out; have := HK3.out; first | omega | exact Nat.le_refl _⟩, ⟨by repeat (first | (with_reducible first | exact HB.out | apply below_alloc | apply pw_below_drewN | apply below_drew1) | exact HB.out)⟩⟩
                                  · rw [if_neg c21] at H
                                    have c21b0 : decide (x7_3 < 0) = false := decide_eq_false c21
                                    clear c21
                                    (first | rw [c21b0] | (simp only [i64_w, i32_w]; rw [c21b0]) | skip)
                                    have H' := Aside0.mk H
                                    clear H
                                    go_wp2
                                    repeat (go_quiet (fail); try go_wp2)
                                    go_meet
                                    case rel => exact ⟨_, (decide (t155 < x7_3)), (by first | rfl | (simp; done) | (simp [*]; done)), H', ⟨by have := HK1.out; have := HJ3.out; have := HK3.out; first | omega | exact Nat.le_refl _⟩, ⟨by repeat (first | (with_reducible first | exact HB.out | apply below_alloc | apply pw_below_drewN | apply below_drew1) | exact HB.out)⟩⟩
                                case rest =>
                                  clear HC18
                                  try clear c1
                                  try clear p1
                                  try clear q1
                                  try clear hx1
                                  try clear c2
                                  try clear p2
                                  try clear c3
                                  try clear c4
                                  try clear c6
                                  try clear c6b0
                                  try clear p6
                                  try clear c7
                                  try clear c8
                                  try clear c8b0
                                  try clear c9
                                  try clear c9b0
                                  try clear c10
                                  try clear c10b0
                                  try clear c11
                                  try clear c11b0
                                  try clear c11b1
                                  try clear c12
                                  try clear c12b0
                                  try clear c12b1
                                  try clear c15
                                  try clear c15b0
                                  try clear c15b1
                                  try clear p15
                                  try clear q15
                                  try clear hx15
                                  try clear c16
                                  try clear c16b0
                                  try clear c16b1
                                  try clear c21
                                  try clear c21b0
                                  try clear hx153_0
                                  try clear p153
                                  try clear p2
                                  try clear q153
                                  obtain ⟨kq, x48_17, rfl, HA, HJ17, HB⟩ := hcut
                                  cases kq with
                                  | zero => exact absurd HA.out (by simp [impl_FlowBound.j3])
                                  | succ kj17 =>
                                    have H := HA.out
                                    clear HA
                                    simp only [impl_FlowBound.j3] at H
                                    by_cases c22 : x48_17 = true
                                    · subst c22
                                      have H1 : (if x8_3 < 0 then (if 0 ≤ x5_1 then (if x5_1 < ((rd_L1 l0 x29_3).length : Int) then (impl_FlowBound.l1 kj17 l0 x4_1 x5_1 (wrap64 (x6_3 + (rd (rd_L1 l0 x29_3) x5_1))) t155 t157 l0 (l0.length : Int) (wrap64 (x29_3 + 1))) else (none)) else (none)) else (if t157 < x8_3 then (if 0 ≤ x5_1 then (if x5_1 < ((rd_L1 l0 x29_3).length : Int) then (impl_FlowBound.l1 kj17 l0 x4_1 x5_1 (wrap64 (x6_3 + (rd (rd_L1 l0 x29_3) x5_1))) t155 t157 l0 (l0.length : Int) (wrap64 (x29_3 + 1))) else (none)) else (none)) else (if 0 ≤ x5_1 then (if x5_1 < ((rd_L1 l0 x29_3).length : Int) then (impl_FlowBound.l1 kj17 l0 x4_1 x5_1 (wrap64 (x6_3 + (rd (rd_L1 l0 x29_3) x5_1))) t155 x8_3 l0 (l0.length : Int) (wrap64 (x29_3 + 1))) else (none)) else (none)))) = some (r1, r2) := by rw [if_pos rfl] at H; exact H
                                      clear H
                                      have H := H1
                                      clear H1
                                      by_cases c23 : x8_3 < 0
                                      · rw [if_pos c23] at H
                                        have c23b0 : decide (x8_3 < 0) = true := decide_eq_true c23
                                        clear c23
                                        by_cases c24 : 0 ≤ x5_1
                                        · rw [if_pos c24] at H
                                          have c24b0 : decide (0 ≤ x5_1) = true := decide_eq_true c24
                                          clear c24
                                          by_cases c25 : x5_1 < ((rd_L1 l0 x29_3).length : Int)
                                          · rw [if_pos c25] at H
                                            have c25b0 : decide (x5_1 < ((rd_L1 l0 x29_3).length : Int)) = true := decide_eq_true c25
                                            clear c25
                                            have H' := Aside0.mk H
                                            clear H
                                            have p158 : 0 ≤ (x5_1 : Int) := of_decide_eq_true (by first | (with_reducible assumption) | assumption)
                                            have q158 : x5_1 < ((rd_L1 l0 x29_3).length : Int) := of_decide_eq_true (by first | (with_reducible assumption) | assumption)
                                            obtain ⟨ad158, e158, hx158_0⟩ := Kd.at_int HR153_0.out x5_1 p158 q158
                                            cases e158
                                            replace hx158_0 := (HB.out.cell (World.block_lt_of_cell? w _ hx158_0)).trans hx158_0
                                            replace p158 := eq_true p158
                                            replace q158 := eq_true q158
                                            go_wp2
                                            repeat (go_quiet (fail); try go_wp2)
                                            go_roundg kj17
                                            case measure => have := HK1.out; have := HJ3.out; have := HK3.out; have := HJ17.out; omega
                                            case rel => exact ⟨(wrap64 (x6_3 + (rd (rd_L1 l0 x29_3) x5_1))), (t155), (t157), (wrap64 (x29_3 + 1)), (by first | rfl | (simp; done) | (simp [*]; done)), (by first | rfl | (simp; done) | (simp [*]; done)), (by first | rfl | (simp; done) | (simp [*]; done)), (by first | rfl | (simp; done) | (simp [*]; done)), H', ⟨by have := HK1.out; have := HJ3.out; have := HK3.out; have := HJ17.out; omega⟩, ⟨by repeat (first | (with_reducible first | exact HB.out | apply below_alloc | apply pw_below_drewN | apply below_drew1) | exact HB.out)⟩⟩
                                          · rw [if_neg c25] at H
                                            exact absurd H (by simp)
                                        · rw [if_neg c24] at H
                                          exact absurd H (by simp)
                                      · rw [if_neg c23] at H
                                        have c23b0 : decide (x8_3 < 0) = false := decide_eq_false c23
                                        clear c23
                                        by_cases c26 : t157 < x8_3
                                        · rw [if_pos c26] at H
                                          have c26b0 : decide (t157 < x8_3) = true := decide_eq_true c26
                                          clear c26
                                          by_cases c27 : 0 ≤ x5_1
                                          · rw [if_pos c27] at H
                                            have c27b0 : decide (0 ≤ x5_1) = true := decide_eq_true c27
                                            clear c27
                                            by_cases c28 : x5_1 < ((rd_L1 l0 x29_3).length : Int)
                                            · rw [if_pos c28] at H
                                              have c28b0 : decide (x5_1 < ((rd_L1 l0 x29_3).length : Int)) = true := decide_eq_true c28
                                              clear c28
                                              have H' := Aside0.mk H
                                              clear H
                                              have p159 : 0 ≤ (x5_1 : Int) := of_decide_eq_true (by first | (with_reducible assumption) | assumption)
                                              have q159 : x5_1 < ((rd_L1 l0 x29_3).length : Int) := of_decide_eq_true (by first | (with_reducible assumption) | assumption)
                                              obtain ⟨ad159, e159, hx159_0⟩ := Kd.at_int HR153_0.out x5_1 p159 q159
                                              cases e159
                                              replace hx159_0 := (HB.out.cell (World.block_lt_of_cell? w _ hx159_0)).trans hx159_0
                                              replace p159 := eq_true p159
                                              replace q159 := eq_true q159
                                              go_wp2
                                              repeat (go_quiet (fail); try go_wp2)
                                              go_roundg kj17
                                              case measure => have := HK1.out; have := HJ3.out; have := HK3.out; have := HJ17.out; omega
                                              case rel => exact ⟨(wrap64 (x6_3 + (rd (rd_L1 l0 x29_3) x5_1))), (t155), (t157), (wrap64 (x29_3 + 1)), (by first | rfl | (simp; done) | (simp [*]; done)), (by first | rfl | (simp; done) | (simp [*]; done)), (by first | rfl | (simp; done) | (simp [*]; done)), (by first | rfl | (simp; done) | (simp [*]; done)), H', ⟨by have := HK1.out; have := HJ3.out; have := HK3.out; have := HJ17.out; omega⟩, ⟨by repeat (first | (with_reducible first | exact HB.out | apply below_alloc | apply pw_below_drewN | apply below_drew1) | exact HB.out)⟩⟩
                                            · rw [if_neg c28] at H
                                              exact absurd H (by simp)
                                          · rw [if_neg c27] at H
                                            exact absurd H (by simp)
                                        · rw [if_neg c26] at H
                                          have c26b0 : decide (t157 < x8_3) = false := decide_eq_false c26
                                          clear c26
                                          by_cases c29 : 0 ≤ x5_1
                                          · rw [if_pos c29] at H
                                            have c29b0 : decide (0 ≤ x5_1) = true := decide_eq_true c29
                                            clear c29
                                            by_cases c30 : x5_1 < ((rd_L1 l0 x29_3).length : Int)
                                            · rw [if_pos c30] at H
                                              have c30b0 : decide (x5_1 < ((rd_L1 l0 x29_3).length : Int)) = true := decide_eq_true c30
                                              clear c30
                                              have H' := Aside0.mk H
                                              clear H
                                              have p160 : 0 ≤ (x5_1 : Int) := of_decide_eq_true (by first | (with_reducible assumption) | assumption)
                                              have q160 : x5_1 < ((rd_L1 l0 x29_3).length : Int) := of_decide_eq_true (by first | (with_reducible assumption) | assumption)
                                              obtain ⟨ad160, e160, hx160_0⟩ := Kd.at_int HR153_0.out x5_1 p160 q160
                                              cases e160
                                              replace hx160_0 := (HB.out.cell (World.block_lt_of_cell? w _ hx160_0)).trans hx160_0
                                              replace p160 := eq_true p160
                                              replace q160 := eq_true q160
                                              go_wp2
                                              repeat (go_quiet (fail); try go_wp2)
                                              go_roundg kj17
                                              case measure => have := HK1.out; have := HJ3.out; have := HK3.out; have := HJ17.out; omega
                                              case rel => exact ⟨(wrap64 (x6_3 + (rd (rd_L1 l0 x29_3) x5_1))), (t155), (x8_3), (wrap64 (x29_3 + 1)), (by first | rfl | (simp; done) | (simp [*]; done)), (by first | rfl | (simp; done) | (simp [*]; done)), (by first | rfl | (simp; done) | (simp [*]; done)), (by first | rfl | (simp; done) | (simp [*]; done)), H', ⟨by have := HK1.out; have := HJ3.out; have := HK3.out; have := HJ17.out; omega⟩, ⟨by repeat (first | (with_reducible first | exact HB.out | apply below_alloc | apply pw_below_drewN | apply below_drew1) | exact HB.out)⟩⟩
                                            · rw [if_neg c30] at H
                                              exact absurd H (by simp)
                                          · rw [if_neg c29] at H
                                            exact absurd H (by simp)
                                    · replace c22 := Bool.eq_false_iff.mpr c22
                                      subst c22
                                      have H1 : (if x8_3 < 0 then (if 0 ≤ x5_1 then (if x5_1 < ((rd_L1 l0 x29_3).length : Int) then (impl_FlowBound.l1 kj17 l0 x4_1 x5_1 (wrap64 (x6_3 + (rd (rd_L1 l0 x29_3) x5_1))) x7_3 t157 l0 (l0.length : Int) (wrap64 (x29_3 + 1))) else (none)) else (none)) else (if t157 < x8_3 then (if 0 ≤ x5_1 then (if x5_1 < ((rd_L1 l0 x29_3).length : Int) then (impl_FlowBound.l1 kj17 l0 x4_1 x5_1 (wrap64 (x6_3 + (rd (rd_L1 l0 x29_3) x5_1))) x7_3 t157 l0 (l0.length : Int) (wrap64 (x29_3 + 1))) else (none)) else (none)) else (if 0 ≤ x5_1 then (if x5_1 < ((rd_L1 l0 x29_3).length : Int) then (impl_FlowBound.l1 kj17 l0 x4_1 x5_1 (wrap64 (x6_3 + (rd (rd_L1 l0 x29_3) x5_1))) x7_3 x8_3 l0 (l0.length : Int) (wrap64 (x29_3 + 1))) else (none)) else (none)))) = some (r1, r2) := by rw [if_neg (show ¬ (false = true) by decide)] at H; exact H
                                      clear H
                                      have H := H1
                                      clear H1
                                      by_cases c31 : x8_3 < 0
                                      · rw [if_pos c31] at H
                                        have c31b0 : decide (x8_3 < 0) = true := decide_eq_true c31
                                        clear c31
                                        by_cases c32 : 0 ≤ x5_1
                                        · rw [if_pos c32] at H
                                          have c32b0 : decide (0 ≤ x5_1) = true := decide_eq_true c32
                                          clear c32
                                          by_cases c33 : x5_1 < ((rd_L1 l0 x29_3).length : Int)
                                          · rw [if_pos c33] at H
                                            have c33b0 : decide (x5_1 < ((rd_L1 l0 x29_3).length : Int)) = true := decide_eq_true c33
                                            clear c33
                                            have H' := Aside0.mk H
                                            clear H
                                            have p161 : 0 ≤ (x5_1 : Int) := of_decide_eq_true (by first | (with_reducible assumption) | assumption)
                                            have q161 : x5_1 < ((rd_L1 l0 x29_3).length : Int) := of_decide_eq_true (by first | (with_reducible assumption) | assumption)
                                            obtain ⟨ad161, e161, hx161_0⟩ := Kd.at_int HR153_0.out x5_1 p161 q161
                                            cases e161
                                            replace hx161_0 := (HB.out.cell (World.block_lt_of_cell? w _ hx161_0)).trans hx161_0
                                            replace p161 := eq_true p161
                                            replace q161 := eq_true q161
                                            go_wp2
                                            repeat (go_quiet (fail); try go_wp2)
                                            go_roundg kj17
                                            case measure => have := HK1.out; have := HJ3.out; have := HK3.out; have := HJ17.out; omega
                                            case rel => exact ⟨(wrap64 (x6_3 + (rd (rd_L1 l0 x29_3) x5_1))), (x7_3), (t157), (wrap64 (x29_3 + 1)), (by first | rfl | (simp; done) | (simp [*]; done)), (by first | rfl | (simp; done) | (simp [*]; done)), (by first | rfl | (simp; done) | (simp [*]; done)), (by first | rfl | (simp; done) | (simp [*]; done)), H', ⟨by have := HK1.out; have := HJ3.out; have := HK3.out; have := HJ17.out; omega⟩, ⟨by repeat (first | (with_reducible first | exact HB.out | apply below_alloc | apply pw_below_drewN | apply below_drew1) | exact HB.out)⟩⟩
                                          · rw [if_neg c33] at H
                                            exact absurd H (by simp)
                                        · rw [if_neg c32] at H
                                          exact absurd H (by simp)
                                      · rw [if_neg c31] at H
                                        have c31b0 : decide (x8_3 < 0) = false := decide_eq_false c31
                                        clear c31
                                        by_cases c34 : t157 < x8_3
                                        · rw [if_pos c34] at H
                                          have c34b0 : decide (t157 < x8_3) = true := decide_eq_true c34
                                          clear c34
                                          by_cases c35 : 0 ≤ x5_1
                                          · rw [if_pos c35] at H
                                            have c35b0 : decide (0 ≤ x5_1) = true := decide_eq_true c35
                                            clear c35
                                            by_cases c36 : x5_1 < ((rd_L1 l0 x29_3).length : Int)
                                            · rw [if_pos c36] at H
                                              have c36b0 : decide (x5_1 < ((rd_L1 l0 x29_3).length : Int)) = true := decide_eq_true c36
                                              clear c36
                                              have H' := Aside0.mk H
                                              clear H
                                              have p162 : 0 ≤ (x5_1 : Int) := of_decide_eq_true (by first | (with_reducible assumption) | assumption)
                                              have q162 : x5_1 < ((rd_L1 l0 x29_3).length : Int) := of_decide_eq_true (by first | (with_reducible assumption) | assumption)
                                              obtain ⟨ad162, e162, hx162_0⟩ := Kd.at_int HR153_0.out x5_1 p162 q162
                                              cases e162
                                              replace hx162_0 := (HB.out.cell (World.block_lt_of_cell? w _ hx162_0)).trans hx162_0
                                              replace p162 := eq_true p162
                                              replace q162 := eq_true q162
                                              go_wp2
                                              repeat (go_quiet (fail); try go_wp2)
                                              go_roundg kj17
                                              case measure => have := HK1.out; have := HJ3.out; have := HK3.out; have := HJ17.out; omega
                                              case rel => exact ⟨(wrap64 (x6_3 + (rd (rd_L1 l0 x29_3) x5_1))), (x7_3), (t157), (wrap64 (x29_3 + 1)), (by first | rfl | (simp; done) | (simp [*]; done)), (by first | rfl | (simp; done) | (simp [*]; done)), (by first | rfl | (simp; done) | (simp [*]; done)), (by first | rfl | (simp; done) | (simp [*]; done)), H', ⟨by have := HK1.out; have := HJ3.out; have := HK3.out; have := HJ17.out; omega⟩, ⟨by repeat (first | (with_reducible first | exact HB.out | apply below_alloc | apply pw_below_drewN | apply below_drew1) | exact HB.out)⟩⟩
                                            · rw [if_neg c36] at H
                                              exact absurd H (by simp)
                                          · rw [if_neg c35] at H
                                            exact absurd H (by simp)
                                        · rw [if_neg c34] at H
                                          have c34b0 : decide (t157 < x8_3) = false := decide_eq_false c34
                                          clear c34
                                          by_cases c37 : 0 ≤ x5_1
                                          · rw [if_pos c37] at H
                                            have c37b0 : decide (0 ≤ x5_1) = true := decide_eq_true c37
                                            clear c37
                                            by_cases c38 : x5_1 < ((rd_L1 l0 x29_3).length : Int)
                                            · rw [if_pos c38] at H
                                              have c38b0 : decide (x5_1 < ((rd_L1 l0 x29_3).length : Int)) = true := decide_eq_true c38
                                              clear c38
                                              have H' := Aside0.mk H
                                              clear H
                                              have p163 : 0 ≤ (x5_1 : Int) := of_decide_eq_true (by first | (with_reducible assumption) | assumption)
                                              have q163 : x5_1 < ((rd_L1 l0 x29_3).length : Int) := of_decide_eq_true (by first | (with_reducible assumption) | assumption)
                                              obtain ⟨ad163, e163, hx163_0⟩ := Kd.at_int HR153_0.out x5_1 p163 q163
                                              cases e163
                                              replace hx163_0 := (HB.out.cell (World.block_lt_of_cell? w _ hx163_0)).trans hx163_0
                                              replace p163 := eq_true p163
                                              replace q163 := eq_true q163
                                              go_wp2
                                              repeat (go_quiet (fail); try go_wp2)
                                              go_roundg kj17
                                              case measure => have := HK1.out; have := HJ3.out; have := HK3.out; have := HJ17.out; omega
                                              case rel => exact ⟨(wrap64 (x6_3 + (rd (rd_L1 l0 x29_3) x5_1))), (x7_3), (x8_3), (wrap64 (x29_3 + 1)), (by first | rfl | (simp; done) | (simp [*]; done)), (by first | rfl | (simp; done) | (simp [*]; done)), (by first | rfl | (simp; done) | (simp [*]; done)), (by first | rfl | (simp; done) | (simp [*]; done)), H', ⟨by have := HK1.out; have := HJ3.out; have := HK3.out; have := HJ17.out; omega⟩, ⟨by repeat (first | (with_reducible first | exact HB.out | apply below_alloc | apply pw_below_drewN | apply below_drew1) | exact HB.out)⟩⟩
                                            · rw [if_neg c38] at H
                                              exact absurd H (by simp)
                                          · rw [if_neg c37] at H
                                            exact absurd H (by simp)
                              · rw [if_neg c16] at H
                                exact absurd H (by simp)
                            · rw [if_neg c15] at H
                              exact absurd H (by simp)
                          · rw [if_neg c12] at H
                            exact absurd H (by simp)
                        · rw [if_neg c11] at H
                          exact absurd H (by simp)
                      · rw [if_neg c10] at H
                        exact absurd H (by simp)
                    · rw [if_neg c9] at H
                      exact absurd H (by simp)
                  · rw [if_neg c8] at H
                    have c8b0 : decide (x29_3 < (l0.length : Int)) = false := decide_eq_false c8
                    clear c8
                    obtain ⟨ji39, hji39⟩ : ∃ j_ : Int, (mx x4_1 (wrap64 ((wrap64 (x6_3 + x7_3)) + x8_3))) = j_ := ⟨_, rfl⟩
                    replace H : (impl_FlowBound.l0 k3 l0 ji39 (wrap64 (x5_1 + 1))) = some (r1, r2) := by first | (rw [hji39] at H; exact H) | (simp only [hji39] at H ⊢; exact H)
                    have hji39_ : (if x4_1 < (wrap64 ((wrap64 (x6_3 + x7_3)) + x8_3)) then (wrap64 ((wrap64 (x6_3 + x7_3)) + x8_3)) else x4_1) = ji39 := hji39
                    have H' := Aside0.mk H
                    clear H
                    go_wp2
                    repeat (go_quiet (fail); try go_wp2)
                    go_roundg k3
                    case measure => have := HK1.out; have := HJ3.out; have := HK3.out; omega
                    case rel => exact ⟨(ji39), (wrap64 (x5_1 + 1)), (by first | rfl | (simp; done) | (simp only [← hji39] <;> (first | rfl | simp)) | (simp [*]; done)), (by first | rfl | (simp; done) | (simp [*]; done)), H', ⟨by have := HK1.out; have := HJ3.out; have := HK3.out; omega⟩, ⟨by repeat (first | (with_reducible first | exact HB.out | apply below_alloc | apply pw_below_drewN | apply below_drew1) | exact HB.out)⟩⟩
            · replace c7 := Bool.eq_false_iff.mpr c7
              subst c7
              have H1 : (some (x4_1, true)) = some (r1, r2) := by rw [if_neg (show ¬ (false = true) by decide)] at H; exact H
              clear H
              have H := H1
              clear H1
              simp only [Option.some.injEq, Prod.mk.injEq] at H
              obtain ⟨rfl, rfl⟩ := H
              go_wp2
              repeat (go_quiet (fail); try go_wp2)
              go_ret2
              exact ⟨by first | rfl | (simp [errW_none, errW_some] <;> rfl) | (simp [*, errW_none, errW_some] <;> rfl), by repeat (first | (with_reducible first | exact HB.out | apply below_alloc | apply pw_below_drewN | apply below_drew1) | exact HB.out)⟩
  · replace c3 := Bool.eq_false_iff.mpr c3
    subst c3
    have H1 : (some (0, false)) = some (r1, r2) := by rw [if_neg (show ¬ (false = true) by decide)] at H; exact H
    clear H
    have H := H1
    clear H1
    simp only [Option.some.injEq, Prod.mk.injEq] at H
    obtain ⟨rfl, rfl⟩ := H
    go_enter Try.func49, Try.ntmps49
    go_wp2_with (first | (go_at_call 107; (with_reducible refine (impl_isShop.calls k _ _ l0 false _ ?side1 ?side2 A2.out).mono ?_); (case side1 => repeat (first | exact HR0.out | (with_reducible refine Kd.C_alloc ?_ _) | (with_reducible refine Kd.C_drewN ?_ _) | (with_reducible refine Kd.C_drew ?_))); (case side2 => exact HC0.out); rintro e w' ⟨rfl, ⟨nd, rfl⟩⟩; (try first | exact ⟨rfl, _, World.drewN_drewN _ _ _⟩ | exact ⟨rfl, _, Eq.trans (World.drewN_drewN _ _ _) (congrArg (World.drewN _) (Nat.add_assoc _ _ _))⟩)))
    repeat (go_quiet (first | (go_at_call 107; (with_reducible refine (impl_isShop.calls k _ _ l0 false _ ?side1 ?side2 A2.out).mono ?_); (case side1 => repeat (first | exact HR0.out | (with_reducible refine Kd.C_alloc ?_ _) | (with_reducible refine Kd.C_drewN ?_ _) | (with_reducible refine Kd.C_drew ?_))); (case side2 => exact HC0.out); rintro e w' ⟨rfl, ⟨nd, rfl⟩⟩; (try first | exact ⟨rfl, _, World.drewN_drewN _ _ _⟩ | exact ⟨rfl, _, Eq.trans (World.drewN_drewN _ _ _) (congrArg (World.drewN _) (Nat.add_assoc _ _ _))⟩))); try go_wp2_with (first | (go_at_call 107; (with_reducible refine (impl_isShop.calls k _ _ l0 false _ ?side1 ?side2 A2.out).mono ?_); (case side1 => repeat (first | exact HR0.out | (with_reducible refine Kd.C_alloc ?_ _) | (with_reducible refine Kd.C_drewN ?_ _) | (with_reducible refine Kd.C_drew ?_))); (case side2 => exact HC0.out); rintro e w' ⟨rfl, ⟨nd, rfl⟩⟩; (try first | exact ⟨rfl, _, World.drewN_drewN _ _ _⟩ | exact ⟨rfl, _, Eq.trans (World.drewN_drewN _ _ _) (congrArg (World.drewN _) (Nat.add_assoc _ _ _))⟩))))
    go_ret2
    exact ⟨by first | rfl | (simp [errW_none, errW_some] <;> rfl) | (simp [*, errW_none, errW_some] <;> rfl), by repeat (first | (with_reducible first | exact HB.out | apply below_alloc | apply pw_below_drewN | apply below_drew1) | exact HB.out)⟩

/-! ### laws_FnExactFlowBound: function 8 -/
def laws_FnExactFlowBound.j0 : Nat → List (List Int) → List (List Int) → Bool → Option (Bool)
  | 0, _, _, _ => none
  | k + 1, x0, x6, x34 => if x34 = true then (some false) else ((laws_toIntSS.f k x0).bind fun t175 => ((laws_eqIntSS.f k x6 t175).bind fun t178 => (if t178 = true then (some true) else (some false))))
def laws_FnExactFlowBound.f (k : Nat) (l0 : List (List Int)) : Option (Bool) := (laws_szIntSS.f k l0 1048576).bind fun t164 => (if t164 < 0 then (some true) else ((laws_toIntSS.f k l0).bind fun t165 => ((spec_FlowBound.f k t165).bind fun bt168 => ((laws_toIntSS.f k l0).bind fun t170 => ((impl_FlowBound.f k t170).bind fun bt173 => (if bt173.1 = bt168.1 then (laws_FnExactFlowBound.j0 k l0 t170 (bt173.2 != bt168.2)) else (laws_FnExactFlowBound.j0 k l0 t170 true)))))))
theorem laws_FnExactFlowBound.mono_l : ∀ k, (∀ y0 y1 y2, LeO (laws_FnExactFlowBound.j0 k y0 y1 y2) (laws_FnExactFlowBound.j0 (k + 1) y0 y1 y2))
  | 0 => fun _ _ _ r h => by simp [laws_FnExactFlowBound.j0] at h
  | k + 1 => by
    have ih0 := laws_FnExactFlowBound.mono_l k
    · intro y0 y1 y2
      unfold laws_FnExactFlowBound.j0
      repeat' first
      | (with_reducible exact ih0 _ _ _)
      | (with_reducible exact impl_FlowBound.mono _ _)
      | (with_reducible exact laws_eqIntSS.mono _ _ _)
      | (with_reducible exact laws_szIntSS.mono _ _ _)
      | (with_reducible exact laws_toIntSS.mono _ _)
      | (with_reducible exact spec_FlowBound.mono _ _)
      | (with_reducible exact LeO.refl _)
      | (with_reducible exact LeO.none _)
      | (with_reducible refine LeO.ite ?_ ?_)
      | (with_reducible refine LeO.bind ?_ (fun _ => ?_))
      | exact ih0 _ _ _
      | exact impl_FlowBound.mono _ _
      | exact laws_eqIntSS.mono _ _ _
      | exact laws_szIntSS.mono _ _ _
      | exact laws_toIntSS.mono _ _
      | exact spec_FlowBound.mono _ _
      | exact LeO.none _
      | refine LeO.ite ?_ ?_
      | refine LeO.bind ?_ (fun _ => ?_)
theorem laws_FnExactFlowBound.mono : ∀ a0 k, LeO (laws_FnExactFlowBound.f k a0) (laws_FnExactFlowBound.f (k + 1) a0) := by
  intro a0 k
  have ih0 := laws_FnExactFlowBound.mono_l k
  unfold laws_FnExactFlowBound.f
  repeat' first
      | (with_reducible exact ih0 _ _ _)
      | (with_reducible exact impl_FlowBound.mono _ _)
      | (with_reducible exact laws_eqIntSS.mono _ _ _)
      | (with_reducible exact laws_szIntSS.mono _ _ _)
      | (with_reducible exact laws_toIntSS.mono _ _)
      | (with_reducible exact spec_FlowBound.mono _ _)
      | (with_reducible exact LeO.refl _)
      | (with_reducible exact LeO.none _)
      | (with_reducible refine LeO.ite ?_ ?_)
      | (with_reducible refine LeO.bind ?_ (fun _ => ?_))
      | exact ih0 _ _ _
      | exact impl_FlowBound.mono _ _
      | exact laws_eqIntSS.mono _ _ _
      | exact laws_szIntSS.mono _ _ _
      | exact laws_toIntSS.mono _ _
      | exact spec_FlowBound.mono _ _
      | exact LeO.none _
      | refine LeO.ite ?_ ?_
      | refine LeO.bind ?_ (fun _ => ?_)
set_option maxHeartbeats 8000000 in
set_option maxRecDepth 100000 in
theorem laws_FnExactFlowBound.calls (k : Nat) (A0 : Option Addr) (c0 : Nat) (l0 : List (List Int)) (r : Bool) (w : World) (hr0 : Kd.C (Kd.slice 3 (Kd.int .i64)) w A0 l0.length l0) (hc0 : l0.length ≤ c0) (h : laws_FnExactFlowBound.f k l0 = some r) :
    Calls Try.prog 8 #[.slice A0 l0.length c0] w fun e w' => e = .returned (.bool r) ∧ Below w.heap.size w w' := by
  have HR0 := Aside0.mk hr0
  have HC0 := Aside0.mk hc0
  clear hr0 hc0
  have HB := Aside0.mk (Below.refl w.heap.size w)
  have H : ((laws_szIntSS.f k l0 1048576).bind fun t164 => (if t164 < 0 then (some true) else ((laws_toIntSS.f k l0).bind fun t165 => ((spec_FlowBound.f k t165).bind fun bt168 => ((laws_toIntSS.f k l0).bind fun t170 => ((impl_FlowBound.f k t170).bind fun bt173 => (if bt173.1 = bt168.1 then (laws_FnExactFlowBound.j0 k l0 t170 (bt173.2 != bt168.2)) else (laws_FnExactFlowBound.j0 k l0 t170 true)))))))) = some r := h
  clear h
  replace H := Option.bind_eq_some_iff.mp H
  obtain ⟨t164, A20, H⟩ := H
  replace H : (if t164 < 0 then (some true) else ((laws_toIntSS.f k l0).bind fun t165 => ((spec_FlowBound.f k t165).bind fun bt168 => ((laws_toIntSS.f k l0).bind fun t170 => ((impl_FlowBound.f k t170).bind fun bt173 => (if bt173.1 = bt168.1 then (laws_FnExactFlowBound.j0 k l0 t170 (bt173.2 != bt168.2)) else (laws_FnExactFlowBound.j0 k l0 t170 true))))))) = some r := H
  have A2 := Aside0.mk A20
  clear A20
  by_cases c3 : t164 < 0
  · rw [if_pos c3] at H
    have c3b0 : decide (t164 < 0) = true := decide_eq_true c3
    clear c3
    obtain rfl := Option.some.inj H
    go_enter Try.func8, Try.ntmps8
    go_wp2_with (first | ((with_reducible refine gate_callee (f := 30) rfl ?_); refine goesL_ (some 11) rfl rfl Try.func30 (by kernel_rfl) rfl #[.slice A0 l0.length c0, .int .i64 1048576] rfl (by (try simp only [List.map_toArray, List.map_cons, List.map_nil]); first | done | rfl | (simp only [List.length_drop, List.length_take]; rfl)) ?_; (with_reducible refine (laws_szIntSS.calls k _ _ l0 1048576 t164 _ ?side1 ?side2 A2.out).mono ?_); (case side1 => repeat (first | exact HR0.out | (with_reducible refine Kd.C_alloc ?_ _) | (with_reducible refine Kd.C_drewN ?_ _) | (with_reducible refine Kd.C_drew ?_))); (case side2 => exact HC0.out); rintro e w' ⟨rfl, ⟨nd, rfl⟩⟩; refine ⟨_, rfl, ?_⟩))
    go_ret
    exact ⟨by first | rfl | (simp [errW_none, errW_some] <;> rfl) | (simp [*, errW_none, errW_some] <;> rfl), by repeat (first | (with_reducible first | exact HB.out | apply below_alloc | apply pw_below_drewN | apply below_drew1) | exact HB.out)⟩
  · rw [if_neg c3] at H
    have c3b0 : decide (t164 < 0) = false := decide_eq_false c3
    clear c3
    replace H := Option.bind_eq_some_iff.mp H
    obtain ⟨t165, A40, H⟩ := H
    replace H : ((spec_FlowBound.f k t165).bind fun bt168 => ((laws_toIntSS.f k l0).bind fun t170 => ((impl_FlowBound.f k t170).bind fun bt173 => (if bt173.1 = bt168.1 then (laws_FnExactFlowBound.j0 k l0 t170 (bt173.2 != bt168.2)) else (laws_FnExactFlowBound.j0 k l0 t170 true))))) = some r := H
    have A4 := Aside0.mk A40
    clear A40
    replace H := Option.bind_eq_some_iff.mp H
    obtain ⟨⟨t168, t169⟩, A50, H⟩ := H
    replace H : ((laws_toIntSS.f k l0).bind fun t170 => ((impl_FlowBound.f k t170).bind fun bt173 => (if bt173.1 = t168 then (laws_FnExactFlowBound.j0 k l0 t170 (bt173.2 != t169)) else (laws_FnExactFlowBound.j0 k l0 t170 true)))) = some r := H
    have A5 := Aside0.mk A50
    clear A50
    replace H := Option.bind_eq_some_iff.mp H
    obtain ⟨t170, A60, H⟩ := H
    replace H : ((impl_FlowBound.f k t170).bind fun bt173 => (if bt173.1 = t168 then (laws_FnExactFlowBound.j0 k l0 t170 (bt173.2 != t169)) else (laws_FnExactFlowBound.j0 k l0 t170 true))) = some r := H
    have A6 := Aside0.mk A60
    clear A60
    replace H := Option.bind_eq_some_iff.mp H
    obtain ⟨⟨t173, t174⟩, A70, H⟩ := H
    replace H : (if t173 = t168 then (laws_FnExactFlowBound.j0 k l0 t170 (t174 != t169)) else (laws_FnExactFlowBound.j0 k l0 t170 true)) = some r := H
    have A7 := Aside0.mk A70
    clear A70
    have HC8 := Aside0.mk H
    clear H
    go_enter Try.func8, Try.ntmps8
    go_upto_region 8 with (first | ((with_reducible refine gate_callee (f := 30) rfl ?_); refine goesL_ (some 11) rfl rfl Try.func30 (by kernel_rfl) rfl #[.slice A0 l0.length c0, .int .i64 1048576] rfl (by (try simp only [List.map_toArray, List.map_cons, List.map_nil]); first | done | rfl | (simp only [List.length_drop, List.length_take]; rfl)) ?_; (with_reducible refine (laws_szIntSS.calls k _ _ l0 1048576 t164 _ ?side1 ?side2 A2.out).mono ?_); (case side1 => repeat (first | exact HR0.out | (with_reducible refine Kd.C_alloc ?_ _) | (with_reducible refine Kd.C_drewN ?_ _) | (with_reducible refine Kd.C_drew ?_))); (case side2 => exact HC0.out); rintro e w' ⟨rfl, ⟨nd, rfl⟩⟩; refine ⟨_, rfl, ?_⟩) | ((with_reducible refine gate_callee (f := 32) rfl ?_); refine goesL_ (some 16) rfl rfl Try.func32 (by kernel_rfl) rfl #[.slice A0 l0.length c0] rfl (by (try simp only [List.map_toArray, List.map_cons, List.map_nil]); first | done | rfl | (simp only [List.length_drop, List.length_take]; rfl)) ?_; (with_reducible refine (laws_toIntSS.calls k _ _ l0 t165 _ ?side1 ?side2 A4.out).mono ?_); (case side1 => repeat (first | exact HR0.out | (with_reducible refine Kd.C_alloc ?_ _) | (with_reducible refine Kd.C_drewN ?_ _) | (with_reducible refine Kd.C_drew ?_))); (case side2 => exact HC0.out); rintro e w9 ⟨v166, rfl, ho0, hb⟩; refine ⟨_, rfl, ?_⟩; have n0_ := Aside0.mk (Kd.S_lower ho0 (below_size (by repeat (first | (with_reducible first | exact HB.out | apply below_alloc | apply pw_below_drewN | apply below_drew1) | exact HB.out)))); have n1_ := Aside0.mk (below_step (by repeat (first | (with_reducible first | exact HB.out | apply below_alloc | apply pw_below_drewN | apply below_drew1) | exact HB.out)) hb); clear HB; have HO167 := n0_; have HB := n1_; clear n0_ n1_; (try clear hb); (try clear hb2); (try clear hk); (try clear hi); (try clear ho0); obtain ⟨Ao10, co10, eo10⟩ := Kd.S_slice HO167.out; subst eo10) | ((with_reducible refine gate_callee (f := 48) rfl ?_); refine goesL_ (some 17) rfl rfl Try.func48 (by kernel_rfl) rfl #[.slice Ao10 t165.length co10] rfl (by (try simp only [List.map_toArray, List.map_cons, List.map_nil]); first | done | rfl | (simp only [List.length_drop, List.length_take]; rfl)) ?_; (with_reducible refine (spec_FlowBound.calls k _ _ t165 t168 t169 _ ?side1 ?side2 A5.out).mono ?_); (case side1 => repeat (first | exact (Kd.S_reads' HO167.out).2.2 | (with_reducible refine Kd.C_alloc ?_ _) | (with_reducible refine Kd.C_drewN ?_ _) | (with_reducible refine Kd.C_drew ?_))); (case side2 => exact (Kd.S_reads' HO167.out).2.1); rintro e w' ⟨rfl, ⟨nd, rfl⟩⟩; refine ⟨_, rfl, ?_⟩) | ((with_reducible refine gate_callee (f := 32) rfl ?_); refine goesL_ (some 21) rfl rfl Try.func32 (by kernel_rfl) rfl #[.slice A0 l0.length c0] rfl (by (try simp only [List.map_toArray, List.map_cons, List.map_nil]); first | done | rfl | (simp only [List.length_drop, List.length_take]; rfl)) ?_; (with_reducible refine (laws_toIntSS.calls k _ _ l0 t170 _ ?side1 ?side2 A6.out).mono ?_); (case side1 => repeat (first | exact (Kd.C_below HR0.out (by repeat (first | (with_reducible first | exact HB.out | apply below_alloc | apply pw_below_drewN | apply below_drew1) | exact HB.out))) | (with_reducible refine Kd.C_alloc ?_ _) | (with_reducible refine Kd.C_drewN ?_ _) | (with_reducible refine Kd.C_drew ?_))); (case side2 => exact HC0.out); rintro e w11 ⟨v171, rfl, ho0, hb⟩; refine ⟨_, rfl, ?_⟩; have n0_ := Aside0.mk (Kd.S_elder' (by (with_reducible repeat (first | apply Kd.S_alloc | apply Kd.S_drewN | apply Kd.S_drew)); exact HO167.out) (Kd.S_base ho0) hb); have n1_ := Aside0.mk (Kd.S_lower (Kd.S_new' ho0 (Kd.S_lt (by (with_reducible repeat (first | apply Kd.S_alloc | apply Kd.S_drewN | apply Kd.S_drew)); exact HO167.out))) (below_size (by repeat (first | (with_reducible first | exact HB.out | apply below_alloc | apply pw_below_drewN | apply below_drew1) | exact HB.out)))); have n2_ := Aside0.mk (below_step (by repeat (first | (with_reducible first | exact HB.out | apply below_alloc | apply pw_below_drewN | apply below_drew1) | exact HB.out)) hb); clear HO167; clear HB; have HO167 := n0_; have HO172 := n1_; have HB := n2_; clear n0_ n1_ n2_; (try clear hb); (try clear hb2); (try clear hk); (try clear hi); (try clear ho0); obtain ⟨Ao12, co12, eo12⟩ := Kd.S_slice HO172.out; subst eo12) | ((with_reducible refine gate_callee (f := 49) rfl ?_); refine goesL_ (some 24) rfl rfl Try.func49 (by kernel_rfl) rfl #[.slice Ao12 t170.length co12] rfl (by (try simp only [List.map_toArray, List.map_cons, List.map_nil]); first | done | rfl | (simp only [List.length_drop, List.length_take]; rfl)) ?_; (with_reducible refine (impl_FlowBound.calls k _ _ t170 t173 t174 _ ?side1 ?side2 A7.out).mono ?_); (case side1 => repeat (first | exact (Kd.S_reads' HO172.out).2.2 | (with_reducible refine Kd.C_alloc ?_ _) | (with_reducible refine Kd.C_drewN ?_ _) | (with_reducible refine Kd.C_drew ?_))); (case side2 => exact (Kd.S_reads' HO172.out).2.1); rintro e w13 ⟨rfl, hb⟩; refine ⟨_, rfl, ?_⟩; have n0_ := Aside0.mk (Kd.S_below (by (with_reducible repeat (first | apply Kd.S_alloc | apply Kd.S_drewN | apply Kd.S_drew)); exact HO167.out) hb); have n1_ := Aside0.mk (Kd.S_below (by (with_reducible repeat (first | apply Kd.S_alloc | apply Kd.S_drewN | apply Kd.S_drew)); exact HO172.out) hb); have n2_ := Aside0.mk (below_step (by repeat (first | (with_reducible first | exact HB.out | apply below_alloc | apply pw_below_drewN | apply below_drew1) | exact HB.out)) hb); clear HO167; clear HO172; clear HB; have HO167 := n0_; have HO172 := n1_; have HB := n2_; clear n0_ n1_ n2_; (try clear hb); (try clear hb2); (try clear hk); (try clear hi)))
    (try simp only [Act.put, List.setIfInBounds_toArray, List.set_cons_zero, List.set_cons_succ])
    go_cut [34] (fun v34 wc => ∃ (kq : Nat) (x34_7 : Bool), v34 = .bool x34_7 ∧ Aside0 (laws_FnExactFlowBound.j0 kq l0 t170 x34_7 = some r) ∧ Aside0 (kq ≤ k) ∧ Aside0 (Kd.S (Kd.slice 3 (Kd.int .i64)) 42 wc w.heap.size (fun _ => True) (.slice Ao12 t170.length co12) t170) ∧ Aside0 (Below w.heap.size w wc))
    case first =>
      have H := HC8.out
      clear HC8
      by_cases c14 : t173 = t168
      · rw [if_pos c14] at H
        have c14b0 : (t173 == t168) = true := beq_iff_eq.mpr c14
        have c14b1 : (t173 != t168) = false := bne_eq_false_iff_eq.mpr c14
        clear c14
        (first | rw [c14b0] | (simp only [i64_w, i32_w]; rw [c14b0]) | skip)
        have H' := Aside0.mk H
        clear H
        go_wp2
        go_meet
        case rel => exact ⟨_, ((t174 != t169)), (by first | rfl | (simp; done) | (simp [*]; done)), H', ⟨by first | omega | exact Nat.le_refl _⟩, ⟨by (with_reducible repeat (first | apply Kd.S_alloc | apply Kd.S_drewN | apply Kd.S_drew)); exact Kd.S_mono HO172.out (fun _ hk => trivial)⟩, ⟨by repeat (first | (with_reducible first | exact HB.out | apply below_alloc | apply pw_below_drewN | apply below_drew1) | exact HB.out)⟩⟩
      · rw [if_neg c14] at H
        have c14b0 : (t173 == t168) = false := beq_eq_false_iff_ne.mpr c14
        have c14b1 : (t173 != t168) = true := bne_iff_ne.mpr c14
        (first | rw [c14b0] | (simp only [i64_w, i32_w]; rw [c14b0]) | skip)
        have H' := Aside0.mk H
        clear H
        go_wp2
        go_meet
        case rel => exact ⟨_, (true), (by first | rfl | (simp; done) | (simp [*]; done)), H', ⟨by first | omega | exact Nat.le_refl _⟩, ⟨by (with_reducible repeat (first | apply Kd.S_alloc | apply Kd.S_drewN | apply Kd.S_drew)); exact Kd.S_mono HO172.out (fun _ hk => trivial)⟩, ⟨by repeat (first | (with_reducible first | exact HB.out | apply below_alloc | apply pw_below_drewN | apply below_drew1) | exact HB.out)⟩⟩
    case rest =>
      clear HC8
      try clear c1
      try clear p2
      try clear c3
      try clear c3b0
      try clear c4
      try clear c8
      try clear c14
      try clear c14b0
      try clear c14b1
      obtain ⟨kq, x34_7, rfl, HA, HJ7, HO_6, HB⟩ := hcut
      cases kq with
      | zero => exact absurd HA.out (by simp [laws_FnExactFlowBound.j0])
      | succ kj7 =>
        have H := HA.out
        clear HA
        simp only [laws_FnExactFlowBound.j0] at H
        by_cases c15 : x34_7 = true
        · subst c15
          have H1 : (some false) = some r := by rw [if_pos rfl] at H; exact H
          clear H
          have H := H1
          clear H1
          obtain rfl := Option.some.inj H
          go_wp2
          go_ret
          exact ⟨by first | rfl | (simp [errW_none, errW_some] <;> rfl) | (simp [*, errW_none, errW_some] <;> rfl), by repeat (first | (with_reducible first | exact HB.out | apply below_alloc | apply pw_below_drewN | apply below_drew1) | exact HB.out)⟩
        · replace c15 := Bool.eq_false_iff.mpr c15
          subst c15
          have H1 : ((laws_toIntSS.f kj7 l0).bind fun t175 => ((laws_eqIntSS.f kj7 t170 t175).bind fun t178 => (if t178 = true then (some true) else (some false)))) = some r := by rw [if_neg (show ¬ (false = true) by decide)] at H; exact H
          clear H
          have H := H1
          clear H1
          replace H := Option.bind_eq_some_iff.mp H
          obtain ⟨t175, A160, H⟩ := H
          replace H : ((laws_eqIntSS.f kj7 t170 t175).bind fun t178 => (if t178 = true then (some true) else (some false))) = some r := H
          have A16 := Aside0.mk A160
          clear A160
          replace H := Option.bind_eq_some_iff.mp H
          obtain ⟨t178, A170, H⟩ := H
          replace H : (if t178 = true then (some true) else (some false)) = some r := H
          have A17 := Aside0.mk A170
          clear A170
          by_cases c18 : t178 = true
          · subst c18
            have H1 : (some true) = some r := by rw [if_pos rfl] at H; exact H
            clear H
            have H := H1
            clear H1
            obtain rfl := Option.some.inj H
            go_wp2_with (first | ((with_reducible refine gate_callee (f := 32) rfl ?_); refine goesL_ (some 37) rfl rfl Try.func32 (by kernel_rfl) rfl #[.slice A0 l0.length c0] rfl (by (try simp only [List.map_toArray, List.map_cons, List.map_nil]); first | done | rfl | (simp only [List.length_drop, List.length_take]; rfl)) ?_; (with_reducible refine (laws_toIntSS.calls kj7 _ _ l0 t175 _ ?side1 ?side2 A16.out).mono ?_); (case side1 => repeat (first | exact (Kd.C_below HR0.out HB.out) | (with_reducible refine Kd.C_alloc ?_ _) | (with_reducible refine Kd.C_drewN ?_ _) | (with_reducible refine Kd.C_drew ?_))); (case side2 => exact HC0.out); rintro e w19 ⟨v176, rfl, ho0, hb⟩; refine ⟨_, rfl, ?_⟩; have n0_ := Aside0.mk (Kd.S_elder' (by (with_reducible repeat (first | apply Kd.S_alloc | apply Kd.S_drewN | apply Kd.S_drew)); exact HO_6.out) (Kd.S_base ho0) hb); have n1_ := Aside0.mk (Kd.S_lower (Kd.S_new' ho0 (Kd.S_lt (by (with_reducible repeat (first | apply Kd.S_alloc | apply Kd.S_drewN | apply Kd.S_drew)); exact HO_6.out))) (below_size (by repeat (first | (with_reducible first | exact HB.out | apply below_alloc | apply pw_below_drewN | apply below_drew1) | exact HB.out)))); have n2_ := Aside0.mk (below_step (by repeat (first | (with_reducible first | exact HB.out | apply below_alloc | apply pw_below_drewN | apply below_drew1) | exact HB.out)) hb); clear HO_6; clear HB; have HO_6 := n0_; have HO177 := n1_; have HB := n2_; clear n0_ n1_ n2_; (try clear hb); (try clear hb2); (try clear hk); (try clear hi); (try clear ho0); obtain ⟨Ao20, co20, eo20⟩ := Kd.S_slice HO177.out; subst eo20) | ((with_reducible refine gate_callee (f := 34) rfl ?_); refine goesL_ (some 38) rfl rfl Try.func34 (by kernel_rfl) rfl #[.slice Ao12 t170.length co12, .slice Ao20 t175.length co20] rfl (by (try simp only [List.map_toArray, List.map_cons, List.map_nil]); first | done | rfl | (simp only [List.length_drop, List.length_take]; rfl)) ?_; (with_reducible refine (laws_eqIntSS.calls kj7 _ _ t170 _ _ t175 true _ ?side1 ?side2 ?side3 ?side4 A17.out).mono ?_); (case side1 => repeat (first | exact (Kd.S_reads' HO_6.out).2.2 | (with_reducible refine Kd.C_alloc ?_ _) | (with_reducible refine Kd.C_drewN ?_ _) | (with_reducible refine Kd.C_drew ?_))); (case side2 => exact (Kd.S_reads' HO_6.out).2.1); (case side3 => repeat (first | exact (Kd.S_reads' HO177.out).2.2 | (with_reducible refine Kd.C_alloc ?_ _) | (with_reducible refine Kd.C_drewN ?_ _) | (with_reducible refine Kd.C_drew ?_))); (case side4 => exact (Kd.S_reads' HO177.out).2.1); rintro e w' ⟨rfl, ⟨nd, rfl⟩⟩; refine ⟨_, rfl, ?_⟩))
            go_ret
            exact ⟨by first | rfl | (simp [errW_none, errW_some] <;> rfl) | (simp [*, errW_none, errW_some] <;> rfl), by repeat (first | (with_reducible first | exact HB.out | apply below_alloc | apply pw_below_drewN | apply below_drew1) | exact HB.out)⟩
          · replace c18 := Bool.eq_false_iff.mpr c18
            subst c18
            have H1 : (some false) = some r := by rw [if_neg (show ¬ (false = true) by decide)] at H; exact H
            clear H
            have H := H1
            clear H1
            obtain rfl := Option.some.inj H
            go_wp2_with (first | ((with_reducible refine gate_callee (f := 32) rfl ?_); refine goesL_ (some 37) rfl rfl Try.func32 (by kernel_rfl) rfl #[.slice A0 l0.length c0] rfl (by (try simp only [List.map_toArray, List.map_cons, List.map_nil]); first | done | rfl | (simp only [List.length_drop, List.length_take]; rfl)) ?_; (with_reducible refine (laws_toIntSS.calls kj7 _ _ l0 t175 _ ?side1 ?side2 A16.out).mono ?_); (case side1 => repeat (first | exact (Kd.C_below HR0.out HB.out) | (with_reducible refine Kd.C_alloc ?_ _) | (with_reducible refine Kd.C_drewN ?_ _) | (with_reducible refine Kd.C_drew ?_))); (case side2 => exact HC0.out); rintro e w21 ⟨v176, rfl, ho0, hb⟩; refine ⟨_, rfl, ?_⟩; have n0_ := Aside0.mk (Kd.S_elder' (by (with_reducible repeat (first | apply Kd.S_alloc | apply Kd.S_drewN | apply Kd.S_drew)); exact HO_6.out) (Kd.S_base ho0) hb); have n1_ := Aside0.mk (Kd.S_lower (Kd.S_new' ho0 (Kd.S_lt (by (with_reducible repeat (first | apply Kd.S_alloc | apply Kd.S_drewN | apply Kd.S_drew)); exact HO_6.out))) (below_size (by repeat (first | (with_reducible first | exact HB.out | apply below_alloc | apply pw_below_drewN | apply below_drew1) | exact HB.out)))); have n2_ := Aside0.mk (below_step (by repeat (first | (with_reducible first | exact HB.out | apply below_alloc | apply pw_below_drewN | apply below_drew1) | exact HB.out)) hb); clear HO_6; clear HB; have HO_6 := n0_; have HO177 := n1_; have HB := n2_; clear n0_ n1_ n2_; (try clear hb); (try clear hb2); (try clear hk); (try clear hi); (try clear ho0); obtain ⟨Ao22, co22, eo22⟩ := Kd.S_slice HO177.out; subst eo22) | ((with_reducible refine gate_callee (f := 34) rfl ?_); refine goesL_ (some 38) rfl rfl Try.func34 (by kernel_rfl) rfl #[.slice Ao12 t170.length co12, .slice Ao22 t175.length co22] rfl (by (try simp only [List.map_toArray, List.map_cons, List.map_nil]); first | done | rfl | (simp only [List.length_drop, List.length_take]; rfl)) ?_; (with_reducible refine (laws_eqIntSS.calls kj7 _ _ t170 _ _ t175 false _ ?side1 ?side2 ?side3 ?side4 A17.out).mono ?_); (case side1 => repeat (first | exact (Kd.S_reads' HO_6.out).2.2 | (with_reducible refine Kd.C_alloc ?_ _) | (with_reducible refine Kd.C_drewN ?_ _) | (with_reducible refine Kd.C_drew ?_))); (case side2 => exact (Kd.S_reads' HO_6.out).2.1); (case side3 => repeat (first | exact (Kd.S_reads' HO177.out).2.2 | (with_reducible refine Kd.C_alloc ?_ _) | (with_reducible refine Kd.C_drewN ?_ _) | (with_reducible refine Kd.C_drew ?_))); (case side4 => exact (Kd.S_reads' HO177.out).2.1); rintro e w' ⟨rfl, ⟨nd, rfl⟩⟩; refine ⟨_, rfl, ?_⟩))
            go_ret
            exact ⟨by first | rfl | (simp [errW_none, errW_some] <;> rfl) | (simp [*, errW_none, errW_some] <;> rfl), by repeat (first | (with_reducible first | exact HB.out | apply below_alloc | apply pw_below_drewN | apply below_drew1) | exact HB.out)⟩

end Go.Proofs.Ytgelmpoaainlfaa.XFnExactFlowBound
