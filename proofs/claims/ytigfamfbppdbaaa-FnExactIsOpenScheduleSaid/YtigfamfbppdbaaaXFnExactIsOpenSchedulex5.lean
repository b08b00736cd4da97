-- Written by a program of this session (the kit's print, widened). Proved here: what each function answers, for the arguments that its contract names.
import Derived.Test.YtigfamfbppdbaaaXFnExactIsOpenSchedulex0
import Derived.Test.YtigfamfbppdbaaaXFnExactIsOpenSchedulex4
namespace Go.Proofs.Ytigfamfbppdbaaa.XFnExactIsOpenSchedule
open Go.RowKit Go.Proofs.YtigfamfbppdbaaaW.PrintWords Go.Proofs.YtigfamfbppdbaaaW.PrintLast Go.Proofs.YtigfamfbppdbaaaW.PrintMore
attribute [local go_sem] max2_int min2_int max_two min_two max_three min_three max_four min_four   -- for this text's walks alone
set_option linter.unusedVariables false
set_option linter.unusedSimpArgs false

/-! ### impl_isOpenSchedule: function 36 -/
mutual
def impl_isOpenSchedule.l0 : Nat → List (List Int) → List (List Int) → List (List Int) → Int → Int → Option (Bool)
  | 0, _, _, _, _, _ => none
  | k + 1, x0, x1, x20, x21, x22 => if x22 < x21 then (if 0 ≤ x22 then (if x22 < (x20.length : Int) then (if x22 < (x0.length : Int) then (if ((rd_L1 x20 x22).length : Int) = ((rd_L1 x0 x22).length : Int) then ((impl_allWithin.f k (rd_L1 x20 x22) 0 1000000).bind fun t159 => (if t159 = true then (impl_isOpenSchedule.l0 k x0 x1 x20 x21 (wrap64 (x22 + 1))) else (some false))) else (some false)) else (none)) else (none)) else (none)) else (impl_isOpenSchedule.l1 k x0 x1 x1 (x1.length : Int) 0)
def impl_isOpenSchedule.l1 : Nat → List (List Int) → List (List Int) → List (List Int) → Int → Int → Option (Bool)
  | 0, _, _, _, _, _ => none
  | k + 1, x0, x1, x41, x42, x43 => if x43 < x42 then (if 0 ≤ x43 then (if x43 < (x41.length : Int) then (impl_isOpenSchedule.l2 k x0 x1 x43 x41 x42 x43 (rd_L1 x41 x43) ((rd_L1 x41 x43).length : Int) 0) else (none)) else (none)) else (some true)
def impl_isOpenSchedule.l2 : Nat → List (List Int) → List (List Int) → Int → List (List Int) → Int → Int → List Int → Int → Int → Option (Bool)
  | 0, _, _, _, _, _, _, _, _, _ => none
  | k + 1, x0, x1, x7, x41, x42, x43, x48, x49, x50 => if x50 < x49 then (if 0 ≤ x50 then (if x50 < (x48.length : Int) then (impl_isOpenSchedule.l3 k x0 x1 x7 x50 (rd x48 x50) x41 x42 x43 x48 x49 x50 x1 (x1.length : Int) 0) else (none)) else (none)) else (impl_isOpenSchedule.l1 k x0 x1 x41 x42 (wrap64 (x43 + 1)))
def impl_isOpenSchedule.l3 : Nat → List (List Int) → List (List Int) → Int → Int → Int → List (List Int) → Int → Int → List Int → Int → Int → List (List Int) → Int → Int → Option (Bool)
  | 0, _, _, _, _, _, _, _, _, _, _, _, _, _, _ => none
  | k + 1, x0, x1, x7, x9, x10, x41, x42, x43, x48, x49, x50, x55, x56, x57 => if x57 < x56 then (if 0 ≤ x57 then (if x57 < (x55.length : Int) then (impl_isOpenSchedule.l4 k x0 x1 x7 x9 x10 x57 x41 x42 x43 x48 x49 x50 x55 x56 x57 (rd_L1 x55 x57) ((rd_L1 x55 x57).length : Int) 0) else (none)) else (none)) else (impl_isOpenSchedule.l2 k x0 x1 x7 x41 x42 x43 x48 x49 (wrap64 (x50 + 1)))
def impl_isOpenSchedule.l4 : Nat → List (List Int) → List (List Int) → Int → Int → Int → Int → List (List Int) → Int → Int → List Int → Int → Int → List (List Int) → Int → Int → List Int → Int → Int → Option (Bool)
  | 0, _, _, _, _, _, _, _, _, _, _, _, _, _, _, _, _, _, _ => none
  | k + 1, x0, x1, x7, x9, x10, x11, x41, x42, x43, x48, x49, x50, x55, x56, x57, x62, x63, x64 => if x64 < x63 then (if 0 ≤ x64 then (if x64 < (x62.length : Int) then (if ((x7 == x11) == (x9 == x64)) = true then (impl_isOpenSchedule.l4 k x0 x1 x7 x9 x10 x11 x41 x42 x43 x48 x49 x50 x55 x56 x57 x62 x63 (wrap64 (x64 + 1))) else (if 0 ≤ x7 then (if x7 < (x0.length : Int) then (if 0 ≤ x9 then (if x9 < ((rd_L1 x0 x7).length : Int) then (if (rd (rd_L1 x0 x7) x9) > 0 then (if 0 ≤ x11 then (if x11 < (x0.length : Int) then (if x64 < ((rd_L1 x0 x11).length : Int) then (if (rd (rd_L1 x0 x11) x64) > 0 then (if x10 < (wrap64 ((rd x62 x64) + (rd (rd_L1 x0 x11) x64))) then (if (rd x62 x64) < (wrap64 (x10 + (rd (rd_L1 x0 x7) x9))) then (some false) else (impl_isOpenSchedule.l4 k x0 x1 x7 x9 x10 x11 x41 x42 x43 x48 x49 x50 x55 x56 x57 x62 x63 (wrap64 (x64 + 1)))) else (impl_isOpenSchedule.l4 k x0 x1 x7 x9 x10 x11 x41 x42 x43 x48 x49 x50 x55 x56 x57 x62 x63 (wrap64 (x64 + 1)))) else (impl_isOpenSchedule.l4 k x0 x1 x7 x9 x10 x11 x41 x42 x43 x48 x49 x50 x55 x56 x57 x62 x63 (wrap64 (x64 + 1)))) else (none)) else (none)) else (none)) else (impl_isOpenSchedule.l4 k x0 x1 x7 x9 x10 x11 x41 x42 x43 x48 x49 x50 x55 x56 x57 x62 x63 (wrap64 (x64 + 1)))) else (none)) else (none)) else (none)) else (none))) else (none)) else (none)) else (impl_isOpenSchedule.l3 k x0 x1 x7 x9 x10 x41 x42 x43 x48 x49 x50 x55 x56 (wrap64 (x57 + 1)))
end
def impl_isOpenSchedule.f (k : Nat) (l0 : List (List Int)) (l1 : List (List Int)) : Option (Bool) := if (l1.length : Int) = (l0.length : Int) then (impl_isOpenSchedule.l0 k l0 l1 l1 (l1.length : Int) 0) else (some false)
theorem impl_isOpenSchedule.mono_l : ∀ k, (∀ y0 y1 y2 y3 y4, LeO (impl_isOpenSchedule.l0 k y0 y1 y2 y3 y4) (impl_isOpenSchedule.l0 (k + 1) y0 y1 y2 y3 y4)) ∧ (∀ y0 y1 y2 y3 y4, LeO (impl_isOpenSchedule.l1 k y0 y1 y2 y3 y4) (impl_isOpenSchedule.l1 (k + 1) y0 y1 y2 y3 y4)) ∧ (∀ y0 y1 y2 y3 y4 y5 y6 y7 y8, LeO (impl_isOpenSchedule.l2 k y0 y1 y2 y3 y4 y5 y6 y7 y8) (impl_isOpenSchedule.l2 (k + 1) y0 y1 y2 y3 y4 y5 y6 y7 y8)) ∧ (∀ y0 y1 y2 y3 y4 y5 y6 y7 y8 y9 y10 y11 y12 y13, LeO (impl_isOpenSchedule.l3 k y0 y1 y2 y3 y4 y5 y6 y7 y8 y9 y10 y11 y12 y13) (impl_isOpenSchedule.l3 (k + 1) y0 y1 y2 y3 y4 y5 y6 y7 y8 y9 y10 y11 y12 y13)) ∧ (∀ y0 y1 y2 y3 y4 y5 y6 y7 y8 y9 y10 y11 y12 y13 y14 y15 y16 y17, LeO (impl_isOpenSchedule.l4 k y0 y1 y2 y3 y4 y5 y6 y7 y8 y9 y10 y11 y12 y13 y14 y15 y16 y17) (impl_isOpenSchedule.l4 (k + 1) y0 y1 y2 y3 y4 y5 y6 y7 y8 y9 y10 y11 y12 y13 y14 y15 y16 y17))
  | 0 => ⟨fun _ _ _ _ _ r h => by simp [impl_isOpenSchedule.l0] at h, fun _ _ _ _ _ r h => by simp [impl_isOpenSchedule.l1] at h, fun _ _ _ _ _ _ _ _ _ r h => by simp [impl_isOpenSchedule.l2] at h, fun _ _ _ _ _ _ _ _ _ _ _ _ _ _ r h => by simp [impl_isOpenSchedule.l3] at h, fun _ _ _ _ _ _ _ _ _ _ _ _ _ _ _ _ _ _ r h => by simp [impl_isOpenSchedule.l4] at h⟩
  | k + 1 => by
    obtain ⟨ih0, ih1, ih2, ih3, ih4⟩ := impl_isOpenSchedule.mono_l k
    refine ⟨?_, ?_, ?_, ?_, ?_⟩
    · intro y0 y1 y2 y3 y4
      unfold impl_isOpenSchedule.l0
      repeat' first
      | (with_reducible exact ih0 _ _ _ _ _)
      | (with_reducible exact ih1 _ _ _ _ _)
      | (with_reducible exact ih2 _ _ _ _ _ _ _ _ _)
      | (with_reducible exact ih3 _ _ _ _ _ _ _ _ _ _ _ _ _ _)
      | (with_reducible exact ih4 _ _ _ _ _ _ _ _ _ _ _ _ _ _ _ _ _ _)
      | (with_reducible exact impl_allWithin.mono _ _ _ _)
      | (with_reducible exact LeO.refl _)
      | (with_reducible exact LeO.none _)
      | (with_reducible refine LeO.ite ?_ ?_)
      | (with_reducible refine LeO.bind ?_ (fun _ => ?_))
      | exact ih0 _ _ _ _ _
      | exact ih1 _ _ _ _ _
      | exact ih2 _ _ _ _ _ _ _ _ _
      | exact ih3 _ _ _ _ _ _ _ _ _ _ _ _ _ _
      | exact ih4 _ _ _ _ _ _ _ _ _ _ _ _ _ _ _ _ _ _
      | exact impl_allWithin.mono _ _ _ _
      | exact LeO.none _
      | refine LeO.ite ?_ ?_
      | refine LeO.bind ?_ (fun _ => ?_)
    · intro y0 y1 y2 y3 y4
      unfold impl_isOpenSchedule.l1
      repeat' first
      | (with_reducible exact ih0 _ _ _ _ _)
      | (with_reducible exact ih1 _ _ _ _ _)
      | (with_reducible exact ih2 _ _ _ _ _ _ _ _ _)
      | (with_reducible exact ih3 _ _ _ _ _ _ _ _ _ _ _ _ _ _)
      | (with_reducible exact ih4 _ _ _ _ _ _ _ _ _ _ _ _ _ _ _ _ _ _)
      | (with_reducible exact impl_allWithin.mono _ _ _ _)
      | (with_reducible exact LeO.refl _)
      | (with_reducible exact LeO.none _)
      | (with_reducible refine LeO.ite ?_ ?_)
      | (with_reducible refine LeO.bind ?_ (fun _ => ?_))
      | exact ih0 _ _ _ _ _
      | exact ih1 _ _ _ _ _
      | exact ih2 _ _ _ _ _ _ _ _ _
      | exact ih3 _ _ _ _ _ _ _ _ _ _ _ _ _ _
      | exact ih4 _ _ _ _ _ _ _ _ _ _ _ _ _ _ _ _ _ _
      | exact impl_allWithin.mono _ _ _ _
      | exact LeO.none _
      | refine LeO.ite ?_ ?_
      | refine LeO.bind ?_ (fun _ => ?_)
    · intro y0 y1 y2 y3 y4 y5 y6 y7 y8
      unfold impl_isOpenSchedule.l2
      repeat' first
      | (with_reducible exact ih0 _ _ _ _ _)
      | (with_reducible exact ih1 _ _ _ _ _)
      | (with_reducible exact ih2 _ _ _ _ _ _ _ _ _)
      | (with_reducible exact ih3 _ _ _ _ _ _ _ _ _ _ _ _ _ _)
      | (with_reducible exact ih4 _ _ _ _ _ _ _ _ _ _ _ _ _ _ _ _ _ _)
      | (with_reducible exact impl_allWithin.mono _ _ _ _)
      | (with_reducible exact LeO.refl _)
      | (with_reducible exact LeO.none _)
      | (with_reducible refine LeO.ite ?_ ?_)
      | (with_reducible refine LeO.bind ?_ (fun _ => ?_))
      | exact ih0 _ _ _ _ _
      | exact ih1 _ _ _ _ _
      | exact ih2 _ _ _ _ _ _ _ _ _
      | exact ih3 _ _ _ _ _ _ _ _ _ _ _ _ _ _
      | exact ih4 _ _ _ _ _ _ _ _ _ _ _ _ _ _ _ _ _ _
      | exact impl_allWithin.mono _ _ _ _
      | exact LeO.none _
      | refine LeO.ite ?_ ?_
      | refine LeO.bind ?_ (fun _ => ?_)
    · intro y0 y1 y2 y3 y4 y5 y6 y7 y8 y9 y10 y11 y12 y13
      unfold impl_isOpenSchedule.l3
      repeat' first
      | (with_reducible exact ih0 _ _ _ _ _)
      | (with_reducible exact ih1 _ _ _ _ _)
      | (with_reducible exact ih2 _ _ _ _ _ _ _ _ _)
      | (with_reducible exact ih3 _ _ _ _ _ _ _ _ _ _ _ _ _ _)
      | (with_reducible exact ih4 _ _ _ _ _ _ _ _ _ _ _ _ _ _ _ _ _ _)
      | (with_reducible exact impl_allWithin.mono _ _ _ _)
      | (with_reducible exact LeO.refl _)
      | (with_reducible exact LeO.none _)
      | (with_reducible refine LeO.ite ?_ ?_)
      | (with_reducible refine LeO.bind ?_ (fun _ => ?_))
      | exact ih0 _ _ _ _ _
      | exact ih1 _ _ _ _ _
      | exact ih2 _ _ _ _ _ _ _ _ _
      | exact ih3 _ _ _ _ _ _ _ _ _ _ _ _ _ _
      | exact ih4 _ _ _ _ _ _ _ _ _ _ _ _ _ _ _ _ _ _
      | exact impl_allWithin.mono _ _ _ _
      | exact LeO.none _
      | refine LeO.ite ?_ ?_
      | refine LeO.bind ?_ (fun _ => ?_)
    · intro y0 y1 y2 y3 y4 y5 y6 y7 y8 y9 y10 y11 y12 y13 y14 y15 y16 y17
      unfold impl_isOpenSchedule.l4
      repeat' first
      | (with_reducible exact ih0 _ _ _ _ _)
      | (with_reducible exact ih1 _ _ _ _ _)
      | (with_reducible exact ih2 _ _ _ _ _ _ _ _ _)
      | (with_reducible exact ih3 _ _ _ _ _ _ _ _ _ _ _ _ _ _)
      | (with_reducible exact ih4 _ _ _ _ _ _ _ _ _ _ _ _ _ _ _ _ _ _)
      | (with_reducible exact impl_allWithin.mono _ _ _ _)
      | (with_reducible exact LeO.refl _)
      | (with_reducible exact LeO.none _)
      | (with_reducible refine LeO.ite ?_ ?_)
      | (with_reducible refine LeO.bind ?_ (fun _ => ?_))
      | exact ih0 _ _ _ _ _
      | exact ih1 _ _ _ _ _
      | exact ih2 _ _ _ _ _ _ _ _ _
      | exact ih3 _ _ _ _ _ _ _ _ _ _ _ _ _ _
      | exact ih4 _ _ _ _ _ _ _ _ _ _ _ _ _ _ _ _ _ _
      | exact impl_allWithin.mono _ _ _ _
      | exact LeO.none _
      | refine LeO.ite ?_ ?_
      | refine LeO.bind ?_ (fun _ => ?_)
theorem impl_isOpenSchedule.mono : ∀ a0 a1 k, LeO (impl_isOpenSchedule.f k a0 a1) (impl_isOpenSchedule.f (k + 1) a0 a1) := by
  intro a0 a1 k
  obtain ⟨ih0, ih1, ih2, ih3, ih4⟩ := impl_isOpenSchedule.mono_l k
  unfold impl_isOpenSchedule.f
  repeat' first
      | (with_reducible exact ih0 _ _ _ _ _)
      | (with_reducible exact ih1 _ _ _ _ _)
      | (with_reducible exact ih2 _ _ _ _ _ _ _ _ _)
      | (with_reducible exact ih3 _ _ _ _ _ _ _ _ _ _ _ _ _ _)
      | (with_reducible exact ih4 _ _ _ _ _ _ _ _ _ _ _ _ _ _ _ _ _ _)
      | (with_reducible exact impl_allWithin.mono _ _ _ _)
      | (with_reducible exact LeO.refl _)
      | (with_reducible exact LeO.none _)
      | (with_reducible refine LeO.ite ?_ ?_)
      | (with_reducible refine LeO.bind ?_ (fun _ => ?_))
      | exact ih0 _ _ _ _ _
      | exact ih1 _ _ _ _ _
      | exact ih2 _ _ _ _ _ _ _ _ _
      | exact ih3 _ _ _ _ _ _ _ _ _ _ _ _ _ _
      | exact ih4 _ _ _ _ _ _ _ _ _ _ _ _ _ _ _ _ _ _
      | exact impl_allWithin.mono _ _ _ _
      | exact LeO.none _
      | refine LeO.ite ?_ ?_
      | refine LeO.bind ?_ (fun _ => ?_)
set_option maxHeartbeats 8000000 in
set_option maxRecDepth 100000 in
theorem impl_isOpenSchedule.calls (k : Nat) (A0 : Option Addr) (c0 : Nat) (l0 : List (List Int)) (A1 : Option Addr) (c1 : Nat) (l1 : List (List Int)) (r : Bool) (w : World) (hr0 : Kd.C (Kd.slice 3 (Kd.int .i64)) w A0 l0.length l0) (hc0 : l0.length ≤ c0) (hr1 : Kd.C (Kd.slice 3 (Kd.int .i64)) w A1 l1.length l1) (hc1 : l1.length ≤ c1) (h : impl_isOpenSchedule.f k l0 l1 = some r) :
    Calls Try.prog 36 #[.slice A0 l0.length c0, .slice A1 l1.length c1] w fun e w' => e = .returned (.bool r) ∧ Drawn0 w w' := by
  have HR0 := Aside0.mk hr0
  have HC0 := Aside0.mk hc0
  clear hr0 hc0
  have HR1 := Aside0.mk hr1
  have HC1 := Aside0.mk hc1
  clear hr1 hc1
  have H : (if (l1.length : Int) = (l0.length : Int) then (impl_isOpenSchedule.l0 k l0 l1 l1 (l1.length : Int) 0) else (some false)) = some r := h
  clear h
  by_cases c3 : (l1.length : Int) = (l0.length : Int)
  · rw [if_pos c3] at H
    have c3b0 : ((l1.length : Int) == (l0.length : Int)) = true := beq_iff_eq.mpr c3
    have c3b1 : ((l1.length : Int) != (l0.length : Int)) = false := bne_eq_false_iff_eq.mpr c3
    have c3b2 : (l1.length == l0.length) = true := by first | simpa using c3 | (simp at c3 ⊢; omega)
    clear c3
    have H' := Aside0.mk H
    clear H
    go_enter Try.func36, Try.ntmps36
    go_wp2
    go_loopg [22] k (fun kq v22 w' => ∃ (x22_1 : Int), v22 = .int .i64 x22_1 ∧ Aside0 (impl_isOpenSchedule.l0 kq l0 l1 l1 (l1.length : Int) x22_1 = some r) ∧ Aside0 (kq ≤ k) ∧ Drawn0 w w')
    case atStart => exact ⟨(0), (by first | rfl | (simp; done) | (simp [*]; done)), H', ⟨Nat.le_refl _⟩, by repeat (first | exact Drawn0.refl _ | apply Drawn0.step)⟩
    case round =>
      clear H'
      try clear c1
      try clear p2
      try clear c3
      try clear c3b0
      try clear c3b1
      try clear c3b2
      obtain ⟨x22_1, rfl, HA, HK1, ⟨m1, rfl⟩⟩ := hrel
      cases gk with
      | zero => exact absurd HA.out (by simp [impl_isOpenSchedule.l0])
      | succ k1 =>
        have H := HA.out
        clear HA
        simp only [impl_isOpenSchedule.l0] at H
        by_cases c4 : x22_1 < (l1.length : Int)
        · rw [if_pos c4] at H
          have c4b0 : decide (x22_1 < (l1.length : Int)) = true := decide_eq_true c4
          clear c4
          by_cases c5 : 0 ≤ x22_1
          · rw [if_pos c5] at H
            have c5b0 : decide (0 ≤ x22_1) = true := decide_eq_true c5
            clear c5
            by_cases c6 : x22_1 < (l1.length : Int)
            · rw [if_pos c6] at H
              have c6b0 : decide (x22_1 < (l1.length : Int)) = true := decide_eq_true c6
              clear c6
              by_cases c7 : x22_1 < (l0.length : Int)
              · rw [if_pos c7] at H
                have c7b0 : decide (x22_1 < (l0.length : Int)) = true := decide_eq_true c7
                clear c7
                by_cases c8 : ((rd_L1 l1 x22_1).length : Int) = ((rd_L1 l0 x22_1).length : Int)
                · rw [if_pos c8] at H
                  have c8b0 : (((rd_L1 l1 x22_1).length : Int) == ((rd_L1 l0 x22_1).length : Int)) = true := beq_iff_eq.mpr c8
                  have c8b1 : (((rd_L1 l1 x22_1).length : Int) != ((rd_L1 l0 x22_1).length : Int)) = false := bne_eq_false_iff_eq.mpr c8
                  have c8b2 : ((rd_L1 l1 x22_1).length == (rd_L1 l0 x22_1).length) = true := by first | simpa using c8 | (simp at c8 ⊢; omega)
                  clear c8
                  replace H := Option.bind_eq_some_iff.mp H
                  obtain ⟨t159, A90, H⟩ := H
                  replace H : (if t159 = true then (impl_isOpenSchedule.l0 k1 l0 l1 l1 (l1.length : Int) (wrap64 (x22_1 + 1))) else (some false)) = some r := H
                  have A9 := Aside0.mk A90
                  clear A90
                  by_cases c10 : t159 = true
                  · subst c10
                    have H1 : (impl_isOpenSchedule.l0 k1 l0 l1 l1 (l1.length : Int) (wrap64 (x22_1 + 1))) = some r := by rw [if_pos rfl] at H; exact H
                    clear H
                    have H := H1
                    clear H1
                    have H' := Aside0.mk H
                    clear H
                    have p157 : 0 ≤ (x22_1 : Int) := of_decide_eq_true (by first | (with_reducible assumption) | assumption)
                    have q157 : x22_1 < (l1.length : Int) := of_decide_eq_true (by first | (with_reducible assumption) | assumption)
                    obtain ⟨ad157, A157_0, c157_0, e157, hx157_0, hl157_0, hi157_0⟩ := at_L1 HR1.out x22_1 p157 q157
                    cases e157
                    have HR157_0 := Aside0.mk hi157_0
                    have HC157_0 := Aside0.mk hl157_0
                    clear hi157_0 hl157_0
                    replace p157 := eq_true p157
                    replace q157 := eq_true q157
                    have p158 : 0 ≤ (x22_1 : Int) := of_decide_eq_true (by first | (with_reducible assumption) | assumption)
                    have q158 : x22_1 < (l0.length : Int) := of_decide_eq_true (by first | (with_reducible assumption) | assumption)
                    obtain ⟨ad158, A158_0, c158_0, e158, hx158_0, hl158_0, hi158_0⟩ := at_L1 HR0.out x22_1 p158 q158
                    cases e158
                    have HR158_0 := Aside0.mk hi158_0
                    have HC158_0 := Aside0.mk hl158_0
                    clear hi158_0 hl158_0
                    replace p158 := eq_true p158
                    replace q158 := eq_true q158
                    go_wp2_with (first | (go_at_call 64; (with_reducible refine (impl_allWithin.calls k1 _ _ (rd_L1 l1 x22_1) 0 1000000 true _ ?side1 ?side2 A9.out).mono ?_); (case side1 => repeat (first | exact HR157_0.out | (with_reducible refine Kd.C_alloc ?_ _) | (with_reducible refine Kd.C_drewN ?_ _) | (with_reducible refine Kd.C_drew ?_))); (case side2 => exact HC157_0.out); rintro e w' ⟨rfl, ⟨nd, rfl⟩⟩))
                    go_roundg k1
                    case measure => have := HK1.out; omega
                    case rel => exact ⟨(wrap64 (x22_1 + 1)), (by first | rfl | (simp; done) | (simp [*]; done)), H', ⟨by have := HK1.out; omega⟩, by repeat (first | exact Drawn0.refl _ | apply Drawn0.step)⟩
                  · replace c10 := Bool.eq_false_iff.mpr c10
                    subst c10
                    have H1 : (some false) = some r := by rw [if_neg (show ¬ (false = true) by decide)] at H; exact H
                    clear H
                    have H := H1
                    clear H1
                    obtain rfl := Option.some.inj H
                    have p157 : 0 ≤ (x22_1 : Int) := of_decide_eq_true (by first | (with_reducible assumption) | assumption)
                    have q157 : x22_1 < (l1.length : Int) := of_decide_eq_true (by first | (with_reducible assumption) | assumption)
                    obtain ⟨ad157, A157_0, c157_0, e157, hx157_0, hl157_0, hi157_0⟩ := at_L1 HR1.out x22_1 p157 q157
                    cases e157
                    have HR157_0 := Aside0.mk hi157_0
                    have HC157_0 := Aside0.mk hl157_0
                    clear hi157_0 hl157_0
                    replace p157 := eq_true p157
                    replace q157 := eq_true q157
                    have p158 : 0 ≤ (x22_1 : Int) := of_decide_eq_true (by first | (with_reducible assumption) | assumption)
                    have q158 : x22_1 < (l0.length : Int) := of_decide_eq_true (by first | (with_reducible assumption) | assumption)
                    obtain ⟨ad158, A158_0, c158_0, e158, hx158_0, hl158_0, hi158_0⟩ := at_L1 HR0.out x22_1 p158 q158
                    cases e158
                    have HR158_0 := Aside0.mk hi158_0
                    have HC158_0 := Aside0.mk hl158_0
                    clear hi158_0 hl158_0
                    replace p158 := eq_true p158
                    replace q158 := eq_true q158
                    go_wp2_with (first | (go_at_call 64; (with_reducible refine (impl_allWithin.calls k1 _ _ (rd_L1 l1 x22_1) 0 1000000 false _ ?side1 ?side2 A9.out).mono ?_); (case side1 => repeat (first | exact HR157_0.out | (with_reducible refine Kd.C_alloc ?_ _) | (with_reducible refine Kd.C_drewN ?_ _) | (with_reducible refine Kd.C_drew ?_))); (case side2 => exact HC157_0.out); rintro e w' ⟨rfl, ⟨nd, rfl⟩⟩))
                    go_ret
                    exact ⟨by first | rfl | (simp; done) | (simp [*]; done), by repeat (first | exact Drawn0.refl _ | apply Drawn0.step)⟩
                · rw [if_neg c8] at H
                  have c8b0 : (((rd_L1 l1 x22_1).length : Int) == ((rd_L1 l0 x22_1).length : Int)) = false := beq_eq_false_iff_ne.mpr c8
                  have c8b1 : (((rd_L1 l1 x22_1).length : Int) != ((rd_L1 l0 x22_1).length : Int)) = true := bne_iff_ne.mpr c8
                  have c8b2 : ((rd_L1 l1 x22_1).length == (rd_L1 l0 x22_1).length) = false := by first | simpa using c8 | (simp at c8 ⊢; omega)
                  obtain rfl := Option.some.inj H
                  have p157 : 0 ≤ (x22_1 : Int) := of_decide_eq_true (by first | (with_reducible assumption) | assumption)
                  have q157 : x22_1 < (l1.length : Int) := of_decide_eq_true (by first | (with_reducible assumption) | assumption)
                  obtain ⟨ad157, A157_0, c157_0, e157, hx157_0, hl157_0, hi157_0⟩ := at_L1 HR1.out x22_1 p157 q157
                  cases e157
                  have HR157_0 := Aside0.mk hi157_0
                  have HC157_0 := Aside0.mk hl157_0
                  clear hi157_0 hl157_0
                  replace p157 := eq_true p157
                  replace q157 := eq_true q157
                  have p158 : 0 ≤ (x22_1 : Int) := of_decide_eq_true (by first | (with_reducible assumption) | assumption)
                  have q158 : x22_1 < (l0.length : Int) := of_decide_eq_true (by first | (with_reducible assumption) | assumption)
                  obtain ⟨ad158, A158_0, c158_0, e158, hx158_0, hl158_0, hi158_0⟩ := at_L1 HR0.out x22_1 p158 q158
                  cases e158
                  have HR158_0 := Aside0.mk hi158_0
                  have HC158_0 := Aside0.mk hl158_0
                  clear hi158_0 hl158_0
                  replace p158 := eq_true p158
                  replace q158 := eq_true q158
                  go_wp2
                  go_ret
                  exact ⟨by first | rfl | (simp; done) | (simp [*]; done), by repeat (first | exact Drawn0.refl _ | apply Drawn0.step)⟩
              · rw [if_neg c7] at H
                exact absurd H (by simp)
            · rw [if_neg c6] at H
              exact absurd H (by simp)
          · rw [if_neg c5] at H
            exact absurd H (by simp)
        · rw [if_neg c4] at H
          have c4b0 : decide (x22_1 < (l1.length : Int)) = false := decide_eq_false c4
          clear c4
          have H' := Aside0.mk H
          clear H
          go_wp2
          go_loopg [43] k1 (fun kq v43 w' => ∃ (x43_2 : Int), v43 = .int .i64 x43_2 ∧ Aside0 (impl_isOpenSchedule.l1 kq l0 l1 l1 (l1.length : Int) x43_2 = some r) ∧ Aside0 (kq ≤ k1) ∧ Drawn0 w w')
          case atStart => exact ⟨(0), (by first | rfl | (simp; done) | (simp [*]; done)), H', ⟨Nat.le_refl _⟩, by repeat (first | exact Drawn0.refl _ | apply Drawn0.step)⟩
          case round =>
            clear H'
            try clear c1
            try clear p1
            try clear q1
            try clear hx1
            try clear p2
            try clear c3
            try clear c3b0
            try clear c3b1
            try clear c3b2
            try clear c4
            try clear c4b0
            try clear c5
            try clear c5b0
            try clear c6
            try clear c6b0
            try clear p6
            try clear c7
            try clear c7b0
            try clear c8
            try clear c8b0
            try clear c8b1
            try clear c8b2
            try clear c10
            try clear hx157_0
            try clear hx158_0
            try clear p157
            try clear p158
            try clear p2
            try clear q157
            try clear q158
            obtain ⟨x43_2, rfl, HA, HK2, ⟨m2, rfl⟩⟩ := hrel
            cases gk with
            | zero => exact absurd HA.out (by simp [impl_isOpenSchedule.l1])
            | succ k2 =>
              have H := HA.out
              clear HA
              simp only [impl_isOpenSchedule.l1] at H
              by_cases c11 : x43_2 < (l1.length : Int)
              · rw [if_pos c11] at H
                have c11b0 : decide (x43_2 < (l1.length : Int)) = true := decide_eq_true c11
                clear c11
                by_cases c12 : 0 ≤ x43_2
                · rw [if_pos c12] at H
                  have c12b0 : decide (0 ≤ x43_2) = true := decide_eq_true c12
                  clear c12
                  by_cases c13 : x43_2 < (l1.length : Int)
                  · rw [if_pos c13] at H
                    have c13b0 : decide (x43_2 < (l1.length : Int)) = true := decide_eq_true c13
                    clear c13
                    have H' := Aside0.mk H
                    clear H
                    have p160 : 0 ≤ (x43_2 : Int) := of_decide_eq_true (by first | (with_reducible assumption) | assumption)
                    have q160 : x43_2 < (l1.length : Int) := of_decide_eq_true (by first | (with_reducible assumption) | assumption)
                    obtain ⟨ad160, A160_0, c160_0, e160, hx160_0, hl160_0, hi160_0⟩ := at_L1 HR1.out x43_2 p160 q160
                    cases e160
                    have HR160_0 := Aside0.mk hi160_0
                    have HC160_0 := Aside0.mk hl160_0
                    clear hi160_0 hl160_0
                    replace p160 := eq_true p160
                    replace q160 := eq_true q160
                    go_wp2
                    go_loopg [50] k2 (fun kq v50 w' => ∃ (x50_3 : Int), v50 = .int .i64 x50_3 ∧ Aside0 (impl_isOpenSchedule.l2 kq l0 l1 x43_2 l1 (l1.length : Int) x43_2 (rd_L1 l1 x43_2) ((rd_L1 l1 x43_2).length : Int) x50_3 = some r) ∧ Aside0 (kq ≤ k2) ∧ Drawn0 w w')
                    case atStart => exact ⟨(0), (by first | rfl | (simp; done) | (simp [*]; done)), H', ⟨Nat.le_refl _⟩, by repeat (first | exact Drawn0.refl _ | apply Drawn0.step)⟩
                    case round =>
                      clear H'
                      try clear c1
                      try clear p1
                      try clear q1
                      try clear hx1
                      try clear p2
                      try clear c3
                      try clear c3b0
                      try clear c3b1
                      try clear c3b2
                      try clear c4
                      try clear c4b0
                      try clear c5
                      try clear c5b0
                      try clear c6
                      try clear c6b0
                      try clear p6
                      try clear c7
                      try clear c7b0
                      try clear c8
                      try clear c8b0
                      try clear c8b1
                      try clear c8b2
                      try clear c10
                      try clear c11
                      try clear c11b0
                      try clear c12
                      try clear c12b0
                      try clear c13
                      try clear c13b0
                      try clear hx157_0
                      try clear hx158_0
                      try clear hx160_0
                      try clear p1
                      try clear p157
                      try clear p158
                      try clear p160
                      try clear p2
                      try clear p6
                      try clear q1
                      try clear q157
                      try clear q158
                      try clear q160
                      obtain ⟨x50_3, rfl, HA, HK3, ⟨m3, rfl⟩⟩ := hrel
                      cases gk with
                      | zero => exact absurd HA.out (by simp [impl_isOpenSchedule.l2])
                      | succ k3 =>
                        have H := HA.out
                        clear HA
                        simp only [impl_isOpenSchedule.l2] at H
                        by_cases c14 : x50_3 < ((rd_L1 l1 x43_2).length : Int)
                        · rw [if_pos c14] at H
                          have c14b0 : decide (x50_3 < ((rd_L1 l1 x43_2).length : Int)) = true := decide_eq_true c14
                          clear c14
                          by_cases c15 : 0 ≤ x50_3
                          · rw [if_pos c15] at H
                            have c15b0 : decide (0 ≤ x50_3) = true := decide_eq_true c15
                            clear c15
                            by_cases c16 : x50_3 < ((rd_L1 l1 x43_2).length : Int)
                            · rw [if_pos c16] at H
                              have c16b0 : decide (x50_3 < ((rd_L1 l1 x43_2).length : Int)) = true := decide_eq_true c16
                              clear c16
                              have H' := Aside0.mk H
                              clear H
                              have p161 : 0 ≤ (x50_3 : Int) := of_decide_eq_true (by first | (with_reducible assumption) | assumption)
                              have q161 : x50_3 < ((rd_L1 l1 x43_2).length : Int) := of_decide_eq_true (by first | (with_reducible assumption) | assumption)
                              obtain ⟨ad161, e161, hx161_0⟩ := Kd.at_int HR160_0.out x50_3 p161 q161
                              cases e161
                              replace p161 := eq_true p161
                              replace q161 := eq_true q161
                              go_wp2
                              go_loopg [57] k3 (fun kq v57 w' => ∃ (x57_4 : Int), v57 = .int .i64 x57_4 ∧ Aside0 (impl_isOpenSchedule.l3 kq l0 l1 x43_2 x50_3 (rd (rd_L1 l1 x43_2) x50_3) l1 (l1.length : Int) x43_2 (rd_L1 l1 x43_2) ((rd_L1 l1 x43_2).length : Int) x50_3 l1 (l1.length : Int) x57_4 = some r) ∧ Aside0 (kq ≤ k3) ∧ Drawn0 w w')
                              case atStart => exact ⟨(0), (by first | rfl | (simp; done) | (simp [*]; done)), H', ⟨Nat.le_refl _⟩, by repeat (first | exact Drawn0.refl _ | apply Drawn0.step)⟩
                              case round =>
                                clear H'
                                try clear c1
                                try clear p1
                                try clear q1
                                try clear hx1
                                try clear p2
                                try clear c3
                                try clear c3b0
                                try clear c3b1
                                try clear c3b2
                                try clear c4
                                try clear c4b0
                                try clear c5
                                try clear c5b0
                                try clear c6
                                try clear c6b0
                                try clear p6
                                try clear c7
                                try clear c7b0
                                try clear c8
                                try clear c8b0
                                try clear c8b1
                                try clear c8b2
                                try clear c10
                                try clear c11
                                try clear c11b0
                                try clear c12
                                try clear c12b0
                                try clear c13
                                try clear c13b0
                                try clear c14
                                try clear c14b0
                                try clear c15
                                try clear c15b0
                                try clear p15
                                try clear q15
                                try clear hx15
                                try clear c16
                                try clear c16b0
                                try clear p16
                                try clear q16
                                try clear hx16
                                try clear hx157_0
                                try clear hx158_0
                                try clear hx160_0
                                try clear hx161_0
                                try clear p1
                                try clear p157
                                try clear p158
                                try clear p160
                                try clear p161
                                try clear p2
                                try clear p6
                                try clear q1
                                try clear q157
                                try clear q158
                                try clear q160
                                try clear q161
                                obtain ⟨x57_4, rfl, HA, HK4, ⟨m4, rfl⟩⟩ := hrel
                                cases gk with
                                | zero => exact absurd HA.out (by simp [impl_isOpenSchedule.l3])
                                | succ k4 =>
                                  have H := HA.out
                                  clear HA
                                  simp only [impl_isOpenSchedule.l3] at H
                                  by_cases c17 : x57_4 < (l1.length : Int)
                                  · rw [if_pos c17] at H
                                    have c17b0 : decide (x57_4 < (l1.length : Int)) = true := decide_eq_true c17
                                    clear c17
                                    by_cases c18 : 0 ≤ x57_4
                                    · rw [if_pos c18] at H
                                      have c18b0 : decide (0 ≤ x57_4) = true := decide_eq_true c18
                                      clear c18
                                      by_cases c19 : x57_4 < (l1.length : Int)
                                      · rw [if_pos c19] at H
                                        have c19b0 : decide (x57_4 < (l1.length : Int)) = true := decide_eq_true c19
                                        clear c19
                                        have H' := Aside0.mk H
                                        clear H
                                        have p162 : 0 ≤ (x57_4 : Int) := of_decide_eq_true (by first | (with_reducible assumption) | assumption)
                                        have q162 : x57_4 < (l1.length : Int) := of_decide_eq_true (by first | (with_reducible assumption) | assumption)
                                        obtain ⟨ad162, A162_0, c162_0, e162, hx162_0, hl162_0, hi162_0⟩ := at_L1 HR1.out x57_4 p162 q162
                                        obtain rfl : ad160 = ad162 := (by injection e162)
                                        have HR162_0 := Aside0.mk hi162_0
                                        have HC162_0 := Aside0.mk hl162_0
                                        clear hi162_0 hl162_0
                                        replace p162 := eq_true p162
                                        replace q162 := eq_true q162
                                        go_wp2
                                        go_loopg [64] k4 (fun kq v64 w' => ∃ (x64_5 : Int), v64 = .int .i64 x64_5 ∧ Aside0 (impl_isOpenSchedule.l4 kq l0 l1 x43_2 x50_3 (rd (rd_L1 l1 x43_2) x50_3) x57_4 l1 (l1.length : Int) x43_2 (rd_L1 l1 x43_2) ((rd_L1 l1 x43_2).length : Int) x50_3 l1 (l1.length : Int) x57_4 (rd_L1 l1 x57_4) ((rd_L1 l1 x57_4).length : Int) x64_5 = some r) ∧ Aside0 (kq ≤ k4) ∧ Drawn0 w w')
                                        case atStart => exact ⟨(0), (by first | rfl | (simp; done) | (simp [*]; done)), H', ⟨Nat.le_refl _⟩, by repeat (first | exact Drawn0.refl _ | apply Drawn0.step)⟩
                                        case round =>
                                          clear H'
                                          try clear c1
                                          try clear p1
                                          try clear q1
                                          try clear hx1
                                          try clear p2
                                          try clear c3
                                          try clear c3b0
                                          try clear c3b1
                                          try clear c3b2
                                          try clear c4
                                          try clear c4b0
                                          try clear c5
                                          try clear c5b0
                                          try clear c6
                                          try clear c6b0
                                          try clear p6
                                          try clear c7
                                          try clear c7b0
                                          try clear c8
                                          try clear c8b0
                                          try clear c8b1
                                          try clear c8b2
                                          try clear c10
                                          try clear c11
                                          try clear c11b0
                                          try clear c12
                                          try clear c12b0
                                          try clear c13
                                          try clear c13b0
                                          try clear c14
                                          try clear c14b0
                                          try clear c15
                                          try clear c15b0
                                          try clear p15
                                          try clear q15
                                          try clear hx15
                                          try clear c16
                                          try clear c16b0
                                          try clear p16
                                          try clear q16
                                          try clear hx16
                                          try clear c17
                                          try clear c17b0
                                          try clear c18
                                          try clear c18b0
                                          try clear c19
                                          try clear c19b0
                                          try clear hx157_0
                                          try clear hx158_0
                                          try clear hx160_0
                                          try clear hx161_0
                                          try clear hx162_0
                                          try clear p1
                                          try clear p15
                                          try clear p157
                                          try clear p158
                                          try clear p16
                                          try clear p160
                                          try clear p161
                                          try clear p162
                                          try clear p2
                                          try clear p6
                                          try clear q1
                                          try clear q15
                                          try clear q157
                                          try clear q158
                                          try clear q16
                                          try clear q160
                                          try clear q161
                                          try clear q162
                                          obtain ⟨x64_5, rfl, HA, HK5, ⟨m5, rfl⟩⟩ := hrel
                                          cases gk with
                                          | zero => exact absurd HA.out (by simp [impl_isOpenSchedule.l4])
                                          | succ k5 =>
                                            have H := HA.out
                                            clear HA
                                            simp only [impl_isOpenSchedule.l4] at H
                                            by_cases c20 : x64_5 < ((rd_L1 l1 x57_4).length : Int)
                                            · rw [if_pos c20] at H
                                              have c20b0 : decide (x64_5 < ((rd_L1 l1 x57_4).length : Int)) = true := decide_eq_true c20
                                              clear c20
                                              by_cases c21 : 0 ≤ x64_5
                                              · rw [if_pos c21] at H
                                                have c21b0 : decide (0 ≤ x64_5) = true := decide_eq_true c21
                                                clear c21
                                                by_cases c22 : x64_5 < ((rd_L1 l1 x57_4).length : Int)
                                                · rw [if_pos c22] at H
                                                  have c22b0 : decide (x64_5 < ((rd_L1 l1 x57_4).length : Int)) = true := decide_eq_true c22
                                                  clear c22
                                                  by_cases c23 : ((x43_2 == x57_4) == (x50_3 == x64_5)) = true
                                                  · rw [if_pos c23] at H
                                                    have c23b0 : ((x43_2 == x57_4) == (x50_3 == x64_5)) = true := c23
                                                    (try (have c23b1 : decide ((x43_2 == x57_4) = (x50_3 == x64_5)) = true := by simpa using c23))
                                                    (try (have c23b2 : ((x43_2 == x57_4) == (x50_3 == x64_5)) = true := by simpa using c23))
                                                    clear c23
                                                    have H' := Aside0.mk H
                                                    clear H
                                                    have p163 : 0 ≤ (x64_5 : Int) := of_decide_eq_true (by first | (with_reducible assumption) | assumption)
                                                    have q163 : x64_5 < ((rd_L1 l1 x57_4).length : Int) := of_decide_eq_true (by first | (with_reducible assumption) | assumption)
                                                    obtain ⟨ad163, e163, hx163_0⟩ := Kd.at_int HR162_0.out x64_5 p163 q163
                                                    cases e163
                                                    replace p163 := eq_true p163
                                                    replace q163 := eq_true q163
                                                    go_wp2
                                                    go_roundg k5
                                                    case measure => have := HK1.out; have := HK2.out; have := HK3.out; have := HK4.out; have := HK5.out; omega
                                                    case rel => exact ⟨(wrap64 (x64_5 + 1)), (by first | rfl | (simp; done) | (simp [*]; done)), H', ⟨by have := HK1.out; have := HK2.out; have := HK3.out; have := HK4.out; have := HK5.out; omega⟩, by repeat (first | exact Drawn0.refl _ | apply Drawn0.step)⟩
                                                  · rw [if_neg c23] at H
                                                    have c23b0 : ((x43_2 == x57_4) == (x50_3 == x64_5)) = false := by simpa using c23
                                                    (try (have c23b1 : decide ((x43_2 == x57_4) = (x50_3 == x64_5)) = false := by simpa using c23))
                                                    (try (have c23b2 : ((x43_2 == x57_4) == (x50_3 == x64_5)) = false := by simpa using c23))
                                                    (try (have c23b3 : ¬ ((x43_2 == x57_4) = (x50_3 == x64_5)) := by simpa using c23))
                                                    clear c23
                                                    by_cases c24 : 0 ≤ x43_2
                                                    · rw [if_pos c24] at H
                                                      have c24b0 : decide (0 ≤ x43_2) = true := decide_eq_true c24
                                                      clear c24
                                                      by_cases c25 : x43_2 < (l0.length : Int)
                                                      · rw [if_pos c25] at H
                                                        have c25b0 : decide (x43_2 < (l0.length : Int)) = true := decide_eq_true c25
                                                        clear c25
                                                        by_cases c26 : 0 ≤ x50_3
                                                        · rw [if_pos c26] at H
                                                          have c26b0 : decide (0 ≤ x50_3) = true := decide_eq_true c26
                                                          clear c26
                                                          by_cases c27 : x50_3 < ((rd_L1 l0 x43_2).length : Int)
                                                          · rw [if_pos c27] at H
                                                            have c27b0 : decide (x50_3 < ((rd_L1 l0 x43_2).length : Int)) = true := decide_eq_true c27
                                                            clear c27
                                                            by_cases c28 : (rd (rd_L1 l0 x43_2) x50_3) > 0
                                                            · rw [if_pos c28] at H
                                                              have c28b0 : decide (0 < (rd (rd_L1 l0 x43_2) x50_3)) = true := decide_eq_true c28
                                                              clear c28
                                                              by_cases c29 : 0 ≤ x57_4
                                                              · rw [if_pos c29] at H
                                                                have c29b0 : decide (0 ≤ x57_4) = true := decide_eq_true c29
                                                                clear c29
                                                                by_cases c30 : x57_4 < (l0.length : Int)
                                                                · rw [if_pos c30] at H
                                                                  have c30b0 : decide (x57_4 < (l0.length : Int)) = true := decide_eq_true c30
                                                                  clear c30
                                                                  by_cases c31 : x64_5 < ((rd_L1 l0 x57_4).length : Int)
                                                                  · rw [if_pos c31] at H
                                                                    have c31b0 : decide (x64_5 < ((rd_L1 l0 x57_4).length : Int)) = true := decide_eq_true c31
                                                                    clear c31
                                                                    by_cases c32 : (rd (rd_L1 l0 x57_4) x64_5) > 0
                                                                    · rw [if_pos c32] at H
                                                                      have c32b0 : decide (0 < (rd (rd_L1 l0 x57_4) x64_5)) = true := decide_eq_true c32
                                                                      clear c32
                                                                      by_cases c33 : (rd (rd_L1 l1 x43_2) x50_3) < (wrap64 ((rd (rd_L1 l1 x57_4) x64_5) + (rd (rd_L1 l0 x57_4) x64_5)))
                                                                      · rw [if_pos c33] at H
                                                                        have c33b0 : decide ((rd (rd_L1 l1 x43_2) x50_3) < (wrap64 ((rd (rd_L1 l1 x57_4) x64_5) + (rd (rd_L1 l0 x57_4) x64_5)))) = true := decide_eq_true c33
                                                                        clear c33
                                                                        by_cases c34 : (rd (rd_L1 l1 x57_4) x64_5) < (wrap64 ((rd (rd_L1 l1 x43_2) x50_3) + (rd (rd_L1 l0 x43_2) x50_3)))
                                                                        · rw [if_pos c34] at H
                                                                          have c34b0 : decide ((rd (rd_L1 l1 x57_4) x64_5) < (wrap64 ((rd (rd_L1 l1 x43_2) x50_3) + (rd (rd_L1 l0 x43_2) x50_3)))) = true := decide_eq_true c34
                                                                          clear c34
                                                                          obtain rfl := Option.some.inj H
                                                                          have p163 : 0 ≤ (x64_5 : Int) := of_decide_eq_true (by first | (with_reducible assumption) | assumption)
                                                                          have q163 : x64_5 < ((rd_L1 l1 x57_4).length : Int) := of_decide_eq_true (by first | (with_reducible assumption) | assumption)
                                                                          obtain ⟨ad163, e163, hx163_0⟩ := Kd.at_int HR162_0.out x64_5 p163 q163
                                                                          cases e163
                                                                          replace p163 := eq_true p163
                                                                          replace q163 := eq_true q163
                                                                          have p164 : 0 ≤ (x43_2 : Int) := of_decide_eq_true (by first | (with_reducible assumption) | assumption)
                                                                          have q164 : x43_2 < (l0.length : Int) := of_decide_eq_true (by first | (with_reducible assumption) | assumption)
                                                                          obtain ⟨ad164, A164_0, c164_0, e164, hx164_0, hl164_0, hi164_0⟩ := at_L1 HR0.out x43_2 p164 q164
                                                                          cases e164
                                                                          have HR164_0 := Aside0.mk hi164_0
                                                                          have HC164_0 := Aside0.mk hl164_0
                                                                          clear hi164_0 hl164_0
                                                                          replace p164 := eq_true p164
                                                                          replace q164 := eq_true q164
                                                                          have p165 : 0 ≤ (x50_3 : Int) := of_decide_eq_true (by first | (with_reducible assumption) | assumption)
                                                                          have q165 : x50_3 < ((rd_L1 l0 x43_2).length : Int) := of_decide_eq_true (by first | (with_reducible assumption) | assumption)
                                                                          obtain ⟨ad165, e165, hx165_0⟩ := Kd.at_int HR164_0.out x50_3 p165 q165
                                                                          cases e165
                                                                          replace p165 := eq_true p165
                                                                          replace q165 := eq_true q165
                                                                          have p166 : 0 ≤ (x57_4 : Int) := of_decide_eq_true (by first | (with_reducible assumption) | assumption)
                                                                          have q166 : x57_4 < (l0.length : Int) := of_decide_eq_true (by first | (with_reducible assumption) | assumption)
                                                                          obtain ⟨ad166, A166_0, c166_0, e166, hx166_0, hl166_0, hi166_0⟩ := at_L1 HR0.out x57_4 p166 q166
                                                                          obtain rfl : ad164 = ad166 := (by injection e166)
                                                                          have HR166_0 := Aside0.mk hi166_0
                                                                          have HC166_0 := Aside0.mk hl166_0
                                                                          clear hi166_0 hl166_0
                                                                          replace p166 := eq_true p166
                                                                          replace q166 := eq_true q166
                                                                          have p167 : 0 ≤ (x64_5 : Int) := of_decide_eq_true (by first | (with_reducible assumption) | assumption)
                                                                          have q167 : x64_5 < ((rd_L1 l0 x57_4).length : Int) := of_decide_eq_true (by first | (with_reducible assumption) | assumption)
                                                                          obtain ⟨ad167, e167, hx167_0⟩ := Kd.at_int HR166_0.out x64_5 p167 q167
                                                                          cases e167
                                                                          replace p167 := eq_true p167
                                                                          replace q167 := eq_true q167
                                                                          have p168 : 0 ≤ (x57_4 : Int) := of_decide_eq_true (by first | (with_reducible assumption) | assumption)
                                                                          have q168 : x57_4 < (l0.length : Int) := of_decide_eq_true (by first | (with_reducible assumption) | assumption)
                                                                          obtain ⟨ad168, A168_0, c168_0, e168, hx168_0, hl168_0, hi168_0⟩ := at_L1 HR0.out x57_4 p168 q168
                                                                          obtain rfl : ad164 = ad168 := (by injection e168)
                                                                          have HR168_0 := Aside0.mk hi168_0
                                                                          have HC168_0 := Aside0.mk hl168_0
                                                                          clear hi168_0 hl168_0
                                                                          replace p168 := eq_true p168
                                                                          replace q168 := eq_true q168
                                                                          have ea_ := Option.some.inj (hx166_0.symm.trans hx168_0)
                                                                          injection ea_ with ea_ en_ ec_
                                                                          subst ea_
                                                                          subst ec_
                                                                          clear en_
                                                                          have p169 : 0 ≤ (x64_5 : Int) := of_decide_eq_true (by first | (with_reducible assumption) | assumption)
                                                                          have q169 : x64_5 < ((rd_L1 l0 x57_4).length : Int) := of_decide_eq_true (by first | (with_reducible assumption) | assumption)
                                                                          obtain ⟨ad169, e169, hx169_0⟩ := Kd.at_int HR168_0.out x64_5 p169 q169
                                                                          cases e169
                                                                          replace p169 := eq_true p169
                                                                          replace q169 := eq_true q169
                                                                          have p170 : 0 ≤ (x43_2 : Int) := of_decide_eq_true (by first | (with_reducible assumption) | assumption)
                                                                          have q170 : x43_2 < (l0.length : Int) := of_decide_eq_true (by first | (with_reducible assumption) | assumption)
                                                                          obtain ⟨ad170, A170_0, c170_0, e170, hx170_0, hl170_0, hi170_0⟩ := at_L1 HR0.out x43_2 p170 q170
                                                                          obtain rfl : ad164 = ad170 := (by injection e170)
                                                                          have HR170_0 := Aside0.mk hi170_0
                                                                          have HC170_0 := Aside0.mk hl170_0
                                                                          clear hi170_0 hl170_0
                                                                          replace p170 := eq_true p170
                                                                          replace q170 := eq_true q170
                                                                          have ea_ := Option.some.inj (hx164_0.symm.trans hx170_0)
                                                                          injection ea_ with ea_ en_ ec_
                                                                          subst ea_
                                                                          subst ec_
                                                                          clear en_
                                                                          have p171 : 0 ≤ (x50_3 : Int) := of_decide_eq_true (by first | (with_reducible assumption) | assumption)
                                                                          have q171 : x50_3 < ((rd_L1 l0 x43_2).length : Int) := of_decide_eq_true (by first | (with_reducible assumption) | assumption)
                                                                          obtain ⟨ad171, e171, hx171_0⟩ := Kd.at_int HR170_0.out x50_3 p171 q171
                                                                          cases e171
                                                                          replace p171 := eq_true p171
                                                                          replace q171 := eq_true q171
                                                                          go_wp2
                                                                          go_ret
                                                                          exact ⟨by first | rfl | (simp; done) | (simp [*]; done), by repeat (first | exact Drawn0.refl _ | apply Drawn0.step)⟩
                                                                        · rw [if_neg c34] at H
                                                                          have c34b0 : decide ((rd (rd_L1 l1 x57_4) x64_5) < (wrap64 ((rd (rd_L1 l1 x43_2) x50_3) + (rd (rd_L1 l0 x43_2) x50_3)))) = false := decide_eq_false c34
                                                                          clear c34
                                                                          have H' := Aside0.mk H
                                                                          clear H
                                                                          have p163 : 0 ≤ (x64_5 : Int) := of_decide_eq_true (by first | (with_reducible assumption) | assumption)
                                                                          have q163 : x64_5 < ((rd_L1 l1 x57_4).length : Int) := of_decide_eq_true (by first | (with_reducible assumption) | assumption)
                                                                          obtain ⟨ad163, e163, hx163_0⟩ := Kd.at_int HR162_0.out x64_5 p163 q163
                                                                          cases e163
                                                                          replace p163 := eq_true p163
                                                                          replace q163 := eq_true q163
                                                                          have p164 : 0 ≤ (x43_2 : Int) := of_decide_eq_true (by first | (with_reducible assumption) | assumption)
                                                                          have q164 : x43_2 < (l0.length : Int) := of_decide_eq_true (by first | (with_reducible assumption) | assumption)
                                                                          obtain ⟨ad164, A164_0, c164_0, e164, hx164_0, hl164_0, hi164_0⟩ := at_L1 HR0.out x43_2 p164 q164
                                                                          cases e164
                                                                          have HR164_0 := Aside0.mk hi164_0
                                                                          have HC164_0 := Aside0.mk hl164_0
                                                                          clear hi164_0 hl164_0
                                                                          replace p164 := eq_true p164
                                                                          replace q164 := eq_true q164
                                                                          have p165 : 0 ≤ (x50_3 : Int) := of_decide_eq_true (by first | (with_reducible assumption) | assumption)
                                                                          have q165 : x50_3 < ((rd_L1 l0 x43_2).length : Int) := of_decide_eq_true (by first | (with_reducible assumption) | assumption)
                                                                          obtain ⟨ad165, e165, hx165_0⟩ := Kd.at_int HR164_0.out x50_3 p165 q165
                                                                          cases e165
                                                                          replace p165 := eq_true p165
                                                                          replace q165 := eq_true q165
                                                                          have p166 : 0 ≤ (x57_4 : Int) := of_decide_eq_true (by first | (with_reducible assumption) | assumption)
                                                                          have q166 : x57_4 < (l0.length : Int) := of_decide_eq_true (by first | (with_reducible assumption) | assumption)
                                                                          obtain ⟨ad166, A166_0, c166_0, e166, hx166_0, hl166_0, hi166_0⟩ := at_L1 HR0.out x57_4 p166 q166
                                                                          obtain rfl : ad164 = ad166 := (by injection e166)
                                                                          have HR166_0 := Aside0.mk hi166_0
                                                                          have HC166_0 := Aside0.mk hl166_0
                                                                          clear hi166_0 hl166_0
                                                                          replace p166 := eq_true p166
                                                                          replace q166 := eq_true q166
                                                                          have p167 : 0 ≤ (x64_5 : Int) := of_decide_eq_true (by first | (with_reducible assumption) | assumption)
                                                                          have q167 : x64_5 < ((rd_L1 l0 x57_4).length : Int) := of_decide_eq_true (by first | (with_reducible assumption) | assumption)
                                                                          obtain ⟨ad167, e167, hx167_0⟩ := Kd.at_int HR166_0.out x64_5 p167 q167
                                                                          cases e167
                                                                          replace p167 := eq_true p167
                                                                          replace q167 := eq_true q167
                                                                          have p168 : 0 ≤ (x57_4 : Int) := of_decide_eq_true (by first | (with_reducible assumption) | assumption)
                                                                          have q168 : x57_4 < (l0.length : Int) := of_decide_eq_true (by first | (with_reducible assumption) | assumption)
                                                                          obtain ⟨ad168, A168_0, c168_0, e168, hx168_0, hl168_0, hi168_0⟩ := at_L1 HR0.out x57_4 p168 q168
                                                                          obtain rfl : ad164 = ad168 := (by injection e168)
                                                                          have HR168_0 := Aside0.mk hi168_0
                                                                          have HC168_0 := Aside0.mk hl168_0
                                                                          clear hi168_0 hl168_0
                                                                          replace p168 := eq_true p168
                                                                          replace q168 := eq_true q168
                                                                          have ea_ := Option.some.inj (hx166_0.symm.trans hx168_0)
                                                                          injection ea_ with ea_ en_ ec_
                                                                          subst ea_
                                                                          subst ec_
                                                                          clear en_
                                                                          have p169 : 0 ≤ (x64_5 : Int) := of_decide_eq_true (by first | (with_reducible assumption) | assumption)
                                                                          have q169 : x64_5 < ((rd_L1 l0 x57_4).length : Int) := of_decide_eq_true (by first | (with_reducible assumption) | assumption)
                                                                          obtain ⟨ad169, e169, hx169_0⟩ := Kd.at_int HR168_0.out x64_5 p169 q169
                                                                          cases e169
                                                                          replace p169 := eq_true p169
                                                                          replace q169 := eq_true q169
                                                                          have p170 : 0 ≤ (x43_2 : Int) := of_decide_eq_true (by first | (with_reducible assumption) | assumption)
                                                                          have q170 : x43_2 < (l0.length : Int) := of_decide_eq_true (by first | (with_reducible assumption) | assumption)
                                                                          obtain ⟨ad170, A170_0, c170_0, e170, hx170_0, hl170_0, hi170_0⟩ := at_L1 HR0.out x43_2 p170 q170
                                                                          obtain rfl : ad164 = ad170 := (by injection e170)
                                                                          have HR170_0 := Aside0.mk hi170_0
                                                                          have HC170_0 := Aside0.mk hl170_0
                                                                          clear hi170_0 hl170_0
                                                                          replace p170 := eq_true p170
                                                                          replace q170 := eq_true q170
                                                                          have ea_ := Option.some.inj (hx164_0.symm.trans hx170_0)
                                                                          injection ea_ with ea_ en_ ec_
                                                                          subst ea_
                                                                          subst ec_
                                                                          clear en_
                                                                          have p171 : 0 ≤ (x50_3 : Int) := of_decide_eq_true (by first | (with_reducible assumption) | assumption)
                                                                          have q171 : x50_3 < ((rd_L1 l0 x43_2).length : Int) := of_decide_eq_true (by first | (with_reducible assumption) | assumption)
                                                                          obtain ⟨ad171, e171, hx171_0⟩ := Kd.at_int HR170_0.out x50_3 p171 q171
                                                                          cases e171
                                                                          replace p171 := eq_true p171
                                                                          replace q171 := eq_true q171
                                                                          go_wp2
                                                                          go_roundg k5
                                                                          case measure => have := HK1.out; have := HK2.out; have := HK3.out; have := HK4.out; have := HK5.out; omega
                                                                          case rel => exact ⟨(wrap64 (x64_5 + 1)), (by first | rfl | (simp; done) | (simp [*]; done)), H', ⟨by have := HK1.out; have := HK2.out; have := HK3.out; have := HK4.out; have := HK5.out; omega⟩, by repeat (first | exact Drawn0.refl _ | apply Drawn0.step)⟩
                                                                      · rw [if_neg c33] at H
                                                                        have c33b0 : decide ((rd (rd_L1 l1 x43_2) x50_3) < (wrap64 ((rd (rd_L1 l1 x57_4) x64_5) + (rd (rd_L1 l0 x57_4) x64_5)))) = false := decide_eq_false c33
                                                                        clear c33
                                                                        have H' := Aside0.mk H
                                                                        clear H
                                                                        have p163 : 0 ≤ (x64_5 : Int) := of_decide_eq_true (by first | (with_reducible assumption) | assumption)
                                                                        have q163 : x64_5 < ((rd_L1 l1 x57_4).length : Int) := of_decide_eq_true (by first | (with_reducible assumption) | assumption)
                                                                        obtain ⟨ad163, e163, hx163_0⟩ := Kd.at_int HR162_0.out x64_5 p163 q163
                                                                        cases e163
                                                                        replace p163 := eq_true p163
                                                                        replace q163 := eq_true q163
                                                                        have p164 : 0 ≤ (x43_2 : Int) := of_decide_eq_true (by first | (with_reducible assumption) | assumption)
                                                                        have q164 : x43_2 < (l0.length : Int) := of_decide_eq_true (by first | (with_reducible assumption) | assumption)
                                                                        obtain ⟨ad164, A164_0, c164_0, e164, hx164_0, hl164_0, hi164_0⟩ := at_L1 HR0.out x43_2 p164 q164
                                                                        cases e164
                                                                        have HR164_0 := Aside0.mk hi164_0
                                                                        have HC164_0 := Aside0.mk hl164_0
                                                                        clear hi164_0 hl164_0
                                                                        replace p164 := eq_true p164
                                                                        replace q164 := eq_true q164
                                                                        have p165 : 0 ≤ (x50_3 : Int) := of_decide_eq_true (by first | (with_reducible assumption) | assumption)
                                                                        have q165 : x50_3 < ((rd_L1 l0 x43_2).length : Int) := of_decide_eq_true (by first | (with_reducible assumption) | assumption)
                                                                        obtain ⟨ad165, e165, hx165_0⟩ := Kd.at_int HR164_0.out x50_3 p165 q165
                                                                        cases e165
                                                                        replace p165 := eq_true p165
                                                                        replace q165 := eq_true q165
                                                                        have p166 : 0 ≤ (x57_4 : Int) := of_decide_eq_true (by first | (with_reducible assumption) | assumption)
                                                                        have q166 : x57_4 < (l0.length : Int) := of_decide_eq_true (by first | (with_reducible assumption) | assumption)
                                                                        obtain ⟨ad166, A166_0, c166_0, e166, hx166_0, hl166_0, hi166_0⟩ := at_L1 HR0.out x57_4 p166 q166
                                                                        obtain rfl : ad164 = ad166 := (by injection e166)
                                                                        have HR166_0 := Aside0.mk hi166_0
                                                                        have HC166_0 := Aside0.mk hl166_0
                                                                        clear hi166_0 hl166_0
                                                                        replace p166 := eq_true p166
                                                                        replace q166 := eq_true q166
                                                                        have p167 : 0 ≤ (x64_5 : Int) := of_decide_eq_true (by first | (with_reducible assumption) | assumption)
                                                                        have q167 : x64_5 < ((rd_L1 l0 x57_4).length : Int) := of_decide_eq_true (by first | (with_reducible assumption) | assumption)
                                                                        obtain ⟨ad167, e167, hx167_0⟩ := Kd.at_int HR166_0.out x64_5 p167 q167
                                                                        cases e167
                                                                        replace p167 := eq_true p167
                                                                        replace q167 := eq_true q167
                                                                        have p168 : 0 ≤ (x57_4 : Int) := of_decide_eq_true (by first | (with_reducible assumption) | assumption)
                                                                        have q168 : x57_4 < (l0.length : Int) := of_decide_eq_true (by first | (with_reducible assumption) | assumption)
                                                                        obtain ⟨ad168, A168_0, c168_0, e168, hx168_0, hl168_0, hi168_0⟩ := at_L1 HR0.out x57_4 p168 q168
                                                                        obtain rfl : ad164 = ad168 := (by injection e168)
                                                                        have HR168_0 := Aside0.mk hi168_0
                                                                        have HC168_0 := Aside0.mk hl168_0
                                                                        clear hi168_0 hl168_0
                                                                        replace p168 := eq_true p168
                                                                        replace q168 := eq_true q168
                                                                        have ea_ := Option.some.inj (hx166_0.symm.trans hx168_0)
                                                                        injection ea_ with ea_ en_ ec_
                                                                        subst ea_
                                                                        subst ec_
                                                                        clear en_
                                                                        have p169 : 0 ≤ (x64_5 : Int) := of_decide_eq_true (by first | (with_reducible assumption) | assumption)
                                                                        have q169 : x64_5 < ((rd_L1 l0 x57_4).length : Int) := of_decide_eq_true (by first | (with_reducible assumption) | assumption)
                                                                        obtain ⟨ad169, e169, hx169_0⟩ := Kd.at_int HR168_0.out x64_5 p169 q169
                                                                        cases e169
                                                                        replace p169 := eq_true p169
                                                                        replace q169 := eq_true q169
                                                                        go_wp2
                                                                        go_roundg k5
                                                                        case measure => have := HK1.out; have := HK2.out; have := HK3.out; have := HK4.out; have := HK5.out; omega
                                                                        case rel => exact ⟨(wrap64 (x64_5 + 1)), (by first | rfl | (simp; done) | (simp [*]; done)), H', ⟨by have := HK1.out; have := HK2.out; have := HK3.out; have := HK4.out; have := HK5.out; omega⟩, by repeat (first | exact Drawn0.refl _ | apply Drawn0.step)⟩
                                                                    · rw [if_neg c32] at H
                                                                      have c32b0 : decide (0 < (rd (rd_L1 l0 x57_4) x64_5)) = false := decide_eq_false c32
                                                                      clear c32
                                                                      have H' := Aside0.mk H
                                                                      clear H
                                                                      have p163 : 0 ≤ (x64_5 : Int) := of_decide_eq_true (by first | (with_reducible assumption) | assumption)
                                                                      have q163 : x64_5 < ((rd_L1 l1 x57_4).length : Int) := of_decide_eq_true (by first | (with_reducible assumption) | assumption)
                                                                      obtain ⟨ad163, e163, hx163_0⟩ := Kd.at_int HR162_0.out x64_5 p163 q163
                                                                      cases e163
                                                                      replace p163 := eq_true p163
                                                                      replace q163 := eq_true q163
                                                                      have p164 : 0 ≤ (x43_2 : Int) := of_decide_eq_true (by first | (with_reducible assumption) | assumption)
                                                                      have q164 : x43_2 < (l0.length : Int) := of_decide_eq_true (by first | (with_reducible assumption) | assumption)
                                                                      obtain ⟨ad164, A164_0, c164_0, e164, hx164_0, hl164_0, hi164_0⟩ := at_L1 HR0.out x43_2 p164 q164
                                                                      cases e164
                                                                      have HR164_0 := Aside0.mk hi164_0
                                                                      have HC164_0 := Aside0.mk hl164_0
                                                                      clear hi164_0 hl164_0
                                                                      replace p164 := eq_true p164
                                                                      replace q164 := eq_true q164
                                                                      have p165 : 0 ≤ (x50_3 : Int) := of_decide_eq_true (by first | (with_reducible assumption) | assumption)
                                                                      have q165 : x50_3 < ((rd_L1 l0 x43_2).length : Int) := of_decide_eq_true (by first | (with_reducible assumption) | assumption)
                                                                      obtain ⟨ad165, e165, hx165_0⟩ := Kd.at_int HR164_0.out x50_3 p165 q165
                                                                      cases e165
                                                                      replace p165 := eq_true p165
                                                                      replace q165 := eq_true q165
                                                                      have p166 : 0 ≤ (x57_4 : Int) := of_decide_eq_true (by first | (with_reducible assumption) | assumption)
                                                                      have q166 : x57_4 < (l0.length : Int) := of_decide_eq_true (by first | (with_reducible assumption) | assumption)
                                                                      obtain ⟨ad166, A166_0, c166_0, e166, hx166_0, hl166_0, hi166_0⟩ := at_L1 HR0.out x57_4 p166 q166
                                                                      obtain rfl : ad164 = ad166 := (by injection e166)
                                                                      have HR166_0 := Aside0.mk hi166_0
                                                                      have HC166_0 := Aside0.mk hl166_0
                                                                      clear hi166_0 hl166_0
                                                                      replace p166 := eq_true p166
                                                                      replace q166 := eq_true q166
                                                                      have p167 : 0 ≤ (x64_5 : Int) := of_decide_eq_true (by first | (with_reducible assumption) | assumption)
                                                                      have q167 : x64_5 < ((rd_L1 l0 x57_4).length : Int) := of_decide_eq_true (by first | (with_reducible assumption) | assumption)
                                                                      obtain ⟨ad167, e167, hx167_0⟩ := Kd.at_int HR166_0.out x64_5 p167 q167
                                                                      cases e167
                                                                      replace p167 := eq_true p167
                                                                      replace q167 := eq_true q167
                                                                      go_wp2
                                                                      go_roundg k5
                                                                      case measure => have := HK1.out; have := HK2.out; have := HK3.out; have := HK4.out; have := HK5.out; omega
                                                                      case rel => exact ⟨(wrap64 (x64_5 + 1)), (by first | rfl | (simp; done) | (simp [*]; done)), H', ⟨by have := HK1.out; have := HK2.out; have := HK3.out; have := HK4.out; have := HK5.out; omega⟩, by repeat (first | exact Drawn0.refl _ | apply Drawn0.step)⟩
                                                                  · rw [if_neg c31] at H
                                                                    exact absurd H (by simp)
                                                                · rw [if_neg c30] at H
                                                                  exact absurd H (by simp)
                                                              · rw [if_neg c29] at H
                                                                exact absurd H (by simp)
                                                            · rw [if_neg c28] at H
                                                              have c28b0 : decide (0 < (rd (rd_L1 l0 x43_2) x50_3)) = false := decide_eq_false c28
                                                              clear c28
                                                              have H' := Aside0.mk H
                                                              clear H
                                                              have p163 : 0 ≤ (x64_5 : Int) := of_decide_eq_true (by first | (with_reducible assumption) | assumption)
                                                              have q163 : x64_5 < ((rd_L1 l1 x57_4).length : Int) := of_decide_eq_true (by first | (with_reducible assumption) | assumption)
                                                              obtain ⟨ad163, e163, hx163_0⟩ := Kd.at_int HR162_0.out x64_5 p163 q163
                                                              cases e163
                                                              replace p163 := eq_true p163
                                                              replace q163 := eq_true q163
                                                              have p164 : 0 ≤ (x43_2 : Int) := of_decide_eq_true (by first | (with_reducible assumption) | assumption)
                                                              have q164 : x43_2 < (l0.length : Int) := of_decide_eq_true (by first | (with_reducible assumption) | assumption)
                                                              obtain ⟨ad164, A164_0, c164_0, e164, hx164_0, hl164_0, hi164_0⟩ := at_L1 HR0.out x43_2 p164 q164
                                                              cases e164
                                                              have HR164_0 := Aside0.mk hi164_0
                                                              have HC164_0 := Aside0.mk hl164_0
                                                              clear hi164_0 hl164_0
                                                              replace p164 := eq_true p164
                                                              replace q164 := eq_true q164
                                                              have p165 : 0 ≤ (x50_3 : Int) := of_decide_eq_true (by first | (with_reducible assumption) | assumption)
                                                              have q165 : x50_3 < ((rd_L1 l0 x43_2).length : Int) := of_decide_eq_true (by first | (with_reducible assumption) | assumption)
                                                              obtain ⟨ad165, e165, hx165_0⟩ := Kd.at_int HR164_0.out x50_3 p165 q165
                                                              cases e165
                                                              replace p165 := eq_true p165
                                                              replace q165 := eq_true q165
                                                              go_wp2
                                                              go_roundg k5
                                                              case measure => have := HK1.out; have := HK2.out; have := HK3.out; have := HK4.out; have := HK5.out; omega
                                                              case rel => exact ⟨(wrap64 (x64_5 + 1)), (by first | rfl | (simp; done) | (simp [*]; done)), H', ⟨by have := HK1.out; have := HK2.out; have := HK3.out; have := HK4.out; have := HK5.out; omega⟩, by repeat (first | exact Drawn0.refl _ | apply Drawn0.step)⟩
                                                          · rw [if_neg c27] at H
                                                            exact absurd H (by simp)
                                                        · rw [if_neg c26] at H
                                                          exact absurd H (by simp)
                                                      · rw [if_neg c25] at H
                                                        exact absurd H (by simp)
                                                    · rw [if_neg c24] at H
                                                      exact absurd H (by simp)
                                                · rw [if_neg c22] at H
                                                  exact absurd H (by simp)
                                              · rw [if_neg c21] at H
                                                exact absurd H (by simp)
                                            · rw [if_neg c20] at H
                                              have c20b0 : decide (x64_5 < ((rd_L1 l1 x57_4).length : Int)) = false := decide_eq_false c20
                                              clear c20
                                              have H' := Aside0.mk H
                                              clear H
                                              go_wp2
                                              go_roundg k5
                                              case measure => have := HK1.out; have := HK2.out; have := HK3.out; have := HK4.out; have := HK5.out; omega
                                              case rel => exact ⟨(wrap64 (x57_4 + 1)), (by first | rfl | (simp; done) | (simp [*]; done)), H', ⟨by have := HK1.out; have := HK2.out; have := HK3.out; have := HK4.out; have := HK5.out; omega⟩, by repeat (first | exact Drawn0.refl _ | apply Drawn0.step)⟩
                                      · rw [if_neg c19] at H
                                        exact absurd H (by simp)
                                    · rw [if_neg c18] at H
                                      exact absurd H (by simp)
                                  · rw [if_neg c17] at H
                                    have c17b0 : decide (x57_4 < (l1.length : Int)) = false := decide_eq_false c17
                                    clear c17
                                    have H' := Aside0.mk H
                                    clear H
                                    go_wp2
                                    go_roundg k4
                                    case measure => have := HK1.out; have := HK2.out; have := HK3.out; have := HK4.out; omega
                                    case rel => exact ⟨(wrap64 (x50_3 + 1)), (by first | rfl | (simp; done) | (simp [*]; done)), H', ⟨by have := HK1.out; have := HK2.out; have := HK3.out; have := HK4.out; omega⟩, by repeat (first | exact Drawn0.refl _ | apply Drawn0.step)⟩
                            · rw [if_neg c16] at H
                              exact absurd H (by simp)
                          · rw [if_neg c15] at H
                            exact absurd H (by simp)
                        · rw [if_neg c14] at H
                          have c14b0 : decide (x50_3 < ((rd_L1 l1 x43_2).length : Int)) = false := decide_eq_false c14
                          clear c14
                          have H' := Aside0.mk H
                          clear H
                          go_wp2
                          go_roundg k3
                          case measure => have := HK1.out; have := HK2.out; have := HK3.out; omega
                          case rel => exact ⟨(wrap64 (x43_2 + 1)), (by first | rfl | (simp; done) | (simp [*]; done)), H', ⟨by have := HK1.out; have := HK2.out; have := HK3.out; omega⟩, by repeat (first | exact Drawn0.refl _ | apply Drawn0.step)⟩
                  · rw [if_neg c13] at H
                    exact absurd H (by simp)
                · rw [if_neg c12] at H
                  exact absurd H (by simp)
              · rw [if_neg c11] at H
                have c11b0 : decide (x43_2 < (l1.length : Int)) = false := decide_eq_false c11
                clear c11
                obtain rfl := Option.some.inj H
                go_wp2
                go_ret
                exact ⟨by first | rfl | (simp; done) | (simp [*]; done), by repeat (first | exact Drawn0.refl _ | apply Drawn0.step)⟩
  · rw [if_neg c3] at H
    have c3b0 : ((l1.length : Int) == (l0.length : Int)) = false := beq_eq_false_iff_ne.mpr c3
    have c3b1 : ((l1.length : Int) != (l0.length : Int)) = true := bne_iff_ne.mpr c3
    have c3b2 : (l1.length == l0.length) = false := by first | simpa using c3 | (simp at c3 ⊢; omega)
    obtain rfl := Option.some.inj H
    go_enter Try.func36, Try.ntmps36
    go_wp2
    go_ret
    exact ⟨by first | rfl | (simp; done) | (simp [*]; done), by repeat (first | exact Drawn0.refl _ | apply Drawn0.step)⟩

end Go.Proofs.Ytigfamfbppdbaaa.XFnExactIsOpenSchedule
