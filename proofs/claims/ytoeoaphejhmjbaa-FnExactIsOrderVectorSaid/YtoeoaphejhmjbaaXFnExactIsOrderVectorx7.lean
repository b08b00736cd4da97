-- Written by a program of this session (the kit's print, widened). Proved here: what each function answers, for the arguments that its contract names.
import Derived.Test.YtoeoaphejhmjbaaXFnExactIsOrderVectorx0
import Derived.Test.YtoeoaphejhmjbaaXFnExactIsOrderVectorx6
namespace Go.Proofs.Ytoeoaphejhmjbaa.XFnExactIsOrderVector
open Go.RowKit Go.Proofs.YtoeoaphejhmjbaaW.PrintWords Go.Proofs.YtoeoaphejhmjbaaW.PrintLast Go.Proofs.YtoeoaphejhmjbaaW.PrintMore
attribute [local go_sem] max2_int min2_int max_two min_two max_three min_three max_four min_four   -- for this text's walks alone
set_option linter.unusedVariables false
set_option linter.unusedSimpArgs false

/-! ### impl_allWithin: function 92 -/
def impl_allWithin.l0 : Nat → Int → Int → List Int → Int → Int → Option (Bool)
  | 0, _, _, _, _, _ => none
  | k + 1, x1, x2, x9, x10, x11 => if x11 < x10 then (if 0 ≤ x11 then (if x11 < (x9.length : Int) then ((impl_within.f (rd x9 x11) x1 x2).bind fun t237 => (if t237 = true then (impl_allWithin.l0 k x1 x2 x9 x10 (wrap64 (x11 + 1))) else (some false))) else (none)) else (none)) else (some true)
def impl_allWithin.f (k : Nat) (l0 : List Int) (a1 : Int) (a2 : Int) : Option (Bool) := impl_allWithin.l0 k a1 a2 l0 (l0.length : Int) 0
theorem impl_allWithin.mono_l : ∀ k, (∀ y0 y1 y2 y3 y4, LeO (impl_allWithin.l0 k y0 y1 y2 y3 y4) (impl_allWithin.l0 (k + 1) y0 y1 y2 y3 y4))
  | 0 => fun _ _ _ _ _ r h => by simp [impl_allWithin.l0] at h
  | k + 1 => by
    have ih0 := impl_allWithin.mono_l k
    · intro y0 y1 y2 y3 y4
      unfold impl_allWithin.l0
      repeat' first
      | (with_reducible exact ih0 _ _ _ _ _)
      | (with_reducible exact LeO.refl _)
      | (with_reducible exact LeO.none _)
      | (with_reducible refine LeO.ite ?_ ?_)
      | (with_reducible refine LeO.bind ?_ (fun _ => ?_))
      | exact ih0 _ _ _ _ _
      | exact LeO.none _
      | refine LeO.ite ?_ ?_
      | refine LeO.bind ?_ (fun _ => ?_)
theorem impl_allWithin.mono : ∀ a0 a1 a2 k, LeO (impl_allWithin.f k a0 a1 a2) (impl_allWithin.f (k + 1) a0 a1 a2) := by
  intro a0 a1 a2 k
  have ih0 := impl_allWithin.mono_l k
  unfold impl_allWithin.f
  repeat' first
      | (with_reducible exact ih0 _ _ _ _ _)
      | (with_reducible exact LeO.refl _)
      | (with_reducible exact LeO.none _)
      | (with_reducible refine LeO.ite ?_ ?_)
      | (with_reducible refine LeO.bind ?_ (fun _ => ?_))
      | exact ih0 _ _ _ _ _
      | exact LeO.none _
      | refine LeO.ite ?_ ?_
      | refine LeO.bind ?_ (fun _ => ?_)
set_option maxHeartbeats 8000000 in
set_option maxRecDepth 100000 in
theorem impl_allWithin.calls (k : Nat) (A0 : Option Addr) (c0 : Nat) (l0 : List Int) (a1 : Int) (a2 : Int) (r : Bool) (w : World) (hr0 : Kd.C (Kd.int .i64) w A0 l0.length l0) (hc0 : l0.length ≤ c0) (h : impl_allWithin.f k l0 a1 a2 = some r) :
    Calls Try.prog 92 #[.slice A0 l0.length c0, .int .i64 a1, .int .i64 a2] w fun e w' => e = .returned (.bool r) ∧ Drawn0 w w' := by
  have HR0 := Aside0.mk hr0
  have HC0 := Aside0.mk hc0
  clear hr0 hc0
  have H : (impl_allWithin.l0 k a1 a2 l0 (l0.length : Int) 0) = some r := h
  clear h
  have H' := Aside0.mk H
  clear H
  go_enter Try.func92, Try.ntmps92
  go_wp2
  go_loopg [11] k (fun kq v11 w' => ∃ (x11_1 : Int), v11 = .int .i64 x11_1 ∧ Aside0 (impl_allWithin.l0 kq a1 a2 l0 (l0.length : Int) x11_1 = some r) ∧ Aside0 (kq ≤ k) ∧ Drawn0 w w')
  case atStart => exact ⟨(0), (by first | rfl | (simp; done) | (simp [*]; done)), H', ⟨Nat.le_refl _⟩, by repeat (first | exact Drawn0.refl _ | apply Drawn0.step)⟩
  case round =>
    clear H'
    try clear p2
    obtain ⟨x11_1, rfl, HA, HK1, ⟨m1, rfl⟩⟩ := hrel
    cases gk with
    | zero => exact absurd HA.out (by simp [impl_allWithin.l0])
    | succ k1 =>
      have H := HA.out
      clear HA
      simp only [impl_allWithin.l0] at H
      by_cases c4 : x11_1 < (l0.length : Int)
      · rw [if_pos c4] at H
        have c4b0 : decide (x11_1 < (l0.length : Int)) = true := decide_eq_true c4
        clear c4
        by_cases c5 : 0 ≤ x11_1
        · rw [if_pos c5] at H
          have c5b0 : decide (0 ≤ x11_1) = true := decide_eq_true c5
          clear c5
          by_cases c6 : x11_1 < (l0.length : Int)
          · rw [if_pos c6] at H
            have c6b0 : decide (x11_1 < (l0.length : Int)) = true := decide_eq_true c6
            clear c6
            replace H := Option.bind_eq_some_iff.mp H
            obtain ⟨t237, A70, H⟩ := H
            replace H : (if t237 = true then (impl_allWithin.l0 k1 a1 a2 l0 (l0.length : Int) (wrap64 (x11_1 + 1))) else (some false)) = some r := H
            have A7 := Aside0.mk A70
            clear A70
            by_cases c8 : t237 = true
            · subst c8
              have H1 : (impl_allWithin.l0 k1 a1 a2 l0 (l0.length : Int) (wrap64 (x11_1 + 1))) = some r := by rw [if_pos rfl] at H; exact H
              clear H
              have H := H1
              clear H1
              have H' := Aside0.mk H
              clear H
              have p236 : 0 ≤ (x11_1 : Int) := of_decide_eq_true (by first | (with_reducible assumption) | assumption)
              have q236 : x11_1 < (l0.length : Int) := of_decide_eq_true (by first | (with_reducible assumption) | assumption)
              obtain ⟨ad236, e236, hx236_0⟩ := Kd.at_int HR0.out x11_1 p236 q236
              cases e236
              replace p236 := eq_true p236
              replace q236 := eq_true q236
              go_wp2_with (first | ((with_reducible refine gate_callee (f := 76) rfl ?_); refine goesL_ (some 18) rfl rfl Try.func76 (by kernel_rfl) rfl #[.int .i64 (rd l0 x11_1), .int .i64 a1, .int .i64 a2] rfl (by (try simp only [List.map_toArray, List.map_cons, List.map_nil]); first | done | rfl | (simp only [List.length_drop, List.length_take]; rfl)) ?_; (with_reducible refine (impl_within.calls (rd l0 x11_1) a1 a2 true _ A7.out).mono ?_); rintro e w' ⟨rfl, ⟨nd, rfl⟩⟩; refine ⟨_, rfl, ?_⟩))
              go_roundg k1
              case measure => have := HK1.out; omega
              case rel => exact ⟨(wrap64 (x11_1 + 1)), (by first | rfl | (simp; done) | (simp [*]; done)), H', ⟨by have := HK1.out; omega⟩, by repeat (first | exact Drawn0.refl _ | apply Drawn0.step)⟩
            · replace c8 := Bool.eq_false_iff.mpr c8
              subst c8
              have H1 : (some false) = some r := by rw [if_neg (show ¬ (false = true) by decide)] at H; exact H
              clear H
              have H := H1
              clear H1
              obtain rfl := Option.some.inj H
              have p236 : 0 ≤ (x11_1 : Int) := of_decide_eq_true (by first | (with_reducible assumption) | assumption)
              have q236 : x11_1 < (l0.length : Int) := of_decide_eq_true (by first | (with_reducible assumption) | assumption)
              obtain ⟨ad236, e236, hx236_0⟩ := Kd.at_int HR0.out x11_1 p236 q236
              cases e236
              replace p236 := eq_true p236
              replace q236 := eq_true q236
              go_wp2_with (first | ((with_reducible refine gate_callee (f := 76) rfl ?_); refine goesL_ (some 18) rfl rfl Try.func76 (by kernel_rfl) rfl #[.int .i64 (rd l0 x11_1), .int .i64 a1, .int .i64 a2] rfl (by (try simp only [List.map_toArray, List.map_cons, List.map_nil]); first | done | rfl | (simp only [List.length_drop, List.length_take]; rfl)) ?_; (with_reducible refine (impl_within.calls (rd l0 x11_1) a1 a2 false _ A7.out).mono ?_); rintro e w' ⟨rfl, ⟨nd, rfl⟩⟩; refine ⟨_, rfl, ?_⟩))
              go_ret
              exact ⟨by first | rfl | (simp; done) | (simp [*]; done), by repeat (first | exact Drawn0.refl _ | apply Drawn0.step)⟩
          · rw [if_neg c6] at H
            exact absurd H (by simp)
        · rw [if_neg c5] at H
          exact absurd H (by simp)
      · rw [if_neg c4] at H
        have c4b0 : decide (x11_1 < (l0.length : Int)) = false := decide_eq_false c4
        clear c4
        obtain rfl := Option.some.inj H
        go_wp2
        go_ret
        exact ⟨by first | rfl | (simp; done) | (simp [*]; done), by repeat (first | exact Drawn0.refl _ | apply Drawn0.step)⟩

/-! ### impl_isVector: function 64 -/
def impl_isVector.f (k : Nat) (l0 : List (S64)) (l1 : List Int) : Option (Bool) := if (l1.length : Int) = (l0.length : Int) then ((impl_allWithin.f k l1 0 2000).bind fun t238 => (some t238)) else (some false)
theorem impl_isVector.mono : ∀ a0 a1 k, LeO (impl_isVector.f k a0 a1) (impl_isVector.f (k + 1) a0 a1) := by
  intro a0 a1 k
  unfold impl_isVector.f
  repeat' first
      | (with_reducible exact impl_allWithin.mono _ _ _ _)
      | (with_reducible exact LeO.refl _)
      | (with_reducible exact LeO.none _)
      | (with_reducible refine LeO.ite ?_ ?_)
      | (with_reducible refine LeO.bind ?_ (fun _ => ?_))
      | exact impl_allWithin.mono _ _ _ _
      | exact LeO.none _
      | refine LeO.ite ?_ ?_
      | refine LeO.bind ?_ (fun _ => ?_)
set_option maxHeartbeats 8000000 in
set_option maxRecDepth 100000 in
theorem impl_isVector.calls (k : Nat) (A0 : Option Addr) (c0 : Nat) (l0 : List (S64)) (A1 : Option Addr) (c1 : Nat) (l1 : List Int) (r : Bool) (w : World) (hr0 : Kd.C k64 w A0 l0.length l0) (hc0 : l0.length ≤ c0) (hr1 : Kd.C (Kd.int .i64) w A1 l1.length l1) (hc1 : l1.length ≤ c1) (h : impl_isVector.f k l0 l1 = some r) :
    Calls Try.prog 64 #[.slice A0 l0.length c0, .slice A1 l1.length c1] w fun e w' => e = .returned (.bool r) ∧ Drawn0 w w' := by
  have HR0 := Aside0.mk hr0
  have HC0 := Aside0.mk hc0
  clear hr0 hc0
  have HR1 := Aside0.mk hr1
  have HC1 := Aside0.mk hc1
  clear hr1 hc1
  have H : (if (l1.length : Int) = (l0.length : Int) then ((impl_allWithin.f k l1 0 2000).bind fun t238 => (some t238)) else (some false)) = some r := h
  clear h
  by_cases c3 : (l1.length : Int) = (l0.length : Int)
  · rw [if_pos c3] at H
    have c3b0 : ((l1.length : Int) == (l0.length : Int)) = true := beq_iff_eq.mpr c3
    have c3b1 : ((l1.length : Int) != (l0.length : Int)) = false := bne_eq_false_iff_eq.mpr c3
    have c3b2 : (l1.length == l0.length) = true := by first | simpa using c3 | (simp at c3 ⊢; omega)
    clear c3
    replace H := Option.bind_eq_some_iff.mp H
    obtain ⟨t238, A40, H⟩ := H
    replace H : (some t238) = some r := H
    have A4 := Aside0.mk A40
    clear A40
    obtain rfl := Option.some.inj H
    go_enter Try.func64, Try.ntmps64
    go_wp2_with (first | (go_at_call 92; (with_reducible refine (impl_allWithin.calls k _ _ l1 0 2000 t238 _ ?side1 ?side2 A4.out).mono ?_); (case side1 => repeat (first | exact HR1.out | (with_reducible refine Kd.C_alloc ?_ _) | (with_reducible refine Kd.C_drewN ?_ _) | (with_reducible refine Kd.C_drew ?_))); (case side2 => exact HC1.out); rintro e w' ⟨rfl, ⟨nd, rfl⟩⟩))
    go_ret
    exact ⟨by first | rfl | (simp; done) | (simp [*]; done), by repeat (first | exact Drawn0.refl _ | apply Drawn0.step)⟩
  · rw [if_neg c3] at H
    have c3b0 : ((l1.length : Int) == (l0.length : Int)) = false := beq_eq_false_iff_ne.mpr c3
    have c3b1 : ((l1.length : Int) != (l0.length : Int)) = true := bne_iff_ne.mpr c3
    have c3b2 : (l1.length == l0.length) = false := by first | simpa using c3 | (simp at c3 ⊢; omega)
    obtain rfl := Option.some.inj H
    go_enter Try.func64, Try.ntmps64
    go_wp2
    go_ret
    exact ⟨by first | rfl | (simp; done) | (simp [*]; done), by repeat (first | exact Drawn0.refl _ | apply Drawn0.step)⟩

/-! ### impl_compareLists: function 65 -/
mutual
def impl_compareLists.l0 : Nat → List Int → List Int → Int → Option (Int)
  | 0, _, _, _ => none
  | k + 1, x0, x1, x5 => if x5 < (x0.length : Int) then (impl_compareLists.j1 k x0 x1 x5 (decide (x5 < (x1.length : Int)))) else (impl_compareLists.j1 k x0 x1 x5 false)
def impl_compareLists.j1 : Nat → List Int → List Int → Int → Bool → Option (Int)
  | 0, _, _, _, _ => none
  | k + 1, x0, x1, x5, x15 => if x15 = true then (if 0 ≤ x5 then (if x5 < (x0.length : Int) then (if x5 < (x1.length : Int) then (if (rd x0 x5) = (rd x1 x5) then (impl_compareLists.l0 k x0 x1 (wrap64 (x5 + 1))) else (some (wrap64 ((rd x0 x5) - (rd x1 x5))))) else (none)) else (none)) else (none)) else (some (wrap64 ((x0.length : Int) - (x1.length : Int))))
end
def impl_compareLists.f (k : Nat) (l0 : List Int) (l1 : List Int) : Option (Int) := impl_compareLists.l0 k l0 l1 0
theorem impl_compareLists.mono_l : ∀ k, (∀ y0 y1 y2, LeO (impl_compareLists.l0 k y0 y1 y2) (impl_compareLists.l0 (k + 1) y0 y1 y2)) ∧ (∀ y0 y1 y2 y3, LeO (impl_compareLists.j1 k y0 y1 y2 y3) (impl_compareLists.j1 (k + 1) y0 y1 y2 y3))
  | 0 => ⟨fun _ _ _ r h => by simp [impl_compareLists.l0] at h, fun _ _ _ _ r h => by simp [impl_compareLists.j1] at h⟩
  | k + 1 => by
    obtain ⟨ih0, ih1⟩ := impl_compareLists.mono_l k
    refine ⟨?_, ?_⟩
    · intro y0 y1 y2
      unfold impl_compareLists.l0
      repeat' first
      | (with_reducible exact ih0 _ _ _)
      | (with_reducible exact ih1 _ _ _ _)
      | (with_reducible exact LeO.refl _)
      | (with_reducible exact LeO.none _)
      | (with_reducible refine LeO.ite ?_ ?_)
      | (with_reducible refine LeO.bind ?_ (fun _ => ?_))
      | exact ih0 _ _ _
      | exact ih1 _ _ _ _
      | exact LeO.none _
      | refine LeO.ite ?_ ?_
      | refine LeO.bind ?_ (fun _ => ?_)
    · intro y0 y1 y2 y3
      unfold impl_compareLists.j1
      repeat' first
      | (with_reducible exact ih0 _ _ _)
      | (with_reducible exact ih1 _ _ _ _)
      | (with_reducible exact LeO.refl _)
      | (with_reducible exact LeO.none _)
      | (with_reducible refine LeO.ite ?_ ?_)
      | (with_reducible refine LeO.bind ?_ (fun _ => ?_))
      | exact ih0 _ _ _
      | exact ih1 _ _ _ _
      | exact LeO.none _
      | refine LeO.ite ?_ ?_
      | refine LeO.bind ?_ (fun _ => ?_)
theorem impl_compareLists.mono : ∀ a0 a1 k, LeO (impl_compareLists.f k a0 a1) (impl_compareLists.f (k + 1) a0 a1) := by
  intro a0 a1 k
  obtain ⟨ih0, ih1⟩ := impl_compareLists.mono_l k
  unfold impl_compareLists.f
  repeat' first
      | (with_reducible exact ih0 _ _ _)
      | (with_reducible exact ih1 _ _ _ _)
      | (with_reducible exact LeO.refl _)
      | (with_reducible exact LeO.none _)
      | (with_reducible refine LeO.ite ?_ ?_)
      | (with_reducible refine LeO.bind ?_ (fun _ => ?_))
      | exact ih0 _ _ _
      | exact ih1 _ _ _ _
      | exact LeO.none _
      | refine LeO.ite ?_ ?_
      | refine LeO.bind ?_ (fun _ => ?_)
set_option maxHeartbeats 8000000 in
set_option maxRecDepth 100000 in
theorem impl_compareLists.calls (k : Nat) (A0 : Option Addr) (c0 : Nat) (l0 : List Int) (A1 : Option Addr) (c1 : Nat) (l1 : List Int) (r : Int) (w : World) (hr0 : Kd.C (Kd.int .i64) w A0 l0.length l0) (hc0 : l0.length ≤ c0) (hr1 : Kd.C (Kd.int .i64) w A1 l1.length l1) (hc1 : l1.length ≤ c1) (h : impl_compareLists.f k l0 l1 = some r) :
    Calls Try.prog 65 #[.slice A0 l0.length c0, .slice A1 l1.length c1] w fun e w' => e = .returned (.int .i64 r) ∧ Drawn0 w w' := by
  have HR0 := Aside0.mk hr0
  have HC0 := Aside0.mk hc0
  clear hr0 hc0
  have HR1 := Aside0.mk hr1
  have HC1 := Aside0.mk hc1
  clear hr1 hc1
  have H : (impl_compareLists.l0 k l0 l1 0) = some r := h
  clear h
  have H' := Aside0.mk H
  clear H
  go_enter Try.func65, Try.ntmps65
  go_wp2
  repeat (go_quiet (fail); try go_wp2)
  go_loopg [5] k (fun kq v5 w' => ∃ (x5_1 : Int), v5 = .int .i64 x5_1 ∧ Aside0 (impl_compareLists.l0 kq l0 l1 x5_1 = some r) ∧ Aside0 (kq ≤ k) ∧ Drawn0 w w')
  case atStart => exact ⟨(0), (by first | rfl | (simp; done) | (simp [*]; done)), H', ⟨Nat.le_refl _⟩, by repeat (first | exact Drawn0.refl _ | apply Drawn0.step)⟩
  case round =>
    clear H'
    try clear c1
    try clear p2
    obtain ⟨x5_1, rfl, HA, HK1, ⟨m1, rfl⟩⟩ := hrel
    cases gk with
    | zero => exact absurd HA.out (by simp [impl_compareLists.l0])
    | succ k1 =>
      have H := HA.out
      clear HA
      simp only [impl_compareLists.l0] at H
      have HC3 := Aside0.mk H
      clear H
      go_upto_region 2 with (fail)
      repeat (go_quiet (fail); go_upto_region 2 with (fail))
      go_cut [15] (fun v15 wc => ∃ (kq : Nat) (x15_2 : Bool), v15 = .bool x15_2 ∧ Aside0 (impl_compareLists.j1 kq l0 l1 x5_1 x15_2 = some r) ∧ Aside0 (kq ≤ k1) ∧ Drawn0 w wc)
      case first =>
        have H := HC3.out
        clear HC3
        by_cases c4 : x5_1 < (l0.length : Int)
        · rw [if_pos c4] at H
          have c4b0 : decide (x5_1 < (l0.length : Int)) = true := decide_eq_true c4
          clear c4
          (first | rw [c4b0] | (simp only [i64_w, i32_w]; rw [c4b0]) | skip)
          have H' := Aside0.mk H
          clear H
          go_wp2
          repeat (go_quiet (fail); try go_wp2)
          go_meet
          case rel => exact ⟨_, (decide (x5_1 < (l1.length : Int))), (by first | rfl | (simp; done) | (simp [*]; done)), H', ⟨by have := HK1.out; first | omega | exact Nat.le_refl _⟩, by repeat (first | exact Drawn0.refl _ | apply Drawn0.step)⟩
        · rw [if_neg c4] at H
          have c4b0 : decide (x5_1 < (l0.length : Int)) = false := decide_eq_false c4
          clear c4
          (first | rw [c4b0] | (simp only [i64_w, i32_w]; rw [c4b0]) | skip)
          have H' := Aside0.mk H
          clear H
          go_wp2
          repeat (go_quiet (fail); try go_wp2)
          go_meet
          case rel => exact ⟨_, (false), (by first | rfl | (simp; done) | (simp [*]; done)), H', ⟨by have := HK1.out; first | omega | exact Nat.le_refl _⟩, by repeat (first | exact Drawn0.refl _ | apply Drawn0.step)⟩
      case rest =>
        clear HC3
        try clear c1
        try clear p2
        try clear c4
        try clear c4b0
        try clear p2
        obtain ⟨kq, x15_2, rfl, HA, HJ2, ⟨mc2, rfl⟩⟩ := hcut
        cases kq with
        | zero => exact absurd HA.out (by simp [impl_compareLists.j1])
        | succ kj2 =>
          have H := HA.out
          clear HA
          simp only [impl_compareLists.j1] at H
          by_cases c5 : x15_2 = true
          · subst c5
            have H1 : (if 0 ≤ x5_1 then (if x5_1 < (l0.length : Int) then (if x5_1 < (l1.length : Int) then (if (rd l0 x5_1) = (rd l1 x5_1) then (impl_compareLists.l0 kj2 l0 l1 (wrap64 (x5_1 + 1))) else (some (wrap64 ((rd l0 x5_1) - (rd l1 x5_1))))) else (none)) else (none)) else (none)) = some r := by rw [if_pos rfl] at H; exact H
            clear H
            have H := H1
            clear H1
            by_cases c6 : 0 ≤ x5_1
            · rw [if_pos c6] at H
              have c6b0 : decide (0 ≤ x5_1) = true := decide_eq_true c6
              clear c6
              by_cases c7 : x5_1 < (l0.length : Int)
              · rw [if_pos c7] at H
                have c7b0 : decide (x5_1 < (l0.length : Int)) = true := decide_eq_true c7
                clear c7
                by_cases c8 : x5_1 < (l1.length : Int)
                · rw [if_pos c8] at H
                  have c8b0 : decide (x5_1 < (l1.length : Int)) = true := decide_eq_true c8
                  clear c8
                  by_cases c9 : (rd l0 x5_1) = (rd l1 x5_1)
                  · rw [if_pos c9] at H
                    have c9b0 : ((rd l0 x5_1) == (rd l1 x5_1)) = true := beq_iff_eq.mpr c9
                    have c9b1 : ((rd l0 x5_1) != (rd l1 x5_1)) = false := bne_eq_false_iff_eq.mpr c9
                    clear c9
                    have H' := Aside0.mk H
                    clear H
                    have p239 : 0 ≤ (x5_1 : Int) := of_decide_eq_true (by first | (with_reducible assumption) | assumption)
                    have q239 : x5_1 < (l0.length : Int) := of_decide_eq_true (by first | (with_reducible assumption) | assumption)
                    obtain ⟨ad239, e239, hx239_0⟩ := Kd.at_int HR0.out x5_1 p239 q239
                    cases e239
                    replace p239 := eq_true p239
                    replace q239 := eq_true q239
                    have p240 : 0 ≤ (x5_1 : Int) := of_decide_eq_true (by first | (with_reducible assumption) | assumption)
                    have q240 : x5_1 < (l1.length : Int) := of_decide_eq_true (by first | (with_reducible assumption) | assumption)
                    obtain ⟨ad240, e240, hx240_0⟩ := Kd.at_int HR1.out x5_1 p240 q240
                    cases e240
                    replace p240 := eq_true p240
                    replace q240 := eq_true q240
                    go_wp2
                    repeat (go_quiet (fail); try go_wp2)
                    go_roundg kj2
                    case measure => have := HK1.out; have := HJ2.out; omega
                    case rel => exact ⟨(wrap64 (x5_1 + 1)), (by first | rfl | (simp; done) | (simp [*]; done)), H', ⟨by have := HK1.out; have := HJ2.out; omega⟩, by repeat (first | exact Drawn0.refl _ | apply Drawn0.step)⟩
                  · rw [if_neg c9] at H
                    have c9b0 : ((rd l0 x5_1) == (rd l1 x5_1)) = false := beq_eq_false_iff_ne.mpr c9
                    have c9b1 : ((rd l0 x5_1) != (rd l1 x5_1)) = true := bne_iff_ne.mpr c9
                    obtain rfl := Option.some.inj H
                    have p239 : 0 ≤ (x5_1 : Int) := of_decide_eq_true (by first | (with_reducible assumption) | assumption)
                    have q239 : x5_1 < (l0.length : Int) := of_decide_eq_true (by first | (with_reducible assumption) | assumption)
                    obtain ⟨ad239, e239, hx239_0⟩ := Kd.at_int HR0.out x5_1 p239 q239
                    cases e239
                    replace p239 := eq_true p239
                    replace q239 := eq_true q239
                    have p240 : 0 ≤ (x5_1 : Int) := of_decide_eq_true (by first | (with_reducible assumption) | assumption)
                    have q240 : x5_1 < (l1.length : Int) := of_decide_eq_true (by first | (with_reducible assumption) | assumption)
                    obtain ⟨ad240, e240, hx240_0⟩ := Kd.at_int HR1.out x5_1 p240 q240
                    cases e240
                    replace p240 := eq_true p240
                    replace q240 := eq_true q240
                    have p241 : 0 ≤ (x5_1 : Int) := of_decide_eq_true (by first | (with_reducible assumption) | assumption)
                    have q241 : x5_1 < (l0.length : Int) := of_decide_eq_true (by first | (with_reducible assumption) | assumption)
                    obtain ⟨ad241, e241, hx241_0⟩ := Kd.at_int HR0.out x5_1 p241 q241
                    obtain rfl : ad239 = ad241 := (by injection e241)
                    replace p241 := eq_true p241
                    replace q241 := eq_true q241
                    have p242 : 0 ≤ (x5_1 : Int) := of_decide_eq_true (by first | (with_reducible assumption) | assumption)
                    have q242 : x5_1 < (l1.length : Int) := of_decide_eq_true (by first | (with_reducible assumption) | assumption)
                    obtain ⟨ad242, e242, hx242_0⟩ := Kd.at_int HR1.out x5_1 p242 q242
                    obtain rfl : ad240 = ad242 := (by injection e242)
                    replace p242 := eq_true p242
                    replace q242 := eq_true q242
                    go_wp2
                    repeat (go_quiet (fail); try go_wp2)
                    go_ret
                    exact ⟨by first | rfl | (simp; done) | (simp [*]; done), by repeat (first | exact Drawn0.refl _ | apply Drawn0.step)⟩
                · rw [if_neg c8] at H
                  exact absurd H (by simp)
              · rw [if_neg c7] at H
                exact absurd H (by simp)
            · rw [if_neg c6] at H
              exact absurd H (by simp)
          · replace c5 := Bool.eq_false_iff.mpr c5
            subst c5
            have H1 : (some (wrap64 ((l0.length : Int) - (l1.length : Int)))) = some r := by rw [if_neg (show ¬ (false = true) by decide)] at H; exact H
            clear H
            have H := H1
            clear H1
            obtain rfl := Option.some.inj H
            go_wp2
            repeat (go_quiet (fail); try go_wp2)
            go_ret
            exact ⟨by first | rfl | (simp; done) | (simp [*]; done), by repeat (first | exact Drawn0.refl _ | apply Drawn0.step)⟩

/-! ### impl_sortedBy: function 93, by hand -/
/-! ### impl_sortedBy, by hand: an insertion sort whose comparison is a function value -/
theorem rd_int {l : List Int} {i : Int} (h0 : 0 ≤ i) (h1 : i < (l.length : Int)) : rd l i = l[i.toNat]'(by omega) := by simp [rd, show i.toNat < l.length by omega]
def insPos (lt : Int → Int → Bool) (x : Int) (out : List Int) : Nat → Nat
  | 0 => 0
  | k + 1 => if lt x (out.getD k 0) = true then insPos lt x out k else k + 1
def insAt (lt : Int → Int → Bool) (x : Int) (out : List Int) : List Int := out.take (insPos lt x out out.length) ++ x :: out.drop (insPos lt x out out.length)
def insAll (lt : Int → Int → Bool) : List Int → List Int → List Int
  | [], out => out
  | x :: xs, out => insAll lt xs (insAt lt x out)
theorem insPos_le (lt : Int → Int → Bool) (x : Int) (out : List Int) : ∀ k, insPos lt x out k ≤ k
  | 0 => Nat.le_refl _
  | k + 1 => by
    rw [insPos]
    split
    · exact Nat.le_trans (insPos_le lt x out k) (by omega)
    · omega
theorem insAt_len (lt : Int → Int → Bool) (x : Int) (out : List Int) : (insAt lt x out).length = out.length + 1 := by
  have := insPos_le lt x out out.length
  simp [insAt]; omega
theorem insAt_mem {lt : Int → Int → Bool} {x : Int} {out : List Int} {P : Int → Prop} (hx : P x) (ho : ∀ y ∈ out, P y) : ∀ y ∈ insAt lt x out, P y := by
  intro y hy
  unfold insAt at hy
  rcases List.mem_append.1 hy with h | h
  · exact ho y (List.mem_of_mem_take h)
  · rcases List.mem_cons.1 h with rfl | h
    · exact hx
    · exact ho y (List.mem_of_mem_drop h)
theorem R_splice {e base g n cap off : Nat} {ok : Nat → Prop} {W W' : World} {xs ys : List Int} {cur : Array Value} (h : (Kd.int .i64).R e W base ok (.slice (some ⟨g, 0, none⟩) n cap) xs) (hg : W.heap[g]? = some (.cells cur e (0, 0))) (hfit : off + ys.length ≤ xs.length)
    (hg' : W'.heap[g]? = some (.cells (splice cur.toList off (ys.map fun y => Value.int .i64 y)).toArray e (0, 0))) : (Kd.int .i64).R e W' base ok (.slice (some ⟨g, 0, none⟩) n cap) (splice xs off ys) := by
  have hok := h.1
  obtain ⟨rfl, _⟩ := Kd.R_reads' h
  obtain ⟨hl, hv⟩ := Kd.own_of_R h
  rcases hv with ⟨hv, _⟩ | ⟨g2, cap2, cur2, hv, hb, hc, hn, hm, hs, ht⟩
  · cases hv
  · injection hv with ha hb2 hc2
    injection ha with ha
    injection ha with ha
    subst ha
    subst hc2
    rw [hg] at hc
    injection hc with hc
    injection hc with hc
    subst hc
    have hL : (splice xs off ys).length = xs.length := length_splice xs off ys hfit
    have hcl : cur.toList.length = cap := by simpa using hs
    have hfit2 : off + (ys.map fun y => Value.int .i64 y).length ≤ cur.toList.length := by simp; omega
    refine Kd.R_of_own ?_ hok
    rw [hL]
    refine ⟨by simp [encs, hL], .inr ⟨g, cap, _, rfl, hb, hg', hn, hm, ?_, ?_⟩⟩
    · simp only [List.size_toArray]; rw [length_splice _ _ _ hfit2, hcl]; omega
    · have ht' : xs.map (fun y => Value.int .i64 y) = cur.toList.take xs.length := by simpa [encs] using ht.symm
      have l1 : (cur.toList.take off).length = off := by simp; omega
      have l2 : (ys.map fun y => Value.int .i64 y).length = ys.length := by simp
      simp only [Nat.mul_one, splice, encs, List.map_append, List.map_take, List.map_drop, ht', l2]
      rw [List.take_append, l1, List.take_append, l2, List.take_of_length_le (by omega), List.take_of_length_le (l := ys.map fun y => Value.int .i64 y) (by omega), List.take_take, Nat.min_eq_left (by omega), List.drop_take, Nat.sub_sub]
theorem sb_cells {e g n cap base : Nat} {ok : Nat → Prop} {W : World} {xs : List Int} (h : (Kd.int .i64).R e W base ok (.slice (some ⟨g, 0, none⟩) n cap) xs) (k j : Nat) (y : Int) (hj : xs[k + j]? = some y) : W.cell? ⟨g, k + j, none⟩ = some (.int .i64 y) := by
  obtain ⟨rfl, _⟩ := Kd.R_reads' h
  obtain ⟨hlt, hy⟩ := List.getElem?_eq_some_iff.1 hj
  have h2 := (Kd.R_cell (0 : Int) h ((k + j : Nat) : Int) (by omega) (by omega)).1
  rw [Int.toNat_natCast] at h2
  rw [h2]
  simp only [rdOf, Int.toNat_natCast]
  rw [List.getD_eq_getElem?_getD, hj]; rfl
theorem sb_size {e g n cap base : Nat} {ok : Nat → Prop} {W : World} {xs : List Int} {cl : Array Value} (h : (Kd.int .i64).R e W base ok (.slice (some ⟨g, 0, none⟩) n cap) xs) (hg : W.heap[g]? = some (.cells cl e (0, 0))) : cl.size = cap := by
  obtain ⟨rfl, _⟩ := Kd.R_reads' h
  obtain ⟨hl, hv⟩ := Kd.own_of_R h
  rcases hv with ⟨hv, _⟩ | ⟨g2, cap2, cur2, hv, hb, hc, hn, hm, hs, ht⟩
  · cases hv
  · injection hv with ha hb2 hc2
    injection ha with ha
    injection ha with ha
    subst ha
    subst hc2
    rw [hg] at hc
    injection hc with hc
    injection hc with hc
    subst hc
    omega
theorem sb_hpos {e g c : Nat} {base : Nat} {ok : Nat → Prop} {W : World} {x5 : List Int} {k q : Int} {cs : List Value} {DA DB : Option Addr} (h : (Kd.int .i64).R e W base ok (.slice (some ⟨g, 0, none⟩) (x5 ++ [0]).length c) (x5 ++ [0])) (hk : 0 ≤ k) (hq : q = k + 1) (hc : x5.length + 1 ≤ c)
    (hcs : cs = (x5.drop k.toNat).map fun y => Value.int .i64 y) (hA : DA = (if c = q.toNat then some (⟨g, 0, none⟩ : Addr) else (some (⟨g, 0, none⟩ : Addr)).map (·.add (q.toNat * 1)))) (hB : DB = (if c = k.toNat then some (⟨g, 0, none⟩ : Addr) else (some (⟨g, 0, none⟩ : Addr)).map (·.add (k.toNat * 1)))) :
    0 < cs.length → DA = some ⟨g, q.toNat, none⟩ ∧ ∃ ad, DB = some ad ∧ ∀ j v, cs[j]? = some v → W.cell? (ad.add j) = some v := by
  intro hpos
  subst hcs
  simp at hpos
  subst hA
  subst hB
  rw [if_neg (by omega), if_neg (by omega)]
  refine ⟨by simp [Addr.add]; omega, _, rfl, ?_⟩
  intro j v hv
  simp only [List.getElem?_map, Option.map_eq_some_iff, List.getElem?_drop] at hv
  obtain ⟨y, hy, rfl⟩ := hv
  have h3 := sb_cells h k.toNat j y (by rw [List.getElem?_append_left (List.getElem?_eq_some_iff.1 hy).1]; exact hy)
  have e1 : ((⟨g, 0, none⟩ : Addr).add (k.toNat * 1)).add j = ⟨g, k.toNat + j, none⟩ := by
    unfold Addr.add
    rw [Nat.mul_one]
    generalize k.toNat = kk
    cases kk <;> cases j <;> simp
  rw [e1]; exact h3
theorem sb_set {x5 : List Int} {k : Int} {x : Int} (h0 : 0 ≤ k) (h1 : k ≤ x5.length) : (splice (x5 ++ [0]) (k + 1).toNat (x5.drop k.toNat)).set k.toNat x = x5.take k.toNat ++ x :: x5.drop k.toNat := by
  obtain ⟨n, rfl⟩ := Int.eq_ofNat_of_zero_le h0
  have hn : n ≤ x5.length := by omega
  rw [show ((n : Int) + 1).toNat = n + 1 by omega, Int.toNat_natCast]
  unfold splice
  apply List.ext_getElem?
  intro m
  rw [List.getElem?_set]
  rcases Nat.lt_trichotomy m n with h | h | h
  · rw [if_neg (by omega), List.getElem?_append_left (by simp; omega), List.getElem?_append_left (by simp; omega), List.getElem?_take, List.getElem?_take, if_pos (by omega), if_pos h, List.getElem?_append_left (by omega)]
  · subst h
    rw [if_pos rfl, if_pos (by simp; omega), List.getElem?_append_right (by simp; omega), show m - (x5.take m).length = 0 by simp; omega]
    rfl
  · rw [if_neg (by omega), List.getElem?_append_right (l₁ := x5.take n) (by simp; omega), show m - (x5.take n).length = (m - n - 1) + 1 by simp; omega, List.getElem?_cons_succ, List.getElem?_append_right (by simp; omega), show m - (List.take (n + 1) (x5 ++ [0])).length = m - n - 1 by simp; omega]
    by_cases h2 : m - n - 1 < (x5.drop n).length
    · rw [List.getElem?_append_left h2]
    · have h3 := h2; simp at h3; rw [List.getElem?_append_right (by omega), List.drop_of_length_le (by simp; omega), List.getElem?_eq_none (l := x5.drop n) (by omega)]; simp
theorem sb_hn {x5 ys : List Int} {k q : Int} {cs : List Value} (hk : 0 ≤ k) (hk2 : k ≤ x5.length) (hq : q = k + 1) (hcs : cs = ys.map fun y => Value.int .i64 y) (hys : ys = x5.drop k.toNat) : cs.length = Nat.min (x5.length + 1 - k.toNat) (x5.length + 1 - q.toNat) := by
  subst hcs; subst hys; subst hq
  rw [List.length_map, List.length_drop]
  show _ = min (x5.length + 1 - k.toNat) (x5.length + 1 - (k + 1).toNat)
  omega
theorem sb_fit {x5 ys : List Int} {k q : Int} {cs cl : List Value} {c : Nat} (hk : 0 ≤ k) (hk2 : k ≤ x5.length) (hq : q = k + 1) (hcs : cs = ys.map fun y => Value.int .i64 y) (hys : ys = x5.drop k.toNat) (hc : x5.length + 1 ≤ c) (hl : cl.length = c) : q.toNat + cs.length ≤ cl.length := by
  subst hcs; subst hys; subst hq
  rw [List.length_map, List.length_drop]
  omega
theorem sb_one {ys : List Int} {cs : List Value} (hcs : cs = ys.map fun y => Value.int .i64 y) : ∀ v ∈ cs, v.oneCell' = true := by
  subst hcs; simp [Value.oneCell']
/-- What a comparison's function value answers, in every world in which all that lay before the call lies unturned. -/
def CmpAt (g : Nat) (lb : Array Value) (lt : Int → Int → Bool) (dom : Int → Prop) (w : World) : Prop :=
  ∀ W, Below w.heap.size w W → ∀ a b : Int, dom a → dom b → Calls Try.prog g (#[.int .i64 a, .int .i64 b] ++ lb) W fun e W' => e = .returned (.bool (lt a b)) ∧ ∃ n, W' = W.drewN n
set_option maxHeartbeats 8000000 in
set_option maxRecDepth 100000 in
theorem impl_sortedBy.calls (g : Nat) (eg : ∀ args w, (callFunc g args).run Try.prog w = .ok (.enter g args) w) (lb : Array Value) (lt : Int → Int → Bool) (dom : Int → Prop) (A0 : Option Addr) (c0 : Nat) (l0 : List Int) (w : World) (hr0 : Kd.C (Kd.int .i64) w A0 l0.length l0) (hc0 : l0.length ≤ c0) (hdom : ∀ x ∈ l0, dom x) (hlen : l0.length ≤ 1048576) (hcmp : CmpAt g lb lt dom w) :
    Calls Try.prog 93 #[.slice A0 l0.length c0, .func (.func g) #[] lb] w fun e w' => ∃ v0_ : Value, e = .returned (v0_) ∧ Kd.R (Kd.int .i64) 3 w' w.heap.size (fun _ => True) v0_ (insAll lt l0 []) ∧ Below w.heap.size w w' := by
  have HR0 := Aside0.mk hr0
  have HC0 := Aside0.mk hc0
  have EG := Aside0.mk eg
  have HCMP := Aside0.mk hcmp
  have HDOM := Aside0.mk hdom
  clear hr0 hc0 eg hcmp hdom
  have HB := Aside0.mk (Below.refl w.heap.size w)
  have H' : Aside0 (insAll lt (l0.drop (0 : Int).toNat) [] = insAll lt l0 []) := ⟨by simp⟩
  go_enter Try.func93, Try.ntmps93
  go_wp2
  go_loopg [5, 11] l0.length (fun kq v5 v11 w' => ∃ (x5 : List Int) (i : Int), v11 = .int .i64 i ∧ Aside0 (insAll lt (l0.drop i.toNat) x5 = insAll lt l0 []) ∧ Aside0 (0 ≤ i ∧ i.toNat + kq = l0.length) ∧ Aside0 (x5.length = i.toNat) ∧ Aside0 (∀ y ∈ x5, dom y) ∧ Aside0 (Kd.R (Kd.int .i64) 3 w' w.heap.size (fun _ => True) v5 x5) ∧ Aside0 (Below w.heap.size w w'))
  case atStart => exact ⟨[], 0, (by first | rfl | (simp; done)), H', ⟨by omega⟩, ⟨rfl⟩, ⟨by simp⟩, ⟨Kd.R_nil _ _ _ _ _⟩, ⟨by repeat (first | (with_reducible first | exact HB.out | apply below_alloc | apply pw_below_drewN | apply below_drew1) | exact HB.out)⟩⟩
  case round =>
    obtain ⟨x5, i, rfl, HA, HK1, HL, HD, HO_5, HB⟩ := hrel
    clear H'
    by_cases c : i < (l0.length : Int)
    · have cb : decide (i < (l0.length : Int)) = true := decide_eq_true c
      have p1 : 0 ≤ i := HK1.out.1
      have q1 : i < (l0.length : Int) := c
      obtain ⟨ad1, e1, hx1_0⟩ := Kd.at_int HR0.out i p1 q1
      cases e1
      replace hx1_0 := (HB.out.cell (World.block_lt_of_cell? w _ hx1_0)).trans hx1_0
      obtain ⟨x, hx⟩ : ∃ x : Int, rd l0 i = x := ⟨_, rfl⟩
      rw [hx] at hx1_0
      obtain ⟨A5, c5, ev5⟩ := Kd.R_slice HO_5.out
      subst ev5
      clear c
      replace p1 := eq_true p1
      replace q1 := eq_true q1
      go_wp2
      go_loopg [8] x5.length (fun kq v8 w' => ∃ (k : Int), v8 = .int .i64 k ∧ Aside0 (0 ≤ k ∧ k.toNat = kq ∧ kq ≤ x5.length) ∧ Aside0 (insPos lt x x5 k.toNat = insPos lt x x5 x5.length) ∧ Aside0 (Kd.R (Kd.int .i64) 3 w' w.heap.size (fun _ => True) (.slice A5 x5.length c5) x5) ∧ Aside0 (Below w.heap.size w w'))
      case atStart => exact ⟨(x5.length : Int), (by first | rfl | (simp; done)), ⟨by omega⟩, ⟨by simp⟩, HO_5, HB⟩
      case round =>
        clear HO_5 HB
        obtain ⟨k, rfl, HK2, HP, HO_5, HB⟩ := hrel
        have hxd : dom x := by rw [← hx]; exact HDOM.out _ (by have h1 := of_eq_true p1; have h2 := of_eq_true q1; rw [rd_int h1 h2]; exact List.getElem_mem _)
        by_cases hk : 0 < k
        · have kb : decide (0 < k) = true := decide_eq_true hk
          obtain ⟨j, hj⟩ : ∃ j : Int, wrap64 (k - 1) = j := ⟨_, rfl⟩
          have HJ : Aside0 (j = k - 1) := ⟨by rw [← hj]; unfold wrap64; have := HK2.out; have := HL.out; have := HK1.out; omega⟩
          have hw : IntKind.i64.wrap (k - 1) = j := (i64_w _).trans hj
          have p2 : 0 ≤ j := by have := HJ.out; omega
          have q2 : j < (x5.length : Int) := by have := HK2.out; have := HJ.out; omega
          obtain ⟨ad2, e2, hx2_0⟩ := Kd.at_int (Kd.R_reads' HO_5.out).2.2 j p2 q2
          subst e2
          obtain ⟨y, hy⟩ : ∃ y : Int, rd x5 j = y := ⟨_, rfl⟩
          have hyd : dom y := by rw [← hy, rd_int p2 q2]; exact HD.out _ (List.getElem_mem _)
          rw [hy] at hx2_0
          replace p2 := eq_true p2
          replace q2 := eq_true q2
          by_cases hl : lt x y = true
          · go_wp2
            rw [EG.out, Oper.upon_enter]
            have hcall := HCMP.out _ HB.out x y hxd hyd
            rw [hl] at hcall
            refine hcall.mono ?_
            rintro e w' ⟨rfl, ⟨nd, rfl⟩⟩
            clear hcall
            dsimp only
            go_wp2
            go_roundg j.toNat
            case measure => have := HK2.out; have := HJ.out; omega
            case rel => exact ⟨j, (by first | rfl | (simp; done) | (simp [*]; done)), ⟨by have := HK2.out; have := HJ.out; omega⟩, ⟨by rw [← HP.out, show k.toNat = j.toNat + 1 by have := HJ.out; have := HK2.out; omega, insPos, if_pos (by rw [← hl, ← hy, rd_int (of_eq_true p2) (of_eq_true q2)]; simp [show j.toNat < x5.length by have := of_eq_true q2; have := of_eq_true p2; omega])]⟩, ⟨by (with_reducible repeat (first | apply Kd.R_alloc | apply Kd.R_drewN | apply Kd.R_drew)); exact HO_5.out⟩, ⟨by repeat (first | (with_reducible first | exact HB.out | apply below_alloc | apply pw_below_drewN | apply below_drew1) | exact HB.out)⟩⟩
          · have hk0 := hk
            have hlf : lt x y = false := by simpa using hl
            go_wp2
            rw [EG.out, Oper.upon_enter]
            have hcall := HCMP.out _ HB.out x y hxd hyd
            rw [hlf] at hcall
            refine hcall.mono ?_
            rintro e w' ⟨rfl, ⟨nd, rfl⟩⟩
            clear hcall
            dsimp only
            have HPK : Aside0 (insPos lt x x5 x5.length = k.toNat ∧ 0 ≤ k ∧ k ≤ x5.length) := ⟨by rw [← HP.out, show k.toNat = j.toNat + 1 by have := HJ.out; have := HK2.out; omega, insPos, if_neg (by rw [← hy, rd_int (of_eq_true p2) (of_eq_true q2)] at hl; simpa [show j.toNat < x5.length by have := of_eq_true q2; have := of_eq_true p2; omega] using hl)]; exact ⟨rfl, by have := HK2.out; omega, by have := HK2.out; omega⟩⟩
            go_wp2_with (first | ((with_reducible refine gate_builtin (b := .append) (xs := #[.tmp 31, .tmp 32]) rfl ?_); at_builtin; refine Kd.R_append (Kd.int .i64) (w0 := w) w.heap.size rfl (.tmp 31) (.tmp 32) 23 3 (.int .i64 0) 8 rfl Try.underlying23 info3 rfl (by decide) (by omega) (.slice (some ad2) x5.length c5) x5 0 [.int .i64 0] (fun _ => True) (fun _ => False) rfl rfl ?aP (fun _ hk => hk.elim) ?aF ?aO ?aB ?aS ?aL ?_; (case aP => exact rfl); (case aB => exact (by repeat (first | (with_reducible first | exact HB.out | apply below_alloc | apply pw_below_drewN | apply below_drew1) | exact HB.out))); (case aF => exact (fun _ _ => trivial)); (case aO => exact (by (with_reducible repeat (first | apply Kd.R_alloc | apply Kd.R_drewN | apply Kd.R_drew)); exact HO_5.out)); (case aS => exact (below_size (by repeat (first | (with_reducible first | exact HB.out | apply below_alloc | apply pw_below_drewN | apply below_drew1) | exact HB.out)))); (case aL => have := HL.out; have := HK1.out; omega); intro v6 w4 ho hb hg hat; have n0_ := Aside0.mk hb; have n1_ := Aside0.mk ho; clear HB HO_5; have HB := n0_; have HO_6 := n1_; clear n0_ n1_ ho hb hg hat; obtain ⟨g6, c6, ev6, gb6, gl6, cl6, hg6⟩ := Kd.R_form HO_6.out (by simp); subst ev6; have GB6 := Aside0.mk gb6; have HG6 := Aside0.mk hg6; clear gb6 gl6 hg6))
            obtain ⟨q1, hq1⟩ : ∃ q : Int, wrap64 (k + 1) = q := ⟨_, rfl⟩
            have HQ : Aside0 (q1 = k + 1) := ⟨by rw [← hq1]; unfold wrap64; have := HPK.out; have := HL.out; have := HK1.out; omega⟩
            have hqw : IntKind.i64.wrap (k + 1) = q1 := (i64_w _).trans hq1
            obtain ⟨i0_, hi0_, _, hsz_, _⟩ := info_parts info3
            have hlen6 : x5.length + 1 ≤ c6 := by have := (Kd.R_reads' HO_6.out).2.1; simpa using this
            have hcutA := cut_from (P := Try.prog) 23 3 .i64 Try.underlying23 hi0_ 1 hsz_ (some ⟨g6, 0, none⟩) (x5.length + 1) c6 q1 (by have := HPK.out; have := HQ.out; omega) (by have := HPK.out; have := HQ.out; omega)
            have hcutB := cut_from (P := Try.prog) 23 3 .i64 Try.underlying23 hi0_ 1 hsz_ (some ⟨g6, 0, none⟩) (x5.length + 1) c6 k (by have := HPK.out; omega) (by have := HPK.out; omega)
            obtain ⟨DA, hDA⟩ : ∃ A1 : Option Addr, A1 = (if c6 = q1.toNat then some (⟨g6, 0, none⟩ : Addr) else (some (⟨g6, 0, none⟩ : Addr)).map (·.add (q1.toNat * 1))) := ⟨_, rfl⟩
            obtain ⟨DB, hDB⟩ : ∃ A1 : Option Addr, A1 = (if c6 = k.toNat then some (⟨g6, 0, none⟩ : Addr) else (some (⟨g6, 0, none⟩ : Addr)).map (·.add (k.toNat * 1))) := ⟨_, rfl⟩
            rw [← hDA] at hcutA
            rw [← hDB] at hcutB
            have HDA := Aside0.mk hDA
            have HDB := Aside0.mk hDB
            clear hDA hDB
            obtain ⟨ys, hys⟩ : ∃ ys : List Int, ys = x5.drop k.toNat := ⟨_, rfl⟩
            have HYS := Aside0.mk hys
            obtain ⟨cs, hcs⟩ : ∃ cs : List Value, cs = ys.map (fun y => Value.int .i64 y) := ⟨_, rfl⟩
            have HCS := Aside0.mk hcs
            clear hys hcs
            clear HK2 HR0 HC0 HCMP HDOM
            go_region_law (refine step_copy_splice (by rfl) (.tmp 37) (.tmp 40) 23 23 (by rfl) 3 Try.underlying23 (by rw [hi0_]; exact congrArg some hsz_) DA DB (x5.length + 1 - q1.toNat) (c6 - q1.toNat) (x5.length + 1 - k.toNat) (c6 - k.toNat) (by go_simp) (by go_simp) g6 q1.toNat cl6.toList 3 (by rw [Array.toArray_toList]; exact HG6.out) cs (sb_hn HPK.out.2.1 HPK.out.2.2 HQ.out HCS.out HYS.out) (sb_hpos HO_6.out HPK.out.2.1 HQ.out hlen6 (HCS.out.trans (by rw [HYS.out])) HDA.out HDB.out) (sb_fit HPK.out.2.1 HPK.out.2.2 HQ.out HCS.out HYS.out hlen6 (sb_size HO_6.out HG6.out)) (sb_one HCS.out) w.heap.size w (by repeat (first | (with_reducible first | exact HB.out | apply below_alloc | apply pw_below_drewN | apply below_drew1) | exact HB.out)) GB6.out ?_; intro w7 hg7 hb7)
            have HO_7 : Aside0 (Kd.R (Kd.int .i64) 3 w7 w.heap.size (fun _ => True) (.slice (some ⟨g6, 0, none⟩) (x5.length + 1) c6) (splice (x5 ++ [0]) q1.toNat ys)) := ⟨by
              have h6 := R_splice HO_6.out HG6.out (off := q1.toNat) (ys := ys) (by have h1 := HPK.out; have h2 := HQ.out; rw [HYS.out]; simp; omega) (by rw [← HCS.out]; exact hg7)
              have h8 : (x5 ++ [(0 : Int)]).length = x5.length + 1 := by simp
              rw [h8] at h6
              exact h6⟩
            have HX7 : Aside0 ((splice (x5 ++ [0]) q1.toNat ys).set k.toNat x = insAt lt x x5) := ⟨by rw [HQ.out, HYS.out, sb_set HPK.out.2.1 HPK.out.2.2, insAt, HPK.out.1]⟩
            obtain ⟨xs7, hxs7⟩ : ∃ xs7 : List Int, xs7 = splice (x5 ++ [0]) q1.toNat ys := ⟨_, rfl⟩
            rw [← hxs7] at HO_7 HX7
            have HB7 := Aside0.mk hb7
            clear hb7 hg7 hxs7 HB HO_6 HG6 hcutA hcutB HDA HDB HYS HCS
            have HB := HB7
            clear HB7
            have p8 : 0 ≤ k := HPK.out.2.1
            have q8 : k < ((x5.length + 1 : Nat) : Int) := by have := HPK.out; omega
            obtain ⟨hx9_0, hf9_0⟩ := Kd.R_celln 0 HO_7.out k p8 q8
            replace p8 := eq_true p8
            replace q8 := eq_true q8
            have q8c : (k < (x5.length : Int) + 1) = True := eq_true (by have := of_eq_true q8; omega)
            have HP10 := Kd.R_putg HO_7.out k x
            go_wp2_with (first | ((with_reducible refine gate_store (t := 3) (p := 45) rfl ?_); refine store_event (t := 3) (p := 45) (v := ?vo_w11) (w1 := (w7.setCell ⟨g6, k.toNat, none⟩ (.int .i64 x))) ?hg ?ho ?hn ?hr ?_; (case ho => rfl); (case hg => rfl); (case hn => rfl); (case hr => first | (go_simp; done) | (go_simp; rfl)); intro w11 hw; have hg : w7.grownBy w11 (some g6) := (by rw [hw]; exact HP10.2); have hp_ : Kd.R (Kd.int .i64) 3 w11 w.heap.size (fun _ => True) (.slice (some ⟨g6, 0, none⟩) (x5.length + 1) c6) (insAt lt x x5) := (by rw [hw, ← HX7.out]; exact HP10.1); clear HP10; have n0_ := Aside0.mk (hp_); have n1_ := Aside0.mk ((by rw [hw]; exact below_set (HB.out) GB6.out : Below w.heap.size w w11)); clear HO_7; clear HB; have HO_3 := n0_; have HB := n1_; clear n0_ n1_; clear hg hw hp_))
            have HW : Aside0 (wrap64 (i + 1) = i + 1) := ⟨by unfold wrap64; have h1 := HK1.out; omega⟩
            go_roundg (l0.length - (i.toNat + 1))
            case measure => have := HK1.out; have := of_decide_eq_true cb; omega
            case rel =>
              refine ⟨insAt lt x x5, i + 1, (by first | rfl | (rw [i64_w, HW.out]) | (simp [HW.out]; done) | (simp [*]; done)), ⟨?_⟩, ⟨?_⟩, ⟨?_⟩, ⟨?_⟩, ⟨?_⟩, ⟨?_⟩⟩
              · have h1 := HK1.out
                have h2 := of_decide_eq_true cb
                rw [← HA.out, show (i + 1).toNat = i.toNat + 1 by omega, List.drop_eq_getElem_cons (show i.toNat < l0.length by omega), insAll, ← rd_int h1.1 h2, hx]
              · have h1 := HK1.out; have := of_decide_eq_true cb; omega
              · rw [insAt_len]; have h1 := HL.out; have := HK1.out; omega
              · exact insAt_mem hxd HD.out
              · (with_reducible repeat (first | apply Kd.R_alloc | apply Kd.R_drewN | apply Kd.R_drew)); exact HO_3.out
              · repeat (first | (with_reducible first | exact HB.out | apply below_alloc | apply pw_below_drewN | apply below_drew1) | exact HB.out)
        · have kb : decide (0 < k) = false := decide_eq_false hk
          have HPK : Aside0 (insPos lt x x5 x5.length = k.toNat ∧ 0 ≤ k ∧ k ≤ x5.length) := ⟨by rw [← HP.out, show k.toNat = 0 by omega]; exact ⟨rfl, HK2.out.1, by have := HK2.out; omega⟩⟩
          go_wp2_with (first | ((with_reducible refine gate_builtin (b := .append) (xs := #[.tmp 31, .tmp 32]) rfl ?_); at_builtin; refine Kd.R_append (Kd.int .i64) (w0 := w) w.heap.size rfl (.tmp 31) (.tmp 32) 23 3 (.int .i64 0) 8 rfl Try.underlying23 info3 rfl (by decide) (by omega) (.slice A5 x5.length c5) x5 0 [.int .i64 0] (fun _ => True) (fun _ => False) rfl rfl ?aP (fun _ hk => hk.elim) ?aF ?aO ?aB ?aS ?aL ?_; (case aP => exact rfl); (case aB => exact (by repeat (first | (with_reducible first | exact HB.out | apply below_alloc | apply pw_below_drewN | apply below_drew1) | exact HB.out))); (case aF => exact (fun _ _ => trivial)); (case aO => exact (by (with_reducible repeat (first | apply Kd.R_alloc | apply Kd.R_drewN | apply Kd.R_drew)); exact HO_5.out)); (case aS => exact (below_size (by repeat (first | (with_reducible first | exact HB.out | apply below_alloc | apply pw_below_drewN | apply below_drew1) | exact HB.out)))); (case aL => have := HL.out; have := HK1.out; omega); intro v6 w4 ho hb hg hat; have n0_ := Aside0.mk hb; have n1_ := Aside0.mk ho; clear HB HO_5; have HB := n0_; have HO_6 := n1_; clear n0_ n1_ ho hb hg hat; obtain ⟨g6, c6, ev6, gb6, gl6, cl6, hg6⟩ := Kd.R_form HO_6.out (by simp); subst ev6; have GB6 := Aside0.mk gb6; have HG6 := Aside0.mk hg6; clear gb6 gl6 hg6))
          obtain ⟨q1, hq1⟩ : ∃ q : Int, wrap64 (k + 1) = q := ⟨_, rfl⟩
          have HQ : Aside0 (q1 = k + 1) := ⟨by rw [← hq1]; unfold wrap64; have := HPK.out; have := HL.out; have := HK1.out; omega⟩
          have hqw : IntKind.i64.wrap (k + 1) = q1 := (i64_w _).trans hq1
          obtain ⟨i0_, hi0_, _, hsz_, _⟩ := info_parts info3
          have hlen6 : x5.length + 1 ≤ c6 := by have := (Kd.R_reads' HO_6.out).2.1; simpa using this
          have hcutA := cut_from (P := Try.prog) 23 3 .i64 Try.underlying23 hi0_ 1 hsz_ (some ⟨g6, 0, none⟩) (x5.length + 1) c6 q1 (by have := HPK.out; have := HQ.out; omega) (by have := HPK.out; have := HQ.out; omega)
          have hcutB := cut_from (P := Try.prog) 23 3 .i64 Try.underlying23 hi0_ 1 hsz_ (some ⟨g6, 0, none⟩) (x5.length + 1) c6 k (by have := HPK.out; omega) (by have := HPK.out; omega)
          obtain ⟨DA, hDA⟩ : ∃ A1 : Option Addr, A1 = (if c6 = q1.toNat then some (⟨g6, 0, none⟩ : Addr) else (some (⟨g6, 0, none⟩ : Addr)).map (·.add (q1.toNat * 1))) := ⟨_, rfl⟩
          obtain ⟨DB, hDB⟩ : ∃ A1 : Option Addr, A1 = (if c6 = k.toNat then some (⟨g6, 0, none⟩ : Addr) else (some (⟨g6, 0, none⟩ : Addr)).map (·.add (k.toNat * 1))) := ⟨_, rfl⟩
          rw [← hDA] at hcutA
          rw [← hDB] at hcutB
          have HDA := Aside0.mk hDA
          have HDB := Aside0.mk hDB
          clear hDA hDB
          obtain ⟨ys, hys⟩ : ∃ ys : List Int, ys = x5.drop k.toNat := ⟨_, rfl⟩
          have HYS := Aside0.mk hys
          obtain ⟨cs, hcs⟩ : ∃ cs : List Value, cs = ys.map (fun y => Value.int .i64 y) := ⟨_, rfl⟩
          have HCS := Aside0.mk hcs
          clear hys hcs
          clear HK2 HR0 HC0 HCMP HDOM
          go_region_law (refine step_copy_splice (by rfl) (.tmp 37) (.tmp 40) 23 23 (by rfl) 3 Try.underlying23 (by rw [hi0_]; exact congrArg some hsz_) DA DB (x5.length + 1 - q1.toNat) (c6 - q1.toNat) (x5.length + 1 - k.toNat) (c6 - k.toNat) (by go_simp) (by go_simp) g6 q1.toNat cl6.toList 3 (by rw [Array.toArray_toList]; exact HG6.out) cs (sb_hn HPK.out.2.1 HPK.out.2.2 HQ.out HCS.out HYS.out) (sb_hpos HO_6.out HPK.out.2.1 HQ.out hlen6 (HCS.out.trans (by rw [HYS.out])) HDA.out HDB.out) (sb_fit HPK.out.2.1 HPK.out.2.2 HQ.out HCS.out HYS.out hlen6 (sb_size HO_6.out HG6.out)) (sb_one HCS.out) w.heap.size w (by repeat (first | (with_reducible first | exact HB.out | apply below_alloc | apply pw_below_drewN | apply below_drew1) | exact HB.out)) GB6.out ?_; intro w7 hg7 hb7)
          have HO_7 : Aside0 (Kd.R (Kd.int .i64) 3 w7 w.heap.size (fun _ => True) (.slice (some ⟨g6, 0, none⟩) (x5.length + 1) c6) (splice (x5 ++ [0]) q1.toNat ys)) := ⟨by
            have h6 := R_splice HO_6.out HG6.out (off := q1.toNat) (ys := ys) (by have h1 := HPK.out; have h2 := HQ.out; rw [HYS.out]; simp; omega) (by rw [← HCS.out]; exact hg7)
            have h8 : (x5 ++ [(0 : Int)]).length = x5.length + 1 := by simp
            rw [h8] at h6
            exact h6⟩
          have HX7 : Aside0 ((splice (x5 ++ [0]) q1.toNat ys).set k.toNat x = insAt lt x x5) := ⟨by rw [HQ.out, HYS.out, sb_set HPK.out.2.1 HPK.out.2.2, insAt, HPK.out.1]⟩
          obtain ⟨xs7, hxs7⟩ : ∃ xs7 : List Int, xs7 = splice (x5 ++ [0]) q1.toNat ys := ⟨_, rfl⟩
          rw [← hxs7] at HO_7 HX7
          have HB7 := Aside0.mk hb7
          clear hb7 hg7 hxs7 HB HO_6 HG6 hcutA hcutB HDA HDB HYS HCS
          have HB := HB7
          clear HB7
          have p8 : 0 ≤ k := HPK.out.2.1
          have q8 : k < ((x5.length + 1 : Nat) : Int) := by have := HPK.out; omega
          obtain ⟨hx9_0, hf9_0⟩ := Kd.R_celln 0 HO_7.out k p8 q8
          replace p8 := eq_true p8
          replace q8 := eq_true q8
          have q8c : (k < (x5.length : Int) + 1) = True := eq_true (by have := of_eq_true q8; omega)
          have HP10 := Kd.R_putg HO_7.out k x
          go_wp2_with (first | ((with_reducible refine gate_store (t := 3) (p := 45) rfl ?_); refine store_event (t := 3) (p := 45) (v := ?vo_w11) (w1 := (w7.setCell ⟨g6, k.toNat, none⟩ (.int .i64 x))) ?hg ?ho ?hn ?hr ?_; (case ho => rfl); (case hg => rfl); (case hn => rfl); (case hr => first | (go_simp; done) | (go_simp; rfl)); intro w11 hw; have hg : w7.grownBy w11 (some g6) := (by rw [hw]; exact HP10.2); have hp_ : Kd.R (Kd.int .i64) 3 w11 w.heap.size (fun _ => True) (.slice (some ⟨g6, 0, none⟩) (x5.length + 1) c6) (insAt lt x x5) := (by rw [hw, ← HX7.out]; exact HP10.1); clear HP10; have n0_ := Aside0.mk (hp_); have n1_ := Aside0.mk ((by rw [hw]; exact below_set (HB.out) GB6.out : Below w.heap.size w w11)); clear HO_7; clear HB; have HO_3 := n0_; have HB := n1_; clear n0_ n1_; clear hg hw hp_))
          have HW : Aside0 (wrap64 (i + 1) = i + 1) := ⟨by unfold wrap64; have h1 := HK1.out; omega⟩
          go_roundg (l0.length - (i.toNat + 1))
          case measure => have := HK1.out; have := of_decide_eq_true cb; omega
          case rel =>
            refine ⟨insAt lt x x5, i + 1, (by first | rfl | (rw [i64_w, HW.out]) | (simp [HW.out]; done) | (simp [*]; done)), ⟨?_⟩, ⟨?_⟩, ⟨?_⟩, ⟨?_⟩, ⟨?_⟩, ⟨?_⟩⟩
            · have h1 := HK1.out
              have h2 := of_decide_eq_true cb
              rw [← HA.out, show (i + 1).toNat = i.toNat + 1 by omega, List.drop_eq_getElem_cons (show i.toNat < l0.length by omega), insAll, ← rd_int h1.1 h2, hx]
            · have h1 := HK1.out; have := of_decide_eq_true cb; omega
            · rw [insAt_len]; have h1 := HL.out; have := HK1.out; omega
            · exact insAt_mem hxd HD.out
            · (with_reducible repeat (first | apply Kd.R_alloc | apply Kd.R_drewN | apply Kd.R_drew)); exact HO_3.out
            · repeat (first | (with_reducible first | exact HB.out | apply below_alloc | apply pw_below_drewN | apply below_drew1) | exact HB.out)
    · have cb : decide (i < (l0.length : Int)) = false := decide_eq_false c
      have hfin : x5 = insAll lt l0 [] := by rw [← HA.out, List.drop_of_length_le (by have := HK1.out; omega), insAll]
      subst hfin
      go_wp2
      go_ret
      exact ⟨_, rfl, by (with_reducible repeat (first | apply Kd.R_alloc | apply Kd.R_drewN | apply Kd.R_drew)); exact HO_5.out, by repeat (first | (with_reducible first | exact HB.out | apply below_alloc | apply pw_below_drewN | apply below_drew1) | exact HB.out)⟩

/-! ### impl_numbersTo: function 94 -/
def impl_numbersTo.l0 : Nat → Int → List Int → Int → Option (List Int)
  | 0, _, _, _ => none
  | k + 1, x0, x3, x4 => if x4 < x0 then (if x3.length < 17592186044416 then (impl_numbersTo.l0 k x0 (x3 ++ [x4]) (wrap64 (x4 + 1))) else (none)) else (some x3)
def impl_numbersTo.f (k : Nat) (a0 : Int) : Option (List Int) := impl_numbersTo.l0 k a0 ([] : List Int) 0
theorem impl_numbersTo.mono_l : ∀ k, (∀ y0 y1 y2, LeO (impl_numbersTo.l0 k y0 y1 y2) (impl_numbersTo.l0 (k + 1) y0 y1 y2))
  | 0 => fun _ _ _ r h => by simp [impl_numbersTo.l0] at h
  | k + 1 => by
    have ih0 := impl_numbersTo.mono_l k
    · intro y0 y1 y2
      unfold impl_numbersTo.l0
      repeat' first
      | (with_reducible exact ih0 _ _ _)
      | (with_reducible exact LeO.refl _)
      | (with_reducible exact LeO.none _)
      | (with_reducible refine LeO.ite ?_ ?_)
      | (with_reducible refine LeO.bind ?_ (fun _ => ?_))
      | exact ih0 _ _ _
      | exact LeO.none _
      | refine LeO.ite ?_ ?_
      | refine LeO.bind ?_ (fun _ => ?_)
theorem impl_numbersTo.mono : ∀ a0 k, LeO (impl_numbersTo.f k a0) (impl_numbersTo.f (k + 1) a0) := by
  intro a0 k
  have ih0 := impl_numbersTo.mono_l k
  unfold impl_numbersTo.f
  repeat' first
      | (with_reducible exact ih0 _ _ _)
      | (with_reducible exact LeO.refl _)
      | (with_reducible exact LeO.none _)
      | (with_reducible refine LeO.ite ?_ ?_)
      | (with_reducible refine LeO.bind ?_ (fun _ => ?_))
      | exact ih0 _ _ _
      | exact LeO.none _
      | refine LeO.ite ?_ ?_
      | refine LeO.bind ?_ (fun _ => ?_)
set_option maxHeartbeats 8000000 in
set_option maxRecDepth 100000 in
theorem impl_numbersTo.calls (k : Nat) (a0 : Int) (r : List Int) (w : World) (h : impl_numbersTo.f k a0 = some r) :
    Calls Try.prog 94 #[.int .i64 a0] w fun e w' => ∃ v0_ : Value, e = .returned (v0_) ∧ Kd.R (Kd.int .i64) 3 w' w.heap.size (fun _ => True) v0_ r ∧ Below w.heap.size w w' := by
  have HB := Aside0.mk (Below.refl w.heap.size w)
  have H : (impl_numbersTo.l0 k a0 ([] : List Int) 0) = some r := h
  clear h
  have H' := Aside0.mk H
  clear H
  go_enter Try.func94, Try.ntmps94
  go_wp2
  go_loopg [3, 4] k (fun kq v3 v4 w' => ∃ (x3_1 : List Int) (x4_1 : Int), v4 = .int .i64 x4_1 ∧ Aside0 (impl_numbersTo.l0 kq a0 x3_1 x4_1 = some r) ∧ Aside0 (kq ≤ k) ∧ Aside0 (Kd.R (Kd.int .i64) 3 w' w.heap.size (fun _ => True) v3 x3_1) ∧ Aside0 (Below w.heap.size w w'))
  case atStart => exact ⟨(([] : List Int)), (0), (by first | rfl | (simp; done) | (simp [*]; done)), H', ⟨Nat.le_refl _⟩, ⟨by first | exact Kd.R_nil _ _ _ _ _ | exact Kd.N_nil _ _ _ _ _ | exact Kd.V_nil _ _ _ _ _ | exact Kd.Q_nil _ _ _ _ _ | exact Kd.S_nil _ _ _ _ _⟩, ⟨by repeat (first | (with_reducible first | exact HB.out | apply below_alloc | apply pw_below_drewN | apply below_drew1) | exact HB.out)⟩⟩
  case round =>
    clear H'
    obtain ⟨x3_1, x4_1, rfl, HA, HK1, HO_3, HB⟩ := hrel
    cases gk with
    | zero => exact absurd HA.out (by simp [impl_numbersTo.l0])
    | succ k1 =>
      have H := HA.out
      clear HA
      simp only [impl_numbersTo.l0] at H
      by_cases c2 : x4_1 < a0
      · rw [if_pos c2] at H
        have c2b0 : decide (x4_1 < a0) = true := decide_eq_true c2
        clear c2
        by_cases c3 : x3_1.length < 17592186044416
        · rw [if_pos c3] at H
          have LMc3 := Aside0.mk c3
          clear c3
          obtain ⟨y243, hy243⟩ : ∃ y_ : List Int, y_ = (x3_1 ++ [x4_1]) := ⟨_, rfl⟩
          replace H : (impl_numbersTo.l0 k1 a0 y243 (wrap64 (x4_1 + 1))) = some r := by first | (rw [hy243]; with_reducible exact H) | (have H2_ := (Option.bind_some _ _).symm.trans H; rw [hy243]; with_reducible exact H2_) | (have H2_ := (Option.bind_some _ _).symm.trans H; with_reducible exact H2_) | with_reducible exact H | (rw [hy243]; exact H) | exact H
          have Ny243 := Aside0.mk hy243
          clear hy243
          have H' := Aside0.mk H
          clear H
          go_wp2_with (first | ((with_reducible refine gate_builtin (b := .append) (xs := #[.tmp 10, .tmp 12]) rfl ?_); at_builtin; refine Kd.R_append (Kd.int .i64) (w0 := w) w.heap.size rfl (.tmp 10) (.tmp 12) 23 3 (.int .i64 0) 8 rfl Try.underlying23 info3 rfl (by decide) (by omega) u3 x3_1 x4_1 [.int .i64 x4_1] (fun _ => True) (fun _ => False) rfl rfl ?aP (fun _ hk => hk.elim) ?aF ?aO ?aB ?aS ?aL ?_; (case aP => exact rfl); (case aB => exact (by repeat (first | (with_reducible first | exact HB.out | apply below_alloc | apply pw_below_drewN | apply below_drew1) | exact HB.out))); (case aF => exact (fun _ _ => trivial)); (case aO => exact (by (with_reducible repeat (first | apply Kd.R_alloc | apply Kd.R_drewN | apply Kd.R_drew)); exact HO_3.out)); (case aS => exact (below_size (by repeat (first | (with_reducible first | exact HB.out | apply below_alloc | apply pw_below_drewN | apply below_drew1) | exact HB.out)))); (case aL => have := LMc3.out; omega); intro v244 w4 ho hb hg hat; rw [← Ny243.out] at ho; have n0_ := Aside0.mk (hb); have n1_ := Aside0.mk (ho); clear HB; clear HO_3; have HB := n0_; have HO245 := n1_; clear n0_ n1_; clear ho hb hg hat))
          go_roundg k1
          case measure => have := HK1.out; omega
          case rel => exact ⟨(y243), (wrap64 (x4_1 + 1)), (by first | rfl | (simp; done) | (simp [*]; done)), H', ⟨by have := HK1.out; omega⟩, ⟨by (with_reducible repeat (first | apply Kd.R_alloc | apply Kd.R_drewN | apply Kd.R_drew)); exact HO245.out⟩, ⟨by repeat (first | (with_reducible first | exact HB.out | apply below_alloc | apply pw_below_drewN | apply below_drew1) | exact HB.out)⟩⟩
        · rw [if_neg c3] at H
          exact absurd H (by simp)
      · rw [if_neg c2] at H
        have c2b0 : decide (x4_1 < a0) = false := decide_eq_false c2
        clear c2
        obtain rfl := Option.some.inj H
        go_wp2
        go_ret
        exact ⟨_, by first | rfl | (simp [errW_none, errW_some] <;> rfl) | (simp [*, errW_none, errW_some] <;> rfl), by (with_reducible repeat (first | apply Kd.R_alloc | apply Kd.R_drewN | apply Kd.R_drew)); exact HO_3.out, by repeat (first | (with_reducible first | exact HB.out | apply below_alloc | apply pw_below_drewN | apply below_drew1) | exact HB.out)⟩

/-! ### impl_byEnds: function 66, by hand -/
/-! ### impl_byEnds, by hand -/
set_option maxHeartbeats 8000000 in
set_option maxRecDepth 100000 in
theorem impl_byEnds1.cmp (box : Addr) (A0 : Option Addr) (c0 : Nat) (l0 : List Int) (W : World) (hbox : W.cell? box = some (.slice A0 l0.length c0)) (hr : Kd.C (Kd.int .i64) W A0 l0.length l0) (a b : Int) (ha : 0 ≤ a ∧ a < l0.length) (hb : 0 ≤ b ∧ b < l0.length) :
    Calls Try.prog 95 #[.int .i64 a, .int .i64 b, .pointer (some box)] W fun e W' => e = .returned (.bool (decide (rd l0 a < rd l0 b))) ∧ ∃ n, W' = W.drewN n := by
  obtain ⟨ad1, e1, hx1⟩ := Kd.at_int hr a ha.1 ha.2
  obtain ⟨ad2, e2, hx2⟩ := Kd.at_int hr b hb.1 hb.2
  subst e1
  obtain rfl : ad1 = ad2 := by injection e2
  clear hr e2
  have p1 := eq_true ha.1
  have q1 := eq_true ha.2
  have p2 := eq_true hb.1
  have q2 := eq_true hb.2
  clear ha hb
  go_enter Try.func95, Try.ntmps95
  go_wp2
  go_region
  all_goals (go_wp2; go_ret; exact ⟨rfl, 1, rfl⟩)
def impl_byEnds.f (k : Nat) (l0 : List Int) : Option (List Int) := (impl_numbersTo.f k (l0.length : Int)).bind fun r1 => if r1.length ≤ 1048576 ∧ ∀ x ∈ r1, 0 ≤ x ∧ x < (l0.length : Int) then some (insAll (fun a b => decide (rd l0 a < rd l0 b)) r1 []) else none
theorem impl_byEnds.mono : ∀ l0 k, LeO (impl_byEnds.f k l0) (impl_byEnds.f (k + 1) l0) := by
  intro l0 k r h
  unfold impl_byEnds.f at h ⊢
  obtain ⟨r1, h1, h2⟩ := Option.bind_eq_some_iff.1 h
  rw [impl_numbersTo.mono _ _ _ h1]
  exact h2
set_option maxHeartbeats 8000000 in
set_option maxRecDepth 100000 in
theorem impl_byEnds.calls (k : Nat) (A0 : Option Addr) (c0 : Nat) (l0 : List Int) (r : List Int) (w : World) (hr0 : Kd.C (Kd.int .i64) w A0 l0.length l0) (hc0 : l0.length ≤ c0) (h : impl_byEnds.f k l0 = some r) :
    Calls Try.prog 66 #[.slice A0 l0.length c0] w fun e w' => ∃ v0_ : Value, e = .returned (v0_) ∧ Kd.R (Kd.int .i64) 3 w' w.heap.size (fun _ => True) v0_ r ∧ Below w.heap.size w w' := by
  unfold impl_byEnds.f at h
  obtain ⟨r1, h1, h2⟩ := Option.bind_eq_some_iff.1 h
  clear h
  split at h2
  case isFalse => cases h2
  case isTrue h3 =>
  obtain rfl := Option.some.inj h2
  have HR0 := Aside0.mk hr0
  have HC0 := Aside0.mk hc0
  have H1 := Aside0.mk h1
  have H3 := Aside0.mk h3
  have HB := Aside0.mk (Below.refl w.heap.size w)
  clear hr0 hc0 h1 h2 h3
  go_enter Try.func66, Try.ntmps66
  go_wp2_with (fail)
  refine (impl_numbersTo.calls k _ r1 _ H1.out).mono ?_
  rintro e w2 ⟨v2, rfl, ho0, hb⟩
  dsimp only
  have HX2 := hb.cell (p := ⟨w.heap.size, 0, none⟩) (by show w.heap.size < (w.heap.push _).size; rw [Array.size_push]; omega)
  have HBox : Aside0 (w2.cell? ⟨w.heap.size, 0, none⟩ = some (.slice A0 l0.length c0)) := ⟨by rw [HX2]; go_simp⟩
  clear HX2
  have n1_ := Aside0.mk (below_step (by repeat (first | (with_reducible first | exact HB.out | apply below_alloc | apply pw_below_drewN | apply below_drew1) | exact HB.out)) hb)
  have HO_2 := Aside0.mk ho0
  clear HB ho0 hb
  have HB := n1_
  clear n1_
  obtain ⟨Ao2, co2, eo2⟩ := Kd.R_slice HO_2.out
  subst eo2
  go_wp2_with (fail)
  refine (impl_sortedBy.calls 95 ?eg #[.pointer (some ⟨w.heap.size, 0, none⟩)] (fun a b => decide (rd l0 a < rd l0 b)) (fun x => 0 ≤ x ∧ x < (l0.length : Int)) Ao2 co2 r1 w2 (Kd.R_reads' HO_2.out).2.2 (Kd.R_reads' HO_2.out).2.1 H3.out.2 H3.out.1 ?cmp).mono ?_
  case eg => intro args w; go_simp
  case cmp => intro W hW a b ha hb; exact impl_byEnds1.cmp _ A0 c0 l0 W ((hW.cell (World.block_lt_of_cell? w2 _ HBox.out)).trans HBox.out) (Kd.C_below HR0.out (below_step HB.out hW)) a b ha hb
  rintro e w4 ⟨v4, rfl, ho0, hb⟩
  dsimp only
  have n1_ := Aside0.mk (below_step HB.out hb)
  have HO_4 := Aside0.mk (Kd.R_lower ho0 (below_size HB.out))
  clear HB HO_2 HBox ho0 hb
  have HB := n1_
  clear n1_
  go_wp2
  go_ret
  exact ⟨_, rfl, by (with_reducible repeat (first | apply Kd.R_alloc | apply Kd.R_drewN | apply Kd.R_drew)); exact HO_4.out, (by repeat (first | (with_reducible first | exact HB.out | apply below_alloc | apply pw_below_drewN | apply below_drew1) | exact HB.out))⟩

end Go.Proofs.Ytoeoaphejhmjbaa.XFnExactIsOrderVector
