-- Written by a program of this session (the kit's print, widened). Proved here: what each function answers, for the arguments that its contract names.
import Derived.Test.YtphgpffgidfmmaaXFnExactJohnsonOrderx0
namespace Go.Proofs.Ytphgpffgidfmmaa.XFnExactJohnsonOrder
open Go.RowKit Go.Proofs.YtphgpffgidfmmaaW.PrintWords Go.Proofs.YtphgpffgidfmmaaW.PrintLast Go.Proofs.YtphgpffgidfmmaaW.PrintMore
attribute [local go_sem] max2_int min2_int max_two min_two max_three min_three max_four min_four   -- for this text's walks alone
attribute [local go_sem] fldS_78_0 fldS_78_1 fldS_78_2
set_option linter.unusedVariables false
set_option linter.unusedSimpArgs false

/-! ### spec_l8First: function 90, by hand -/
theorem at_rowF {w : World} {A : Option Addr} {n : Nat} {xs : List (List Int)} (h : Kd.C (Kd.slice 3 (Kd.int .i64)) w A n xs) (i : Int) (h0 : 0 ≤ i) (h1 : i < n) : ∃ ad A0 c0, A = some ad ∧ w.cell? (ad.add i.toNat) = some (.slice A0 (xs.getD i.toNat ([] : List Int)).length c0) ∧ (xs.getD i.toNat ([] : List Int)).length ≤ c0 ∧ (Kd.int .i64).C w A0 (xs.getD i.toNat ([] : List Int)).length (xs.getD i.toNat ([] : List Int)) := by
  obtain ⟨ad, c, e, _, hK, hc0⟩ := Kd.C_get h ([] : List Int) i h0 h1
  have hc : ∀ j u, c[j]? = some u → w.cell? (ad.add (i.toNat * 1 + j)) = some u := hc0
  obtain ⟨A0, c0, rfl, l0, g0⟩ := hK
  exact ⟨ad, A0, c0, e, by have hq := hc 0 _ rfl; rwa [Nat.mul_one, Nat.add_zero] at hq, l0, g0⟩
def johnBe (l0 : List (List Int)) : Int → Int → Bool := fun a b => bif decide (rd (l0.getD a.toNat []) 0 ≤ rd (l0.getD a.toNat []) 1) == decide (rd (l0.getD b.toNat []) 0 ≤ rd (l0.getD b.toNat []) 1) then (bif decide (rd (l0.getD a.toNat []) 0 ≤ rd (l0.getD a.toNat []) 1) then (decide (rd (l0.getD a.toNat []) 0 < rd (l0.getD b.toNat []) 0) || ((rd (l0.getD a.toNat []) 0 == rd (l0.getD b.toNat []) 0) && decide (a < b))) else (decide (rd (l0.getD b.toNat []) 1 < rd (l0.getD a.toNat []) 1) || ((rd (l0.getD b.toNat []) 1 == rd (l0.getD a.toNat []) 1) && decide (a < b)))) else decide (rd (l0.getD a.toNat []) 0 ≤ rd (l0.getD a.toNat []) 1)
def spec_l8First.f (k : Nat) (l0 : List (List Int)) (a b : Int) : Option Bool := if (0 ≤ a ∧ a < (l0.length : Int)) ∧ (0 ≤ b ∧ b < (l0.length : Int)) ∧ (l0.getD a.toNat []).length = 2 ∧ (l0.getD b.toNat []).length = 2 then some (johnBe l0 a b) else none
theorem spec_l8First.mono : ∀ l0 a b k, LeO (spec_l8First.f k l0 a b) (spec_l8First.f (k + 1) l0 a b) := by
  intro l0 a b k r h
  exact h
set_option maxHeartbeats 8000000 in
set_option maxRecDepth 100000 in
theorem spec_l8First.calls (k : Nat) (A0 : Option Addr) (c0 : Nat) (l0 : List (List Int)) (a b : Int) (r : Bool) (W : World) (hr : Kd.C (Kd.slice 3 (Kd.int .i64)) W A0 l0.length l0) (hc0 : l0.length ≤ c0) (h : spec_l8First.f k l0 a b = some r) :
    Calls Try.prog 90 #[.slice A0 l0.length c0, .int .i64 a, .int .i64 b] W fun e W' => e = .returned (.bool r) ∧ Below W.heap.size W W' := by
  unfold spec_l8First.f at h
  split at h
  case isFalse => cases h
  case isTrue h3 =>
  obtain rfl := Option.some.inj h
  clear h
  obtain ⟨ha, hb, la, lb⟩ := h3
  obtain ⟨ad1, X, cX, e1, hx1, lX, hiX⟩ := at_rowF hr a ha.1 ha.2
  obtain ⟨ad2, Y, cY, e2, hx2, lY, hiY⟩ := at_rowF hr b hb.1 hb.2
  subst e1
  obtain rfl : ad1 = ad2 := by injection e2
  obtain ⟨adX, eX, hX0⟩ := Kd.at_int hiX 0 (by omega) (by omega)
  obtain ⟨adX2, eX2, hX1⟩ := Kd.at_int hiX 1 (by omega) (by omega)
  obtain ⟨adY, eY, hY0⟩ := Kd.at_int hiY 0 (by omega) (by omega)
  obtain ⟨adY2, eY2, hY1⟩ := Kd.at_int hiY 1 (by omega) (by omega)
  subst eX
  obtain rfl : adX = adX2 := by injection eX2
  subst eY
  obtain rfl : adY = adY2 := by injection eY2
  unfold johnBe
  rw [la] at hx1
  rw [lb] at hx2
  clear hr e2 eX2 eY2 hiX hiY la lb lX lY
  rw [show ((0 : Int)).toNat = 0 from rfl, Addr.add_zero'] at hX0 hY0
  simp only [show (1 : Int).toNat = 1 from rfl, Nat.reduceMul, Nat.reduceEqDiff, Go.Addr.add, ↓reduceIte] at hX1 hY1
  generalize rd (l0.getD a.toNat []) 0 = x0 at *
  generalize rd (l0.getD a.toNat []) 1 = x1 at *
  generalize rd (l0.getD b.toNat []) 0 = y0 at *
  generalize rd (l0.getD b.toNat []) 1 = y1 at *
  have p1 := eq_true ha.1
  have q1 := eq_true ha.2
  have p2 := eq_true hb.1
  have q2 := eq_true hb.2
  clear ha hb
  obtain ⟨d1, hd1⟩ : ∃ d, decide (x0 ≤ x1) = d := ⟨_, rfl⟩
  obtain ⟨d2, hd2⟩ : ∃ d, decide (y0 ≤ y1) = d := ⟨_, rfl⟩
  rw [hd1, hd2]
  obtain ⟨t1, ht1⟩ : ∃ d, decide (x0 < y0) = d := ⟨_, rfl⟩
  obtain ⟨t2, ht2⟩ : ∃ d, decide (y1 < x1) = d := ⟨_, rfl⟩
  obtain ⟨u1, hu1⟩ : ∃ d, (x0 == y0) = d := ⟨_, rfl⟩
  obtain ⟨u2, hu2⟩ : ∃ d, (y1 == x1) = d := ⟨_, rfl⟩
  rw [ht1, ht2, hu1, hu2]
  go_enter Try.func90, Try.ntmps90
  have HB := Below.refl W.heap.size W
  by_cases hd : d1 = d2
  · subst hd
    cases d1
    · clear ht1 hu1 
      cases t2 <;> cases u2 <;> go_wp2
      all_goals
        repeat (go_quiet (fail); try go_wp2)
        go_ret
        exact ⟨by simp, by repeat (first | exact HB | apply below_alloc | apply pw_below_drewN | apply below_drew1)⟩
    · clear ht2 hu2
      cases t1 <;> cases u1 <;> go_wp2
      all_goals
        repeat (go_quiet (fail); try go_wp2)
        go_ret
        exact ⟨by simp, by repeat (first | exact HB | apply below_alloc | apply pw_below_drewN | apply below_drew1)⟩
  · cases d1 <;> cases d2 <;> first | (exact absurd rfl hd) | (go_wp2; repeat (go_quiet (fail); try go_wp2); go_ret; exact ⟨by simp, by repeat (first | exact HB | apply below_alloc | apply pw_below_drewN | apply below_drew1)⟩)

end Go.Proofs.Ytphgpffgidfmmaa.XFnExactJohnsonOrder
