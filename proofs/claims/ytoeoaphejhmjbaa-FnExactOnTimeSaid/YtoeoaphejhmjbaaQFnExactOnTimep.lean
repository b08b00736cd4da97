/- Proved here: what functions that the law FnExactOnTime reaches answer (ruledOk, gapF, spec_l3Gap). Conditions: those that each theorem names. -/
import Derived.Test.YtoeoaphejhmjbaaQFnExactOnTimej
set_option linter.unusedVariables false
set_option linter.unusedSimpArgs false
namespace Go.Proofs.Ytoeoaphejhmjbaa.Pure
open Go.RowKit Go.Proofs.Ytoeoaphejhmjbaa.XFnExactOnTime Go.Proofs.YtoeoaphejhmjbaaW.PrintWords Go.Proofs.YtoeoaphejhmjbaaW.PrintLast

/-- Jobs, and a rule that speaks of them. -/
def RuledOk (jobs : List J) (a : Int) : Prop := JobsOk jobs ∧ (1 ≤ a ∧ a ≤ 4) ∧ (a ≠ 1 → NoRel jobs)

/-- How far the one is behind the other, by a rule. -/
def gapF (a : Int) (x y : J) : Int := if a = 1 then x.f2 - y.f2 else if a = 2 then x.f0 - y.f0 else if a = 3 then x.f0 * y.f1 - y.f0 * x.f1 else x.f3 - y.f3
theorem gapF_neg (a : Int) (x y : J) : gapF a x y = - gapF a y x := by
  unfold gapF
  split
  · omega
  · split
    · omega
    · split <;> omega
theorem mul_small {x y : Int} (h1 : 0 ≤ x ∧ x ≤ 50) (h2 : 0 ≤ y ∧ y ≤ 50) : 0 ≤ x * y ∧ x * y ≤ 2500 := by
  have h3 := Int.mul_nonneg h1.1 h2.1
  have h4 : x * y ≤ 50 * 50 := Int.mul_le_mul h1.2 h2.2 h2.1 (by omega)
  omega
theorem gap_wrap {a : Int} {x y : J} (hx : JobOk x) (hy : JobOk y) : (if a = 1 then wrap64 (x.f2 - y.f2) else if a = 2 then wrap64 (x.f0 - y.f0) else if a = 3 then wrap64 (wrap64 (x.f0 * y.f1) - wrap64 (y.f0 * x.f1)) else wrap64 (x.f3 - y.f3)) = gapF a x y := by
  obtain ⟨h1, h2, h3, h4⟩ := hx
  obtain ⟨k1, k2, k3, k4⟩ := hy
  have m1 := mul_small (x := x.f0) (y := y.f1) (by omega) (by omega)
  have m2 := mul_small (x := y.f0) (y := x.f1) (by omega) (by omega)
  unfold gapF
  rw [wr (x := x.f2 - y.f2) (by omega) (by omega), wr (x := x.f0 - y.f0) (by omega) (by omega), wr (x := x.f3 - y.f3) (by omega) (by omega), wr (x := x.f0 * y.f1) (by omega) (by omega), wr (x := y.f0 * x.f1) (by omega) (by omega), wr (by omega) (by omega)]

theorem spec_l3Gap.eq (jobs : List J) (a : Int) (i j : Nat) (hi : i < jobs.length) (hj : j < jobs.length) (h : JobsOk jobs) : spec_l3Gap.f jobs a (i : Int) (j : Int) = some (gapF a jobs[i] jobs[j]) := by
  unfold spec_l3Gap.f
  rw [if_pos (by omega), if_pos (by omega), if_pos (by omega), if_pos (by omega), rdJ hi, rdJ hj, ← gap_wrap (h.2 _ (List.getElem_mem hi)) (h.2 _ (List.getElem_mem hj))]
  split
  · rfl
  · split
    · rfl
    · split <;> rfl

end Go.Proofs.Ytoeoaphejhmjbaa.Pure
