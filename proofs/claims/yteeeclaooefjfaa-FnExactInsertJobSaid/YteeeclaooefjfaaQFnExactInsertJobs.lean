/- Proved here: what functions that the law FnExactInsertJob reaches answer (core_InsertJob). Conditions: those that each theorem names. -/
import Derived.Test.YteeeclaooefjfaaQFnExactInsertJobj
set_option linter.unusedVariables false
set_option linter.unusedSimpArgs false
namespace Go.Proofs.Yteeeclaooefjfaa.Pure
open Go.RowKit Go.Proofs.Yteeeclaooefjfaa.XFnExactInsertJob Go.Proofs.YteeeclaooefjfaaW.PrintWords Go.Proofs.YteeeclaooefjfaaW.PrintLast

theorem own_eq (l : List Int) (h : l.length ≤ 1000000000000) : spec_l1Own.f l = some l := by
  simp only [spec_l1Own.f, Option.bind_some]
  rw [if_pos (by simp; omega), List.nil_append]
theorem core_InsertJob (l : List Int) (a b : Int) (hl : l.length ≤ 1048576) (ha : (Lit.int .i64 a).wf = true) (hb : (Lit.int .i64 b).wf = true) : ∃ r c, Ev (fun k => spec_InsertJob.f k l a b) (r, c) ∧ Ev (fun k => impl_InsertJob.f k l a b) (r, c) ∧ r.length ≤ 1048576 := by
  obtain ⟨d, h1, h2⟩ := evB_same (spec_l2Order.ev (l.length : Int) l (by omega)) (impl_IsOrder.ev (l.length : Int) l (by omega))
  have no : Ev (fun k => spec_InsertJob.j0 k l a b true) ([], false) := ev_stop fun k => by simp only [spec_InsertJob.j0]; rw [if_pos trivial]
  have n1 := impl_isNumber.eq a (l.length : Int) (by omega) (by omega)
  have n2 := impl_isNumber.eq b (l.length : Int) (by omega) (by omega)
  have e1 : (decide (0 ≤ a ∧ a ≤ (l.length : Int) - 1)) = decide (0 ≤ a ∧ a < (l.length : Int)) := by rw [decide_eq_decide]; omega
  have e2 : (decide (0 ≤ b ∧ b ≤ (l.length : Int) - 1)) = decide (0 ≤ b ∧ b < (l.length : Int)) := by rw [decide_eq_decide]; omega
  unfold spec_InsertJob.f impl_InsertJob.f
  rw [wr (x := (l.length : Int) - 1) (by omega) (by omega)]
  simp only [spec_l1In.eq, n1, n2, e1, e2, Option.bind_some]
  cases d with
  | false => exact ⟨[], false, ev_bind false h1 (by simp only [Bool.false_eq_true, if_false]; exact no), ev_bind false h2 (by simp only [Bool.false_eq_true, if_false]; exact Ev.now _), by simp⟩
  | true =>
    by_cases q1 : 0 ≤ a ∧ a < (l.length : Int)
    · by_cases q2 : 0 ≤ b ∧ b < (l.length : Int)
      · simp only [decide_eq_true q1, decide_eq_true q2]
        refine ⟨insJob l a b, true, ev_bind true h1 ?_, ev_bind true h2 ?_, ?_⟩
        · simp only [if_true]
          refine ev_stop fun k => ?_
          simp only [spec_InsertJob.j0]
          have hE : l.take a.toNat ++ l.drop (a + 1).toNat = l.eraseIdx a.toNat := by rw [List.eraseIdx_eq_take_drop_succ, show (a + 1).toNat = a.toNat + 1 by omega]
          have hEl : (l.eraseIdx a.toNat).length + 1 = l.length := by rw [List.length_eraseIdx]; split <;> omega
          rw [if_neg (by simp), if_pos (by omega), if_pos (by omega), own_eq _ (by simp; omega), Option.bind_some, wr (x := a + 1) (by omega) (by omega), if_pos (by omega), if_pos (by omega), if_pos (by simp; omega), hE, Option.bind_some, if_pos (by omega), if_pos (by omega), own_eq _ (by simp; omega), Option.bind_some, if_pos (by omega)]
          simp only [Option.bind_some]
          rw [if_pos (by simp; omega), if_pos (by simp; omega)]
          simp [insJob]
        · simp only [if_true]
          rw [if_pos ⟨by omega, q1, q2⟩]
          exact Ev.now _
        · have hEl : (l.eraseIdx a.toNat).length + 1 = l.length := by rw [List.length_eraseIdx]; split <;> omega
          simp [insJob]; omega
      · simp only [decide_eq_true q1, decide_eq_false q2]
        exact ⟨[], false, ev_bind true h1 (by simp only [if_true, Bool.not_false]; exact no), ev_bind true h2 (by simp only [if_true, Bool.false_eq_true, if_false]; exact Ev.now _), by simp⟩
    · simp only [decide_eq_false q1]
      exact ⟨[], false, ev_bind true h1 (by simp only [if_true, Bool.false_eq_true, if_false]; exact no), ev_bind true h2 (by simp only [if_true, Bool.false_eq_true, if_false]; exact Ev.now _), by simp⟩

end Go.Proofs.Yteeeclaooefjfaa.Pure
