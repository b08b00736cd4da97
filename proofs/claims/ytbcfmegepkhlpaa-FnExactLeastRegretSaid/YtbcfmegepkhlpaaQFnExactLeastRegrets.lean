/- Proved here: what functions that the law FnExactLeastRegret reaches answer (impl_numbersTo). Conditions: those that each theorem names. -/
import Derived.Test.YtbcfmegepkhlpaaQFnExactLeastRegretl
set_option linter.unusedVariables false
set_option linter.unusedSimpArgs false
namespace Go.Proofs.Ytbcfmegepkhlpaa.Pure
open Go.RowKit Go.Proofs.Ytbcfmegepkhlpaa.XFnExactLeastRegret Go.Proofs.YtbcfmegepkhlpaaW.PrintWords Go.Proofs.YtbcfmegepkhlpaaW.PrintLast

theorem impl_numbersTo.ev (n : Nat) (hn : n ≤ 1048576) : Ev (fun k => impl_numbersTo.f k (n : Int)) (nums_to n) := by
  have ht : ∀ i, i < n → (nums_to n).take i ++ [(i : Int)] = (nums_to n).take (i + 1) := by
    intro i hi
    rw [List.take_succ_eq_append_getElem (by rw [nums_to_length]; exact hi)]
    simp [nums_to]
  have key := rev_ind (P := fun i => Ev (fun k => impl_numbersTo.l0 k (n : Int) ((nums_to n).take i) (i : Int)) (nums_to n)) n ?_ ?_ 0 (Nat.zero_le _)
  · simpa [impl_numbersTo.f] using key
  · refine ev_stop fun k => ?_
    simp only [impl_numbersTo.l0]; rw [if_neg (by omega), List.take_of_length_le (by rw [nums_to_length]; omega)]
  · intro i hi ih
    rw [← ht i hi] at ih
    refine ev_go _ (fun k => ?_) ih
    simp only [impl_numbersTo.l0]; rw [if_pos (by omega), if_pos (by simp; omega), wr1 (by omega)]

end Go.Proofs.Ytbcfmegepkhlpaa.Pure
