/- Proved here: what functions that the law FnExactWrapAround reaches answer (spec_l2Last). Conditions: those that each theorem names. -/
import Derived.Test.YtplbabjigikgjaaQFnExactWrapAroundq
set_option linter.unusedVariables false
set_option linter.unusedSimpArgs false
namespace Go.Proofs.Ytplbabjigikgjaa.Pure
open Go.RowKit Go.Proofs.Ytplbabjigikgjaa.XFnExactWrapAround Go.Proofs.YtplbabjigikgjaaW.PrintWords Go.Proofs.YtplbabjigikgjaaW.PrintLast

theorem spec_l2Last.ev (l : List Int) (hl : l.length ≤ 1000000000) : Ev (fun k => spec_l2Last.f k l) (mxW l 0) := by
  have key := rev_ind (P := fun i => ∀ s, Ev (fun k => spec_l2Last.l0 k l s (i : Int)) (mxW (l.drop i) s)) l.length ?_ ?_ 0 (Nat.zero_le _) 0
  · simpa [spec_l2Last.f] using key
  · intro s
    refine ev_stop fun k => ?_
    simp only [spec_l2Last.l0]; rw [if_neg (by omega), List.drop_length]; rfl
  · intro i hi ih s
    rw [drop_cons hi, mxW]
    refine ev_go _ (fun k => ?_) (ih _)
    simp only [spec_l2Last.l0]; rw [if_pos (by omega), if_pos (by omega), rd_nat hi, spec_l1Most.eqk, Option.bind_some, wr1 (by omega)]

end Go.Proofs.Ytplbabjigikgjaa.Pure
