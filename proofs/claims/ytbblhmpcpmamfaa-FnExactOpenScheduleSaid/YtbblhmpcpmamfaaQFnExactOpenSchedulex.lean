/- Proved here: what functions that the law FnExactOpenSchedule reaches answer (spec_l1Own). Conditions: those that each theorem names. -/
import Derived.Test.YtbblhmpcpmamfaaQFnExactOpenScheduleo
set_option linter.unusedVariables false
set_option linter.unusedSimpArgs false
namespace Go.Proofs.Ytbblhmpcpmamfaa.Pure
open Go.RowKit Go.Proofs.Ytbblhmpcpmamfaa.XFnExactOpenSchedule Go.Proofs.YtbblhmpcpmamfaaW.PrintWords Go.Proofs.YtbblhmpcpmamfaaW.PrintLast

theorem spec_l1Own.eq (l : List Int) (h : l.length ≤ 1000000000000) : spec_l1Own.f l = some l := by
  simp only [spec_l1Own.f, Option.bind_some]
  rw [if_pos (by simp; omega)]
  rfl

end Go.Proofs.Ytbblhmpcpmamfaa.Pure
