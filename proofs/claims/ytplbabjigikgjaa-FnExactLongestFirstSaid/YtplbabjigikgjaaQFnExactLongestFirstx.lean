/- Proved here: what functions that the law FnExactLongestFirst reaches answer (spec_l1Own). Conditions: those that each theorem names. -/
import Derived.Test.YtplbabjigikgjaaQFnExactLongestFirsts
set_option linter.unusedVariables false
set_option linter.unusedSimpArgs false
namespace Go.Proofs.Ytplbabjigikgjaa.Pure
open Go.RowKit Go.Proofs.Ytplbabjigikgjaa.XFnExactLongestFirst Go.Proofs.YtplbabjigikgjaaW.PrintWords Go.Proofs.YtplbabjigikgjaaW.PrintLast

theorem spec_l1Own.eq (l:List Int) (h:l.length≤1000000000000):spec_l1Own.f l=some l:=by
 simp only [spec_l1Own.f,Option.bind_some]
 rw [if_pos (by simp;omega)]
 rfl

end Go.Proofs.Ytplbabjigikgjaa.Pure
-- minified
