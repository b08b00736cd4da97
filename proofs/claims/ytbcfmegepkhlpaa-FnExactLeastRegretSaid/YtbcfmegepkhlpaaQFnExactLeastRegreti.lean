/- Proved here: what functions that the law FnExactLeastRegret reaches answer (demandF). Conditions: those that each theorem names. -/
import Derived.Test.YtbcfmegepkhlpaaQFnExactLeastRegreth
set_option linter.unusedVariables false
set_option linter.unusedSimpArgs false
namespace Go.Proofs.Ytbcfmegepkhlpaa.Pure
open Go.RowKit Go.Proofs.Ytbcfmegepkhlpaa.XFnExactLeastRegret Go.Proofs.YtbcfmegepkhlpaaW.PrintWords Go.Proofs.YtbcfmegepkhlpaaW.PrintLast

theorem rdJ_int {l : List J} {x : Int} (h0 : 0 ≤ x) (h1 : x < l.length) : rd_T76 l x = l[x.toNat]'(by omega) := by
  have : x.toNat < l.length := by omega
  simp [rd_T76, this]
def demandF (jobs : List J) : List Int → Int → Int → Int
  | [], t, s => wrap64 (Int.tdiv (wrap64 ((wrap64 (t * t)) + s)) 2)
  | x :: xs, t, s => demandF jobs xs (wrap64 (t + (rd_T76 jobs x).f0)) (wrap64 (s + (wrap64 ((rd_T76 jobs x).f0 * (rd_T76 jobs x).f0))))

end Go.Proofs.Ytbcfmegepkhlpaa.Pure
