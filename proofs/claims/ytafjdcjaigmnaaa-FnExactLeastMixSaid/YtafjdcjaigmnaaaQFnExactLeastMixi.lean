/- Proved here: what functions that the law FnExactLeastMix reaches answer (demandF). Conditions: those that each theorem names. -/
import Derived.Test.YtafjdcjaigmnaaaQFnExactLeastMixh
set_option linter.unusedVariables false
set_option linter.unusedSimpArgs false
namespace Go.Proofs.Ytafjdcjaigmnaaa.Pure
open Go.RowKit Go.Proofs.Ytafjdcjaigmnaaa.XFnExactLeastMix Go.Proofs.YtafjdcjaigmnaaaW.PrintWords Go.Proofs.YtafjdcjaigmnaaaW.PrintLast

theorem rdJ_int {l : List J} {x : Int} (h0 : 0 ≤ x) (h1 : x < l.length) : rd_T54 l x = l[x.toNat]'(by omega) := by
  have : x.toNat < l.length := by omega
  simp [rd_T54, this]
def demandF (jobs : List J) : List Int → Int → Int → Int
  | [], t, s => wrap64 (Int.tdiv (wrap64 ((wrap64 (t * t)) + s)) 2)
  | x :: xs, t, s => demandF jobs xs (wrap64 (t + (rd_T54 jobs x).f0)) (wrap64 (s + (wrap64 ((rd_T54 jobs x).f0 * (rd_T54 jobs x).f0))))

end Go.Proofs.Ytafjdcjaigmnaaa.Pure
