/- Proved here: what functions that the law FnExactUnitGreedy reaches answer (copyEq). Conditions: those that each theorem names. -/
import Derived.Test.YtafjdcjaigmnaaaQFnExactUnitGreedyt
set_option linter.unusedVariables false
set_option linter.unusedSimpArgs false
namespace Go.Proofs.Ytafjdcjaigmnaaa.Pure
open Go.RowKit Go.Proofs.Ytafjdcjaigmnaaa.XFnExactUnitGreedy Go.Proofs.YtafjdcjaigmnaaaW.PrintWords Go.Proofs.YtafjdcjaigmnaaaW.PrintLast

theorem impl_copyInts.eq (l : List Int) (h : l.length ≤ 1000000000000) : impl_copyInts.f l = some l := by
  simp only [impl_copyInts.f, Option.bind_some]
  rw [if_pos (by simp; omega), List.nil_append]

end Go.Proofs.Ytafjdcjaigmnaaa.Pure
