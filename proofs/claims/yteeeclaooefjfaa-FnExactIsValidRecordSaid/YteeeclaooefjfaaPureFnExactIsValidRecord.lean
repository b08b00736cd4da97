/- Proved here: the statement over numbers and lists alone of the law FnExactIsValidRecord, for all its arguments within the bounds that it names. Conditions: those that each theorem names. -/
import Derived.Test.YteeeclaooefjfaaQFnExactIsValidRecordc
set_option linter.unusedVariables false
set_option linter.unusedSimpArgs false
namespace Go.Proofs.Yteeeclaooefjfaa.Pure
open Go.RowKit Go.Proofs.Yteeeclaooefjfaa.XFnExactIsValidRecord Go.Proofs.YteeeclaooefjfaaW.PrintWords Go.Proofs.YteeeclaooefjfaaW.PrintLast

theorem FnExactIsValidRecord (c r : ByteArray) (h : c.size ≤ maxLen ∧ r.size ≤ maxLen) : ∃ k, laws_FnExactIsValidRecord.f k c r = some true := by
  refine Ev.rounds (g := fun k => laws_FnExactIsValidRecord.f k c r) ?_
  unfold laws_FnExactIsValidRecord.f
  obtain ⟨n, hn, hs⟩ := laws_szLogRecord.eq c r h.1 h.2
  simp only [hn, Option.bind_some, laws_toLogRecord.f]
  refine ev_ite (fun _ => Ev.now _) (fun h0 => ?_)
  obtain ⟨h1, h2⟩ := hs (by omega)
  obtain ⟨b, e1, e2⟩ := evB_same (spec_IsValidRecord.ev c r (by omega) (by omega)) (impl_IsValidRecord.ev c r (by omega) (by omega))
  refine ev_bind b e1 (ev_bind b e2 ?_)
  simp only [bne_self_eq_false, Bool.false_eq_true, if_false]
  exact Ev.now _

end Go.Proofs.Yteeeclaooefjfaa.Pure
