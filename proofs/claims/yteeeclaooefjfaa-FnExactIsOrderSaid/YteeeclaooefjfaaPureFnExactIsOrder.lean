/- Proved here: the statement over numbers and lists alone of the law FnExactIsOrder, for all its arguments within the bounds that it names. Conditions: those that each theorem names. -/
import Derived.Test.YteeeclaooefjfaaQFnExactIsOrderb
set_option linter.unusedVariables false
set_option linter.unusedSimpArgs false
namespace Go.Proofs.Yteeeclaooefjfaa.Pure
open Go.RowKit Go.Proofs.Yteeeclaooefjfaa.XFnExactIsOrder Go.Proofs.YteeeclaooefjfaaW.PrintWords Go.Proofs.YteeeclaooefjfaaW.PrintLast

theorem FnExactIsOrder (n : Int) (l : List Int) (_ : (Lit.int .i64 n).wf = true) (_ : l.length ≤ maxLen ∧ ∀ x ∈ l, (Lit.int .i64 x).wf = true) : ∃ k, laws_FnExactIsOrder.f k n l = some true := by
  refine Ev.rounds (g := fun k => laws_FnExactIsOrder.f k n l) ?_
  unfold laws_FnExactIsOrder.f
  refine ev_ite (fun _ => Ev.now _) (fun hs => ?_)
  have hl : l.length ≤ 1048576 := by omega
  obtain ⟨b, h1, h2⟩ := evB_same (spec_IsOrder.ev n l (by omega)) (impl_IsOrder.ev n l (by omega))
  have ht := laws_toIntS.ev l (by omega)
  refine ev_bind l ht (ev_bind b h1 (ev_bind l ht (ev_bind b h2 ?_)))
  simp only [bne_self_eq_false, Bool.false_eq_true, if_false]
  exact ev_bind l ht (ev_bind true (laws_eqIntS.same l (by omega)) (by simp only [if_true]; exact Ev.now _))

end Go.Proofs.Yteeeclaooefjfaa.Pure
