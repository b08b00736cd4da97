/- Proved here: the statement over numbers and lists alone of the law FnExactFlowBound, for all its arguments within the bounds that it names. Conditions: those that each theorem names. -/
import Derived.Test.YtgelmpoaainlfaaQFnExactFlowBoundk
set_option linter.unusedVariables false
set_option linter.unusedSimpArgs false
namespace Go.Proofs.Ytgelmpoaainlfaa.Pure
open Go.RowKit Go.Proofs.Ytgelmpoaainlfaa.XFnExactFlowBound Go.Proofs.YtgelmpoaainlfaaW.PrintWords Go.Proofs.YtgelmpoaainlfaaW.PrintLast

theorem FnExactFlowBound (l0 : List (List Int)) (h0 : l0.length ≤ maxLen ∧ ∀ y ∈ l0, y.length ≤ maxLen ∧ ∀ n ∈ y, (Lit.int .i64 n).wf = true) : ∃ k, laws_FnExactFlowBound.f k l0 = some true := by
  refine Ev.rounds (g := fun k => laws_FnExactFlowBound.f k l0) ?_
  unfold laws_FnExactFlowBound.f
  obtain ⟨n0, hn0, hb0, hz0⟩ := laws_szIntSS.ev l0 1048576 (by omega) (by omega) h0.1 (fun y hy => (h0.2 y hy).1)
  refine ev_bind n0 hn0 (ev_ite (fun _ => Ev.now _) (fun hq0 => ?_))
  obtain ⟨hs0, hw0⟩ := hz0 (by omega)
  have ht0 := laws_toIntSS.ev l0 (by omega) (fun y hy => by have := hw0 y hy; omega)
  have he0 := laws_eqIntSS.same l0 (by omega) (fun y hy => by have := hw0 y hy; omega)
  obtain ⟨r0, r1, hsp, him⟩ := core_FlowBound l0 hs0 hw0
  repeat' first
    | exact Ev.now _
    | (refine ev_bind _ (by assumption) ?_)
    | simp only [if_true, if_false, bne_self_eq_false, Bool.false_eq_true, Bool.not_true, Bool.not_false]
    | (refine ev_succ ?_; simp only [laws_FnExactFlowBound.f, laws_FnExactFlowBound.j0])

end Go.Proofs.Ytgelmpoaainlfaa.Pure
