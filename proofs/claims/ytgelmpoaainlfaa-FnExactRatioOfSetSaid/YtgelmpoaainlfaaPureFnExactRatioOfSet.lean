/- Proved here: the statement over numbers and lists alone of the law FnExactRatioOfSet, for all its arguments within the bounds that it names. Conditions: those that each theorem names. -/
import Derived.Test.YtgelmpoaainlfaaQFnExactRatioOfSetj
set_option linter.unusedVariables false
set_option linter.unusedSimpArgs false
namespace Go.Proofs.Ytgelmpoaainlfaa.Pure
open Go.RowKit Go.Proofs.Ytgelmpoaainlfaa.XFnExactRatioOfSet Go.Proofs.YtgelmpoaainlfaaW.PrintWords Go.Proofs.YtgelmpoaainlfaaW.PrintLast

theorem FnExactRatioOfSet (l0 : List LJ) (l1 : List Int) (h0 : l0.length ≤ maxLen ∧ ∀ n ∈ l0, (Lit.int .i64 n.f0).wf = true ∧ (Lit.int .i64 n.f1).wf = true ∧ (Lit.int .i64 n.f2).wf = true ∧ (Lit.int .i64 n.f3).wf = true) (h1 : l1.length ≤ maxLen ∧ ∀ x ∈ l1, (Lit.int .i64 x).wf = true) : ∃ k, laws_FnExactRatioOfSet.f k l0 l1 = some true := by
  refine Ev.rounds (g := fun k => laws_FnExactRatioOfSet.f k l0 l1) ?_
  unfold laws_FnExactRatioOfSet.f
  refine ev_ite (fun _ => Ev.now _) (fun hq1 => ?_)
  have hs1 : l1.length ≤ 1048576 := by omega
  obtain ⟨n0, hn0, hb0, hz0⟩ := laws_szJobS.eq l0 1048576 (by omega) (by omega) (by have := h0.1; unfold maxLen at this; omega)
  simp only [hn0, Option.bind_some]
  refine ev_ite (fun _ => Ev.now _) (fun hq0 => ?_)
  have hs0 : l0.length ≤ 1048576 := hz0 (by omega)
  have ht0 := laws_toJobS.ev l0 (by omega)
  have hc0 : (l0.map cvJ).length ≤ 1048576 := by simpa using hs0
  have he0 := laws_eqJobS.same (l0.map cvJ) (by omega)
  have ht1 := laws_toIntS.ev l1 (by omega)
  have hc1 := hs1
  have he1 := laws_eqIntS.same l1 (by omega)
  obtain ⟨r0, r0_, r1, hsp, him, he2⟩ := core_RatioOfSet (l0.map cvJ) l1 hc0 hc1
  repeat' first
    | exact Ev.now _
    | (refine ev_bind _ (by assumption) ?_)
    | simp only [if_true, if_false, bne_self_eq_false, Bool.false_eq_true, Bool.not_true, Bool.not_false]
    | (refine ev_succ ?_; simp only [laws_FnExactRatioOfSet.f, laws_FnExactRatioOfSet.j0])

end Go.Proofs.Ytgelmpoaainlfaa.Pure
