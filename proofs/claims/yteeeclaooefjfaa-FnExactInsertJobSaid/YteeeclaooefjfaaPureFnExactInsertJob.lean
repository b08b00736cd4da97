/- Proved here: the statement over numbers and lists alone of the law FnExactInsertJob, for all its arguments within the bounds that it names. Conditions: those that each theorem names. -/
import Derived.Test.YteeeclaooefjfaaQFnExactInsertJobs
set_option linter.unusedVariables false
set_option linter.unusedSimpArgs false
namespace Go.Proofs.Yteeeclaooefjfaa.Pure
open Go.RowKit Go.Proofs.Yteeeclaooefjfaa.XFnExactInsertJob Go.Proofs.YteeeclaooefjfaaW.PrintWords Go.Proofs.YteeeclaooefjfaaW.PrintLast

theorem FnExactInsertJob (l0 : List Int) (a1 : Int) (a2 : Int) (h0 : l0.length ≤ maxLen ∧ ∀ x ∈ l0, (Lit.int .i64 x).wf = true) (h1 : (Lit.int .i64 a1).wf = true) (h2 : (Lit.int .i64 a2).wf = true) : ∃ k, laws_FnExactInsertJob.f k l0 a1 a2 = some true := by
  refine Ev.rounds (g := fun k => laws_FnExactInsertJob.f k l0 a1 a2) ?_
  unfold laws_FnExactInsertJob.f
  refine ev_ite (fun _ => Ev.now _) (fun hq0 => ?_)
  have hs0 : l0.length ≤ 1048576 := by omega
  have ht0 := laws_toIntS.ev l0 (by omega)
  have hc0 := hs0
  have he0 := laws_eqIntS.same l0 (by omega)
  obtain ⟨r0, r1, hsp, him, hr0⟩ := core_InsertJob l0 a1 a2 hc0 h1 h2
  have her0 := laws_eqIntS.same r0 (by omega)
  obtain ⟨m0, x0, hm0, hma0, hmb0, hmc0⟩ := laws_markIntS.any l0 1 (by omega) (by omega) hc0
  obtain ⟨q0, g0, hg0, hh0, hgn0⟩ := laws_markIntS.held r0 hr0
  repeat' first
    | exact Ev.now _
    | (refine ev_bind _ (by assumption) ?_)
    | simp only [if_true, if_false, bne_self_eq_false, Bool.false_eq_true, Bool.not_true, Bool.not_false, hmc0, hgn0]
    | (refine ev_succ ?_; simp only [laws_FnExactInsertJob.f, laws_FnExactInsertJob.j0, laws_FnExactInsertJob.j1, laws_FnExactInsertJob.j2])

end Go.Proofs.Yteeeclaooefjfaa.Pure
