/- Proved here: the statement over numbers and lists alone of the law FnExactAreScenarios, for all its arguments within the bounds that it names. Conditions: those that each theorem names. -/
import Derived.Test.YteeeclaooefjfaaQFnExactAreScenariose
set_option linter.unusedVariables false
set_option linter.unusedSimpArgs false
namespace Go.Proofs.Yteeeclaooefjfaa.Pure
open Go.RowKit Go.Proofs.Yteeeclaooefjfaa.XFnExactAreScenarios Go.Proofs.YteeeclaooefjfaaW.PrintWords Go.Proofs.YteeeclaooefjfaaW.PrintLast

theorem FnExactAreScenarios (l : List (List LJ)) (h : l.length ≤ maxLen ∧ ∀ y ∈ l, y.length ≤ maxLen ∧ ∀ n ∈ y, (Lit.int .i64 n.f0).wf = true ∧ (Lit.int .i64 n.f1).wf = true ∧ (Lit.int .i64 n.f2).wf = true ∧ (Lit.int .i64 n.f3).wf = true) : ∃ k, laws_FnExactAreScenarios.f k l = some true := by
  refine Ev.rounds (g := fun k => laws_FnExactAreScenarios.f k l) ?_
  unfold laws_FnExactAreScenarios.f
  obtain ⟨n, hn, _, hs⟩ := laws_szJobSS.ev l 1048576 (by omega) (by omega) h.1 (fun y hy => (h.2 y hy).1)
  refine ev_bind n hn (ev_ite (fun _ => Ev.now _) (fun h0 => ?_))
  obtain ⟨h1, h2⟩ := hs (by omega)
  have ht := laws_toJobSS.ev l (by omega) (fun y hy => by have := h2 y hy; omega)
  have hlen : (l.map cvJJ).length ≤ 1048576 := by simpa using h1
  have hrow : ∀ y ∈ l.map cvJJ, y.length ≤ 1048576 := fun y hy => by
    obtain ⟨x, hx, rfl⟩ := List.mem_map.1 hy
    simpa [cvJJ] using h2 x hx
  have hsp : EvB (fun k => spec_AreScenarios.f k (l.map cvJJ)) (ScenOk (l.map cvJJ)) := by
    obtain ⟨b, hb, hP⟩ := spec_l11Lists.ev (l.map cvJJ) (by omega) (fun y hy => by have := hrow y hy; omega)
    exact ⟨b, by unfold spec_AreScenarios.f; exact ev_bind b hb (Ev.now _), hP⟩
  obtain ⟨b, e1, e2⟩ := evB_same hsp (impl_AreScenarios.ev (l.map cvJJ))
  refine ev_bind _ ht (ev_bind b e1 (ev_bind _ ht (ev_bind b e2 ?_)))
  simp only [bne_self_eq_false, Bool.false_eq_true, if_false]
  exact ev_bind _ ht (ev_bind true (laws_eqJobSS.same _ (by omega) (fun y hy => by have := hrow y hy; omega)) (by simp only [if_true]; exact Ev.now _))

end Go.Proofs.Yteeeclaooefjfaa.Pure
