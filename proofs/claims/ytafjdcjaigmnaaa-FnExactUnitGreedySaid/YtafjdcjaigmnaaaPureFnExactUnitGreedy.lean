/- Proved here: the statement over numbers and lists alone of the law FnExactUnitGreedy, for all its arguments within the bounds that it names. Conditions: those that each theorem names. -/
import Derived.Test.YtafjdcjaigmnaaaQFnExactUnitGreedyxp
set_option linter.unusedVariables false
set_option linter.unusedSimpArgs false
namespace Go.Proofs.Ytafjdcjaigmnaaa.Pure
open Go.RowKit Go.Proofs.Ytafjdcjaigmnaaa.XFnExactUnitGreedy Go.Proofs.YtafjdcjaigmnaaaW.PrintWords Go.Proofs.YtafjdcjaigmnaaaW.PrintLast

theorem FnExactUnitGreedy (l0 : List LJ) (h0 : l0.length ≤ maxLen ∧ ∀ n ∈ l0, (Lit.int .i64 n.f0).wf = true ∧ (Lit.int .i64 n.f1).wf = true ∧ (Lit.int .i64 n.f2).wf = true ∧ (Lit.int .i64 n.f3).wf = true) : ∃ k, laws_FnExactUnitGreedy.f k l0 = some true := by
  refine Ev.rounds (g := fun k => laws_FnExactUnitGreedy.f k l0) ?_
  unfold laws_FnExactUnitGreedy.f
  obtain ⟨n0, hn0, hb0, hz0⟩ := laws_szJobS.eq l0 1048576 (by omega) (by omega) (by have := h0.1; unfold maxLen at this; omega)
  simp only [hn0, Option.bind_some]
  refine ev_ite (fun _ => Ev.now _) (fun hq0 => ?_)
  have hs0 : l0.length ≤ 1048576 := hz0 (by omega)
  have ht0 := laws_toJobS.ev l0 (by omega)
  have hc0 : (l0.map cvJ).length ≤ 1048576 := by simpa using hs0
  have he0 := laws_eqJobS.same (l0.map cvJ) (by omega)
  obtain ⟨r0, r1, hsp, him, hr0⟩ := core_UnitGreedy (l0.map cvJ) hc0
  have her0 := laws_eqIntS.same r0 (by omega)
  obtain ⟨m0, x0, hm0, hma0, hmb0, hmc0⟩ := laws_markJobS.any (l0.map cvJ) 1 (by omega) (by omega) hc0
  obtain ⟨q0, g0, hg0, hh0, hgn0⟩ := laws_markIntS.held r0 hr0
  repeat' first
    | exact Ev.now _
    | (refine ev_bind _ (by assumption) ?_)
    | simp only [if_true, if_false, bne_self_eq_false, Bool.false_eq_true, Bool.not_true, Bool.not_false, hmc0, hgn0]
    | (refine ev_succ ?_; simp only [laws_FnExactUnitGreedy.f, laws_FnExactUnitGreedy.j0, laws_FnExactUnitGreedy.j1, laws_FnExactUnitGreedy.j2])

end Go.Proofs.Ytafjdcjaigmnaaa.Pure
