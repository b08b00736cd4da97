/- Proved here: the statement over numbers and lists alone of the law FnExactFlowSpan, for all its arguments within the bounds that it names. Conditions: those that each theorem names. -/
import Derived.Test.YtoeoaphejhmjbaaQFnExactFlowSpanv
set_option linter.unusedVariables false
set_option linter.unusedSimpArgs false
namespace Go.Proofs.Ytoeoaphejhmjbaa.Pure
open Go.RowKit Go.Proofs.Ytoeoaphejhmjbaa.XFnExactFlowSpan Go.Proofs.YtoeoaphejhmjbaaW.PrintWords Go.Proofs.YtoeoaphejhmjbaaW.PrintLast

theorem FnExactFlowSpan (l0 : List (List Int)) (l1 : List Int) (h0 : l0.length ≤ maxLen ∧ ∀ y ∈ l0, y.length ≤ maxLen ∧ ∀ n ∈ y, (Lit.int .i64 n).wf = true) (h1 : l1.length ≤ maxLen ∧ ∀ x ∈ l1, (Lit.int .i64 x).wf = true) : ∃ k, laws_FnExactFlowSpan.f k l0 l1 = some true := by
  refine Ev.rounds (g := fun k => laws_FnExactFlowSpan.f k l0 l1) ?_
  unfold laws_FnExactFlowSpan.f
  refine ev_ite (fun _ => Ev.now _) (fun hq1 => ?_)
  have hs1 : l1.length ≤ 1048576 := by omega
  obtain ⟨n0, hn0, hb0, hz0⟩ := laws_szIntSS.ev l0 1048576 (by omega) (by omega) h0.1 (fun y hy => (h0.2 y hy).1)
  refine ev_bind n0 hn0 (ev_ite (fun _ => Ev.now _) (fun hq0 => ?_))
  obtain ⟨hs0, hw0⟩ := hz0 (by omega)
  have ht0 := laws_toIntSS.ev l0 (by omega) (fun y hy => by have := hw0 y hy; omega)
  have he0 := laws_eqIntSS.same l0 (by omega) (fun y hy => by have := hw0 y hy; omega)
  have ht1 := laws_toIntS.ev l1 (by omega)
  have hc1 := hs1
  have he1 := laws_eqIntS.same l1 (by omega)
  obtain ⟨r0, r1, hsp, him⟩ := core_FlowSpan l0 l1 hs0 hw0 hc1
  repeat' first
    | exact Ev.now _
    | (refine ev_bind _ (by assumption) ?_)
    | simp only [if_true, if_false, bne_self_eq_false, Bool.false_eq_true, Bool.not_true, Bool.not_false]
    | (refine ev_succ ?_; simp only [laws_FnExactFlowSpan.f, laws_FnExactFlowSpan.j0])

end Go.Proofs.Ytoeoaphejhmjbaa.Pure
