/- Proved here: the statement over numbers and lists alone of the law FnExactIsExtension, for all its arguments within the bounds that it names. Conditions: those that each theorem names. -/
import Derived.Test.YtoeoaphejhmjbaaQFnExactIsExtensionxb
set_option linter.unusedVariables false
set_option linter.unusedSimpArgs false
namespace Go.Proofs.Ytoeoaphejhmjbaa.Pure
open Go.RowKit Go.Proofs.Ytoeoaphejhmjbaa.XFnExactIsExtension Go.Proofs.YtoeoaphejhmjbaaW.PrintWords Go.Proofs.YtoeoaphejhmjbaaW.PrintLast

theorem FnExactIsExtension (a0 : Int) (l1 : List S55) (l2 : List Int) (h0 : (Lit.int .i64 a0).wf = true) (h1 : l1.length ≤ maxLen ∧ ∀ n ∈ l1, (Lit.int .i64 n.f0).wf = true ∧ (Lit.int .i64 n.f1).wf = true) (h2 : l2.length ≤ maxLen ∧ ∀ x ∈ l2, (Lit.int .i64 x).wf = true) : ∃ k, laws_FnExactIsExtension.f k a0 l1 l2 = some true := by
  refine Ev.rounds (g := fun k => laws_FnExactIsExtension.f k a0 l1 l2) ?_
  unfold laws_FnExactIsExtension.f
  refine ev_ite (fun _ => Ev.now _) (fun hq2 => ?_)
  have hs2 : l2.length ≤ 1048576 := by omega
  obtain ⟨n1, hn1, hb1, hz1⟩ := laws_szIntA2S.eq l1 1048576 (by omega) (by omega) (by have := h1.1; unfold maxLen at this; omega)
  simp only [hn1, Option.bind_some]
  refine ev_ite (fun _ => Ev.now _) (fun hq1 => ?_)
  have hs1 : l1.length ≤ 1048576 := hz1 (by omega)
  have ht1 := laws_toIntA2S.ev l1 (by omega)
  have hc1 := hs1
  have he1 := laws_eqIntA2S.same l1 (by omega)
  have ht2 := laws_toIntS.ev l2 (by omega)
  have hc2 := hs2
  have he2 := laws_eqIntS.same l2 (by omega)
  obtain ⟨r0, r1, hsp, him⟩ := core_IsExtension a0 l1 l2 h0 hc1 hc2
  repeat' first
    | exact Ev.now _
    | (refine ev_bind _ (by assumption) ?_)
    | simp only [if_true, if_false, bne_self_eq_false, Bool.false_eq_true, Bool.not_true, Bool.not_false]
    | (refine ev_succ ?_; simp only [laws_FnExactIsExtension.f, laws_FnExactIsExtension.j0])

end Go.Proofs.Ytoeoaphejhmjbaa.Pure
