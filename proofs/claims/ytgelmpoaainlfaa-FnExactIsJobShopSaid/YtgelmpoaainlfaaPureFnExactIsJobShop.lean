/- Proved here: the statement over numbers and lists alone of the law FnExactIsJobShop, for all its arguments within the bounds that it names. Conditions: those that each theorem names. -/
import Derived.Test.YtgelmpoaainlfaaQFnExactIsJobShopg
set_option linter.unusedVariables false
set_option linter.unusedSimpArgs false
namespace Go.Proofs.Ytgelmpoaainlfaa.Pure
open Go.RowKit Go.Proofs.Ytgelmpoaainlfaa.XFnExactIsJobShop Go.Proofs.YtgelmpoaainlfaaW.PrintWords Go.Proofs.YtgelmpoaainlfaaW.PrintLast

theorem FnExactIsJobShop (m : Int) (l : List (List LOp)) (h : (Lit.int .i64 m).wf = true ∧ (l.length ≤ maxLen ∧ ∀ y ∈ l, y.length ≤ maxLen ∧ ∀ n ∈ y, (Lit.int .i64 n.f0).wf = true ∧ (Lit.int .i64 n.f1).wf = true)) : ∃ k, laws_FnExactIsJobShop.f k m l = some true := by
  refine Ev.rounds (g := fun k => laws_FnExactIsJobShop.f k m l) ?_
  unfold laws_FnExactIsJobShop.f
  obtain ⟨n, hn, _, hs⟩ := laws_szOpSS.ev l 1048576 (by omega) (by omega) h.2.1 (fun y hy => (h.2.2 y hy).1)
  obtain ⟨n', hn', hs'⟩ : ∃ n', Ev (fun k => laws_szJobShop.f k m l 1048576) n' ∧ (0 ≤ n' → 0 ≤ n) := by
    unfold laws_szJobShop.f
    by_cases h0 : n < 0
    · exact ⟨-1, ev_bind n hn (by simp only [if_pos h0]; exact Ev.now _), by omega⟩
    · exact ⟨n, ev_bind n hn (by simp only [if_neg h0]; exact Ev.now _), by omega⟩
  refine ev_bind n' hn' (ev_ite (fun _ => Ev.now _) (fun h0 => ?_))
  obtain ⟨h1, h2⟩ := hs (hs' (by omega))
  have ht0 := laws_toOpSS.ev l (by omega) (fun y hy => by have := h2 y hy; omega)
  have ht : Ev (fun k => laws_toJobShop.f k m l) (m, l.map cvvOp) := by unfold laws_toJobShop.f; exact ev_bind _ ht0 (Ev.now _)
  have hlen : (l.map cvvOp).length ≤ 1048576 := by simpa using h1
  have hrow : ∀ y ∈ l.map cvvOp, y.length ≤ 1048576 := fun y hy => by
    obtain ⟨x, hx, rfl⟩ := List.mem_map.1 hy
    simpa [cvvOp] using h2 x hx
  by_cases h6 : (l.map cvvOp).length ≤ 1048576
  · have hsp : EvB (fun k => spec_IsJobShop.f k m (l.map cvvOp)) (JobShopOk m (l.map cvvOp)) := by
      obtain ⟨b, hb, hP⟩ := spec_l9Good.ev m (l.map cvvOp) h6 hrow
      exact ⟨b, by unfold spec_IsJobShop.f; exact ev_bind b hb (Ev.now _), hP⟩
    obtain ⟨b, e1, e2⟩ := evB_same hsp (impl_IsJobShop.ev m (l.map cvvOp) h6 hrow)
    refine ev_bind _ ht (ev_bind b e1 (ev_bind _ ht (ev_bind b e2 ?_)))
    simp only [bne_self_eq_false, Bool.false_eq_true, if_false]
    refine ev_bind _ ht (ev_bind true ?_ (by simp only [if_true]; exact Ev.now _))
    unfold laws_eqJobShop.f
    simp only [if_true]
    exact ev_bind true (laws_eqOpSS.same _ (by omega) (fun y hy => by have := hrow y hy; omega)) (by simp only [if_true]; exact Ev.now _)
  · exact absurd h6 (by omega)

end Go.Proofs.Ytgelmpoaainlfaa.Pure
