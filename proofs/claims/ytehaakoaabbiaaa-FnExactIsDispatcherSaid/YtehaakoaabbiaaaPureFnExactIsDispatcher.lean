/- Proved here: the statement over numbers and lists alone of the law FnExactIsDispatcher, for all its arguments within the bounds that it names. Conditions: those that each theorem names. -/
import Derived.Test.YtehaakoaabbiaaaQFnExactIsDispatcherq
set_option linter.unusedVariables false
set_option linter.unusedSimpArgs false
namespace Go.Proofs.Ytehaakoaabbiaaa.Pure
open Go.RowKit Go.Proofs.Ytehaakoaabbiaaa.XFnExactIsDispatcher Go.Proofs.YtehaakoaabbiaaaW.PrintWords Go.Proofs.YtehaakoaabbiaaaW.PrintLast

theorem laws_szDispatcher.eq (M c T : Int) (l0 : List LJ) (l1 : List LTask) (h0 : l0.length ≤ 9223372036854775807) (h1 : l1.length ≤ 9223372036854775807) : ∃ n, laws_szDispatcher.f M c T l0 l1 1048576 = some n ∧ (0 ≤ n → l0.length ≤ 1048576 ∧ l1.length ≤ 1048576) := by
  unfold laws_szDispatcher.f
  obtain ⟨n0, hn0, hb0, hz0⟩ := laws_szJobS.eq l0 1048576 (by omega) (by omega) h0
  rw [hn0, Option.bind_some]
  by_cases q0 : n0 < 0
  · exact ⟨-1, by rw [if_pos q0], fun h => absurd h (by omega)⟩
  · rw [if_neg q0]
    obtain ⟨n1, hn1, hb1, hz1⟩ := laws_szTaskS.eq l1 n0 (by omega) hb0 h1
    rw [hn1, Option.bind_some]
    by_cases q1 : n1 < 0
    · exact ⟨-1, by rw [if_pos q1], fun h => absurd h (by omega)⟩
    · exact ⟨n1, by rw [if_neg q1], fun h => ⟨hz0 (by omega), hz1 h⟩⟩
theorem FnExactIsDispatcher (M c T : Int) (l0 : List LJ) (l1 : List LTask) (h : (Lit.int .i64 M).wf = true ∧ (Lit.int .i64 c).wf = true ∧ (Lit.int .i64 T).wf = true ∧ (l0.length ≤ maxLen ∧ ∀ n ∈ l0, (Lit.int .i64 n.f0).wf = true ∧ (Lit.int .i64 n.f1).wf = true ∧ (Lit.int .i64 n.f2).wf = true ∧ (Lit.int .i64 n.f3).wf = true) ∧ (l1.length ≤ maxLen ∧ ∀ n ∈ l1, (Lit.int .i64 n.f0).wf = true ∧ (Lit.int .i64 n.f1).wf = true ∧ (Lit.int .i64 n.f2).wf = true)) : ∃ k, laws_FnExactIsDispatcher.f k M c T l0 l1 = some true := by
  obtain ⟨_, _, _, h0, h1⟩ := h
  refine Ev.rounds (g := fun k => laws_FnExactIsDispatcher.f k M c T l0 l1) ?_
  unfold laws_FnExactIsDispatcher.f
  obtain ⟨n, hn, hz⟩ := laws_szDispatcher.eq M c T l0 l1 (by have := h0.1; unfold maxLen at this; omega) (by have := h1.1; unfold maxLen at this; omega)
  simp only [hn, Option.bind_some]
  refine ev_ite (fun _ => Ev.now _) (fun hq => ?_)
  obtain ⟨z0, z1⟩ := hz (by omega)
  have hto : Ev (fun k => laws_toDispatcher.f k M c T l0 l1) (M, c, T, l0.map cvJ, l1.map cvTask) := by
    unfold laws_toDispatcher.f
    exact ev_bind _ (laws_toJobS.ev l0 (by omega)) (ev_bind _ (laws_toTaskS.ev l1 (by omega)) (Ev.now _))
  obtain ⟨b, e1, e2⟩ := evB_same (spec_IsDispatcher.ev M c T (l0.map cvJ) (l1.map cvTask) (by simp; omega) (by simp; omega)) (impl_IsDispatcher.ev M c T (l0.map cvJ) (l1.map cvTask) (by simp; omega))
  refine ev_bind _ hto (ev_bind b e1 (ev_bind _ hto (ev_bind b e2 ?_)))
  simp only [bne_self_eq_false, Bool.false_eq_true, if_false]
  refine ev_bind _ hto (ev_bind true ?_ (by simp only [if_true]; exact Ev.now _))
  unfold laws_eqDispatcher.f
  simp only [if_true]
  refine ev_bind true (laws_eqJobS.same (l0.map cvJ) (by simp; omega)) ?_
  simp only [if_true]
  refine ev_bind true (laws_eqTaskS.same (l1.map cvTask) (by simp; omega)) ?_
  simp only [if_true]; exact Ev.now _

end Go.Proofs.Ytehaakoaabbiaaa.Pure
