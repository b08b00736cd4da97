/- Proved here: the statement over numbers and lists alone of the law FnExactIsShop, for all its arguments within the bounds that it names. Conditions: those that each theorem names. -/
import Derived.Test.YteeeclaooefjfaaQFnExactIsShopd
set_option linter.unusedVariables false
set_option linter.unusedSimpArgs false
namespace Go.Proofs.Yteeeclaooefjfaa.Pure
open Go.RowKit Go.Proofs.Yteeeclaooefjfaa.XFnExactIsShop Go.Proofs.YteeeclaooefjfaaW.PrintWords Go.Proofs.YteeeclaooefjfaaW.PrintLast

theorem FnExactIsShop (l : List (List Int)) (h : l.length ≤ maxLen ∧ ∀ y ∈ l, y.length ≤ maxLen ∧ ∀ n ∈ y, (Lit.int .i64 n).wf = true) : ∃ k, laws_FnExactIsShop.f k l = some true := by
  refine Ev.rounds (g := fun k => laws_FnExactIsShop.f k l) ?_
  unfold laws_FnExactIsShop.f
  obtain ⟨n, hn, _, hs⟩ := laws_szIntSS.ev l 1048576 (by omega) (by omega) h.1 (fun y hy => (h.2 y hy).1)
  refine ev_bind n hn (ev_ite (fun _ => Ev.now _) (fun h0 => ?_))
  obtain ⟨h1, h2⟩ := hs (by omega)
  have ht := laws_toIntSS.ev l (by omega) (fun y hy => by have := h2 y hy; omega)
  have hsp : EvB (fun k => spec_IsShop.f k l) (ShopOk l) := by
    obtain ⟨b, hb, hP⟩ := spec_l8Good.ev l (by omega) (fun y hy => by have := h2 y hy; omega)
    exact ⟨b, by unfold spec_IsShop.f; exact ev_bind b hb (Ev.now _), hP⟩
  have him : EvB (fun k => impl_IsShop.f k l) (ShopOk l) := by
    obtain ⟨b, hb, hP⟩ := impl_isShop.ev l (fun y hy => by have := h2 y hy; omega)
    exact ⟨b, by unfold impl_IsShop.f; exact ev_bind b hb (Ev.now _), hP⟩
  obtain ⟨b, e1, e2⟩ := evB_same hsp him
  refine ev_bind l ht (ev_bind b e1 (ev_bind l ht (ev_bind b e2 ?_)))
  simp only [bne_self_eq_false, Bool.false_eq_true, if_false]
  exact ev_bind l ht (ev_bind true (laws_eqIntSS.same l (by omega) (fun y hy => by have := h2 y hy; omega)) (by simp only [if_true]; exact Ev.now _))

end Go.Proofs.Yteeeclaooefjfaa.Pure
