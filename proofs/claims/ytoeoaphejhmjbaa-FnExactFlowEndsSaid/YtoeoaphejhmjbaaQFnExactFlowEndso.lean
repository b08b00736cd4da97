/- Proved here: what functions that the law FnExactFlowEnds reaches answer (flowTwo, spec_l8Two, impl_isFlow). Conditions: those that each theorem names. -/
import Derived.Test.YtoeoaphejhmjbaaQFnExactFlowEndsk
set_option linter.unusedVariables false
set_option linter.unusedSimpArgs false
namespace Go.Proofs.Ytoeoaphejhmjbaa.Pure
open Go.RowKit Go.Proofs.Ytoeoaphejhmjbaa.XFnExactFlowEnds Go.Proofs.YtoeoaphejhmjbaaW.PrintWords Go.Proofs.YtoeoaphejhmjbaaW.PrintLast

def FlowTwo (l : List (List Int)) (o : List Int) : Prop := ShopOk l ∧ IsPerm l.length o

theorem spec_l8Two.ev (l : List (List Int)) (o : List Int) (hl : l.length ≤ 1000000000) (hr : ∀ y ∈ l, y.length ≤ 1000000000) (ho : o.length ≤ 1000000000) : EvB (fun k => spec_l8Two.f k l o) (FlowTwo l o) := by
  unfold spec_l8Two.f FlowTwo
  have e := spec_l2Order.ev (l.length : Int) o (by omega)
  have g := spec_l8Good.ev l (by omega) (fun y hy => by have := hr y hy; omega)
  refine evB_of (fun h => ?_) (fun h => ?_)
  · refine ev_guard' g (fun _ => ?_) (fun hn => absurd h.1 hn)
    exact ev_bind true (evB_true e ⟨by have := h.1.1; omega, by simpa using h.2⟩) (Ev.now _)
  · refine ev_guard' g (fun h1 => ?_) (fun _ => Ev.now _)
    exact ev_bind false (evB_false e (fun h2 => h ⟨h1, by simpa using h2.2⟩)) (Ev.now _)

theorem impl_isFlow.ev (l : List (List Int)) (o : List Int) (hr : ∀ y ∈ l, y.length ≤ 1000000000) (ho : o.length ≤ 1000000000) : EvB (fun k => impl_isFlow.f k l o) (FlowTwo l o) := by
  unfold impl_isFlow.f FlowTwo
  have g := impl_isShop.ev l (fun y hy => by have := hr y hy; omega)
  refine evB_of (fun h => ?_) (fun h => ?_)
  · refine ev_guard' g (fun h1 => ?_) (fun hn => absurd h.1 hn)
    exact ev_bind true (evB_true (impl_isOrder.ev (l.length : Int) o (by omega) (by have := h1.1; omega) (by omega)) (by simpa using h.2)) (Ev.now _)
  · refine ev_guard' g (fun h1 => ?_) (fun _ => Ev.now _)
    exact ev_bind false (evB_false (impl_isOrder.ev (l.length : Int) o (by omega) (by have := h1.1; omega) (by omega)) (fun h2 => h ⟨h1, by simpa using h2⟩)) (Ev.now _)

end Go.Proofs.Ytoeoaphejhmjbaa.Pure
