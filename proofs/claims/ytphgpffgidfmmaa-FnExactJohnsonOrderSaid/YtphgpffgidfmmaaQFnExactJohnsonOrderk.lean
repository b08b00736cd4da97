/- Proved here: what functions that the law FnExactJohnsonOrder reaches answer (impl_isShopOf). Conditions: those that each theorem names. -/
import Derived.Test.YtphgpffgidfmmaaQFnExactJohnsonOrderj
set_option linter.unusedVariables false
set_option linter.unusedSimpArgs false
namespace Go.Proofs.Ytphgpffgidfmmaa.Pure
open Go.RowKit Go.Proofs.Ytphgpffgidfmmaa.XFnExactJohnsonOrder Go.Proofs.YtphgpffgidfmmaaW.PrintWords Go.Proofs.YtphgpffgidfmmaaW.PrintLast

theorem impl_isShopOf.ev (l : List (List Int)) (a : Int) (hr : ∀ y ∈ l, y.length ≤ 1000000000000000) : EvB (fun k => impl_isShopOf.f k l a) (ShopOk l ∧ (0 < l.length → (machP l : Int) = a)) := by
  unfold impl_isShopOf.f
  have e := impl_isShop.ev l hr
  by_cases h : ShopOk l
  · by_cases h0 : l.length = 0
    · refine evB_of (fun _ => evB_bind e (fun _ => ?_) (fun hn => absurd h hn)) (fun hn => absurd ⟨h, fun h1 => absurd h1 (by omega)⟩ hn)
      simp only [if_true]; rw [show (fun _ : Nat => if (l.length : Int) = 0 then some true else if 0 < (l.length : Int) then some ((((rd_L1 l 0).length : Nat) : Int) == a) else none) = fun _ => some true from funext fun _ => by rw [if_pos (by omega)]]
      exact Ev.now _
    · have hv : ∀ c, (c = true ↔ (machP l : Int) = a) → Ev (fun k => (impl_isShop.f k l).bind fun t137 => if t137 = true then if (l.length : Int) = 0 then some true else if 0 < (l.length : Int) then some ((((rd_L1 l 0).length : Nat) : Int) == a) else none else some false) c := by
        intro c hc
        refine evB_bind e (fun _ => ?_) (fun hn => absurd h hn)
        simp only [if_true]
        rw [show (fun _ : Nat => if (l.length : Int) = 0 then some true else if 0 < (l.length : Int) then some ((((rd_L1 l 0).length : Nat) : Int) == a) else none) = fun _ => some c from funext fun _ => by
          rw [if_neg (by omega), if_pos (by omega), rdL_zero (by omega), ← machP_cons (by omega)]
          congr 1
          rw [Bool.eq_iff_iff, hc]; simp]
        exact Ev.now _
      refine evB_of (fun h' => hv true (by simp [h'.2 (by omega)])) (fun h' => hv false ?_)
      simp only [Bool.false_eq_true, false_iff]
      exact fun hh => h' ⟨h, fun _ => hh⟩
  · refine evB_of (fun h' => absurd h'.1 h) (fun _ => evB_bind e (fun h' => absurd h' h) (fun _ => ?_))
    simp only [Bool.false_eq_true, if_false]; exact Ev.now _

end Go.Proofs.Ytphgpffgidfmmaa.Pure
