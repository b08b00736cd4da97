/- Proved here: what functions that the law FnExactOpenSchedule reaches answer (spec_l8Pair). Conditions: those that each theorem names. -/
import Derived.Test.YtbblhmpcpmamfaaQFnExactOpenSchedulek
set_option linter.unusedVariables false
set_option linter.unusedSimpArgs false
namespace Go.Proofs.Ytbblhmpcpmamfaa.Pure
open Go.RowKit Go.Proofs.Ytbblhmpcpmamfaa.XFnExactOpenSchedule Go.Proofs.YtbblhmpcpmamfaaW.PrintWords Go.Proofs.YtbblhmpcpmamfaaW.PrintLast

theorem spec_l8Pair.ev (l : List (List Int)) (hl : l.length ≤ 1000000000) (hr : ∀ y ∈ l, y.length ≤ 1000000000) : EvB (fun k => spec_l8Pair.f k l) (ShopOk l ∧ (0 < l.length → (machP l : Int) = 2)) := by
  unfold spec_l8Pair.f
  have e := spec_l8Good.ev l (by omega) (fun y hy => by have := hr y hy; omega)
  by_cases h0 : l.length = 0
  · refine evB_of (fun h => ev_guard' e (fun _ => ?_) (fun hn => absurd h.1 hn)) (fun h => ev_guard' e (fun h1 => absurd ⟨h1, fun c => absurd c (by omega)⟩ h) (fun _ => Ev.now _))
    simp only [if_pos (show (l.length : Int) = 0 by omega)]; exact Ev.now _
  · have hc : ((((rd_L1 l 0).length : Nat) : Int) == 2) = true ↔ (machP l : Int) = 2 := by rw [rdL_zero (by omega), ← machP_cons (by omega), beq_iff_eq]
    refine evB_of (fun h => ev_guard' e (fun _ => ?_) (fun hn => absurd h.1 hn)) (fun h => ev_guard' e (fun h1 => ?_) (fun _ => Ev.now _))
    · simp only [if_neg (show ¬ (l.length : Int) = 0 by omega), if_pos (show 0 < (l.length : Int) by omega), hc.2 (h.2 (by omega))]; exact Ev.now _
    · rw [show ((((rd_L1 l 0).length : Nat) : Int) == 2) = false by rw [← Bool.not_eq_true]; exact fun c => h ⟨h1, fun _ => hc.1 c⟩]
      simp only [if_neg (show ¬ (l.length : Int) = 0 by omega), if_pos (show 0 < (l.length : Int) by omega)]; exact Ev.now _

end Go.Proofs.Ytbblhmpcpmamfaa.Pure
