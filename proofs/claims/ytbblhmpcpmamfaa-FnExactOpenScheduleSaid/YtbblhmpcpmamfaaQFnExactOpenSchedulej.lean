/- Proved here: what functions that the law FnExactOpenSchedule reaches answer (guard). Conditions: those that each theorem names. -/
import Derived.Test.YtbblhmpcpmamfaaQFnExactOpenScheduleh
set_option linter.unusedVariables false
set_option linter.unusedSimpArgs false
namespace Go.Proofs.Ytbblhmpcpmamfaa.Pure
open Go.RowKit Go.Proofs.Ytbblhmpcpmamfaa.XFnExactOpenSchedule Go.Proofs.YtbblhmpcpmamfaaW.PrintWords Go.Proofs.YtbblhmpcpmamfaaW.PrintLast

theorem ev_guard {g : Nat → Option Bool} {P : Prop} {α : Type} {F : Nat → Option α} {z r : α} (h : EvB g P) (h1 : P → Ev F r) (h2 : ¬ P → r = z) : Ev (fun n => (g n).bind fun t => if t = true then F n else some z) r := by
  refine evB_bind h (fun hp => ?_) (fun hp => ?_)
  · simp only [if_true]; exact h1 hp
  · simp only [Bool.false_eq_true, if_false]; rw [h2 hp]; exact Ev.now _
theorem ev_guard' {g : Nat → Option Bool} {P : Prop} {α : Type} {F G : Nat → Option α} {r : α} (h : EvB g P) (h1 : P → Ev F r) (h2 : ¬ P → Ev G r) : Ev (fun n => (g n).bind fun t => if t = true then F n else G n) r := by
  refine evB_bind h (fun hp => ?_) (fun hp => ?_)
  · simp only [if_true]; exact h1 hp
  · simp only [Bool.false_eq_true, if_false]; exact h2 hp

end Go.Proofs.Ytbblhmpcpmamfaa.Pure
