/- Proved here: what functions that the law FnStrings reaches answer (sim). Conditions: those that each theorem names. -/
import Derived.Test.YtphgpffgidfmmaaQFnStringsj
set_option linter.unusedVariables false
set_option linter.unusedSimpArgs false
namespace Go.Proofs.Ytphgpffgidfmmaa.Pure
open Go.RowKit Go.Proofs.Ytphgpffgidfmmaa.XFnStrings Go.Proofs.YtphgpffgidfmmaaW.PrintWords Go.Proofs.YtphgpffgidfmmaaW.PrintLast

/-- Both answer the same in the end. -/
def Sim {α : Type} (f g : Nat → Option α) : Prop := ∃ r, Ev f r ∧ Ev g r
theorem sim_step {α : Type} {f g : Nat → Option α} (f' g' : Nat → Option α) (h1 : ∀ k, f (k + 1) = f' k) (h2 : ∀ k, g (k + 1) = g' k) (h : Sim f' g') : Sim f g := by
  obtain ⟨r, a, b⟩ := h
  exact ⟨r, ev_go _ h1 a, ev_go _ h2 b⟩
theorem sim_stop {α : Type} {f g : Nat → Option α} {r : α} (h1 : ∀ k, f (k + 1) = some r) (h2 : ∀ k, g (k + 1) = some r) : Sim f g := ⟨r, ev_stop h1, ev_stop h2⟩
theorem sim_bind {α β : Type} {f g : Nat → Option α} {f' g' : Nat → α → Option β} {r : α} (h1 : Ev f r) (h2 : Ev g r) (h : Sim (fun k => f' k r) (fun k => g' k r)) : Sim (fun k => (f k).bind (f' k)) (fun k => (g k).bind (g' k)) := by
  obtain ⟨s, a, b⟩ := h
  exact ⟨s, ev_bind r h1 a, ev_bind r h2 b⟩
theorem ne_bool (P : Prop) [Decidable P] (h : P) : decide P = true := by simpa using h

end Go.Proofs.Ytphgpffgidfmmaa.Pure
