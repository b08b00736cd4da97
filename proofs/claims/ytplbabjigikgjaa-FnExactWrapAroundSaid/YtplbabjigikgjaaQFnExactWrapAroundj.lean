/- Proved here: what functions that the law FnExactWrapAround reaches answer (guard, spec_l1Least, spec_l1Most). Conditions: those that each theorem names. -/
import Derived.Test.YtplbabjigikgjaaQFnExactWrapAroundi
set_option linter.unusedVariables false
set_option linter.unusedSimpArgs false
namespace Go.Proofs.Ytplbabjigikgjaa.Pure
open Go.RowKit Go.Proofs.Ytplbabjigikgjaa.XFnExactWrapAround Go.Proofs.YtplbabjigikgjaaW.PrintWords Go.Proofs.YtplbabjigikgjaaW.PrintLast

theorem ev_guard {g : Nat → Option Bool} {P : Prop} {α : Type} {F : Nat → Option α} {z r : α} (h : EvB g P) (h1 : P → Ev F r) (h2 : ¬ P → r = z) : Ev (fun n => (g n).bind fun t => if t = true then F n else some z) r := by
  refine evB_bind h (fun hp => ?_) (fun hp => ?_)
  · simp only [if_true]; exact h1 hp
  · simp only [Bool.false_eq_true, if_false]; rw [h2 hp]; exact Ev.now _
theorem ev_guard' {g : Nat → Option Bool} {P : Prop} {α : Type} {F G : Nat → Option α} {r : α} (h : EvB g P) (h1 : P → Ev F r) (h2 : ¬ P → Ev G r) : Ev (fun n => (g n).bind fun t => if t = true then F n else G n) r := by
  refine evB_bind h (fun hp => ?_) (fun hp => ?_)
  · simp only [if_true]; exact h1 hp
  · simp only [Bool.false_eq_true, if_false]; exact h2 hp

theorem spec_l1Least.eq (a b : Int) : spec_l1Least.f a b = some (mn a b) := by
  unfold spec_l1Least.f mn; split <;> split <;> first | rfl | omega | (congr 1; omega)

theorem spec_l1Most.eq (a b : Int) : spec_l1Most.f a b = some (mx a b) := by
  unfold spec_l1Most.f mx; split <;> split <;> first | rfl | omega | (congr 1; omega)

end Go.Proofs.Ytplbabjigikgjaa.Pure
