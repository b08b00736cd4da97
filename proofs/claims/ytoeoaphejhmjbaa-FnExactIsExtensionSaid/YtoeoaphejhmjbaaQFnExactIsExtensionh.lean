/- Proved here: what functions that the law FnExactIsExtension reaches answer (marks). Conditions: those that each theorem names. -/
import Derived.Test.YtoeoaphejhmjbaaQFnExactIsExtensionb
set_option linter.unusedVariables false
set_option linter.unusedSimpArgs false
namespace Go.Proofs.Ytoeoaphejhmjbaa.Pure
open Go.RowKit Go.Proofs.Ytoeoaphejhmjbaa.XFnExactIsExtension Go.Proofs.YtoeoaphejhmjbaaW.PrintWords Go.Proofs.YtoeoaphejhmjbaaW.PrintLast

theorem ev_succ {α : Type} {g : Nat → Option α} {r : α} (h : Ev (fun k => g (k + 1)) r) : Ev g r := Ev.step (fun _ => rfl) h
/-- a, a + 1, .. -/
def iotaI (a : Int) : Nat → List Int
  | 0 => []
  | n + 1 => a :: iotaI (a + 1) n
theorem iotaI_length (n : Nat) : ∀ a, (iotaI a n).length = n := by
  induction n with
  | zero => intro a; rfl
  | succ n ih => intro a; simp [iotaI, ih]
theorem iotaI_snoc (n : Nat) : ∀ a : Int, iotaI a (n + 1) = iotaI a n ++ [a + n] := by
  induction n with
  | zero => intro a; simp [iotaI]
  | succ n ih =>
    intro a
    rw [iotaI, ih, iotaI, List.cons_append]
    congr 3
    omega
theorem iotaI_get (n : Nat) : ∀ (a : Int) (i : Nat) (h : i < (iotaI a n).length), (iotaI a n)[i] = a + i := by
  induction n with
  | zero => intro a i h; simp [iotaI] at h
  | succ n ih =>
    intro a i h
    cases i with
    | zero => simp [iotaI]
    | succ i =>
      simp only [iotaI, List.getElem_cons_succ]
      rw [ih]; omega

end Go.Proofs.Ytoeoaphejhmjbaa.Pure
