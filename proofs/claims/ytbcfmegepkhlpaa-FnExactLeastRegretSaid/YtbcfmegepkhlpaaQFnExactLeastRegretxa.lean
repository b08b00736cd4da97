/- Proved here: what functions that the law FnExactLeastRegret reaches answer (searchEnd). Conditions: those that each theorem names. -/
import Derived.Test.YtbcfmegepkhlpaaQFnExactLeastRegretx
set_option linter.unusedVariables false
set_option linter.unusedSimpArgs false
namespace Go.Proofs.Ytbcfmegepkhlpaa.Pure
open Go.RowKit Go.Proofs.Ytbcfmegepkhlpaa.XFnExactLeastRegret Go.Proofs.YtbcfmegepkhlpaaW.PrintWords Go.Proofs.YtbcfmegepkhlpaaW.PrintLast

theorem perms_ne : ∀ (n : Nat) (L : List Int), L.length = n → perms n L ≠ []
  | 0, L, h => by rw [perms]; simp
  | n + 1, L, h => by
    cases L with
    | nil => simp at h
    | cons x t =>
      rw [perms, List.flatMap_cons]
      have := perms_ne n ((x :: t).erase x) (by rw [List.length_erase_of_mem List.mem_cons_self]; simp at h ⊢; omega)
      intro c
      have c1 := (List.append_eq_nil_iff.1 c).1
      rw [List.map_eq_nil_iff] at c1
      exact this c1
theorem ev_eq {α : Type} {g : Nat → Option α} {r r' : α} (h : Ev g r) (e : r = r') : Ev g r' := e ▸ h
/-- What holds behind any round holds at the end, if there is a round. -/
theorem fold_end {σ : Type} (u : List Int → σ → σ) (P : σ → Prop) (hs : ∀ l s, P (u l s) ∨ u l s = s) (h1 : ∀ l s, P s → P (u l s)) : ∀ (L : List (List Int)) (s : σ), P s → P (L.foldl (fun s l => u l s) s)
  | [], s, h => h
  | l :: L, s, h => by rw [List.foldl_cons]; exact fold_end u P hs h1 L _ (h1 l s h)

end Go.Proofs.Ytbcfmegepkhlpaa.Pure
