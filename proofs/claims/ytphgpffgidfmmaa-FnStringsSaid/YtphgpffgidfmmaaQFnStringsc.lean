/- Proved here: what functions that the law FnStrings reaches answer (bytes, spec_l1Stands, splitP, impl_split). Conditions: those that each theorem names. -/
import Derived.Test.YtphgpffgidfmmaaQFnStringsb
set_option linter.unusedVariables false
set_option linter.unusedSimpArgs false
namespace Go.Proofs.Ytphgpffgidfmmaa.Pure
open Go.RowKit Go.Proofs.Ytphgpffgidfmmaa.XFnStrings Go.Proofs.YtphgpffgidfmmaaW.PrintWords Go.Proofs.YtphgpffgidfmmaaW.PrintLast

theorem bt_wrap (s : ByteArray) (i : Int) : wrap64 (bt s i) = bt s i := by
  have := bt_range s i
  exact wr (by omega) (by omega)

theorem spec_l1Stands.ev (s : ByteArray) (b : Int) (hs : s.size ≤ 1000000000000000) : EvB (fun k => spec_l1Stands.f k s b) (∃ i, i < s.size ∧ bt s (i : Int) = b) := by
  have key := rev_ind (P := fun i => EvB (fun k => spec_l1Stands.l0 k s b (i : Int)) (∃ j, i ≤ j ∧ j < s.size ∧ bt s (j : Int) = b)) s.size ?_ ?_ 0 (Nat.zero_le _)
  · simpa [spec_l1Stands.f] using key
  · refine evB_of (fun ⟨j, h1, h2, _⟩ => absurd h1 (by omega)) (fun _ => ev_stop fun k => ?_)
    simp only [spec_l1Stands.l0]; rw [if_neg (by omega)]
  · intro i hi ih
    by_cases e : bt s (i : Int) = b
    · refine evB_of (fun _ => ev_stop fun k => ?_) (fun h => absurd ⟨i, Nat.le_refl _, hi, e⟩ h)
      simp only [spec_l1Stands.l0]; rw [if_pos (by omega), if_pos (by omega), if_pos e]
    · obtain ⟨c, hb, hP⟩ := ih
      refine ⟨c, ev_go _ (fun k => ?_) hb, hP.trans ⟨fun ⟨j, h1, h2⟩ => ⟨j, by omega, h2⟩, fun ⟨j, h1, h2, h3⟩ => ⟨j, ?_, h2, h3⟩⟩⟩
      · simp only [spec_l1Stands.l0]; rw [if_pos (by omega), if_pos (by omega), if_neg e, wr1 (by omega)]
      · by_cases q : j = i
        · subst q; exact absurd h3 e
        · omega

/-- The parts of a text between a byte: those of its rest from i on, where the first one begins at fr. -/
def splitP (s : ByteArray) (b : Int) (fr i : Nat) : List ByteArray :=
  if i < s.size then (if bt s (i : Int) = b then s.extract fr i :: splitP s b (i + 1) (i + 1) else splitP s b fr (i + 1)) else [s.extract fr s.size]
termination_by s.size - i
theorem splitP_end {s : ByteArray} {b : Int} {fr i : Nat} (h : ¬ i < s.size) : splitP s b fr i = [s.extract fr s.size] := by rw [splitP, if_neg h]
theorem splitP_hit {s : ByteArray} {b : Int} {fr i : Nat} (h : i < s.size) (e : bt s (i : Int) = b) : splitP s b fr i = s.extract fr i :: splitP s b (i + 1) (i + 1) := by rw [splitP, if_pos h, if_pos e]
theorem splitP_miss {s : ByteArray} {b : Int} {fr i : Nat} (h : i < s.size) (e : ¬ bt s (i : Int) = b) : splitP s b fr i = splitP s b fr (i + 1) := by rw [splitP, if_pos h, if_neg e]
theorem splitP_pos (s : ByteArray) (b : Int) : ∀ i, i ≤ s.size → ∀ fr, 0 < (splitP s b fr i).length := by
  refine rev_ind s.size (fun fr => by rw [splitP_end (by omega)]; simp) (fun i hi ih fr => ?_)
  by_cases e : bt s (i : Int) = b
  · rw [splitP_hit hi e]; simp
  · rw [splitP_miss hi e]; exact ih fr
theorem splitP_one (s : ByteArray) (b : Int) : ∀ i, i ≤ s.size → ∀ fr, (splitP s b fr i).length = 1 ↔ ∀ j, i ≤ j → j < s.size → bt s (j : Int) ≠ b := by
  refine rev_ind s.size (fun fr => ?_) (fun i hi ih fr => ?_)
  · rw [splitP_end (by omega)]
    exact ⟨fun _ j h1 h2 => absurd h1 (by omega), fun _ => rfl⟩
  · by_cases e : bt s (i : Int) = b
    · rw [splitP_hit hi e]
      have := splitP_pos s b (i + 1) hi (i + 1)
      refine ⟨fun h => ?_, fun h => absurd e (h i (Nat.le_refl _) hi)⟩
      simp only [List.length_cons] at h
      omega
    · rw [splitP_miss hi e, ih fr]
      refine ⟨fun h j h1 h2 => ?_, fun h j h1 h2 => h j (by omega) h2⟩
      by_cases q : j = i
      · subst q; exact e
      · exact h j (by omega) h2

theorem impl_split.ev (s : ByteArray) (b : Int) (hs : s.size ≤ 1000000000000) : Ev (fun k => impl_split.f k s b) (splitP s b 0 0) := by
  have key : ∀ i, i ≤ s.size → ∀ (out : List ByteArray) (fr : Nat), fr ≤ i → out.length ≤ i → Ev (fun k => impl_split.l0 k s b out (fr : Int) (i : Int)) (out ++ splitP s b fr i) := by
    refine rev_ind s.size (fun out fr hf ho => ?_) (fun i hi ih out fr hf ho => ?_)
    · rw [splitP_end (by omega)]
      refine ev_stop fun k => ?_
      simp only [impl_split.l0]; rw [if_neg (by omega), if_pos (by omega), if_pos (by omega), if_pos (by omega)]
      simp
    · by_cases e : bt s (i : Int) = b
      · rw [splitP_hit hi e]
        have := ih (out ++ [s.extract fr i]) (i + 1) (Nat.le_refl _) (by simp; omega)
        rw [List.append_assoc] at this
        refine ev_go _ (fun k => ?_) this
        simp only [impl_split.l0]; rw [if_pos (by omega), if_pos (by omega), if_pos e, if_pos (by omega), if_pos (by omega), if_pos (by omega), if_pos (by omega), wr1 (by omega)]
        simp
      · rw [splitP_miss hi e]
        refine ev_go _ (fun k => ?_) (ih out fr (by omega) (by omega))
        simp only [impl_split.l0]; rw [if_pos (by omega), if_pos (by omega), if_neg e, wr1 (by omega)]
  simpa [impl_split.f] using key 0 (Nat.zero_le _) [] 0 (Nat.le_refl _) (Nat.le_refl _)

end Go.Proofs.Ytphgpffgidfmmaa.Pure
