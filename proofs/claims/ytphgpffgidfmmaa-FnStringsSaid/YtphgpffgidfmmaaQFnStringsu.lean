/- Proved here: what functions that the law FnStrings reaches answer (fstI). Conditions: those that each theorem names. -/
import Derived.Test.YtphgpffgidfmmaaQFnStringsr
set_option linter.unusedVariables false
set_option linter.unusedSimpArgs false
namespace Go.Proofs.Ytphgpffgidfmmaa.Pure
open Go.RowKit Go.Proofs.Ytphgpffgidfmmaa.XFnStrings Go.Proofs.YtphgpffgidfmmaaW.PrintWords Go.Proofs.YtphgpffgidfmmaaW.PrintLast

/-- The first place of a byte from a place on, or the end. -/
def fstI (s : ByteArray) (b : Int) (i : Nat) : Nat := if i < s.size then (if bt s (i : Int) = b then i else fstI s b (i + 1)) else i
termination_by s.size - i
theorem fstI_ge (s : ByteArray) (b : Int) : ∀ i, i ≤ s.size → i ≤ fstI s b i ∧ fstI s b i ≤ s.size := by
  refine rev_ind s.size (by rw [fstI, if_neg (by omega)]; omega) (fun i hi ih => ?_)
  rw [fstI, if_pos hi]
  split
  · omega
  · omega
theorem splitP_head (s : ByteArray) (b : Int) : ∀ i, i ≤ s.size → ∀ fr, ∃ r, splitP s b fr i = s.extract fr (fstI s b i) :: r ∧ (r ≠ [] ↔ fstI s b i < s.size) := by
  refine rev_ind s.size (fun fr => ?_) (fun i hi ih fr => ?_)
  · refine ⟨[], ?_, ?_⟩
    · rw [splitP_end (by omega), fstI, if_neg (by omega)]
    · rw [fstI, if_neg (by omega)]; simp
  · by_cases e : bt s (i : Int) = b
    · refine ⟨splitP s b (i + 1) (i + 1), ?_, ?_⟩
      · rw [splitP_hit hi e, fstI, if_pos hi, if_pos e]
      · rw [fstI, if_pos hi, if_pos e]
        have := splitP_pos s b (i + 1) hi (i + 1)
        exact ⟨fun _ => hi, fun _ => List.ne_nil_of_length_pos this⟩
    · rw [splitP_miss hi e, fstI, if_pos hi, if_neg e]
      exact ih fr
theorem bt_ext (s : ByteArray) (a i : Nat) (ha : a ≤ s.size) (hi : i < s.size - a) : bt (s.extract a s.size) (i : Int) = bt s ((a + i : Nat) : Int) := by
  have h1 : i < (s.extract a s.size).size := by rw [ByteArray.size_extract]; omega
  have h2 : a + i < s.size := by omega
  simp only [bt, Int.toNat_natCast]
  rw [dif_pos h1, dif_pos h2, ByteArray.getElem_extract]
theorem fstI_ext (s : ByteArray) (b : Int) (a : Nat) (ha : a ≤ s.size) : ∀ i, i ≤ s.size - a → a + fstI (s.extract a s.size) b i = fstI s b (a + i) := by
  have hz : (s.extract a s.size).size = s.size - a := by rw [ByteArray.size_extract]; omega
  refine rev_ind (s.size - a) ?_ (fun i hi ih => ?_)
  · rw [fstI, if_neg (by omega), fstI, if_neg (by omega)]
  · rw [fstI, if_pos (show i < (s.extract a s.size).size by omega), fstI.eq_1 s, if_pos (show a + i < s.size by omega), bt_ext s a i ha hi]
    by_cases e : bt s ((a + i : Nat) : Int) = b
    · rw [if_pos e, if_pos e]
    · rw [if_neg e, if_neg e, ih, Nat.add_assoc]
/-- The head of a split text. -/
theorem head_size (s : ByteArray) (b : Int) : (rdOf ByteArray.empty (splitP s b 0 0) 0).size ≤ s.size := by
  obtain ⟨r, h, _⟩ := splitP_head s b 0 (Nat.zero_le _) 0
  rw [h]
  simp only [rdOf]
  show (s.extract 0 (fstI s b 0)).size ≤ s.size
  rw [ByteArray.size_extract]; omega

end Go.Proofs.Ytphgpffgidfmmaa.Pure
