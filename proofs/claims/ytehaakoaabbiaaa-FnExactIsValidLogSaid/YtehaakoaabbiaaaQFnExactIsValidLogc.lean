/- Proved here: what functions that the law FnExactIsValidLog reaches answer (bytes, spec_l1Stands, printable, spec_l12Bytes, impl_isPrinted, splitP, impl_split, recordOk, impl_IsValidRecord). Conditions: those that each theorem names. -/
import Derived.Test.YtehaakoaabbiaaaQFnExactIsValidLogb
set_option linter.unusedVariables false
set_option linter.unusedSimpArgs false
namespace Go.Proofs.Ytehaakoaabbiaaa.Pure
open Go.RowKit Go.Proofs.Ytehaakoaabbiaaa.XFnExactIsValidLog Go.Proofs.YtehaakoaabbiaaaW.PrintWords Go.Proofs.YtehaakoaabbiaaaW.PrintLast

theorem bt_wrap (s : ByteArray) (i : Int) : wrap64 (bt s i) = bt s i := by
  have := bt_range s i
  exact wr (by omega) (by omega)

theorem spec_l1Stands.ev (s : ByteArray) (b : Int) (hs : s.size ≤ 1000000000000000) : EvB (fun k => spec_l1Stands.f k s b) (∃ i, i < s.size ∧ bt s (i : Int) = b) := by
  have key := rev_ind (P := fun i => EvB (fun k => spec_l1Stands.l0 k s b (i : Int)) (∃ j, i ≤ j ∧ j < s.size ∧ bt s (j : Int) = b)) s.size ?_ ?_ 0 (Nat.zero_le _)
  · simpa [spec_l1Stands.f] using key
  · refine evB_of (fun ⟨j, h1, h2, _⟩ => absurd h1 (by omega)) (fun _ => ev_stop fun k => ?_)
    simp only [spec_l1Stands.l0]; rw [if_neg (by omega)]
  · intro i hi ih
    by_cases e : bt s (i : Int) = b
    · refine evB_of (fun _ => ev_stop fun k => ?_) (fun h => absurd ⟨i, Nat.le_refl _, hi, e⟩ h)
      simp only [spec_l1Stands.l0]; rw [if_pos (by omega), if_pos (by omega), if_pos e]
    · obtain ⟨c, hb, hP⟩ := ih
      refine ⟨c, ev_go _ (fun k => ?_) hb, hP.trans ⟨fun ⟨j, h1, h2⟩ => ⟨j, by omega, h2⟩, fun ⟨j, h1, h2, h3⟩ => ⟨j, ?_, h2, h3⟩⟩⟩
      · simp only [spec_l1Stands.l0]; rw [if_pos (by omega), if_pos (by omega), if_neg e, wr1 (by omega)]
      · by_cases q : j = i
        · subst q; exact absurd h3 e
        · omega

/-- Printable bytes from a place on, without a number sign. -/
def PrintFrom (s : ByteArray) (i : Nat) : Prop := ∀ j, i ≤ j → j < s.size → 32 ≤ bt s (j : Int) ∧ bt s (j : Int) ≤ 126 ∧ bt s (j : Int) ≠ 35
theorem printFrom_step {s : ByteArray} {i : Nat} (hi : i < s.size) : PrintFrom s i ↔ (32 ≤ bt s (i : Int) ∧ bt s (i : Int) ≤ 126 ∧ bt s (i : Int) ≠ 35) ∧ PrintFrom s (i + 1) := by
  constructor
  · intro h; exact ⟨h i (Nat.le_refl _) hi, fun j h1 h2 => h j (by omega) h2⟩
  · rintro ⟨h0, h⟩ j h1 h2
    by_cases e : j = i
    · subst e; exact h0
    · exact h j (by omega) h2
theorem printFrom_end (s : ByteArray) : PrintFrom s s.size := fun j h1 h2 => absurd h1 (by omega)

theorem spec_l12Bytes.ev (s : ByteArray) (n : Int) (hs : s.size ≤ 1000000000000000) : EvB (fun k => spec_l12Bytes.f k s n) (PrintFrom s 0 ∧ (s.size : Int) ≤ n) := by
  have key := rev_ind (P := fun i => EvB (fun k => spec_l12Bytes.l0 k s n (i : Int)) (PrintFrom s i ∧ (s.size : Int) ≤ n)) s.size ?_ ?_ 0 (Nat.zero_le _)
  · simpa [spec_l12Bytes.f] using key
  · refine ⟨decide ((s.size : Int) ≤ n), ev_stop fun k => ?_, by simp [printFrom_end]⟩
    simp only [spec_l12Bytes.l0]; rw [if_neg (by omega)]
  · intro i hi ih
    rw [printFrom_step hi]
    by_cases e : 32 ≤ bt s (i : Int) ∧ bt s (i : Int) ≤ 126
    · by_cases q : bt s (i : Int) = 35
      · refine evB_of (fun h => absurd q h.1.1.2.2) (fun _ => ev_stop fun k => ?_)
        simp only [spec_l12Bytes.l0]; rw [if_pos (by omega), if_pos (by omega), bt_wrap, spec_l1In.eq, Option.bind_some, if_pos (by simpa using e), if_pos q]
      · obtain ⟨c, hb, hP⟩ := ih
        refine ⟨c, ev_go _ (fun k => ?_) hb, hP.trans ⟨fun h => ⟨⟨⟨e.1, e.2, q⟩, h.1⟩, h.2⟩, fun h => ⟨h.1.2, h.2⟩⟩⟩
        simp only [spec_l12Bytes.l0]; rw [if_pos (by omega), if_pos (by omega), bt_wrap, spec_l1In.eq, Option.bind_some, if_pos (by simpa using e), if_neg q, wr1 (by omega)]
    · refine evB_of (fun h => absurd ⟨h.1.1.1, h.1.1.2.1⟩ e) (fun _ => ev_stop fun k => ?_)
      simp only [spec_l12Bytes.l0]; rw [if_pos (by omega), if_pos (by omega), bt_wrap, spec_l1In.eq, Option.bind_some, if_neg (by simpa using e)]

theorem impl_isPrinted.ev (s : ByteArray) (hs : s.size ≤ 1000000000000000) : EvB (fun k => impl_isPrinted.f k s) (PrintFrom s 0) := by
  have key := rev_ind (P := fun i => EvB (fun k => impl_isPrinted.l0 k s (i : Int)) (PrintFrom s i)) s.size ?_ ?_ 0 (Nat.zero_le _)
  · simpa [impl_isPrinted.f] using key
  · refine evB_of (fun _ => ev_stop fun k => ?_) (fun h => absurd (printFrom_end s) h)
    simp only [impl_isPrinted.l0]; rw [if_neg (by omega)]
  · intro i hi ih
    rw [printFrom_step hi]
    by_cases e : 32 ≤ bt s (i : Int) ∧ bt s (i : Int) ≤ 126 ∧ bt s (i : Int) ≠ 35
    · obtain ⟨c, hb, hP⟩ := ih
      refine ⟨c, ev_go _ (fun k => ?_) hb, hP.trans ⟨fun h => ⟨e, h⟩, fun h => h.2⟩⟩
      simp only [impl_isPrinted.l0]; rw [if_pos (by omega), if_pos (by omega), if_neg (by omega), if_neg (by omega), if_neg (by omega), wr1 (by omega)]
    · refine evB_of (fun h => absurd h.1 e) (fun _ => ev_stop fun k => ?_)
      simp only [impl_isPrinted.l0]; rw [if_pos (by omega), if_pos (by omega)]
      by_cases h1 : bt s (i : Int) < 32
      · rw [if_pos h1]
      · rw [if_neg h1]
        by_cases h2 : bt s (i : Int) > 126
        · rw [if_pos h2]
        · rw [if_neg h2, if_pos (by omega)]

/-- The parts of a text between a byte: those of its rest from i on, where the first one begins at fr. -/
def splitP (s : ByteArray) (b : Int) (fr i : Nat) : List ByteArray :=
  if i < s.size then (if bt s (i : Int) = b then s.extract fr i :: splitP s b (i + 1) (i + 1) else splitP s b fr (i + 1)) else [s.extract fr s.size]
termination_by s.size - i
theorem splitP_end {s : ByteArray} {b : Int} {fr i : Nat} (h : ¬ i < s.size) : splitP s b fr i = [s.extract fr s.size] := by rw [splitP, if_neg h]
theorem splitP_hit {s : ByteArray} {b : Int} {fr i : Nat} (h : i < s.size) (e : bt s (i : Int) = b) : splitP s b fr i = s.extract fr i :: splitP s b (i + 1) (i + 1) := by rw [splitP, if_pos h, if_pos e]
theorem splitP_miss {s : ByteArray} {b : Int} {fr i : Nat} (h : i < s.size) (e : ¬ bt s (i : Int) = b) : splitP s b fr i = splitP s b fr (i + 1) := by rw [splitP, if_pos h, if_neg e]
theorem splitP_pos (s : ByteArray) (b : Int) : ∀ i, i ≤ s.size → ∀ fr, 0 < (splitP s b fr i).length := by
  refine rev_ind s.size (fun fr => by rw [splitP_end (by omega)]; simp) (fun i hi ih fr => ?_)
  by_cases e : bt s (i : Int) = b
  · rw [splitP_hit hi e]; simp
  · rw [splitP_miss hi e]; exact ih fr
theorem splitP_one (s : ByteArray) (b : Int) : ∀ i, i ≤ s.size → ∀ fr, (splitP s b fr i).length = 1 ↔ ∀ j, i ≤ j → j < s.size → bt s (j : Int) ≠ b := by
  refine rev_ind s.size (fun fr => ?_) (fun i hi ih fr => ?_)
  · rw [splitP_end (by omega)]
    exact ⟨fun _ j h1 h2 => absurd h1 (by omega), fun _ => rfl⟩
  · by_cases e : bt s (i : Int) = b
    · rw [splitP_hit hi e]
      have := splitP_pos s b (i + 1) hi (i + 1)
      refine ⟨fun h => ?_, fun h => absurd e (h i (Nat.le_refl _) hi)⟩
      simp only [List.length_cons] at h
      omega
    · rw [splitP_miss hi e, ih fr]
      refine ⟨fun h j h1 h2 => ?_, fun h j h1 h2 => h j (by omega) h2⟩
      by_cases q : j = i
      · subst q; exact e
      · exact h j (by omega) h2

theorem impl_split.ev (s : ByteArray) (b : Int) (hs : s.size ≤ 1000000000000) : Ev (fun k => impl_split.f k s b) (splitP s b 0 0) := by
  have key : ∀ i, i ≤ s.size → ∀ (out : List ByteArray) (fr : Nat), fr ≤ i → out.length ≤ i → Ev (fun k => impl_split.l0 k s b out (fr : Int) (i : Int)) (out ++ splitP s b fr i) := by
    refine rev_ind s.size (fun out fr hf ho => ?_) (fun i hi ih out fr hf ho => ?_)
    · rw [splitP_end (by omega)]
      refine ev_stop fun k => ?_
      simp only [impl_split.l0]; rw [if_neg (by omega), if_pos (by omega), if_pos (by omega), if_pos (by omega)]
      simp
    · by_cases e : bt s (i : Int) = b
      · rw [splitP_hit hi e]
        have := ih (out ++ [s.extract fr i]) (i + 1) (Nat.le_refl _) (by simp; omega)
        rw [List.append_assoc] at this
        refine ev_go _ (fun k => ?_) this
        simp only [impl_split.l0]; rw [if_pos (by omega), if_pos (by omega), if_pos e, if_pos (by omega), if_pos (by omega), if_pos (by omega), if_pos (by omega), wr1 (by omega)]
        simp
      · rw [splitP_miss hi e]
        refine ev_go _ (fun k => ?_) (ih out fr (by omega) (by omega))
        simp only [impl_split.l0]; rw [if_pos (by omega), if_pos (by omega), if_neg e, wr1 (by omega)]
  simpa [impl_split.f] using key 0 (Nat.zero_le _) [] 0 (Nat.le_refl _) (Nat.le_refl _)

/-- A valid record. -/
def RecordOk (c r : ByteArray) : Prop := (1 ≤ c.size ∧ c.size ≤ 160) ∧ r.size ≤ 200 ∧ PrintFrom c 0 ∧ PrintFrom r 0 ∧ ∀ j, j < c.size → bt c (j : Int) ≠ 64
theorem toList_nil_iff (s : ByteArray) : s.toList = ([] : List UInt8) ↔ s.size = 0 := by
  rw [show s.toList = s.data.toList from ByteArray.toList_eq s]
  rw [Array.toList_eq_nil_iff]
  constructor
  · intro h; show s.data.size = 0; rw [h]; rfl
  · intro h; exact Array.eq_empty_of_size_eq_zero h

theorem impl_IsValidRecord.ev (c r : ByteArray) (hc : c.size ≤ 1000000000000) (hr : r.size ≤ 1000000000000) : EvB (fun k => impl_IsValidRecord.f k c r) (RecordOk c r) := by
  unfold impl_IsValidRecord.f RecordOk
  simp only [impl_within.eq, Option.bind_some]
  by_cases h1 : (1 : Int) ≤ (c.size : Int) ∧ (c.size : Int) ≤ 160
  · simp only [h1, and_self, decide_true, if_true]
    by_cases h2 : (r.size : Int) ≤ 200
    · simp only [if_pos h2]
      have one := splitP_one c 64 0 (Nat.zero_le _) 0
      refine evB_of (fun h => ?_) (fun h => ?_)
      · refine evB_bind (impl_isPrinted.ev c (by omega)) (fun _ => ?_) (fun h' => absurd h.2.2.1 h')
        simp only [if_true]
        refine evB_bind (impl_isPrinted.ev r (by omega)) (fun _ => ?_) (fun h' => absurd h.2.2.2.1 h')
        simp only [if_true]
        refine ev_bind _ (impl_split.ev c 64 hc) ?_
        rw [one.2 (fun j _ hj => h.2.2.2.2 j hj)]
        exact Ev.now _
      · refine evB_bind (impl_isPrinted.ev c (by omega)) (fun p1 => ?_) (fun _ => by simp only [Bool.false_eq_true, if_false]; exact Ev.now _)
        simp only [if_true]
        refine evB_bind (impl_isPrinted.ev r (by omega)) (fun p2 => ?_) (fun _ => by simp only [Bool.false_eq_true, if_false]; exact Ev.now _)
        simp only [if_true]
        refine ev_bind _ (impl_split.ev c 64 hc) ?_
        have hne : ¬ (splitP c 64 0 0).length = 1 := fun e => h ⟨⟨by omega, by omega⟩, by omega, p1, p2, fun j hj => one.1 e j (Nat.zero_le _) hj⟩
        rw [show (((splitP c 64 0 0).length : Int) == 1) = false by simp; omega]
        exact Ev.now _
    · simp only [if_neg h2]
      exact evB_of (fun h => absurd h.2.1 (by omega)) (fun _ => Ev.now _)
  · simp only [h1, decide_false, Bool.false_eq_true, if_false]
    exact evB_of (fun h => absurd h.1 (by omega)) (fun _ => Ev.now _)

end Go.Proofs.Ytehaakoaabbiaaa.Pure
