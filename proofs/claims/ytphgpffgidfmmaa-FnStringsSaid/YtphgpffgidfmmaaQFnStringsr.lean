/- Proved here: what functions that the law FnStrings reaches answer (digits, spec_l1Num, impl_text, sumsBoth). Conditions: those that each theorem names. -/
import Derived.Test.YtphgpffgidfmmaaQFnStringsk
set_option linter.unusedVariables false
set_option linter.unusedSimpArgs false
namespace Go.Proofs.Ytphgpffgidfmmaa.Pure
open Go.RowKit Go.Proofs.Ytphgpffgidfmmaa.XFnStrings Go.Proofs.YtphgpffgidfmmaaW.PrintWords Go.Proofs.YtphgpffgidfmmaaW.PrintLast

def digB (d : Nat) : ByteArray := ⟨#[UInt8.ofNat (48 + d)]⟩
theorem ex_dig : ∀ d : Nat, d < 10 → (⟨#[48, 49, 50, 51, 52, 53, 54, 55, 56, 57]⟩ : ByteArray).extract d (d + 1) = digB d
  | 0, _ => by decide
  | 1, _ => by decide
  | 2, _ => by decide
  | 3, _ => by decide
  | 4, _ => by decide
  | 5, _ => by decide
  | 6, _ => by decide
  | 7, _ => by decide
  | 8, _ => by decide
  | 9, _ => by decide
  | n + 10, h => absurd h (by omega)
theorem str_dig : ∀ d : Nat, d < 10 → strOfNums [(48 + (d : Int)) % 256] = digB d
  | 0, _ => by decide
  | 1, _ => by decide
  | 2, _ => by decide
  | 3, _ => by decide
  | 4, _ => by decide
  | 5, _ => by decide
  | 6, _ => by decide
  | 7, _ => by decide
  | 8, _ => by decide
  | 9, _ => by decide
  | n + 10, h => absurd h (by omega)
theorem digB_size (d : Nat) : (digB d).size = 1 := rfl
/-- The digits of a number. -/
def numP (n : Nat) : ByteArray := if n < 10 then digB n else numP (n / 10) ++ digB (n % 10)
termination_by n
decreasing_by omega
theorem numP_size : ∀ (k n : Nat), n < 10 ^ (k + 1) → (numP n).size ≤ k + 1
  | 0, n, h => by
    rw [numP, if_pos (by simpa using h), digB_size]; omega
  | k + 1, n, h => by
    rw [numP]
    by_cases c : n < 10
    · rw [if_pos c, digB_size]; omega
    · rw [if_neg c, ByteArray.size_append, digB_size]
      have := numP_size k (n / 10) (by rw [Nat.pow_succ] at h; omega)
      omega
theorem numP_small {n : Nat} (h : n < 1000000) : (numP n).size ≤ 6 := numP_size 5 n (by omega)
theorem tdiv_nat (n : Nat) : Int.tdiv (n : Int) 10 = ((n / 10 : Nat) : Int) := by rw [Int.tdiv_eq_ediv_of_nonneg (by omega)]; omega
theorem tmod_nat (n : Nat) : Int.tmod (n : Int) 10 = ((n % 10 : Nat) : Int) := by rw [Int.tmod_eq_emod_of_nonneg (by omega)]; omega
/-- No sign '#' in a text. -/
def Free35 (s : ByteArray) : Prop := ∀ x ∈ s.data.toList, x ≠ 35
theorem free_app {a b : ByteArray} (ha : Free35 a) (hb : Free35 b) : Free35 (a ++ b) := by
  intro x hx
  rw [ByteArray.data_append, Array.toList_append, List.mem_append] at hx
  rcases hx with h | h
  · exact ha x h
  · exact hb x h
theorem free_dig : ∀ d : Nat, d < 10 → Free35 (digB d) := by
  intro d hd x hx
  simp only [digB, List.mem_singleton] at hx
  subst hx
  intro h
  have := congrArg UInt8.toNat h
  simp at this
  omega
theorem free_num : ∀ n : Nat, Free35 (numP n) := by
  intro n
  induction n using Nat.strongRecOn with
  | ind n ih =>
    rw [numP]
    by_cases c : n < 10
    · rw [if_pos c]; exact free_dig n c
    · rw [if_neg c]; exact free_app (ih _ (by omega)) (free_dig _ (by omega))
theorem free_of_bt {s : ByteArray} (h : ∀ j, j < s.size → bt s (j : Int) ≠ 35) : Free35 s := by
  intro x hx e
  obtain ⟨j, hj, rfl⟩ := List.getElem_of_mem hx
  have hj' : j < s.size := by simpa using hj
  apply h j hj'
  rw [← bt_at s (j : Int) (by simpa using hj')]
  have : s[j] = (35 : UInt8) := by rw [← e]; rfl
  simp [this]
theorem bt_of_free {s : ByteArray} (h : Free35 s) : ∀ j, j < s.size → bt s (j : Int) ≠ 35 := by
  intro j hj e
  rw [← bt_at s (j : Int) (by simpa using hj)] at e
  have hm : s[j] ∈ s.data.toList := by
    have : s[j] = s.data.toList[j]'(by simpa using hj) := rfl
    rw [this]; exact List.getElem_mem _
  apply h _ hm
  apply UInt8.toNat_inj.1
  have e2 : (s[j]).toNat = 35 := by
    have : ((s[j]).toNat : Int) = 35 := by simpa using e
    omega
  rw [e2]; rfl

theorem spec_l1Num.ev (n : Nat) (h : n < 1000000) : Ev (fun k => spec_l1Num.f k (n : Int)) (numP n) := by
  induction n using Nat.strongRecOn with
  | ind n ih =>
    rw [numP]
    by_cases c : n < 10
    · rw [if_pos c]
      refine ev_stop fun k => ?_
      simp only [spec_l1Num.f]; rw [if_neg (by omega), if_pos (by omega), if_pos (by omega), wr1 (by omega), if_pos (by omega), if_pos (by omega)]
      rw [show ((n : Int)).toNat = n by omega, show (((n + 1 : Nat) : Int)).toNat = n + 1 by omega, ex_dig n c]
    · rw [if_neg c]
      have hs := numP_small (n := n / 10) (by omega)
      refine ev_go (fun k => (spec_l1Num.f k ((n / 10 : Nat) : Int)).bind fun t108 => if t108.size + (digB (n % 10)).size ≤ 9223372036854775807 then some (t108 ++ digB (n % 10)) else none) (fun k => ?_) (ev_bind _ (ih (n / 10) (by omega) (by omega)) ?_)
      · simp only [spec_l1Num.f]; rw [if_neg (by omega), if_neg (by omega), tdiv_nat, tmod_nat, wr (x := ((n / 10 : Nat) : Int)) (by omega) (by omega), wr1 (by omega)]
        simp only [if_pos (show (0 : Int) ≤ ((n % 10 : Nat) : Int) by omega), if_pos (show ((n % 10 : Nat) : Int) ≤ ((n % 10 + 1 : Nat) : Int) by omega), if_pos (show ((n % 10 + 1 : Nat) : Int) ≤ 10 by omega)]
        rw [show (((n % 10 : Nat) : Int)).toNat = n % 10 by omega, show (((n % 10 + 1 : Nat) : Int)).toNat = n % 10 + 1 by omega, ex_dig _ (by omega)]
      · simp only [if_pos (show (numP (n / 10)).size + (digB (n % 10)).size ≤ 9223372036854775807 by rw [digB_size]; omega)]
        exact Ev.now _

theorem impl_text.loop (n : Nat) (h : n < 1000000) : ∀ x : ByteArray, x.size + n ≤ 10000000 → Ev (fun k => impl_text.l0 k (n : Int) x) (numP n ++ x) := by
  induction n using Nat.strongRecOn with
  | ind n ih =>
    intro x hx
    have e : ∀ k, impl_text.l0 (k + 1) (n : Int) x = if ((n / 10 : Nat) : Int) = 0 then some (digB (n % 10) ++ x) else impl_text.l0 k ((n / 10 : Nat) : Int) (digB (n % 10) ++ x) := by
      intro k
      simp only [impl_text.l0]; rw [tdiv_nat, tmod_nat, wr (x := 48 + ((n % 10 : Nat) : Int)) (by omega) (by omega), Option.bind_some, str_dig (n % 10) (by omega), if_pos (by rw [digB_size]; omega), wr (x := ((n / 10 : Nat) : Int)) (by omega) (by omega)]
    rw [numP]
    by_cases c : n < 10
    · rw [if_pos c]
      refine ev_stop fun k => ?_
      rw [e, if_pos (by omega), show n % 10 = n by omega]
    · rw [if_neg c, ByteArray.append_assoc]
      refine ev_go _ (fun k => ?_) (ih (n / 10) (by omega) (by omega) (digB (n % 10) ++ x) ?_)
      · rw [e, if_neg (by omega)]
      · rw [ByteArray.size_append, digB_size]; omega
theorem impl_text.ev (n : Nat) (h : n < 1000000) : Ev (fun k => impl_text.f k (n : Int)) (numP n) := by
  have := impl_text.loop n h ⟨#[]⟩ (by have : (⟨#[]⟩ : ByteArray).size = 0 := rfl; omega)
  rw [show numP n ++ (⟨#[]⟩ : ByteArray) = numP n from ByteArray.append_empty] at this
  refine ev_go _ (fun k => ?_) this
  simp only [impl_text.f]; rw [if_neg (by omega)]

theorem sum_step {a b : Int} (ha : 0 ≤ a ∧ a < 999979) (hb : 0 ≤ b ∧ b ≤ 255) : 0 ≤ Int.tmod (wrap64 (wrap64 (wrap64 (41 * a) + wrap64 b) + 1)) 999979 ∧ Int.tmod (wrap64 (wrap64 (wrap64 (41 * a) + wrap64 b) + 1)) 999979 < 999979 := by
  rw [wr (x := 41 * a) (by omega) (by omega), wr (x := b) (by omega) (by omega), wr (x := 41 * a + b) (by omega) (by omega), wr (by omega) (by omega), Int.tmod_eq_emod_of_nonneg (by omega)]
  omega
theorem sums_both (s : ByteArray) (hs : s.size ≤ 4000) : ∃ r : Nat, r < 999979 ∧ Ev (fun k => spec_l1Sum.f k s) (r : Int) ∧ Ev (fun k => impl_Checksum.f k s) ((r : Int), true) := by
  have key := rev_ind (P := fun i => ∀ a : Int, 0 ≤ a ∧ a < 999979 → ∃ r : Int, (0 ≤ r ∧ r < 999979) ∧ Ev (fun k => spec_l1Sum.l0 k s a (i : Int)) r ∧ Ev (fun k => impl_Checksum.l0 k s a (i : Int)) (r, true)) s.size ?_ ?_ 0 (Nat.zero_le _) 7 (by omega)
  · obtain ⟨r, hr, h1, h2⟩ := key
    refine ⟨r.toNat, by omega, ?_, ?_⟩
    · rw [show ((r.toNat : Nat) : Int) = r by omega]; exact h1
    · rw [show ((r.toNat : Nat) : Int) = r by omega]
      unfold impl_Checksum.f
      simp only [if_neg (show ¬ (s.size : Int) > 4000 by omega)]
      exact h2
  · intro a ha
    refine ⟨a, ha, ev_stop fun k => ?_, ev_stop fun k => ?_⟩
    · simp only [spec_l1Sum.l0]; rw [if_neg (by omega)]
    · simp only [impl_Checksum.l0]; rw [if_neg (by omega)]
  · intro i hi ih a ha
    obtain ⟨r, hr, h1, h2⟩ := ih _ (sum_step ha (bt_range s (i : Int)))
    refine ⟨r, hr, ev_go _ (fun k => ?_) h1, ev_go _ (fun k => ?_) h2⟩
    · simp only [spec_l1Sum.l0]; rw [if_pos (by omega), if_pos (by omega), wr1 (by omega)]
    · simp only [impl_Checksum.l0]; rw [if_pos (by omega), if_pos (by omega), wr1 (by omega)]

end Go.Proofs.Ytphgpffgidfmmaa.Pure
