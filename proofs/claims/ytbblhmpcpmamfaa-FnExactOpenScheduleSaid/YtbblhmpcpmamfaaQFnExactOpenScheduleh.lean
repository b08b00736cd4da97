/- Proved here: what functions that the law FnExactOpenSchedule reaches answer (marks, laws_markIntS, laws_markIntSS, laws_heldIntSS). Conditions: those that each theorem names. -/
import Derived.Test.YtbblhmpcpmamfaaQFnExactOpenScheduled
set_option linter.unusedVariables false
set_option linter.unusedSimpArgs false
namespace Go.Proofs.Ytbblhmpcpmamfaa.Pure
open Go.RowKit Go.Proofs.Ytbblhmpcpmamfaa.XFnExactOpenSchedule Go.Proofs.YtbblhmpcpmamfaaW.PrintWords Go.Proofs.YtbblhmpcpmamfaaW.PrintLast

theorem ev_succ {α : Type} {g : Nat → Option α} {r : α} (h : Ev (fun k => g (k + 1)) r) : Ev g r := Ev.step (fun _ => rfl) h
/-- a, a + 1, .. -/
def iotaI (a : Int) : Nat → List Int
  | 0 => []
  | n + 1 => a :: iotaI (a + 1) n
theorem iotaI_length (n : Nat) : ∀ a, (iotaI a n).length = n := by
  induction n with
  | zero => intro a; rfl
  | succ n ih => intro a; simp [iotaI, ih]
theorem iotaI_snoc (n : Nat) : ∀ a : Int, iotaI a (n + 1) = iotaI a n ++ [a + n] := by
  induction n with
  | zero => intro a; simp [iotaI]
  | succ n ih =>
    intro a
    rw [iotaI, ih, iotaI, List.cons_append]
    congr 3
    omega
theorem iotaI_get (n : Nat) : ∀ (a : Int) (i : Nat) (h : i < (iotaI a n).length), (iotaI a n)[i] = a + i := by
  induction n with
  | zero => intro a i h; simp [iotaI] at h
  | succ n ih =>
    intro a i h
    cases i with
    | zero => simp [iotaI]
    | succ i =>
      simp only [iotaI, List.getElem_cons_succ]
      rw [ih]; omega

theorem laws_markIntS.ev (l : List Int) (a : Int) (h0 : 0 ≤ a) (h1 : a ≤ 1000000000000000) (hl : l.length ≤ 1000000000000) : Ev (fun k => laws_markIntS.f k l a) (a + l.length, iotaI a l.length) := by
  have key := rev_ind (P := fun i => Ev (fun k => laws_markIntS.l0 k (iotaI a i ++ l.drop i) (a + i) (i : Int)) (a + l.length, iotaI a l.length)) l.length ?_ ?_ 0 (Nat.zero_le _)
  · simpa [laws_markIntS.f, iotaI] using key
  · refine ev_stop fun k => ?_
    have hlen : (iotaI a l.length ++ l.drop l.length).length = l.length := by simp [iotaI_length]
    simp only [laws_markIntS.l0]; rw [if_neg (by rw [hlen]; omega)]; simp
  · intro i hi ih
    have hlen : (iotaI a i ++ l.drop i).length = l.length := by simp [iotaI_length]; omega
    refine ev_go _ (fun k => ?_) ih
    simp only [laws_markIntS.l0]; rw [if_pos (by rw [hlen]; omega), if_pos (by omega), wr (x := a + i + 1) (by omega) (by omega), wr1 (by omega)]
    rw [show ((i : Int)).toNat = i by omega, drop_cons hi, List.set_append_right _ _ (by simp [iotaI_length]), iotaI_length, Nat.sub_self, List.set_cons_zero, iotaI_snoc, List.append_assoc]
    congr 1; omega
theorem laws_heldIntS.ev (n : Nat) (a : Int) (h0 : 0 ≤ a) (h1 : a ≤ 1000000000000000) (hl : n ≤ 1000000000000) : Ev (fun k => laws_heldIntS.f k (iotaI a n) a) (a + n) := by
  have key := rev_ind (P := fun i => Ev (fun k => laws_heldIntS.l0 k (iotaI a n) (a + i) (i : Int)) (a + n)) n ?_ ?_ 0 (Nat.zero_le _)
  · simpa [laws_heldIntS.f] using key
  · refine ev_stop fun k => ?_
    simp only [laws_heldIntS.l0]; rw [if_neg (by rw [iotaI_length]; omega)]
  · intro i hi ih
    refine ev_go _ (fun k => ?_) ih
    have hi' : i < (iotaI a n).length := by rw [iotaI_length]; exact hi
    simp only [laws_heldIntS.l0]; rw [if_pos (by rw [iotaI_length]; omega), if_pos (by omega), rd_nat hi', iotaI_get, if_pos rfl, wr (x := a + i + 1) (by omega) (by omega), wr1 (by omega)]
    congr 1; omega
/-- An argument is marked: the next mark is no negative number. -/
theorem laws_markIntS.any (l : List Int) (a : Int) (h0 : 0 ≤ a) (h1 : a ≤ 100000000000000) (hl : l.length ≤ 1048576) : ∃ n l', Ev (fun k => laws_markIntS.f k l a) (n, l') ∧ 0 ≤ n ∧ n ≤ a + 100000000 ∧ ((n < 0) = False) := 
  ⟨_, _, laws_markIntS.ev l a h0 (by omega) (by omega), by omega, by omega, by simp; omega⟩
/-- A result is marked, and holds its marks. -/
theorem laws_markIntS.held (l : List Int) (hl : l.length ≤ 1048576) : ∃ n l', Ev (fun k => laws_markIntS.f k l 1) (n, l') ∧ Ev (fun k => laws_heldIntS.f k l' 1) n ∧ ((n < 0) = False) :=
  ⟨_, _, laws_markIntS.ev l 1 (by omega) (by omega) (by omega), laws_heldIntS.ev l.length 1 (by omega) (by omega) (by omega), by simp; omega⟩

def sumLen : List (List Int) → Nat
  | [] => 0
  | y :: ys => y.length + sumLen ys
/-- Rows of rising marks. -/
def markL (a : Int) : List (List Int) → List (List Int)
  | [] => []
  | y :: ys => iotaI a y.length :: markL (a + y.length) ys
theorem sumLen_le : ∀ l : List (List Int), (∀ y ∈ l, y.length ≤ 1048576) → sumLen l ≤ l.length * 1048576
  | [], _ => Nat.zero_le _
  | y :: ys, h => by
    have := h y List.mem_cons_self
    have := sumLen_le ys (fun z hz => h z (List.mem_cons_of_mem _ hz))
    simp only [sumLen, List.length_cons]; omega
theorem markL_length : ∀ (l : List (List Int)) (a : Int), (markL a l).length = l.length
  | [], _ => rfl
  | y :: ys, a => by rw [markL, List.length_cons, List.length_cons, markL_length ys]
theorem rdL_mid (dn : List (List Int)) (y : List Int) (ys : List (List Int)) : rd_L1 (dn ++ y :: ys) (dn.length : Int) = y := by
  rw [rdL_nat (by simp), List.getElem_append_right (Nat.le_refl _)]; simp
theorem laws_markIntSS.go : ∀ (l dn : List (List Int)) (a : Int), 0 ≤ a → a + sumLen l ≤ 500000000000000 → dn.length + l.length ≤ 1048576 → (∀ y ∈ l, y.length ≤ 1048576) → Ev (fun k => laws_markIntSS.l0 k (dn ++ l) a (dn.length : Int)) (a + sumLen l, dn ++ markL a l)
  | [], dn, a, _, _, _, _ => by
    refine ev_stop fun k => ?_
    simp only [laws_markIntSS.l0, List.append_nil]; rw [if_neg (by omega), if_neg (by omega)]; simp [sumLen, markL]
  | y :: ys, dn, a, h0, h1, h2, h3 => by
    simp only [sumLen, List.length_cons] at h1 h2
    have hy := h3 y List.mem_cons_self
    have ih := laws_markIntSS.go ys (dn ++ [iotaI a y.length]) (a + y.length) (by omega) (by omega) (by simp; omega) (fun z hz => h3 z (List.mem_cons_of_mem _ hz))
    rw [List.length_append, List.length_singleton, List.append_assoc, List.append_assoc] at ih
    rw [sumLen, markL, show a + ((y.length + sumLen ys : Nat) : Int) = a + (y.length : Int) + (sumLen ys : Int) by omega]
    refine ev_go (fun k => (laws_markIntS.f k y a).bind fun b => laws_markIntSS.l0 k ((dn ++ y :: ys).set dn.length b.2) b.1 ((dn.length + 1 : Nat) : Int)) (fun k => ?_) (ev_bind _ (laws_markIntS.ev y a h0 (by omega) (by omega)) ?_)
    · simp only [laws_markIntSS.l0]; rw [if_pos (by simp; omega), rdL_mid, wr1 (by omega)]; rfl
    · rw [List.set_append_right _ _ (Nat.le_refl _), Nat.sub_self, List.set_cons_zero]
      exact ih
theorem laws_markIntSS.any (l : List (List Int)) (a : Int) (h0 : 0 ≤ a) (h1 : a ≤ 10000000000000) (hl : l.length ≤ 1048576) (hw : ∀ y ∈ l, y.length ≤ 1048576) : ∃ n l', Ev (fun k => laws_markIntSS.f k l a) (n, l') ∧ 0 ≤ n ∧ n ≤ a + 1100000000000 ∧ ((n < 0) = False) := by
  have := sumLen_le l hw
  refine ⟨a + sumLen l, markL a l, ?_, by omega, by omega, by simp; omega⟩
  unfold laws_markIntSS.f
  simp only [if_pos hl]
  exact laws_markIntSS.go l [] a h0 (by omega) (by simpa using hl) hw

theorem laws_heldIntSS.go : ∀ (l dn : List (List Int)) (a : Int), 0 ≤ a → a + sumLen l ≤ 500000000000000 → dn.length + l.length ≤ 1048576 → (∀ y ∈ l, y.length ≤ 1048576) → Ev (fun k => laws_heldIntSS.l0 k (dn ++ markL a l) a (dn.length : Int)) (a + sumLen l)
  | [], dn, a, _, _, _, _ => by
    refine ev_stop fun k => ?_
    simp only [laws_heldIntSS.l0, markL, List.append_nil]; rw [if_neg (by omega)]; simp [sumLen]
  | y :: ys, dn, a, h0, h1, h2, h3 => by
    simp only [sumLen, List.length_cons] at h1 h2
    have hy := h3 y List.mem_cons_self
    have ih := laws_heldIntSS.go ys (dn ++ [iotaI a y.length]) (a + y.length) (by omega) (by omega) (by simp; omega) (fun z hz => h3 z (List.mem_cons_of_mem _ hz))
    rw [List.length_append, List.length_singleton, List.append_assoc] at ih
    rw [sumLen, markL, show a + ((y.length + sumLen ys : Nat) : Int) = a + (y.length : Int) + (sumLen ys : Int) by omega]
    refine ev_go (fun k => (laws_heldIntS.f k (iotaI a y.length) a).bind fun t => if t < 0 then some (-1) else laws_heldIntSS.l0 k (dn ++ iotaI a y.length :: markL (a + y.length) ys) t ((dn.length + 1 : Nat) : Int)) (fun k => ?_) (ev_bind _ (laws_heldIntS.ev y.length a h0 (by omega) (by omega)) ?_)
    · simp only [laws_heldIntSS.l0]; rw [if_pos (by simp; omega), if_pos (by omega), rdL_mid, wr1 (by omega)]
    · simp only [if_neg (show ¬ (a + (y.length : Int) < 0) by omega)]
      exact ih
theorem laws_markIntSS.held (l : List (List Int)) (hl : l.length ≤ 1048576) (hw : ∀ y ∈ l, y.length ≤ 1048576) : ∃ n l', Ev (fun k => laws_markIntSS.f k l 1) (n, l') ∧ Ev (fun k => laws_heldIntSS.f k l' 1) n ∧ ((n < 0) = False) := by
  have := sumLen_le l hw
  refine ⟨1 + sumLen l, markL 1 l, ?_, ?_, by simp; omega⟩
  · unfold laws_markIntSS.f
    simp only [if_pos hl]
    exact laws_markIntSS.go l [] 1 (by omega) (by omega) (by simpa using hl) hw
  · unfold laws_heldIntSS.f
    exact laws_heldIntSS.go l [] 1 (by omega) (by omega) (by simpa using hl) hw

end Go.Proofs.Ytbblhmpcpmamfaa.Pure
