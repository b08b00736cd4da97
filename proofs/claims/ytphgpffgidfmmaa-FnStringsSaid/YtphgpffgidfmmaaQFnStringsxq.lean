/- Proved here: what functions that the law FnStrings reaches answer (digL, parseBoth, formatBoth, csumP, sealP, flipP). Conditions: those that each theorem names. -/
import Derived.Test.YtphgpffgidfmmaaQFnStringsxo
set_option linter.unusedVariables false
set_option linter.unusedSimpArgs false
namespace Go.Proofs.Ytphgpffgidfmmaa.Pure
open Go.RowKit Go.Proofs.Ytphgpffgidfmmaa.XFnStrings Go.Proofs.YtphgpffgidfmmaaW.PrintWords Go.Proofs.YtphgpffgidfmmaaW.PrintLast

def bl (s : ByteArray) : List UInt8 := s.data.toList
theorem bl_len (s : ByteArray) : (bl s).length = s.size := data_length s
theorem bl_ext {s t : ByteArray} (h : bl s = bl t) : s = t := by
  cases s; cases t
  unfold bl at h
  exact congrArg ByteArray.mk (Array.ext' h)
theorem bl_app (s t : ByteArray) : bl (s ++ t) = bl s ++ bl t := by
  unfold bl; rw [ByteArray.data_append, Array.toList_append]
theorem tl_iff (s t : ByteArray) : s.toList = t.toList ↔ s = t := by
  rw [show s.toList = bl s from ByteArray.toList_eq s, show t.toList = bl t from ByteArray.toList_eq t]
  exact ⟨bl_ext, fun h => by rw [h]⟩
theorem bt_bl {s : ByteArray} {j : Nat} (h : j < (bl s).length) : bt s (j : Int) = ((bl s)[j].toNat : Int) := by
  have h' : j < s.size := by rw [bl_len] at h; exact h
  rw [← bt_at s (j : Int) (by simpa using h')]
  rfl
def dval : List UInt8 → Nat → Option Nat
  | [], v => some v
  | b :: l, v => if b.toNat < 48 then none else if b.toNat > 57 then none else dval l (10 * v + (b.toNat - 48))
theorem dval_app : ∀ (l m : List UInt8) (v : Nat), dval (l ++ m) v = (dval l v).bind (dval m)
  | [], _, _ => rfl
  | b :: l, m, v => by
    rw [List.cons_append, dval, dval]
    split
    · rfl
    · split
      · rfl
      · exact dval_app l m _
theorem dval_lt : ∀ (l : List UInt8) (v u P : Nat), v < P → dval l v = some u → u < P * 10 ^ l.length
  | [], v, u, P, hv, h => by rw [dval] at h; injection h with h; subst h; simpa using hv
  | b :: l, v, u, P, hv, h => by
    rw [dval] at h
    split at h
    · cases h
    · split at h
      · cases h
      · have h1 := dval_lt l _ u (10 * P) (by omega) h
        rw [List.length_cons, Nat.pow_succ, Nat.mul_comm (10 ^ l.length) 10, ← Nat.mul_assoc, Nat.mul_comm P 10]
        exact h1
def dig (d : Nat) : UInt8 := UInt8.ofNat (48 + d)
theorem dig_nat {d : Nat} (h : d < 10) : (dig d).toNat = 48 + d := by
  unfold dig; rw [UInt8.toNat_ofNat']; omega
theorem bl_num (n : Nat) : bl (numP n) = if n < 10 then [dig n] else bl (numP (n / 10)) ++ [dig (n % 10)] := by
  rw [numP]
  by_cases c : n < 10
  · rw [if_pos c, if_pos c]; rfl
  · rw [if_neg c, if_neg c, bl_app]; rfl
theorem num_ne (n : Nat) : bl (numP n) ≠ [] := by
  rw [bl_num]; split <;> simp
theorem dval_num : ∀ n : Nat, dval (bl (numP n)) 0 = some n := by
  intro n
  induction n using Nat.strongRecOn with
  | ind n ih =>
    rw [bl_num]
    by_cases c : n < 10
    · rw [if_pos c, dval, dval, dig_nat c, if_neg (by omega), if_neg (by omega)]
      congr 1; omega
    · rw [if_neg c, dval_app, ih (n / 10) (by omega), Option.bind_some, dval, dval, dig_nat (by omega), if_neg (by omega), if_neg (by omega)]
      congr 1; omega
theorem num_head : ∀ n : Nat, 1 ≤ n → ∀ h : 0 < (bl (numP n)).length, (bl (numP n))[0].toNat ≠ 48 := by
  intro n
  induction n using Nat.strongRecOn with
  | ind n ih =>
    intro h1 h
    by_cases c : n < 10
    · have e := bl_num n
      rw [if_pos c] at e
      simp only [e, List.getElem_cons_zero]
      rw [dig_nat c]; omega
    · have e := bl_num n
      rw [if_neg c] at e
      have h2 : 0 < (bl (numP (n / 10))).length := List.length_pos_iff.2 (num_ne _)
      simp only [e]
      rw [List.getElem_append_left h2]
      exact ih (n / 10) (by omega) (by omega) h2
theorem num_inj {a b : Nat} (h : numP a = numP b) : a = b := by
  have h1 := dval_num a
  rw [h, dval_num b] at h1
  injection h1 with h1; exact h1.symm
/-- a text of digits with no zero ahead is the number's own text, and the number is as great as the text is long -/
theorem num_of : ∀ (n : Nat) (l : List UInt8), l.length = n + 1 → ∀ v, dval l 0 = some v → (n = 0 ∨ ∀ h : 0 < l.length, l[0].toNat ≠ 48) → bl (numP v) = l ∧ ((∀ h : 0 < l.length, l[0].toNat ≠ 48) → 10 ^ n ≤ v)
  | 0, l, hl, v, hv, _ => by
    match l, hl with
    | [b], _ =>
      rw [dval] at hv
      split at hv
      · cases hv
      · split at hv
        · cases hv
        · rw [dval] at hv
          injection hv with hv
          rw [bl_num, if_pos (by omega)]
          refine ⟨?_, fun h0 => ?_⟩
          · congr 1
            apply UInt8.toNat_inj.1
            rw [dig_nat (by omega)]; omega
          · have h1 : b.toNat ≠ 48 := h0 (by simp)
            simp; omega
  | n + 1, l, hl, v, hv, h0 => by
    have h0 : ∀ h : 0 < l.length, l[0].toNat ≠ 48 := by
      rcases h0 with h | h
      · omega
      · exact h
    have hne : l ≠ [] := by intro e; subst e; simp at hl
    obtain ⟨a, b, rfl⟩ : ∃ a b, l = a ++ [b] := ⟨l.dropLast, l.getLast hne, (List.dropLast_concat_getLast hne).symm⟩
    have ha : a.length = n + 1 := by simpa using hl
    rw [dval_app] at hv
    obtain ⟨u, h1, h2⟩ := Option.bind_eq_some_iff.1 hv
    have h3 : ∀ h : 0 < a.length, a[0].toNat ≠ 48 := fun h => by
      have := h0 (by simp)
      rwa [List.getElem_append_left h] at this
    obtain ⟨h4, h5⟩ := num_of n a ha u h1 (.inr h3)
    have h5 := h5 h3
    have h6 : 1 ≤ 10 ^ n := Nat.one_le_pow _ _ (by omega)
    rw [dval] at h2
    split at h2
    · cases h2
    · split at h2
      · cases h2
      · rw [dval] at h2
        injection h2 with h2
        refine ⟨?_, fun _ => ?_⟩
        · rw [bl_num, if_neg (by omega), show v / 10 = u by omega, h4]
          congr 2
          apply UInt8.toNat_inj.1
          rw [dig_nat (by omega)]; omega
        · rw [Nat.pow_succ]; omega

def resD : Option Nat → Int × Bool
  | some u => ((u : Int), true)
  | none => (0, false)
theorem dstep {t : ByteArray} {i : Nat} (h : i < (bl t).length) (v : Nat) : dval ((bl t).drop i) v = if bt t (i : Int) < 48 then none else if bt t (i : Int) > 57 then none else dval ((bl t).drop (i + 1)) (10 * v + ((bl t)[i].toNat - 48)) := by
  rw [List.drop_eq_getElem_cons h, dval, bt_bl h]
  by_cases c : (bl t)[i].toNat < 48
  · rw [if_pos c, if_pos (show ((bl t)[i].toNat : Int) < 48 by omega)]
  · rw [if_neg c, if_neg (show ¬ ((bl t)[i].toNat : Int) < 48 by omega)]
    by_cases c2 : (bl t)[i].toNat > 57
    · rw [if_pos c2, if_pos (show ((bl t)[i].toNat : Int) > 57 by omega)]
    · rw [if_neg c2, if_neg (show ¬ ((bl t)[i].toNat : Int) > 57 by omega)]
theorem pow_le9 {i : Nat} (h : i ≤ 9) : 10 ^ i ≤ 1000000000 := Nat.pow_le_pow_right (n := 10) (by omega) h
theorem impl_number.scan (t : ByteArray) (ht : t.size ≤ 9) : ∀ i, i ≤ t.size → ∀ v : Nat, v < 10 ^ i → Ev (fun k => impl_number.l0 k t (v : Int) (i : Int)) (resD (dval ((bl t).drop i) v)) := by
  refine rev_ind t.size (fun v _ => ?_) (fun i hi ih v hv => ?_)
  · rw [List.drop_of_length_le (by rw [bl_len]; exact Nat.le_refl _), dval]
    refine ev_stop fun k => ?_
    simp only [impl_number.l0]; rw [if_neg (by omega)]; rfl
  · have hi' : i < (bl t).length := by rw [bl_len]; exact hi
    have hp := pow_le9 (i := i) (by omega)
    have hb := bt_bl hi'
    rw [dstep hi']
    by_cases c : bt t (i : Int) < 48
    · rw [if_pos c]
      refine ev_stop fun k => ?_
      simp only [impl_number.l0]; rw [if_pos (by omega), if_pos (by omega), if_pos c]; rfl
    · rw [if_neg c]
      by_cases c2 : bt t (i : Int) > 57
      · rw [if_pos c2]
        refine ev_stop fun k => ?_
        simp only [impl_number.l0]; rw [if_pos (by omega), if_pos (by omega), if_neg c, if_pos c2]; rfl
      · rw [if_neg c2]
        refine ev_go _ (fun k => ?_) (ih _ (by rw [Nat.pow_succ]; omega))
        simp only [impl_number.l0]; rw [if_pos (by omega), if_pos (by omega), if_neg c, if_neg c2, wr1 (by omega), wr (x := 10 * (v : Int)) (by omega) (by omega), wr (by omega) (by omega)]
        congr 1
        omega
def numR (t : ByteArray) : Int × Bool := if t.size = 0 ∨ t.size > 9 ∨ (bt t 0 = 48 ∧ t.size > 1) then (0, false) else resD (dval (bl t) 0)
theorem impl_number.ev (t : ByteArray) : Ev (fun k => impl_number.f k t) (numR t) := by
  unfold impl_number.f numR
  have stop : ∀ k, impl_number.j0 (k + 1) t true = some (0, false) := fun k => by simp only [impl_number.j0]; rw [if_pos trivial]
  by_cases c : t.size = 0
  · rw [if_pos (.inl c)]
    simp only [if_pos (show (t.size : Int) = 0 by omega)]
    exact ev_stop stop
  · simp only [if_neg (show ¬ (t.size : Int) = 0 by omega)]
    by_cases c2 : t.size > 9
    · rw [if_pos (.inr (.inl c2))]
      simp only [if_pos (show (t.size : Int) > 9 by omega)]
      exact ev_stop stop
    · simp only [if_neg (show ¬ (t.size : Int) > 9 by omega), if_pos (show 0 < (t.size : Int) by omega)]
      have go : Ev (fun k => impl_number.j0 k t false) (resD (dval (bl t) 0)) := by
        have h := impl_number.scan t (by omega) 0 (Nat.zero_le _) 0 (by omega)
        rw [List.drop_zero] at h
        refine ev_go (fun k => impl_number.l0 k t 0 0) (fun k => ?_) h
        simp only [impl_number.j0]; rw [if_neg (by simp)]
      by_cases c3 : bt t 0 = 48
      · simp only [if_pos c3]
        by_cases c4 : t.size > 1
        · rw [if_pos (.inr (.inr ⟨c3, c4⟩)), decide_eq_true (show (t.size : Int) > 1 by omega)]
          exact ev_stop stop
        · rw [if_neg (by omega), decide_eq_false (show ¬ (t.size : Int) > 1 by omega)]
          exact go
      · simp only [if_neg c3]
        rw [if_neg (by rintro (h | h | ⟨h, _⟩) <;> first | omega | exact h)]
        exact go
/-- the text of a number with a sign ahead -/
def negT (u : Nat) : ByteArray := if u = 0 then numP 0 else (⟨#[45]⟩ : ByteArray) ++ numP u
theorem sz45 : (⟨#[45]⟩ : ByteArray).size = 1 := rfl
theorem spec_l1Num.neg (u : Nat) (h : u < 1000000) : Ev (fun k => spec_l1Num.f k (-(u : Int))) (negT u) := by
  unfold negT
  by_cases c : u = 0
  · subst c
    rw [if_pos rfl]
    exact spec_l1Num.ev 0 (by omega)
  · rw [if_neg c]
    have hs := numP_small h
    refine ev_go (fun k => (spec_l1Num.f k (u : Int)).bind fun t => if 1 + t.size ≤ 9223372036854775807 then some ((⟨#[45]⟩ : ByteArray) ++ t) else none) (fun k => ?_) (ev_bind _ (spec_l1Num.ev u h) ?_)
    · simp only [spec_l1Num.f]; rw [if_pos (by omega), wr (by omega) (by omega), Int.neg_neg]
    · simp only [if_pos (show 1 + (numP u).size ≤ 9223372036854775807 by omega)]
      exact Ev.now _
theorem impl_text.neg (u : Nat) (h : u < 1000000) : Ev (fun k => impl_text.f k (-(u : Int))) (negT u) := by
  unfold negT
  by_cases c : u = 0
  · subst c
    rw [if_pos rfl]
    exact impl_text.ev 0 (by omega)
  · rw [if_neg c]
    have hs := numP_small h
    refine ev_go (fun k => (impl_text.f k (u : Int)).bind fun t => if 1 + t.size ≤ 9223372036854775807 then some ((⟨#[45]⟩ : ByteArray) ++ t) else none) (fun k => ?_) (ev_bind _ (impl_text.ev u h) ?_)
    · simp only [impl_text.f]; rw [if_pos (by omega), wr (by omega) (by omega), Int.neg_neg]
    · simp only [if_pos (show 1 + (numP u).size ≤ 9223372036854775807 by omega)]
      exact Ev.now _
def cmpR (x t : ByteArray) : Option Nat → Int × Bool
  | none => (0, false)
  | some u => if t.size < x.size then (if negT u = x then (-(u : Int), true) else (0, false)) else (if numP u = x then ((u : Int), true) else (0, false))
theorem spec_l1Read.scan (x t : ByteArray) (ht : t.size ≤ 6) : ∀ i, i ≤ t.size → ∀ v : Nat, v < 10 ^ i → Ev (fun k => spec_l1Read.l0 k x t (v : Int) (i : Int)) (cmpR x t (dval ((bl t).drop i) v)) := by
  refine rev_ind t.size (fun v hv => ?_) (fun i hi ih v hv => ?_)
  · rw [List.drop_of_length_le (by rw [bl_len]; exact Nat.le_refl _), dval, cmpR]
    have hv6 : v < 1000000 := Nat.lt_of_lt_of_le hv (show 10 ^ t.size ≤ 10 ^ 6 from Nat.pow_le_pow_right (by omega) ht)
    by_cases c : t.size < x.size
    · rw [if_pos c]
      refine ev_go (fun k => (spec_l1Num.f k (-(v : Int))).bind fun t158 => if t158.toList = x.toList then some (-(v : Int), true) else some (0, false)) (fun k => ?_) (ev_bind _ (spec_l1Num.neg v hv6) ?_)
      · simp only [spec_l1Read.l0]; rw [if_neg (by omega), if_pos (by omega), wr (by omega) (by omega)]
      · by_cases e : negT v = x
        · rw [if_pos e]; simp only [if_pos ((tl_iff _ _).2 e)]; exact Ev.now _
        · rw [if_neg e]; simp only [if_neg (fun h => e ((tl_iff _ _).1 h))]; exact Ev.now _
    · rw [if_neg c]
      refine ev_go (fun k => (spec_l1Num.f k (v : Int)).bind fun t158 => if t158.toList = x.toList then some ((v : Int), true) else some (0, false)) (fun k => ?_) (ev_bind _ (spec_l1Num.ev v hv6) ?_)
      · simp only [spec_l1Read.l0]; rw [if_neg (by omega), if_neg (by omega)]
      · by_cases e : numP v = x
        · rw [if_pos e]; simp only [if_pos ((tl_iff _ _).2 e)]; exact Ev.now _
        · rw [if_neg e]; simp only [if_neg (fun h => e ((tl_iff _ _).1 h))]; exact Ev.now _
  · have hi' : i < (bl t).length := by rw [bl_len]; exact hi
    have hp := pow_le9 (i := i) (by omega)
    have hb := bt_bl hi'
    rw [dstep hi']
    by_cases c : bt t (i : Int) < 48
    · rw [if_pos c]
      refine ev_stop fun k => ?_
      simp only [spec_l1Read.l0]; rw [if_pos (by omega), if_pos (by omega), if_pos c]; rfl
    · rw [if_neg c]
      by_cases c2 : bt t (i : Int) > 57
      · rw [if_pos c2]
        refine ev_stop fun k => ?_
        simp only [spec_l1Read.l0]; rw [if_pos (by omega), if_pos (by omega), if_neg c, if_pos c2]; rfl
      · rw [if_neg c2]
        refine ev_go _ (fun k => ?_) (ih _ (by rw [Nat.pow_succ]; omega))
        simp only [spec_l1Read.l0]; rw [if_pos (by omega), if_pos (by omega), if_neg c, if_neg c2, wr1 (by omega), wr (x := 10 * (v : Int)) (by omega) (by omega), wr (by omega) (by omega)]
        congr 1
        omega

theorem bl_nil : bl (⟨#[]⟩ : ByteArray) = [] := rfl
theorem bl_ext1 (t : ByteArray) (h : 0 < t.size) : bl (t.extract 1 t.size) = (bl t).drop 1 := by
  unfold bl
  rw [ByteArray.data_extract, Array.toList_extract]
  have : t.data.toList.length = t.size := data_length t
  simp [List.extract_eq_take_drop, List.take_of_length_le, this]
theorem num_of' {t : ByteArray} {u : Nat} (h0 : 0 < t.size) (h : dval (bl t) 0 = some u) : (t.size = 1 ∨ bt t 0 ≠ 48 → numP u = t) ∧ (bt t 0 ≠ 48 → 10 ^ (t.size - 1) ≤ u) := by
  have hl := bl_len t
  have hb : bt t 0 ≠ 48 → ∀ h : 0 < (bl t).length, (bl t)[0].toNat ≠ 48 := fun hne hp e => hne (by rw [show (0 : Int) = ((0 : Nat) : Int) from rfl, bt_bl hp]; omega)
  refine ⟨fun hc => ?_, fun hc => ?_⟩
  · exact bl_ext (num_of (t.size - 1) (bl t) (by omega) u h (by
      rcases hc with h1 | h1
      · exact .inl (by omega)
      · exact .inr (hb h1))).1
  · exact (num_of (t.size - 1) (bl t) (by omega) u h (.inr (hb hc))).2 (hb hc)
theorem num_big {u : Nat} {t : ByteArray} (h : numP u = t) : 0 < t.size ∧ dval (bl t) 0 = some u ∧ (t.size = 1 ∨ bt t 0 ≠ 48) := by
  subst h
  have hp : 0 < (bl (numP u)).length := List.length_pos_iff.2 (num_ne u)
  have hl := bl_len (numP u)
  refine ⟨by omega, dval_num u, ?_⟩
  by_cases c : u < 10
  · left
    have e := bl_num u
    rw [if_pos c] at e
    have := congrArg List.length e
    simp at this; omega
  · right
    rw [show (0 : Int) = ((0 : Nat) : Int) from rfl, bt_bl hp]
    have := num_head u (by omega) hp
    omega
/-- the number that a text without a sign tells, both ways -/
def plainR (t : ByteArray) : Int × Bool := match dval (bl t) 0 with
  | some u => if 0 < t.size ∧ t.size ≤ 6 ∧ (t.size = 1 ∨ bt t 0 ≠ 48) then ((u : Int), true) else (0, false)
  | none => (0, false)
theorem dval_le {t : ByteArray} {u : Nat} (h : dval (bl t) 0 = some u) (h6 : t.size ≤ 6) : u ≤ 999999 := by
  have h1 := dval_lt (bl t) 0 u 1 (by omega) h
  rw [bl_len, Nat.one_mul] at h1
  have h2 : 10 ^ t.size ≤ 10 ^ 6 := Nat.pow_le_pow_right (by omega) h6
  omega
/-- what 'number' tells, and the bound: the same as 'plainR' -/
theorem numR_plain (t : ByteArray) : (if (numR t).2 = true then (if (numR t).1 > 999999 then (0, false) else ((numR t).1, true)) else ((0 : Int), false)) = plainR t := by
  unfold numR plainR
  cases h : dval (bl t) 0 with
  | none => rw [resD]; split <;> simp
  | some u =>
    rw [resD]
    by_cases c : t.size = 0 ∨ t.size > 9 ∨ (bt t 0 = 48 ∧ t.size > 1)
    · rw [if_pos c]
      simp only [Bool.false_eq_true, if_false]
      rw [if_neg]
      rintro ⟨h1, h2, h3⟩
      rcases c with c | c | ⟨c, c2⟩
      · omega
      · omega
      · rcases h3 with h3 | h3
        · omega
        · exact h3 c
    · rw [if_neg c]
      simp only [if_true]
      by_cases c6 : t.size ≤ 6
      · have := dval_le h c6
        rw [if_neg (by omega), if_pos]
        refine ⟨by omega, c6, ?_⟩
        by_cases e : bt t 0 = 48
        · left
          by_cases e2 : t.size > 1
          · exact absurd (.inr (.inr ⟨e, e2⟩)) c
          · omega
        · exact .inr e
      · have hne : bt t 0 ≠ 48 := fun e => c (.inr (.inr ⟨e, by omega⟩))
        have h2 := (num_of' (by omega) h).2 hne
        have h3 : 10 ^ 6 ≤ 10 ^ (t.size - 1) := Nat.pow_le_pow_right (by omega) (by omega)
        rw [if_pos (by omega), if_neg (by omega)]
theorem cmpR_plain (t : ByteArray) (h0 : 0 < t.size) (h6 : t.size ≤ 6) : cmpR t t (dval (bl t) 0) = plainR t := by
  unfold plainR
  cases h : dval (bl t) 0 with
  | none => rfl
  | some u =>
    rw [cmpR, if_neg (by omega)]
    by_cases c : t.size = 1 ∨ bt t 0 ≠ 48
    · rw [if_pos ((num_of' h0 h).1 c)]
      exact (if_pos (show 0 < t.size ∧ t.size ≤ 6 ∧ (t.size = 1 ∨ bt t 0 ≠ 48) from ⟨h0, h6, c⟩)).symm
    · rw [if_neg (fun e => c (num_big e).2.2)]
      exact (if_neg (show ¬ (0 < t.size ∧ t.size ≤ 6 ∧ (t.size = 1 ∨ bt t 0 ≠ 48)) from fun e => c e.2.2)).symm
def signR (t : ByteArray) : Int × Bool := if (plainR t).2 = true ∧ (plainR t).1 ≠ 0 then (-(plainR t).1, true) else (0, false)
theorem numR_ge (t : ByteArray) : 0 ≤ (numR t).1 := by
  unfold numR
  split
  · simp
  · cases dval (bl t) 0 <;> simp [resD]
theorem plainR_nonneg (t : ByteArray) : 0 ≤ (plainR t).1 ∧ (plainR t).1 ≤ 999999 := by
  unfold plainR
  cases h : dval (bl t) 0 with
  | none => simp
  | some u =>
    by_cases c : 0 < t.size ∧ t.size ≤ 6 ∧ (t.size = 1 ∨ bt t 0 ≠ 48)
    · have := dval_le h c.2.1
      simp only [if_pos c]; omega
    · simp only [if_neg c]; omega
theorem cmpR_sign (x t : ByteArray) (hx : x = (⟨#[45]⟩ : ByteArray) ++ t) (h0 : 0 < t.size) (h6 : t.size ≤ 6) : cmpR x t (dval (bl t) 0) = signR t := by
  have hsz : x.size = t.size + 1 := by rw [hx, ByteArray.size_append, sz45]; omega
  unfold signR plainR
  cases h : dval (bl t) 0 with
  | none => simp [cmpR]
  | some u =>
    rw [cmpR, if_pos (by omega)]
    have e1 : u ≠ 0 → (negT u = x ↔ numP u = t) := fun hu => by
      unfold negT
      rw [if_neg hu, hx]
      refine ⟨fun e => ?_, fun e => by rw [e]⟩
      have := congrArg bl e
      rw [bl_app, bl_app] at this
      exact bl_ext (List.append_cancel_left this)
    by_cases c : t.size = 1 ∨ bt t 0 ≠ 48
    · simp only [if_pos (show 0 < t.size ∧ t.size ≤ 6 ∧ (t.size = 1 ∨ bt t 0 ≠ 48) from ⟨h0, h6, c⟩)]
      by_cases hu : u = 0
      · subst hu
        rw [if_neg, if_neg (by simp)]
        intro e
        have e2 := congrArg ByteArray.size e
        rw [hsz] at e2
        have : (negT 0).size = 1 := by rw [negT, if_pos rfl, numP, if_pos (by omega), digB_size]
        omega
      · rw [if_pos ((e1 hu).2 ((num_of' h0 h).1 c)), if_pos ⟨trivial, by omega⟩]
    · simp only [if_neg (show ¬ (0 < t.size ∧ t.size ≤ 6 ∧ (t.size = 1 ∨ bt t 0 ≠ 48)) from fun e => c e.2.2)]
      rw [if_neg, if_neg (by simp)]
      intro e
      by_cases hu : u = 0
      · have e2 := congrArg ByteArray.size e
        rw [hsz] at e2
        have : (negT u).size = 1 := by rw [negT, if_pos hu, numP, if_pos (by omega), digB_size]
        omega
      · exact c (num_big ((e1 hu).1 e)).2.2
/-- the number that a text tells -/
def parseR (t : ByteArray) : Int × Bool := if 0 < t.size ∧ bt t 0 = 45 then signR (t.extract 1 t.size) else plainR t
theorem plain_45 {t : ByteArray} (h : bt t 0 = 45) (h0 : 0 < t.size) : plainR t = (0, false) := by
  unfold plainR
  have hp : 0 < (bl t).length := by rw [bl_len]; exact h0
  have e := dstep hp 0
  rw [List.drop_zero] at e
  rw [e, if_pos (by simp only [Int.natCast_zero] at *; omega)]
theorem cut_45 {t : ByteArray} (h : bt t 0 = 45) (h0 : 0 < t.size) : t = (⟨#[45]⟩ : ByteArray) ++ t.extract 1 t.size := by
  apply bl_ext
  have hp : 0 < (bl t).length := by rw [bl_len]; exact h0
  rw [bl_app, bl_ext1 t h0]
  have e : (bl t)[0] = 45 := by
    apply UInt8.toNat_inj.1
    have := bt_bl hp
    simp only [Int.natCast_zero] at this
    have h2 : ((bl t)[0].toNat : Int) = 45 := by rw [← this]; exact h
    have : (bl t)[0].toNat = 45 := by omega
    rw [this]; rfl
  have e2 : bl t = (bl t)[0] :: (bl t).drop 1 := by
    have := List.drop_eq_getElem_cons hp
    simpa using this
  rw [← e]
  exact e2
theorem impl_ParseInt.ev (t : ByteArray) : Ev (fun k => impl_ParseInt.f k t) (parseR t) := by
  have plain : ∀ s : Int, s = 1 → Ev (fun k => impl_ParseInt.j0 k t t s false) (plainR t) := fun s hs => by
    subst hs
    rw [← numR_plain]
    refine ev_go (fun k => (impl_number.f k t).bind fun bt155 => (if bt155.2 = true then (if bt155.1 > 999999 then (some (0, false)) else (if bt155.1 = 0 then (if (1 : Int) < 0 then (some (0, false)) else (some (wrap64 (1 * bt155.1), true))) else (some (wrap64 (1 * bt155.1), true)))) else (some (0, false)))) (fun k => ?_) (ev_bind _ (impl_number.ev t) ?_)
    · simp only [impl_ParseInt.j0]; rw [if_neg (by simp)]
    · have hn := numR_ge t
      cases h : numR t with
      | mk v b =>
      rw [h] at hn
      cases b with
      | false => simp only [Bool.false_eq_true, if_false]; exact Ev.now _
      | true =>
        simp only [if_true]
        by_cases c : v > 999999
        · simp only [if_pos c]; exact Ev.now _
        · simp only [if_neg c, Int.one_mul, if_neg (show ¬ (1 : Int) < 0 by omega)]
          rw [wr (x := v) (by omega) (by omega)]
          split <;> exact Ev.now _
  unfold impl_ParseInt.f parseR
  by_cases h0 : 0 < t.size
  · simp only [if_pos (show (t.size : Int) > 0 by omega), if_pos (show 0 < (t.size : Int) by omega)]
    by_cases h1 : bt t 0 = 45
    · rw [if_pos ⟨h0, h1⟩, show (bt t 0 == 45) = true by simpa using h1]
      unfold signR
      rw [← numR_plain]
      refine ev_go (fun k => (impl_number.f k (t.extract 1 t.size)).bind fun bt153 => (if bt153.2 = true then (if bt153.1 > 999999 then (some (0, false)) else (if bt153.1 = 0 then (if (-1 : Int) < 0 then (some (0, false)) else (some (wrap64 ((-1) * bt153.1), true))) else (some (wrap64 ((-1) * bt153.1), true)))) else (some (0, false)))) (fun k => ?_) (ev_bind _ (impl_number.ev _) ?_)
      · simp only [impl_ParseInt.j0]; rw [if_pos trivial, if_pos (by omega)]
      · have hn := numR_ge (t.extract 1 t.size)
        cases h : numR (t.extract 1 t.size) with
        | mk v b =>
        rw [h] at hn
        cases b with
        | false => simp only [Bool.false_eq_true, if_false, false_and]; exact Ev.now _
        | true =>
          simp only [if_true]
          by_cases c : v > 999999
          · simp only [if_pos c, Bool.false_eq_true, false_and, if_false]; exact Ev.now _
          · simp only [if_neg c, if_pos (show (-1 : Int) < 0 by omega)]
            by_cases c0 : v = 0
            · rw [if_pos c0, if_neg (by simp [c0])]; exact Ev.now _
            · rw [if_neg c0, if_pos ⟨trivial, c0⟩, wr (by omega) (by omega), show -1 * v = -v by omega]; exact Ev.now _
    · rw [if_neg (fun e => h1 e.2), show (bt t 0 == 45) = false by simpa using h1]
      exact plain 1 rfl
  · simp only [if_neg (show ¬ (t.size : Int) > 0 by omega)]
    rw [if_neg (fun e => h0 e.1)]
    exact plain 1 rfl
theorem spec_l1Read.ev (t : ByteArray) (ht : t.size ≤ 1000000000000) : Ev (fun k => spec_l1Read.f k t) (parseR t) := by
  have j1 : ∀ x d : ByteArray, d.size ≤ 1000000000000 → Ev (fun k => spec_l1Read.j1 k x d) (if 0 < d.size ∧ d.size ≤ 6 then cmpR x d (dval (bl d) 0) else (0, false)) := fun x d hd => by
    refine ev_go (fun k => (spec_l1In.f (d.size : Int) 1 6).bind fun t157 => (if t157 = true then (spec_l1Read.l0 k x d 0 0) else (some (0, false)))) (fun k => ?_) ?_
    · simp only [spec_l1Read.j1]
    · rw [show spec_l1In.f (d.size : Int) 1 6 = some (decide (0 < d.size ∧ d.size ≤ 6)) by
        unfold spec_l1In.f
        by_cases c : 0 < d.size
        · rw [if_pos (by omega)]
          by_cases c2 : d.size ≤ 6
          · rw [decide_eq_true (show (d.size : Int) ≤ 6 by omega), decide_eq_true ⟨c, c2⟩]
          · rw [decide_eq_false (show ¬ (d.size : Int) ≤ 6 by omega), decide_eq_false (fun e => c2 e.2)]
        · rw [if_neg (by omega), decide_eq_false (fun e => c e.1)]]
      simp only [Option.bind_some]
      by_cases c : 0 < d.size ∧ d.size ≤ 6
      · rw [if_pos c]
        simp only [decide_eq_true c, if_true]
        have := spec_l1Read.scan x d c.2 0 (Nat.zero_le _) 0 (by omega)
        rw [List.drop_zero] at this
        exact this
      · rw [if_neg c]
        simp only [decide_eq_false c, Bool.false_eq_true, if_false]
        exact Ev.now _
  have plain : Ev (fun k => spec_l1Read.j0 k t t false) (plainR t) := by
    refine ev_go (fun k => spec_l1Read.j1 k t t) (fun k => ?_) ?_
    · simp only [spec_l1Read.j0]; rw [if_neg (by simp)]
    · have := j1 t t ht
      by_cases c : 0 < t.size ∧ t.size ≤ 6
      · rw [if_pos c, cmpR_plain t c.1 c.2] at this; exact this
      · rw [if_neg c] at this
        have e : plainR t = (0, false) := by
          unfold plainR
          cases dval (bl t) 0 with
          | none => rfl
          | some u => exact if_neg (fun e => c ⟨e.1, e.2.1⟩)
        rw [e]; exact this
  unfold spec_l1Read.f parseR
  by_cases h0 : 0 < t.size
  · by_cases h1 : bt t 0 = 45
    · rw [if_pos ⟨h0, h1⟩]
      have he := cut_45 h1 h0
      have hsz : (t.extract 1 t.size).size + 1 = t.size := by
        have h5 := congrArg ByteArray.size he
        rw [ByteArray.size_append, sz45] at h5; omega
      by_cases h2 : t.size > 1
      · simp only [if_pos (show (t.size : Int) > 1 by omega), if_pos (show 0 < (t.size : Int) by omega), show (bt t 0 == 45) = true by simpa using h1]
        refine ev_go (fun k => spec_l1Read.j1 k t (t.extract 1 t.size)) (fun k => ?_) ?_
        · simp only [spec_l1Read.j0]; rw [if_pos trivial, if_pos (by omega)]
        · have := j1 t (t.extract 1 t.size) (by omega)
          by_cases c : 0 < (t.extract 1 t.size).size ∧ (t.extract 1 t.size).size ≤ 6
          · rw [if_pos c, cmpR_sign t _ he c.1 c.2] at this; exact this
          · rw [if_neg c] at this
            have e : signR (t.extract 1 t.size) = (0, false) := by
              unfold signR
              have e : plainR (t.extract 1 t.size) = (0, false) := by
                unfold plainR
                cases dval (bl (t.extract 1 t.size)) 0 with
                | none => rfl
                | some u => exact if_neg (fun e => c ⟨e.1, e.2.1⟩)
              rw [e]; simp
            rw [e]; exact this
      · simp only [if_neg (show ¬ (t.size : Int) > 1 by omega)]
        have e : signR (t.extract 1 t.size) = (0, false) := by
          unfold signR
          have e : plainR (t.extract 1 t.size) = (0, false) := by
            unfold plainR
            cases dval (bl (t.extract 1 t.size)) 0 with
            | none => rfl
            | some u => exact if_neg (fun e => by omega)
          rw [e]; simp
        rw [e, ← plain_45 h1 h0]; exact plain
    · rw [if_neg (fun e => h1 e.2)]
      by_cases h2 : t.size > 1
      · simp only [if_pos (show (t.size : Int) > 1 by omega), if_pos (show 0 < (t.size : Int) by omega), show (bt t 0 == 45) = false by simpa using h1]
        exact plain
      · simp only [if_neg (show ¬ (t.size : Int) > 1 by omega)]; exact plain
  · rw [if_neg (fun e => h0 e.1)]
    simp only [if_neg (show ¬ (t.size : Int) > 1 by omega)]; exact plain

def textR (n : Int) : ByteArray := if n < 0 then negT n.natAbs else numP n.natAbs
def formatR (n : Int) : ByteArray × Bool := if -999999 ≤ n ∧ n ≤ 999999 then (textR n, true) else (⟨#[]⟩, false)
theorem impl_text.all (n : Int) (h : -999999 ≤ n ∧ n ≤ 999999) : Ev (fun k => impl_text.f k n) (textR n) := by
  unfold textR
  by_cases c : n < 0
  · rw [if_pos c]
    have := impl_text.neg n.natAbs (by omega)
    rwa [show -(n.natAbs : Int) = n by omega] at this
  · rw [if_neg c]
    have := impl_text.ev n.natAbs (by omega)
    rwa [show (n.natAbs : Int) = n by omega] at this
theorem spec_l1Num.all (n : Int) (h : -999999 ≤ n ∧ n ≤ 999999) : Ev (fun k => spec_l1Num.f k n) (textR n) := by
  unfold textR
  by_cases c : n < 0
  · rw [if_pos c]
    have := spec_l1Num.neg n.natAbs (by omega)
    rwa [show -(n.natAbs : Int) = n by omega] at this
  · rw [if_neg c]
    have := spec_l1Num.ev n.natAbs (by omega)
    rwa [show (n.natAbs : Int) = n by omega] at this
theorem format_both (n : Int) : Ev (fun k => impl_FormatInt.f k n) (formatR n) ∧ Ev (fun k => spec_FormatInt.f k n) (formatR n) := by
  unfold impl_FormatInt.f spec_FormatInt.f formatR
  rw [impl_within.eq, spec_l1In.eq]
  simp only [Option.bind_some]
  by_cases c : -999999 ≤ n ∧ n ≤ 999999
  · rw [if_pos c]
    simp only [decide_eq_true c, if_true]
    exact ⟨ev_bind _ (impl_text.all n c) (Ev.now _), ev_bind _ (spec_l1Num.all n c) (Ev.now _)⟩
  · rw [if_neg c]
    simp only [decide_eq_false c, Bool.false_eq_true, if_false]
    exact ⟨Ev.now _, Ev.now _⟩
theorem plain_num (m : Nat) (h : m < 1000000) : plainR (numP m) = ((m : Int), true) := by
  obtain ⟨h0, h1, h2⟩ := num_big (u := m) rfl
  unfold plainR
  rw [h1]
  exact if_pos ⟨h0, numP_small h, h2⟩
theorem parse_text (n : Int) (h : -999999 ≤ n ∧ n ≤ 999999) : parseR (textR n) = (n, true) := by
  have pos : ∀ m : Nat, m < 1000000 → parseR (numP m) = ((m : Int), true) := fun m hm => by
    unfold parseR
    rw [if_neg, plain_num m hm]
    rintro ⟨h0, h1⟩
    have := plain_45 h1 h0
    rw [plain_num m hm] at this
    simp at this
  unfold textR
  by_cases c : n < 0
  · rw [if_pos c]
    obtain ⟨m, hm⟩ : ∃ m, n.natAbs = m := ⟨_, rfl⟩
    rw [hm]
    have hu : m ≠ 0 := by omega
    unfold negT
    rw [if_neg hu]
    have hz : ((⟨#[45]⟩ : ByteArray) ++ numP m).size = 1 + (numP m).size := by rw [ByteArray.size_append, sz45]
    have hb : bl ((⟨#[45]⟩ : ByteArray) ++ numP m) = 45 :: bl (numP m) := by rw [bl_app]; rfl
    have e45 : bt ((⟨#[45]⟩ : ByteArray) ++ numP m) 0 = 45 := by
      have hp : 0 < (bl ((⟨#[45]⟩ : ByteArray) ++ numP m)).length := by rw [hb]; simp
      have := bt_bl hp
      simp only [hb, List.getElem_cons_zero] at this
      exact this
    have ext : ((⟨#[45]⟩ : ByteArray) ++ numP m).extract 1 ((⟨#[45]⟩ : ByteArray) ++ numP m).size = numP m := by
      apply bl_ext
      rw [bl_ext1 _ (by omega), hb]; rfl
    unfold parseR
    rw [if_pos ⟨by omega, e45⟩, ext]
    unfold signR
    rw [plain_num m (by omega)]
    rw [if_pos ⟨rfl, by simp; omega⟩]
    simp; omega
  · rw [if_neg c, pos _ (by omega)]
    simp; omega

def csum : List UInt8 → Nat → Nat
  | [], v => v
  | b :: l, v => csum l ((41 * v + b.toNat + 1) % 999979)
theorem csum_lt : ∀ (l : List UInt8) (v : Nat), v < 999979 → csum l v < 999979
  | [], _, h => h
  | b :: l, v, _ => csum_lt l _ (Nat.mod_lt _ (by omega))
theorem csum_inj : ∀ (l : List UInt8) (s t : Nat), s < 999979 → t < 999979 → s ≠ t → csum l s ≠ csum l t
  | [], _, _, _, _, h => h
  | b :: l, s, t, hs, ht, h => by
    rw [csum, csum]
    refine csum_inj l _ _ (Nat.mod_lt _ (by omega)) (Nat.mod_lt _ (by omega)) ?_
    generalize b.toNat = c
    omega
theorem csum_diff : ∀ (l m : List UInt8) (v i : Nat), v < 999979 → l.length = m.length → (∀ j, j ≠ i → l[j]? = m[j]?) → l[i]? ≠ m[i]? → csum l v ≠ csum m v
  | [], m, _, _, _, hl, _, hne => by
    have : m = [] := List.length_eq_zero_iff.1 hl.symm
    subst this; exact absurd rfl hne
  | b :: l, [], _, _, _, hl, _, _ => absurd hl (by simp)
  | b :: l, c :: m, v, 0, hv, hl, he, hne => by
    have e : l = m := List.ext_getElem? fun j => by simpa using he (j + 1) (by omega)
    subst e
    rw [csum, csum]
    refine csum_inj l _ _ (Nat.mod_lt _ (by omega)) (Nat.mod_lt _ (by omega)) ?_
    have h1 : b ≠ c := fun e => hne (by rw [e])
    have h2 : b.toNat ≠ c.toNat := fun e => h1 (UInt8.toNat_inj.1 e)
    have h3 := b.toNat_lt
    have h4 := c.toNat_lt
    omega
  | b :: l, c :: m, v, i + 1, hv, hl, he, hne => by
    have e : b = c := by simpa using he 0 (by omega)
    subst e
    rw [csum, csum]
    exact csum_diff l m _ i (Nat.mod_lt _ (by omega)) (by simpa using hl) (fun j hj => by simpa using he (j + 1) (by omega)) (by simpa using hne)
theorem sum_nat {a b : Nat} (ha : a < 999979) (hb : b < 256) : Int.tmod (wrap64 (wrap64 (wrap64 (41 * (a : Int)) + wrap64 (b : Int)) + 1)) 999979 = (((41 * a + b + 1) % 999979 : Nat) : Int) := by
  rw [wr (x := 41 * (a : Int)) (by omega) (by omega), wr (x := (b : Int)) (by omega) (by omega), wr (x := 41 * (a : Int) + b) (by omega) (by omega), wr (by omega) (by omega), Int.tmod_eq_emod_of_nonneg (by omega)]
  omega
theorem sum_scan (s : ByteArray) (hs : s.size ≤ 1000000000000) : ∀ i, i ≤ s.size → ∀ v : Nat, v < 999979 → Ev (fun k => impl_Checksum.l0 k s (v : Int) (i : Int)) ((csum ((bl s).drop i) v : Int), true) ∧ Ev (fun k => spec_l1Sum.l0 k s (v : Int) (i : Int)) (csum ((bl s).drop i) v : Int) := by
  refine rev_ind s.size (fun v hv => ?_) (fun i hi ih v hv => ?_)
  · rw [List.drop_of_length_le (by rw [bl_len]; exact Nat.le_refl _), csum]
    refine ⟨ev_stop fun k => ?_, ev_stop fun k => ?_⟩
    · simp only [impl_Checksum.l0]; rw [if_neg (by omega)]
    · simp only [spec_l1Sum.l0]; rw [if_neg (by omega)]
  · have hi' : i < (bl s).length := by rw [bl_len]; exact hi
    rw [List.drop_eq_getElem_cons hi', csum]
    have hb := (bl s)[i].toNat_lt
    obtain ⟨h1, h2⟩ := ih ((41 * v + (bl s)[i].toNat + 1) % 999979) (Nat.mod_lt _ (by omega))
    rw [← sum_nat hv (by omega), ← bt_bl hi'] at h1 h2
    refine ⟨ev_go _ (fun k => ?_) h1, ev_go _ (fun k => ?_) h2⟩
    · simp only [impl_Checksum.l0]; rw [if_pos (by omega), if_pos (by omega), wr1 (by omega)]
    · simp only [spec_l1Sum.l0]; rw [if_pos (by omega), if_pos (by omega), wr1 (by omega)]
theorem impl_Checksum.ev (s : ByteArray) (hs : s.size ≤ 4000) : Ev (fun k => impl_Checksum.f k s) ((csum (bl s) 7 : Int), true) := by
  have h := (sum_scan s (by omega) 0 (Nat.zero_le _) 7 (by omega)).1
  rw [List.drop_zero] at h
  unfold impl_Checksum.f
  simp only [if_neg (show ¬ (s.size : Int) > 4000 by omega)]
  exact h
theorem spec_l1Sum.ev (s : ByteArray) (hs : s.size ≤ 1000000000000) : Ev (fun k => spec_l1Sum.f k s) (csum (bl s) 7 : Int) := by
  have h := (sum_scan s hs 0 (Nat.zero_le _) 7 (by omega)).2
  rw [List.drop_zero] at h
  exact h

theorem s35 : (⟨#[35]⟩ : ByteArray).size = 1 := rfl
def sealT (x : ByteArray) : ByteArray := (x ++ (⟨#[35]⟩ : ByteArray)) ++ numP (csum (bl x) 7)
def SealOk (x : ByteArray) : Prop := x.size ≤ 4000 ∧ Free35 x ∧ (sealT x).size ≤ 4000
theorem csum7 (x : ByteArray) : csum (bl x) 7 < 999979 := csum_lt _ _ (by omega)
theorem sealT_size (x : ByteArray) : (sealT x).size = x.size + 1 + (numP (csum (bl x) 7)).size := by
  unfold sealT; rw [ByteArray.size_append, ByteArray.size_append, s35]
theorem append_both (x : ByteArray) (hx : x.size ≤ 1000000000) : ∃ r b, Ev (fun k => impl_AppendChecksum.f k x) (r, b) ∧ Ev (fun k => spec_AppendChecksum.f k x) (r, b) ∧ (b = true ↔ SealOk x) ∧ (b = true → r = sealT x) ∧ (b = false → r = ⟨#[]⟩) := by
  have hn := numP_small (n := csum (bl x) 7) (by have := csum7 x; omega)
  have hz := sealT_size x
  have h35 : (x ++ (⟨#[35]⟩ : ByteArray)).size = x.size + 1 := by rw [ByteArray.size_append, s35]
  unfold impl_AppendChecksum.f spec_AppendChecksum.f
  by_cases h4 : x.size ≤ 4000
  · simp only [if_neg (show ¬ (x.size : Int) > 4000 by omega)]
    have hsum := impl_Checksum.ev x h4
    have htext := impl_text.ev (csum (bl x) 7) (by have := csum7 x; omega)
    have hst := spec_l1Stands.ev x 35 (by omega)
    have hsp := impl_split.ev x 35 (by omega)
    by_cases hf : Free35 x
    · have one : (splitP x 35 0 0).length = 1 := (splitP_one x 35 0 (Nat.zero_le _) 0).2 (fun j _ hj => bt_of_free hf j hj)
      have hst0 : ¬ ∃ i, i < x.size ∧ bt x (i : Int) = 35 := fun ⟨i, h1, h2⟩ => bt_of_free hf i h1 h2
      have hseal : Ev (fun k => spec_l1Seal.f k x) (sealT x) := by
        unfold spec_l1Seal.f
        simp only [if_pos (show x.size + 1 ≤ 9223372036854775807 by omega)]
        refine ev_bind _ (spec_l1Sum.ev x (by omega)) (ev_bind _ (spec_l1Num.ev _ (by have := csum7 x; omega)) ?_)
        simp only [if_pos (show (x ++ (⟨#[35]⟩ : ByteArray)).size + (numP (csum (bl x) 7)).size ≤ 9223372036854775807 by omega)]
        exact Ev.now _
      by_cases hS : (sealT x).size ≤ 4000
      · refine ⟨sealT x, true, ev_bind _ hsum ?_, evB_bind hst (fun h => absurd h hst0) (fun _ => ?_), ⟨fun _ => ⟨h4, hf, hS⟩, fun _ => rfl⟩, fun _ => rfl, fun h => absurd h (by simp)⟩
        · simp only [if_pos (show x.size + 1 ≤ 9223372036854775807 by omega)]
          refine ev_bind _ htext ?_
          simp only [if_pos (show (x ++ (⟨#[35]⟩ : ByteArray)).size + (numP (csum (bl x) 7)).size ≤ 9223372036854775807 by omega), if_true]
          refine ev_bind _ hsp ?_
          simp only [if_neg (show ¬ ((splitP x 35 0 0).length : Int) > 1 by omega)]
          rw [show ((x ++ (⟨#[35]⟩ : ByteArray)) ++ numP (csum (bl x) 7)) = sealT x from rfl]
          simp only [if_neg (show ¬ ((sealT x).size : Int) > 4000 by omega)]
          exact Ev.now _
        · simp only [Bool.false_eq_true, if_false]
          refine ev_bind _ hseal ?_
          simp only [if_neg (show ¬ ((sealT x).size : Int) > 4000 by omega)]
          exact ev_bind _ hseal (Ev.now _)
      · refine ⟨⟨#[]⟩, false, ev_bind _ hsum ?_, evB_bind hst (fun h => absurd h hst0) (fun _ => ?_), ⟨fun h => absurd h (by simp), fun h => absurd h.2.2 hS⟩, fun h => absurd h (by simp), fun _ => rfl⟩
        · simp only [if_pos (show x.size + 1 ≤ 9223372036854775807 by omega)]
          refine ev_bind _ htext ?_
          simp only [if_pos (show (x ++ (⟨#[35]⟩ : ByteArray)).size + (numP (csum (bl x) 7)).size ≤ 9223372036854775807 by omega), if_true]
          refine ev_bind _ hsp ?_
          simp only [if_neg (show ¬ ((splitP x 35 0 0).length : Int) > 1 by omega)]
          rw [show ((x ++ (⟨#[35]⟩ : ByteArray)) ++ numP (csum (bl x) 7)) = sealT x from rfl]
          simp only [if_pos (show ((sealT x).size : Int) > 4000 by omega)]
          exact Ev.now _
        · simp only [Bool.false_eq_true, if_false]
          refine ev_bind _ hseal ?_
          simp only [if_pos (show ((sealT x).size : Int) > 4000 by omega)]
          exact Ev.now _
    · have hst1 : ∃ i, i < x.size ∧ bt x (i : Int) = 35 := Classical.byContradiction fun h => hf (free_of_bt fun j hj e => h ⟨j, hj, e⟩)
      have many : ¬ (splitP x 35 0 0).length = 1 := fun h => hf (free_of_bt fun j hj => (splitP_one x 35 0 (Nat.zero_le _) 0).1 h j (Nat.zero_le _) hj)
      have hpos := splitP_pos x 35 0 (Nat.zero_le _) 0
      refine ⟨⟨#[]⟩, false, ev_bind _ hsum ?_, evB_bind hst (fun _ => ?_) (fun h => absurd hst1 h), ⟨fun h => absurd h (by simp), fun h => absurd h.2.1 hf⟩, fun h => absurd h (by simp), fun _ => rfl⟩
      · simp only [if_pos (show x.size + 1 ≤ 9223372036854775807 by omega)]
        refine ev_bind _ htext ?_
        simp only [if_pos (show (x ++ (⟨#[35]⟩ : ByteArray)).size + (numP (csum (bl x) 7)).size ≤ 9223372036854775807 by omega), if_true]
        refine ev_bind _ hsp ?_
        simp only [if_pos (show ((splitP x 35 0 0).length : Int) > 1 by omega)]
        exact Ev.now _
      · simp only [if_true]; exact Ev.now _
  · simp only [if_pos (show (x.size : Int) > 4000 by omega)]
    refine ⟨⟨#[]⟩, false, ev_bind (0, false) ?_ ?_, Ev.now _, ⟨fun h => absurd h (by simp), fun h => absurd h.1 h4⟩, fun h => absurd h (by simp), fun _ => rfl⟩
    · unfold impl_Checksum.f
      simp only [if_pos (show (x.size : Int) > 4000 by omega)]
      exact Ev.now _
    · simp only [if_pos (show x.size + 1 ≤ 9223372036854775807 by omega)]
      have h0 := impl_text.ev 0 (by omega)
      have hn0 := numP_small (n := 0) (by omega)
      refine ev_bind _ h0 ?_
      simp only [if_pos (show (x ++ (⟨#[35]⟩ : ByteArray)).size + (numP 0).size ≤ 9223372036854775807 by omega), Bool.false_eq_true, if_false]
      exact Ev.now _
theorem verify_ev (y : ByteArray) : ∃ z b, Ev (fun k => impl_VerifyChecksum.f k y) (z, b) ∧ (b = true → ∃ x, SealOk x ∧ y = sealT x) ∧ (∀ x, SealOk x → y = sealT x → rdOf ByteArray.empty (splitP y 35 0 0) 0 = x → z = x ∧ b = true) := by
  unfold impl_VerifyChecksum.f
  by_cases h4 : y.size ≤ 4000
  · simp only [if_neg (show ¬ (y.size : Int) > 4000 by omega)]
    have hpos := splitP_pos y 35 0 (Nat.zero_le _) 0
    have hh := head_size y 35
    obtain ⟨p, hp⟩ : ∃ p, rdOf ByteArray.empty (splitP y 35 0 0) 0 = p := ⟨_, rfl⟩
    rw [hp] at hh
    obtain ⟨r, b, e1, _, e3, e4, e5⟩ := append_both p (by omega)
    have main : ∀ z b', Ev (fun k => (impl_AppendChecksum.f k p).bind fun bt202 => (if bt202.2 = true then (if bt202.1.toList = y.toList then (some (p, true)) else (some ((⟨#[]⟩ : ByteArray), false))) else (some ((⟨#[]⟩ : ByteArray), false)))) (z, b') → Ev (fun k => (impl_split.f k y 35).bind fun t198 => (if 0 < (t198.length : Int) then ((impl_AppendChecksum.f k (rdOf ByteArray.empty t198 0)).bind fun bt202 => (if bt202.2 = true then (if bt202.1.toList = y.toList then (some (rdOf ByteArray.empty t198 0, true)) else (some ((⟨#[]⟩ : ByteArray), false))) else (some ((⟨#[]⟩ : ByteArray), false)))) else (none))) (z, b') := fun z b' h => by
      refine ev_bind _ (impl_split.ev y 35 (by omega)) ?_
      simp only [if_pos (show 0 < ((splitP y 35 0 0).length : Int) by omega), hp]
      exact h
    by_cases hb : b = true ∧ r = y
    · obtain ⟨hb1, hb2⟩ := hb
      refine ⟨p, true, main _ _ (ev_bind _ e1 ?_), fun _ => ⟨p, e3.1 hb1, by rw [← hb2]; exact e4 hb1⟩, fun x _ _ hx => ⟨by rw [hp] at hx; exact hx, rfl⟩⟩
      simp only [if_pos hb1, if_pos ((tl_iff _ _).2 hb2)]
      exact Ev.now _
    · refine ⟨⟨#[]⟩, false, main _ _ (ev_bind _ e1 ?_), fun h => absurd h (by simp), fun x hx hy hpx => ?_⟩
      · by_cases hb1 : b = true
        · simp only [if_pos hb1, if_neg (fun e => hb ⟨hb1, (tl_iff _ _).1 e⟩)]
          exact Ev.now _
        · simp only [if_neg hb1]; exact Ev.now _
      · exfalso
        rw [hp] at hpx
        subst hpx
        have hb1 := e3.2 hx
        exact hb ⟨hb1, by rw [e4 hb1, hy]⟩
  · simp only [if_pos (show (y.size : Int) > 4000 by omega)]
    refine ⟨⟨#[]⟩, false, Ev.now _, fun h => absurd h (by simp), fun x hx hy _ => ?_⟩
    exfalso; have := hx.2.2; rw [← hy] at this; omega
theorem bl_seal (x : ByteArray) : bl (sealT x) = bl x ++ 35 :: bl (numP (csum (bl x) 7)) := by
  unfold sealT; rw [bl_app, bl_app, List.append_assoc]; rfl
theorem fstI_at {s : ByteArray} {m : Nat} {b : Int} (hm : m < s.size) (hb : bt s (m : Int) = b) (hlt : ∀ j, j < m → bt s (j : Int) ≠ b) : ∀ i, i ≤ m → fstI s b i = m := by
  refine rev_ind m ?_ (fun i hi ih => ?_)
  · rw [fstI, if_pos hm, if_pos hb]
  · rw [fstI, if_pos (by omega), if_neg (hlt i hi)]; exact ih
theorem seal_at (x : ByteArray) (hf : Free35 x) (j : Nat) : (bl (sealT x))[j]? = some 35 ↔ j = x.size := by
  rw [bl_seal]
  have hl := bl_len x
  constructor
  · intro h
    rcases Nat.lt_trichotomy j x.size with c | c | c
    · rw [List.getElem?_append_left (by omega)] at h
      exact absurd rfl (hf _ (List.mem_of_getElem? h))
    · exact c
    · rw [List.getElem?_append_right (by omega), show j - (bl x).length = (j - (bl x).length - 1) + 1 by omega, List.getElem?_cons_succ] at h
      exact absurd rfl (free_num _ _ (List.mem_of_getElem? h))
  · intro h
    rw [List.getElem?_append_right (by omega), h, show x.size - (bl x).length = 0 by omega]; rfl
theorem seal_head (x : ByteArray) (hf : Free35 x) : rdOf ByteArray.empty (splitP (sealT x) 35 0 0) 0 = x := by
  have hz := sealT_size x
  have hl := bl_len (sealT x)
  have at_ : ∀ j (h : j < (sealT x).size), bt (sealT x) (j : Int) = 35 ↔ j = x.size := fun j h => by
    have hj : j < (bl (sealT x)).length := by omega
    rw [bt_bl hj, ← seal_at x hf j, List.getElem?_eq_getElem hj]
    constructor
    · intro e
      have : (bl (sealT x))[j].toNat = 35 := by omega
      rw [show (bl (sealT x))[j] = 35 from UInt8.toNat_inj.1 (by rw [this]; rfl)]
    · intro e
      injection e with e
      rw [e]; rfl
  have hfst := fstI_at (s := sealT x) (m := x.size) (b := 35) (by omega) ((at_ _ (by omega)).2 rfl) (fun j hj e => by have := (at_ j (by omega)).1 e; omega) 0 (Nat.zero_le _)
  obtain ⟨r, h, _⟩ := splitP_head (sealT x) 35 0 (Nat.zero_le _) 0
  rw [h, hfst]
  show (sealT x).extract 0 x.size = x
  apply bl_ext
  have e1 : bl ((sealT x).extract 0 x.size) = (bl (sealT x)).take x.size := by
    unfold bl
    rw [ByteArray.data_extract, Array.toList_extract]
    simp [List.extract_eq_take_drop]
  rw [e1, bl_seal, List.take_append_of_le_length (by rw [bl_len]; exact Nat.le_refl _), List.take_of_length_le (by rw [bl_len]; exact Nat.le_refl _)]
theorem seal_diff {x z : ByteArray} {i : Nat} (hx : Free35 x) (hz : Free35 z) (he : ∀ j, j ≠ i → (bl (sealT x))[j]? = (bl (sealT z))[j]?) (hne : (bl (sealT x))[i]? ≠ (bl (sealT z))[i]?) : False := by
  have lx := bl_len x
  have lz := bl_len z
  by_cases hp : x.size = z.size
  · have low : ∀ j, j < x.size → (bl (sealT x))[j]? = (bl x)[j]? ∧ (bl (sealT z))[j]? = (bl z)[j]? := fun j hj => by
      rw [bl_seal, bl_seal, List.getElem?_append_left (by omega), List.getElem?_append_left (by omega)]; exact ⟨rfl, rfl⟩
    have high : ∀ j, (bl (sealT x))[x.size + 1 + j]? = (bl (numP (csum (bl x) 7)))[j]? ∧ (bl (sealT z))[x.size + 1 + j]? = (bl (numP (csum (bl z) 7)))[j]? := fun j => by
      rw [bl_seal, bl_seal, List.getElem?_append_right (by omega), List.getElem?_append_right (by omega), show x.size + 1 + j - (bl x).length = j + 1 by omega, show x.size + 1 + j - (bl z).length = j + 1 by omega, List.getElem?_cons_succ, List.getElem?_cons_succ]
      exact ⟨rfl, rfl⟩
    by_cases hi : i < x.size
    · have hc := csum_diff (bl x) (bl z) 7 i (by omega) (by omega) (fun j hj => by
        by_cases hjx : j < x.size
        · rw [← (low j hjx).1, ← (low j hjx).2]; exact he j hj
        · rw [List.getElem?_eq_none (by omega), List.getElem?_eq_none (by omega)]) (by rw [← (low i hi).1, ← (low i hi).2]; exact hne)
      apply hc
      apply num_inj
      apply bl_ext
      apply List.ext_getElem?
      intro j
      rw [← (high j).1, ← (high j).2]
      exact he _ (by omega)
    · have e : x = z := by
        apply bl_ext
        apply List.ext_getElem?
        intro j
        by_cases hjx : j < x.size
        · rw [← (low j hjx).1, ← (low j hjx).2]; exact he j (by omega)
        · rw [List.getElem?_eq_none (by omega), List.getElem?_eq_none (by omega)]
      exact hne (by rw [e])
  · have h1 := (seal_at x hx x.size).2 rfl
    have h2 : (bl (sealT z))[x.size]? ≠ some 35 := fun e => hp ((seal_at z hz x.size).1 e)
    have i1 : x.size = i := Classical.byContradiction fun h => h2 (by rw [← he _ h]; exact h1)
    have h3 := (seal_at z hz z.size).2 rfl
    have h4 : (bl (sealT x))[z.size]? ≠ some 35 := fun e => hp ((seal_at x hx z.size).1 e).symm
    have i2 : z.size = i := Classical.byContradiction fun h => h4 (by rw [he _ h]; exact h3)
    omega

theorem bl_str (l : List Int) : bl (strOfNums l) = l.map fun n => UInt8.ofNat n.toNat := rfl
theorem u8_wrap (n : Int) : IntKind.u8.wrap n = n % 256 := by simp [IntKind.wrap, IntKind.bits, IntKind.signed]
theorem xor_ne {a v : Nat} (ha : a < 256) (hv : 0 < v ∧ v < 256) : Go.bits .xor .u8 (a : Int) (v : Int) ≠ (a : Int) ∧ 0 ≤ Go.bits .xor .u8 (a : Int) (v : Int) ∧ Go.bits .xor .u8 (a : Int) (v : Int) < 256 := by
  unfold Go.bits
  show IntKind.u8.wrap ((BitVec.ofInt 8 (a : Int) ^^^ BitVec.ofInt 8 (v : Int)).toNat : Int) ≠ (a : Int) ∧ 0 ≤ IntKind.u8.wrap ((BitVec.ofInt 8 (a : Int) ^^^ BitVec.ofInt 8 (v : Int)).toNat : Int) ∧ IntKind.u8.wrap ((BitVec.ofInt 8 (a : Int) ^^^ BitVec.ofInt 8 (v : Int)).toNat : Int) < 256
  rw [u8_wrap]
  have hlt := (BitVec.ofInt 8 (a : Int) ^^^ BitVec.ofInt 8 (v : Int)).isLt
  refine ⟨fun h => ?_, by omega, by omega⟩
  have h1 : (BitVec.ofInt 8 (a : Int) ^^^ BitVec.ofInt 8 (v : Int)).toNat = a := by omega
  have h2 : BitVec.ofInt 8 (a : Int) ^^^ BitVec.ofInt 8 (v : Int) = BitVec.ofInt 8 (a : Int) := by
    apply BitVec.eq_of_toNat_eq
    rw [h1, BitVec.toNat_ofInt]
    omega
  have h3 : BitVec.ofInt 8 (v : Int) = 0#8 := by
    have := congrArg (BitVec.ofInt 8 (a : Int) ^^^ ·) h2
    simp only [← BitVec.xor_assoc, BitVec.xor_self, BitVec.zero_xor] at this
    exact this
  have h4 := congrArg BitVec.toNat h3
  rw [BitVec.toNat_ofInt] at h4
  simp at h4
  omega
theorem flip_ne (y : ByteArray) (ix v : Int) (hx : 0 ≤ ix ∧ ix < (y.size : Int)) (hv : 0 < v ∧ v < 256) : (∀ j, j ≠ ix.toNat → (bl y)[j]? = (bl (flipAt y ix v))[j]?) ∧ (bl y)[ix.toNat]? ≠ (bl (flipAt y ix v))[ix.toNat]? := by
  have hl := bl_len y
  have hi : ix.toNat < (bl y).length := by omega
  have e : bl (flipAt y ix v) = (bl y).set ix.toNat (UInt8.ofNat (Go.bits .xor .u8 (rd (bytesOf y) ix) v).toNat) := by
    unfold flipAt
    rw [bl_str, List.map_set]
    congr 1
    unfold bytesOf
    rw [List.map_map]
    show List.map _ (bl y) = bl y
    conv => rhs; rw [← List.map_id (bl y)]
    apply List.map_congr_left
    intro b _
    simp
  rw [e]
  refine ⟨fun j hj => ?_, ?_⟩
  · rw [List.getElem?_set_ne (fun h => hj h.symm)]
  · rw [List.getElem?_set_self hi, List.getElem?_eq_getElem hi]
    intro h
    injection h with h
    have hb := (bl y)[ix.toNat].toNat_lt
    have hrd : rd (bytesOf y) ix = ((bl y)[ix.toNat].toNat : Int) := by
      rw [rd_bytesOf, ← bt_bl hi]
      congr 1; omega
    rw [hrd] at h
    obtain ⟨h1, h2, h3⟩ := xor_ne (a := (bl y)[ix.toNat].toNat) (v := v.toNat) (by omega) (by omega)
    rw [show ((v.toNat : Nat) : Int) = v by omega] at h1 h2 h3
    generalize Go.bits .xor .u8 ((bl y)[ix.toNat].toNat : Int) v = w at h h1 h2 h3
    have h5 := congrArg UInt8.toNat h
    rw [UInt8.toNat_ofNat'] at h5
    omega

end Go.Proofs.Ytphgpffgidfmmaa.Pure
