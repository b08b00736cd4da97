/- Proved here: what functions that the law FnExactOpenSchedule reaches answer (sumW, spec_l8Sum, spec_l1MostK, impl_isShopOf, colsF, spec_l8Column, spec_l8Load). Conditions: those that each theorem names. -/
import Derived.Test.YtbblhmpcpmamfaaQFnExactOpenSchedulej
set_option linter.unusedVariables false
set_option linter.unusedSimpArgs false
namespace Go.Proofs.Ytbblhmpcpmamfaa.Pure
open Go.RowKit Go.Proofs.Ytbblhmpcpmamfaa.XFnExactOpenSchedule Go.Proofs.YtbblhmpcpmamfaaW.PrintWords Go.Proofs.YtbblhmpcpmamfaaW.PrintLast

def sumW : List Int → Int → Int
  | [], a => a
  | x :: xs, a => sumW xs (wrap64 (a + x))
def mxW : List Int → Int → Int
  | [], a => a
  | x :: xs, a => mxW xs (mx a x)
theorem mx_eq (a b : Int) : mx a b = if a ≤ b then b else a := by unfold mx; split <;> split <;> omega
theorem mxW_mx : ∀ (l : List Int) (a b : Int), mxW l (mx a b) = mx a (mxW l b)
  | [], _, _ => rfl
  | x :: l, a, b => by
    rw [mxW, mxW, ← mxW_mx l a]
    congr 1
    unfold mx
    repeat' split
    all_goals omega
theorem mxW_ge : ∀ (l : List Int) (a : Int), a ≤ mxW l a
  | [], _ => Int.le_refl _
  | x :: l, a => by
    rw [mxW]
    refine Int.le_trans ?_ (mxW_ge l _)
    unfold mx; split <;> omega
theorem mxW_app : ∀ (l m : List Int) (a : Int), mxW (l ++ m) a = mxW m (mxW l a)
  | [], _, _ => rfl
  | x :: l, m, a => by rw [List.cons_append, mxW, mxW, mxW_app]
theorem mxW_two (l m : List Int) : mxW m (mxW l 0) = mx (mxW m 0) (mxW l 0) := by
  have h : mxW l 0 = mx (mxW l 0) 0 := by have := mxW_ge l 0; unfold mx; split <;> omega
  rw [h, mxW_mx, ← h]
  unfold mx; split <;> split <;> omega

theorem spec_l8Sum.ev (l : List Int) (hl : l.length ≤ 1000000000000) : Ev (fun k => spec_l8Sum.f k l) (sumW l 0) := by
  have key := rev_ind (P := fun i => ∀ s, Ev (fun k => spec_l8Sum.l0 k l s (i : Int)) (sumW (l.drop i) s)) l.length ?_ ?_ 0 (Nat.zero_le _) 0
  · simpa [spec_l8Sum.f] using key
  · intro s
    refine ev_stop fun k => ?_
    simp only [spec_l8Sum.l0]; rw [if_neg (by omega), List.drop_length]; rfl
  · intro i hi ih s
    rw [drop_cons hi, sumW]
    refine ev_go _ (fun k => ?_) (ih _)
    simp only [spec_l8Sum.l0]; rw [if_pos (by omega), if_pos (by omega), rd_nat hi, wr1 (by omega)]

theorem spec_l1Most.eqk (a b : Int) : spec_l1Most.f a b = some (mx a b) := by
  unfold spec_l1Most.f mx; split <;> split <;> first | rfl | omega | (congr 1; omega)

theorem impl_isShopOf.ev (l : List (List Int)) (a : Int) (hr : ∀ y ∈ l, y.length ≤ 1000000000000000) : EvB (fun k => impl_isShopOf.f k l a) (ShopOk l ∧ (0 < l.length → (machP l : Int) = a)) := by
  unfold impl_isShopOf.f
  have e := impl_isShop.ev l hr
  by_cases h : ShopOk l
  · by_cases h0 : l.length = 0
    · refine evB_of (fun _ => evB_bind e (fun _ => ?_) (fun hn => absurd h hn)) (fun hn => absurd ⟨h, fun h1 => absurd h1 (by omega)⟩ hn)
      simp only [if_true]; rw [show (fun _ : Nat => if (l.length : Int) = 0 then some true else if 0 < (l.length : Int) then some ((((rd_L1 l 0).length : Nat) : Int) == a) else none) = fun _ => some true from funext fun _ => by rw [if_pos (by omega)]]
      exact Ev.now _
    · have hv : ∀ c, (c = true ↔ (machP l : Int) = a) → Ev (fun k => (impl_isShop.f k l).bind fun t137 => if t137 = true then if (l.length : Int) = 0 then some true else if 0 < (l.length : Int) then some ((((rd_L1 l 0).length : Nat) : Int) == a) else none else some false) c := by
        intro c hc
        refine evB_bind e (fun _ => ?_) (fun hn => absurd h hn)
        simp only [if_true]
        rw [show (fun _ : Nat => if (l.length : Int) = 0 then some true else if 0 < (l.length : Int) then some ((((rd_L1 l 0).length : Nat) : Int) == a) else none) = fun _ => some c from funext fun _ => by
          rw [if_neg (by omega), if_pos (by omega), rdL_zero (by omega), ← machP_cons (by omega)]
          congr 1
          rw [Bool.eq_iff_iff, hc]; simp]
        exact Ev.now _
      refine evB_of (fun h' => hv true (by simp [h'.2 (by omega)])) (fun h' => hv false ?_)
      simp only [Bool.false_eq_true, false_iff]
      exact fun hh => h' ⟨h, fun _ => hh⟩
  · refine evB_of (fun h' => absurd h'.1 h) (fun _ => evB_bind e (fun h' => absurd h' h) (fun _ => ?_))
    simp only [Bool.false_eq_true, if_false]; exact Ev.now _

def colW : List (List Int) → Int → Int → Int
  | [], _, a => a
  | r :: rs, j, a => colW rs j (wrap64 (a + rd r j))
def addRow (c r : List Int) : List Int := List.zipWith (fun a b => wrap64 (a + b)) c r
def colsF : List (List Int) → List Int → List Int
  | [], c => c
  | r :: rs, c => colsF rs (addRow c r)
theorem addRow_len {c r : List Int} (h : r.length = c.length) : (addRow c r).length = c.length := by simp [addRow, h]
theorem colsF_len : ∀ (l : List (List Int)) (c : List Int), (∀ r ∈ l, r.length = c.length) → (colsF l c).length = c.length
  | [], _, _ => rfl
  | r :: rs, c, h => by
    have hr := h r List.mem_cons_self
    rw [colsF, colsF_len rs _ (fun s hs => by rw [addRow_len hr]; exact h s (List.mem_cons_of_mem _ hs)), addRow_len hr]
theorem colsF_get : ∀ (l : List (List Int)) (c : List Int) (j : Nat), (∀ r ∈ l, r.length = c.length) → j < c.length → rd (colsF l c) (j : Int) = colW l (j : Int) (rd c (j : Int))
  | [], _, _, _, _ => rfl
  | r :: rs, c, j, h, hj => by
    have hr := h r List.mem_cons_self
    rw [colsF, colsF_get rs _ j (fun s hs => by rw [addRow_len hr]; exact h s (List.mem_cons_of_mem _ hs)) (by rw [addRow_len hr]; exact hj), colW]
    congr 1
    rw [rd_nat (by rw [addRow_len hr]; exact hj), rd_nat hj, rd_nat (by omega)]
    simp [addRow]

theorem spec_l8Column.ev (l : List (List Int)) (j : Int) (m : Nat) (hm : ∀ r ∈ l, r.length = m) (hj : 0 ≤ j ∧ j < m) (hl : l.length ≤ 1000000000) : Ev (fun k => spec_l8Column.f k l j) (colW l j 0) := by
  have key := rev_ind (P := fun i => ∀ s, Ev (fun k => spec_l8Column.l0 k l j s (i : Int)) (colW (l.drop i) j s)) l.length ?_ ?_ 0 (Nat.zero_le _) 0
  · simpa [spec_l8Column.f] using key
  · intro s
    refine ev_stop fun k => ?_
    simp only [spec_l8Column.l0]; rw [if_neg (by omega), List.drop_length]; rfl
  · intro i hi ih s
    rw [drop_cons hi, colW]
    have hri := hm _ (List.getElem_mem hi)
    refine ev_go _ (fun k => ?_) (ih _)
    simp only [spec_l8Column.l0]; rw [if_pos (by omega), if_pos (by omega), if_pos (by omega), rdL_nat hi, if_pos (by omega), wr1 (by omega)]

theorem spec_l8Load.ev (l : List (List Int)) (h : ShopOk l) : Ev (fun k => spec_l8Load.f k l) (mx (mxW (colsF l (List.replicate (machP l) 0)) 0) (mxW (l.map fun r => sumW r 0) 0)) := by
  have hl := h.1
  have hm := h.2.1
  have hc := colsF_len l (List.replicate (machP l) 0) (fun r hr => by rw [(h.2.2 r hr).1]; simp)
  rw [List.length_replicate] at hc
  have hg := fun (j : Nat) (hj : j < machP l) => colsF_get l (List.replicate (machP l) 0) j (fun r hr => by rw [(h.2.2 r hr).1]; simp) (by simpa using hj)
  have hz : 0 < l.length ∨ (l.length = 0 ∧ colsF l (List.replicate (machP l) 0) = [0]) := by
    cases l with
    | nil => exact .inr ⟨rfl, rfl⟩
    | cons a l => exact .inl (by simp)
  generalize colsF l (List.replicate (machP l) 0) = C at hc hg hz ⊢
  unfold spec_l8Load.f
  rw [← mxW_two]
  have cols := fun x => rev_ind (P := fun j => ∀ x, Ev (fun k => spec_l8Load.l1 k l x (j : Int)) (if 0 < l.length then mxW (C.drop j) x else x)) (machP l) ?_ ?_ 0 (Nat.zero_le _) x
  · have rows := rev_ind (P := fun i => ∀ x, Ev (fun k => spec_l8Load.l0 k l x (i : Int)) (if 0 < l.length then mxW C (mxW ((l.drop i).map fun r => sumW r 0) x) else mxW ((l.drop i).map fun r => sumW r 0) x)) l.length ?_ ?_ 0 (Nat.zero_le _) 0
    · rcases hz with hz | ⟨hz, e⟩
      · rw [if_pos hz] at rows
        simpa using rows
      · rw [if_neg (by omega)] at rows
        rw [e]
        rw [List.length_eq_zero_iff.1 hz] at rows ⊢
        simpa [mxW, mx] using rows
    · intro x
      refine ev_go _ (fun k => ?_) (by simpa [mxW] using cols x)
      simp only [spec_l8Load.l0]; rw [if_neg (by omega)]
    · intro i hi ih x
      rw [drop_cons hi, List.map_cons, mxW]
      have hri := (h.2.2 _ (List.getElem_mem hi)).1
      refine ev_go (fun k => (spec_l8Sum.f k l[i]).bind fun t132 => ((spec_l1Most.f x t132).bind fun t133 => (spec_l8Load.l0 k l t133 ((i + 1 : Nat) : Int)))) (fun k => ?_) (ev_bind _ (spec_l8Sum.ev l[i] (by omega)) ?_)
      · simp only [spec_l8Load.l0]; rw [if_pos (by omega), if_pos (by omega), rdL_nat hi, wr1 (by omega)]
      · simp only [spec_l1Most.eqk, Option.bind_some]
        exact ih _
  · intro x
    refine ev_go (fun k => spec_l8Load.j2 k l x (machP l : Int) false) (fun k => ?_) (ev_stop fun k => ?_)
    · simp only [spec_l8Load.l1, spec_l8Machines.eq, Option.bind_some]; rw [if_neg (by omega)]
    · simp only [spec_l8Load.j2]; rw [List.drop_of_length_le (by omega)]; simp [mxW]
  · intro j hj ih x
    by_cases h0 : 0 < l.length
    · rw [if_pos h0, drop_cons (by omega), mxW]
      refine ev_go (fun k => spec_l8Load.j2 k l x (j : Int) true) (fun k => ?_) (ev_go (fun k => (spec_l8Column.f k l (j : Int)).bind fun t135 => ((spec_l1Most.f x t135).bind fun t136 => (spec_l8Load.l1 k l t136 ((j + 1 : Nat) : Int)))) (fun k => ?_) (ev_bind _ (spec_l8Column.ev l j (machP l) (fun r hr => (h.2.2 r hr).1) (by omega) (by omega)) ?_))
      · simp only [spec_l8Load.l1, spec_l8Machines.eq, Option.bind_some]; rw [if_pos (by omega), show decide ((l.length : Int) > 0) = true from decide_eq_true (by omega)]
      · simp only [spec_l8Load.j2]; rw [wr1 (by omega)]; rfl
      · simp only [spec_l1Most.eqk, Option.bind_some]
        have ih := ih (mx x (colW l (j : Int) 0))
        rw [if_pos h0] at ih
        have e : C[j] = colW l (j : Int) 0 := by
          have := hg j hj
          rw [rd_nat (by omega), rd_nat (by simpa using hj)] at this
          simpa using this
        rw [e]
        exact ih
    · rw [if_neg h0]
      refine ev_go (fun k => spec_l8Load.j2 k l x (j : Int) false) (fun k => ?_) (ev_stop fun k => ?_)
      · simp only [spec_l8Load.l1, spec_l8Machines.eq, Option.bind_some]; rw [if_pos (by omega), show decide ((l.length : Int) > 0) = false from decide_eq_false (by omega)]
      · simp only [spec_l8Load.j2]; rfl

end Go.Proofs.Ytbblhmpcpmamfaa.Pure
