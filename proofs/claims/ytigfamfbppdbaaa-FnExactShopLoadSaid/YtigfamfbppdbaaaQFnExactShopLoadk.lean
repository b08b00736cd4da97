/- Proved here: what functions that the law FnExactShopLoad reaches answer (sumW, spec_l8Sum, impl_sum, spec_l1MostK, impl_machinesOf, colsF, spec_l8Column, impl_sums, impl_greatestOf, impl_loadOf, spec_l8Load, core_ShopLoad). Conditions: those that each theorem names. -/
import Derived.Test.YtigfamfbppdbaaaQFnExactShopLoadj
set_option linter.unusedVariables false
set_option linter.unusedSimpArgs false
namespace Go.Proofs.Ytigfamfbppdbaaa.Pure
open Go.RowKit Go.Proofs.Ytigfamfbppdbaaa.XFnExactShopLoad Go.Proofs.YtigfamfbppdbaaaW.PrintWords Go.Proofs.YtigfamfbppdbaaaW.PrintLast

def sumW : List Int → Int → Int
  | [], a => a
  | x :: xs, a => sumW xs (wrap64 (a + x))
def mxW : List Int → Int → Int
  | [], a => a
  | x :: xs, a => mxW xs (mx a x)
theorem mx_eq (a b : Int) : mx a b = if a ≤ b then b else a := by unfold mx; split <;> split <;> omega
theorem mxW_mx : ∀ (l : List Int) (a b : Int), mxW l (mx a b) = mx a (mxW l b)
  | [], _, _ => rfl
  | x :: l, a, b => by
    rw [mxW, mxW, ← mxW_mx l a]
    congr 1
    unfold mx
    repeat' split
    all_goals omega
theorem mxW_ge : ∀ (l : List Int) (a : Int), a ≤ mxW l a
  | [], _ => Int.le_refl _
  | x :: l, a => by
    rw [mxW]
    refine Int.le_trans ?_ (mxW_ge l _)
    unfold mx; split <;> omega
theorem mxW_app : ∀ (l m : List Int) (a : Int), mxW (l ++ m) a = mxW m (mxW l a)
  | [], _, _ => rfl
  | x :: l, m, a => by rw [List.cons_append, mxW, mxW, mxW_app]
theorem mxW_two (l m : List Int) : mxW m (mxW l 0) = mx (mxW m 0) (mxW l 0) := by
  have h : mxW l 0 = mx (mxW l 0) 0 := by have := mxW_ge l 0; unfold mx; split <;> omega
  rw [h, mxW_mx, ← h]
  unfold mx; split <;> split <;> omega

theorem spec_l8Sum.ev (l : List Int) (hl : l.length ≤ 1000000000000) : Ev (fun k => spec_l8Sum.f k l) (sumW l 0) := by
  have key := rev_ind (P := fun i => ∀ s, Ev (fun k => spec_l8Sum.l0 k l s (i : Int)) (sumW (l.drop i) s)) l.length ?_ ?_ 0 (Nat.zero_le _) 0
  · simpa [spec_l8Sum.f] using key
  · intro s
    refine ev_stop fun k => ?_
    simp only [spec_l8Sum.l0]; rw [if_neg (by omega), List.drop_length]; rfl
  · intro i hi ih s
    rw [drop_cons hi, sumW]
    refine ev_go _ (fun k => ?_) (ih _)
    simp only [spec_l8Sum.l0]; rw [if_pos (by omega), if_pos (by omega), rd_nat hi, wr1 (by omega)]

theorem impl_sum.ev (l : List Int) (hl : l.length ≤ 1000000000000) : Ev (fun k => impl_sum.f k l) (sumW l 0) := by
  have key := rev_ind (P := fun i => ∀ s, Ev (fun k => impl_sum.l0 k s l (l.length : Int) (i : Int)) (sumW (l.drop i) s)) l.length ?_ ?_ 0 (Nat.zero_le _) 0
  · simpa [impl_sum.f] using key
  · intro s
    refine ev_stop fun k => ?_
    simp only [impl_sum.l0]; rw [if_neg (by omega), List.drop_length]; rfl
  · intro i hi ih s
    rw [drop_cons hi, sumW]
    refine ev_go _ (fun k => ?_) (ih _)
    simp only [impl_sum.l0]; rw [if_pos (by omega), if_pos (by omega), if_pos (by omega), rd_nat hi, wr1 (by omega)]

theorem spec_l1Most.eqk (a b : Int) : spec_l1Most.f a b = some (mx a b) := by
  unfold spec_l1Most.f mx; split <;> split <;> first | rfl | omega | (congr 1; omega)

theorem impl_machinesOf.eq (l : List (List Int)) : impl_machinesOf.f l = some (machP l : Int) := by
  unfold impl_machinesOf.f
  cases l with
  | nil => simp [machP]
  | cons a l =>
    rw [if_neg (by simp only [List.length_cons]; omega), if_pos (by simp only [List.length_cons]; omega), rdL_zero (by simp)]
    rfl

def colW : List (List Int) → Int → Int → Int
  | [], _, a => a
  | r :: rs, j, a => colW rs j (wrap64 (a + rd r j))
def addRow (c r : List Int) : List Int := List.zipWith (fun a b => wrap64 (a + b)) c r
def colsF : List (List Int) → List Int → List Int
  | [], c => c
  | r :: rs, c => colsF rs (addRow c r)
theorem addRow_len {c r : List Int} (h : r.length = c.length) : (addRow c r).length = c.length := by simp [addRow, h]
theorem colsF_len : ∀ (l : List (List Int)) (c : List Int), (∀ r ∈ l, r.length = c.length) → (colsF l c).length = c.length
  | [], _, _ => rfl
  | r :: rs, c, h => by
    have hr := h r List.mem_cons_self
    rw [colsF, colsF_len rs _ (fun s hs => by rw [addRow_len hr]; exact h s (List.mem_cons_of_mem _ hs)), addRow_len hr]
theorem colsF_get : ∀ (l : List (List Int)) (c : List Int) (j : Nat), (∀ r ∈ l, r.length = c.length) → j < c.length → rd (colsF l c) (j : Int) = colW l (j : Int) (rd c (j : Int))
  | [], _, _, _, _ => rfl
  | r :: rs, c, j, h, hj => by
    have hr := h r List.mem_cons_self
    rw [colsF, colsF_get rs _ j (fun s hs => by rw [addRow_len hr]; exact h s (List.mem_cons_of_mem _ hs)) (by rw [addRow_len hr]; exact hj), colW]
    congr 1
    rw [rd_nat (by rw [addRow_len hr]; exact hj), rd_nat hj, rd_nat (by omega)]
    simp [addRow]

theorem spec_l8Column.ev (l : List (List Int)) (j : Int) (m : Nat) (hm : ∀ r ∈ l, r.length = m) (hj : 0 ≤ j ∧ j < m) (hl : l.length ≤ 1000000000) : Ev (fun k => spec_l8Column.f k l j) (colW l j 0) := by
  have key := rev_ind (P := fun i => ∀ s, Ev (fun k => spec_l8Column.l0 k l j s (i : Int)) (colW (l.drop i) j s)) l.length ?_ ?_ 0 (Nat.zero_le _) 0
  · simpa [spec_l8Column.f] using key
  · intro s
    refine ev_stop fun k => ?_
    simp only [spec_l8Column.l0]; rw [if_neg (by omega), List.drop_length]; rfl
  · intro i hi ih s
    rw [drop_cons hi, colW]
    have hri := hm _ (List.getElem_mem hi)
    refine ev_go _ (fun k => ?_) (ih _)
    simp only [spec_l8Column.l0]; rw [if_pos (by omega), if_pos (by omega), if_pos (by omega), rdL_nat hi, if_pos (by omega), wr1 (by omega)]

theorem addRow_copy {c r : List Int} {i : Nat} (h : r.length = c.length) (hi : i < r.length) : ((addRow c r).take i ++ c.drop i).set i (wrap64 (rd ((addRow c r).take i ++ c.drop i) (i : Int) + r[i])) = (addRow c r).take (i + 1) ++ c.drop (i + 1) := by
  have hl : ((addRow c r).take i).length = i := by simp [addRow_len h]; omega
  have e : rd ((addRow c r).take i ++ c.drop i) (i : Int) = c[i]'(by omega) := by
    rw [rd_nat (by simp [addRow_len h]; omega), List.getElem_append_right (by omega)]
    simp [hl]
  rw [e, show wrap64 (c[i]'(by omega) + r[i]) = (addRow c r)[i]'(by rw [addRow_len h]; omega) by simp [addRow]]
  exact set_copy (by rw [addRow_len h]; omega) (by omega)
theorem impl_sums.ev (l : List (List Int)) (h : ShopOk l) : Ev (fun k => impl_sums.f k l) (colsF l (List.replicate (machP l) 0), l.map fun r => sumW r 0) := by
  have hl := h.1
  have hm := h.2.1
  unfold impl_sums.f
  simp only [impl_machinesOf.eq, Option.bind_some]
  rw [show (fun k => if 0 ≤ (machP l : Int) then if ((machP l : Int)).toNat ≤ 35184372088832 then impl_sums.l0 k (List.replicate ((machP l : Int)).toNat 0) [] l (l.length : Int) 0 else none else none) = fun k => impl_sums.l0 k (List.replicate (machP l) 0) [] l (l.length : Int) 0 from funext fun k => by rw [if_pos (by omega), if_pos (by omega)]; rfl]
  have key := rev_ind (P := fun i => ∀ c out : List Int, c.length = machP l → out.length = i → Ev (fun k => impl_sums.l0 k c out l (l.length : Int) (i : Int)) (colsF (l.drop i) c, out ++ (l.drop i).map fun r => sumW r 0)) l.length ?_ ?_ 0 (Nat.zero_le _) (List.replicate (machP l) 0) [] (by simp) rfl
  · simpa using key
  · intro c out _ _
    refine ev_stop fun k => ?_
    simp only [impl_sums.l0]; rw [if_neg (by omega), List.drop_length]; simp [colsF]
  · intro i hi ih c out hc ho
    have hri : l[i].length = c.length := by rw [hc]; exact (h.2.2 _ (List.getElem_mem hi)).1
    rw [drop_cons hi, colsF]
    have row := rev_ind (P := fun j => Ev (fun k => impl_sums.l1 k ((addRow c l[i]).take j ++ c.drop j) out l[i] l (l.length : Int) (i : Int) l[i] (l[i].length : Int) (j : Int)) (colsF (l.drop (i + 1)) (addRow c l[i]), out ++ (l[i] :: l.drop (i + 1)).map fun r => sumW r 0)) l[i].length ?_ ?_ 0 (Nat.zero_le _)
    · refine ev_go _ (fun k => ?_) (by simpa using row)
      simp only [impl_sums.l0]; rw [if_pos (by omega), if_pos (by omega), if_pos (by omega), rdL_nat hi]
    · have ih := ih (addRow c l[i]) (out ++ [sumW l[i] 0]) (by rw [addRow_len hri, hc]) (by simp [ho])
      rw [List.append_assoc] at ih
      refine ev_go (fun k => (impl_sum.f k l[i]).bind fun t155 => (if out.length < 17592186044416 then (impl_sums.l0 k (addRow c l[i]) (out ++ [t155]) l (l.length : Int) ((i + 1 : Nat) : Int)) else (none))) (fun k => ?_) ?_
      · simp only [impl_sums.l1]; rw [if_neg (by omega), wr1 (by omega), List.take_of_length_le (by rw [addRow_len hri]; omega), List.drop_of_length_le (by omega), List.append_nil]
      · refine ev_bind _ (impl_sum.ev l[i] (by omega)) ?_
        simp only [if_pos (show out.length < 17592186044416 by omega)]
        exact ih
    · intro j hj ih'
      refine ev_go _ (fun k => ?_) ih'
      have hlen : ((addRow c l[i]).take j ++ c.drop j).length = c.length := by simp [addRow_len hri]; omega
      simp only [impl_sums.l1]; rw [if_pos (by omega), if_pos (by omega), if_pos (by omega), if_pos (by omega), rd_nat hj, wr1 (by omega)]
      rw [show ((j : Int)).toNat = j by omega, addRow_copy hri hj]

theorem impl_greatestOf.ev (l : List Int) (hl : l.length ≤ 1000000000) : Ev (fun k => impl_greatestOf.f k l) (mxW l 0) := by
  have key := rev_ind (P := fun i => ∀ s, Ev (fun k => impl_greatestOf.l0 k s l (l.length : Int) (i : Int)) (mxW (l.drop i) s)) l.length ?_ ?_ 0 (Nat.zero_le _) 0
  · simpa [impl_greatestOf.f] using key
  · intro s
    refine ev_stop fun k => ?_
    simp only [impl_greatestOf.l0]; rw [if_neg (by omega), List.drop_length]; rfl
  · intro i hi ih s
    rw [drop_cons hi, mxW]
    refine ev_go _ (fun k => ?_) (ih _)
    simp only [impl_greatestOf.l0]; rw [if_pos (by omega), if_pos (by omega), if_pos (by omega), rd_nat hi, wr1 (by omega)]

theorem impl_loadOf.ev (l : List (List Int)) (h : ShopOk l) : Ev (fun k => impl_loadOf.f k l) (mx (mxW (colsF l (List.replicate (machP l) 0)) 0) (mxW (l.map fun r => sumW r 0) 0)) := by
  unfold impl_loadOf.f
  have hc := colsF_len l (List.replicate (machP l) 0) (fun r hr => by rw [(h.2.2 r hr).1]; simp)
  rw [List.length_replicate] at hc
  exact ev_bind _ (impl_sums.ev l h) (ev_bind _ (impl_greatestOf.ev (colsF l (List.replicate (machP l) 0)) (by have := h.2.1.2; omega)) (ev_bind _ (impl_greatestOf.ev (l.map fun r => sumW r 0) (by have := h.1; simp; omega)) (Ev.now _)))

theorem spec_l8Load.ev (l : List (List Int)) (h : ShopOk l) : Ev (fun k => spec_l8Load.f k l) (mx (mxW (colsF l (List.replicate (machP l) 0)) 0) (mxW (l.map fun r => sumW r 0) 0)) := by
  have hl := h.1
  have hm := h.2.1
  have hc := colsF_len l (List.replicate (machP l) 0) (fun r hr => by rw [(h.2.2 r hr).1]; simp)
  rw [List.length_replicate] at hc
  have hg := fun (j : Nat) (hj : j < machP l) => colsF_get l (List.replicate (machP l) 0) j (fun r hr => by rw [(h.2.2 r hr).1]; simp) (by simpa using hj)
  have hz : 0 < l.length ∨ (l.length = 0 ∧ colsF l (List.replicate (machP l) 0) = [0]) := by
    cases l with
    | nil => exact .inr ⟨rfl, rfl⟩
    | cons a l => exact .inl (by simp)
  generalize colsF l (List.replicate (machP l) 0) = C at hc hg hz ⊢
  unfold spec_l8Load.f
  rw [← mxW_two]
  have cols := fun x => rev_ind (P := fun j => ∀ x, Ev (fun k => spec_l8Load.l1 k l x (j : Int)) (if 0 < l.length then mxW (C.drop j) x else x)) (machP l) ?_ ?_ 0 (Nat.zero_le _) x
  · have rows := rev_ind (P := fun i => ∀ x, Ev (fun k => spec_l8Load.l0 k l x (i : Int)) (if 0 < l.length then mxW C (mxW ((l.drop i).map fun r => sumW r 0) x) else mxW ((l.drop i).map fun r => sumW r 0) x)) l.length ?_ ?_ 0 (Nat.zero_le _) 0
    · rcases hz with hz | ⟨hz, e⟩
      · rw [if_pos hz] at rows
        simpa using rows
      · rw [if_neg (by omega)] at rows
        rw [e]
        rw [List.length_eq_zero_iff.1 hz] at rows ⊢
        simpa [mxW, mx] using rows
    · intro x
      refine ev_go _ (fun k => ?_) (by simpa [mxW] using cols x)
      simp only [spec_l8Load.l0]; rw [if_neg (by omega)]
    · intro i hi ih x
      rw [drop_cons hi, List.map_cons, mxW]
      have hri := (h.2.2 _ (List.getElem_mem hi)).1
      refine ev_go (fun k => (spec_l8Sum.f k l[i]).bind fun t132 => ((spec_l1Most.f x t132).bind fun t133 => (spec_l8Load.l0 k l t133 ((i + 1 : Nat) : Int)))) (fun k => ?_) (ev_bind _ (spec_l8Sum.ev l[i] (by omega)) ?_)
      · simp only [spec_l8Load.l0]; rw [if_pos (by omega), if_pos (by omega), rdL_nat hi, wr1 (by omega)]
      · simp only [spec_l1Most.eqk, Option.bind_some]
        exact ih _
  · intro x
    refine ev_go (fun k => spec_l8Load.j2 k l x (machP l : Int) false) (fun k => ?_) (ev_stop fun k => ?_)
    · simp only [spec_l8Load.l1, spec_l8Machines.eq, Option.bind_some]; rw [if_neg (by omega)]
    · simp only [spec_l8Load.j2]; rw [List.drop_of_length_le (by omega)]; simp [mxW]
  · intro j hj ih x
    by_cases h0 : 0 < l.length
    · rw [if_pos h0, drop_cons (by omega), mxW]
      refine ev_go (fun k => spec_l8Load.j2 k l x (j : Int) true) (fun k => ?_) (ev_go (fun k => (spec_l8Column.f k l (j : Int)).bind fun t135 => ((spec_l1Most.f x t135).bind fun t136 => (spec_l8Load.l1 k l t136 ((j + 1 : Nat) : Int)))) (fun k => ?_) (ev_bind _ (spec_l8Column.ev l j (machP l) (fun r hr => (h.2.2 r hr).1) (by omega) (by omega)) ?_))
      · simp only [spec_l8Load.l1, spec_l8Machines.eq, Option.bind_some]; rw [if_pos (by omega), show decide ((l.length : Int) > 0) = true from decide_eq_true (by omega)]
      · simp only [spec_l8Load.j2]; rw [wr1 (by omega)]; rfl
      · simp only [spec_l1Most.eqk, Option.bind_some]
        have ih := ih (mx x (colW l (j : Int) 0))
        rw [if_pos h0] at ih
        have e : C[j] = colW l (j : Int) 0 := by
          have := hg j hj
          rw [rd_nat (by omega), rd_nat (by simpa using hj)] at this
          simpa using this
        rw [e]
        exact ih
    · rw [if_neg h0]
      refine ev_go (fun k => spec_l8Load.j2 k l x (j : Int) false) (fun k => ?_) (ev_stop fun k => ?_)
      · simp only [spec_l8Load.l1, spec_l8Machines.eq, Option.bind_some]; rw [if_pos (by omega), show decide ((l.length : Int) > 0) = false from decide_eq_false (by omega)]
      · simp only [spec_l8Load.j2]; rfl

theorem core_ShopLoad (l : List (List Int)) (hl : l.length ≤ 1048576) (hr : ∀ y ∈ l, y.length ≤ 1048576) : ∃ r b, Ev (fun k => spec_ShopLoad.f k l) (r, b) ∧ Ev (fun k => impl_ShopLoad.f k l) (r, b) := by
  have es := spec_l8Good.ev l (by omega) (fun y hy => by have := hr y hy; omega)
  have ei := impl_isShop.ev l (fun y hy => by have := hr y hy; omega)
  unfold spec_ShopLoad.f impl_ShopLoad.f
  by_cases h : ShopOk l
  · exact ⟨_, _, ev_guard' es (fun _ => ev_bind _ (spec_l8Load.ev l h) (Ev.now _)) (fun hn => absurd h hn), ev_guard' ei (fun _ => ev_bind _ (impl_loadOf.ev l h) (Ev.now _)) (fun hn => absurd h hn)⟩
  · exact ⟨0, false, ev_guard' es (fun h1 => absurd h1 h) (fun _ => Ev.now _), ev_guard' ei (fun h1 => absurd h1 h) (fun _ => Ev.now _)⟩

end Go.Proofs.Ytigfamfbppdbaaa.Pure
