/- Proved here: what functions that the law FnExactFlowBound reaches answer (sim, sumW, spec_l8Sum, impl_sum, spec_l1MostK, impl_machinesOf, core_FlowBound). Conditions: those that each theorem names. -/
import Derived.Test.YtgelmpoaainlfaaQFnExactFlowBoundj
set_option linter.unusedVariables false
set_option linter.unusedSimpArgs false
namespace Go.Proofs.Ytgelmpoaainlfaa.Pure
open Go.RowKit Go.Proofs.Ytgelmpoaainlfaa.XFnExactFlowBound Go.Proofs.YtgelmpoaainlfaaW.PrintWords Go.Proofs.YtgelmpoaainlfaaW.PrintLast

/-- Both answer the same in the end. -/
def Sim {α : Type} (f g : Nat → Option α) : Prop := ∃ r, Ev f r ∧ Ev g r
theorem sim_step {α : Type} {f g : Nat → Option α} (f' g' : Nat → Option α) (h1 : ∀ k, f (k + 1) = f' k) (h2 : ∀ k, g (k + 1) = g' k) (h : Sim f' g') : Sim f g := by
  obtain ⟨r, a, b⟩ := h
  exact ⟨r, ev_go _ h1 a, ev_go _ h2 b⟩
theorem sim_stop {α : Type} {f g : Nat → Option α} {r : α} (h1 : ∀ k, f (k + 1) = some r) (h2 : ∀ k, g (k + 1) = some r) : Sim f g := ⟨r, ev_stop h1, ev_stop h2⟩
theorem sim_bind {α β : Type} {f g : Nat → Option α} {f' g' : Nat → α → Option β} {r : α} (h1 : Ev f r) (h2 : Ev g r) (h : Sim (fun k => f' k r) (fun k => g' k r)) : Sim (fun k => (f k).bind (f' k)) (fun k => (g k).bind (g' k)) := by
  obtain ⟨s, a, b⟩ := h
  exact ⟨s, ev_bind r h1 a, ev_bind r h2 b⟩
theorem ne_bool (P : Prop) [Decidable P] (h : P) : decide P = true := by simpa using h

def sumW : List Int → Int → Int
  | [], a => a
  | x :: xs, a => sumW xs (wrap64 (a + x))
def mxW : List Int → Int → Int
  | [], a => a
  | x :: xs, a => mxW xs (mx a x)
theorem mx_eq (a b : Int) : mx a b = if a ≤ b then b else a := by unfold mx; split <;> split <;> omega
theorem mxW_mx : ∀ (l : List Int) (a b : Int), mxW l (mx a b) = mx a (mxW l b)
  | [], _, _ => rfl
  | x :: l, a, b => by
    rw [mxW, mxW, ← mxW_mx l a]
    congr 1
    unfold mx
    repeat' split
    all_goals omega
theorem mxW_ge : ∀ (l : List Int) (a : Int), a ≤ mxW l a
  | [], _ => Int.le_refl _
  | x :: l, a => by
    rw [mxW]
    refine Int.le_trans ?_ (mxW_ge l _)
    unfold mx; split <;> omega
theorem mxW_app : ∀ (l m : List Int) (a : Int), mxW (l ++ m) a = mxW m (mxW l a)
  | [], _, _ => rfl
  | x :: l, m, a => by rw [List.cons_append, mxW, mxW, mxW_app]
theorem mxW_two (l m : List Int) : mxW m (mxW l 0) = mx (mxW m 0) (mxW l 0) := by
  have h : mxW l 0 = mx (mxW l 0) 0 := by have := mxW_ge l 0; unfold mx; split <;> omega
  rw [h, mxW_mx, ← h]
  unfold mx; split <;> split <;> omega

theorem spec_l8Sum.ev (l : List Int) (hl : l.length ≤ 1000000000000) : Ev (fun k => spec_l8Sum.f k l) (sumW l 0) := by
  have key := rev_ind (P := fun i => ∀ s, Ev (fun k => spec_l8Sum.l0 k l s (i : Int)) (sumW (l.drop i) s)) l.length ?_ ?_ 0 (Nat.zero_le _) 0
  · simpa [spec_l8Sum.f] using key
  · intro s
    refine ev_stop fun k => ?_
    simp only [spec_l8Sum.l0]; rw [if_neg (by omega), List.drop_length]; rfl
  · intro i hi ih s
    rw [drop_cons hi, sumW]
    refine ev_go _ (fun k => ?_) (ih _)
    simp only [spec_l8Sum.l0]; rw [if_pos (by omega), if_pos (by omega), rd_nat hi, wr1 (by omega)]

theorem impl_sum.ev (l : List Int) (hl : l.length ≤ 1000000000000) : Ev (fun k => impl_sum.f k l) (sumW l 0) := by
  have key := rev_ind (P := fun i => ∀ s, Ev (fun k => impl_sum.l0 k s l (l.length : Int) (i : Int)) (sumW (l.drop i) s)) l.length ?_ ?_ 0 (Nat.zero_le _) 0
  · simpa [impl_sum.f] using key
  · intro s
    refine ev_stop fun k => ?_
    simp only [impl_sum.l0]; rw [if_neg (by omega), List.drop_length]; rfl
  · intro i hi ih s
    rw [drop_cons hi, sumW]
    refine ev_go _ (fun k => ?_) (ih _)
    simp only [impl_sum.l0]; rw [if_pos (by omega), if_pos (by omega), if_pos (by omega), rd_nat hi, wr1 (by omega)]

theorem spec_l1Most.eqk (a b : Int) : spec_l1Most.f a b = some (mx a b) := by
  unfold spec_l1Most.f mx; split <;> split <;> first | rfl | omega | (congr 1; omega)

theorem impl_machinesOf.eq (l : List (List Int)) : impl_machinesOf.f l = some (machP l : Int) := by
  unfold impl_machinesOf.f
  cases l with
  | nil => simp [machP]
  | cons a l =>
    rw [if_neg (by simp only [List.length_cons]; omega), if_pos (by simp only [List.length_cons]; omega), rdL_zero (by simp)]
    rfl

theorem flowBound_rows (l : List (List Int)) (h : ShopOk l) (h0 : 0 < l.length) (m : Nat) (hm : m < machP l) (best : Int)
    (ih : ∀ best, Sim (fun k => spec_FlowBound.l0 k l best ((m + 1 : Nat) : Int)) (fun k => impl_FlowBound.l0 k l best ((m + 1 : Nat) : Int))) :
    ∀ s a b, Sim (fun k => spec_FlowBound.l1 k l best (m : Int) s a b 0) (fun k => impl_FlowBound.l1 k l best (m : Int) s a b l (l.length : Int) 0) := by
  have hl8 := h.1
  have hm3 := h.2.1.2
  have key := rev_ind (P := fun i => ∀ s a b, Sim (fun k => spec_FlowBound.l1 k l best (m : Int) s a b (i : Int)) (fun k => impl_FlowBound.l1 k l best (m : Int) s a b l (l.length : Int) (i : Int))) l.length ?_ ?_ 0 (Nat.zero_le _)
  · exact key
  · intro s a b
    refine sim_step _ _ (fun k => ?_) (fun k => ?_) (ih (mx best (wrap64 (wrap64 (a + s) + b))))
    · simp only [spec_FlowBound.l1]; rw [if_neg (by omega), spec_l1Most.eqk, Option.bind_some, wr1 (by omega)]
    · simp only [impl_FlowBound.l1]; rw [if_neg (by omega), wr1 (by omega), Int.add_comm s a]
  · intro i hi ih' s a b
    have hrow := (h.2.2 _ (List.getElem_mem hi)).1
    have e1 := spec_l8Sum.ev (l[i].take m) (by simp; omega)
    have e2 := spec_l8Sum.ev (l[i].drop (m + 1)) (by simp; omega)
    have e3 := impl_sum.ev (l[i].take m) (by simp; omega)
    have e4 := impl_sum.ev (l[i].drop (m + 1)) (by simp; omega)
    generalize sumW (l[i].take m) 0 = A at e1 e3
    generalize sumW (l[i].drop (m + 1)) 0 = B at e2 e4
    have hmr : m < l[i].length := by omega
    -- the spec's second half
    have sp : ∀ (a' : Int) (t : Bool), (a' = if t then A else a) → ∀ r, Ev (fun k => spec_FlowBound.l1 k l best (m : Int) (wrap64 (s + l[i][m])) a' (if b < 0 then B else if B < b then B else b) ((i + 1 : Nat) : Int)) r → Ev (fun k => spec_FlowBound.j3 k l best (m : Int) (wrap64 (s + l[i][m])) a b (i : Int) A t) r := by
      intro a' t ht r hr
      refine ev_go (fun k => (spec_l8Sum.f k (l[i].drop (m + 1))).bind fun t139 => if b < 0 then (spec_FlowBound.l1 k l best (m : Int) (wrap64 (s + l[i][m])) a' t139 ((i + 1 : Nat) : Int)) else (if t139 < b then (spec_FlowBound.l1 k l best (m : Int) (wrap64 (s + l[i][m])) a' t139 ((i + 1 : Nat) : Int)) else (spec_FlowBound.l1 k l best (m : Int) (wrap64 (s + l[i][m])) a' b ((i + 1 : Nat) : Int)))) (fun k => ?_) ?_
      · simp only [spec_FlowBound.j3]
        cases t
        · simp only [Bool.false_eq_true, if_false] at ht ⊢
          rw [if_pos (by omega), if_pos (by omega), wr1 (by omega), if_pos (by omega), rdL_nat hi, if_pos (by omega), wr1 (by omega), ht]; rfl
        · simp only [if_true] at ht ⊢
          rw [if_pos (by omega), if_pos (by omega), wr1 (by omega), if_pos (by omega), rdL_nat hi, if_pos (by omega), wr1 (by omega), ht]; rfl
      · refine ev_bind _ e2 ?_
        by_cases q1 : b < 0
        · simp only [if_pos q1] at hr ⊢; exact hr
        · by_cases q2 : B < b
          · simp only [if_neg q1, if_pos q2] at hr ⊢; exact hr
          · simp only [if_neg q1, if_neg q2] at hr ⊢; exact hr
    have im : ∀ (a' : Int) (t : Bool), (a' = if t then A else a) → ∀ r, Ev (fun k => impl_FlowBound.l1 k l best (m : Int) (wrap64 (s + l[i][m])) a' (if b < 0 then B else if B < b then B else b) l (l.length : Int) ((i + 1 : Nat) : Int)) r → Ev (fun k => impl_FlowBound.j3 k l best (m : Int) s a b l[i] A B l (l.length : Int) (i : Int) t) r := by
      intro a' t ht r hr
      refine ev_go _ (fun k => ?_) hr
      simp only [impl_FlowBound.j3]
      cases t
      · simp only [Bool.false_eq_true, if_false] at ht ⊢
        by_cases q1 : b < 0
        · rw [if_pos q1, if_pos q1, if_pos (by omega), if_pos (by omega), rd_nat hmr, wr1 (by omega), ht]
        · by_cases q2 : B < b
          · rw [if_neg q1, if_neg q1, if_pos q2, if_pos q2, if_pos (by omega), if_pos (by omega), rd_nat hmr, wr1 (by omega), ht]
          · rw [if_neg q1, if_neg q1, if_neg q2, if_neg q2, if_pos (by omega), if_pos (by omega), rd_nat hmr, wr1 (by omega), ht]
      · simp only [if_true] at ht ⊢
        by_cases q1 : b < 0
        · rw [if_pos q1, if_pos q1, if_pos (by omega), if_pos (by omega), rd_nat hmr, wr1 (by omega), ht]
        · by_cases q2 : B < b
          · rw [if_neg q1, if_neg q1, if_pos q2, if_pos q2, if_pos (by omega), if_pos (by omega), rd_nat hmr, wr1 (by omega), ht]
          · rw [if_neg q1, if_neg q1, if_neg q2, if_neg q2, if_pos (by omega), if_pos (by omega), rd_nat hmr, wr1 (by omega), ht]
    obtain ⟨r, hs, hi'⟩ := ih' (wrap64 (s + l[i][m])) (if (if a < 0 then true else decide (A < a)) then A else a) (if b < 0 then B else if B < b then B else b)
    refine ⟨r, ?_, ?_⟩
    · refine ev_go (fun k => (spec_l8Sum.f k (l[i].take m)).bind fun t136 => (if a < 0 then (spec_FlowBound.j3 k l best (m : Int) (wrap64 (s + l[i][m])) a b (i : Int) t136 true) else (spec_FlowBound.j3 k l best (m : Int) (wrap64 (s + l[i][m])) a b (i : Int) t136 (decide (t136 < a))))) (fun k => ?_) ?_
      · simp only [spec_FlowBound.l1]; rw [if_pos (by omega), if_pos (by omega), if_pos (by omega), rdL_nat hi, if_pos (by omega), if_pos (by omega), rd_nat hmr]; rfl
      · refine ev_bind _ e1 ?_
        by_cases q : a < 0
        · simp only [if_pos q] at hs ⊢; exact sp A true (by simp) r (by simpa using hs)
        · simp only [if_neg q] at hs ⊢; exact sp _ _ rfl r hs
    · refine ev_go (fun k => (impl_sum.f k (l[i].take m)).bind fun t155 => (impl_sum.f k (l[i].drop (m + 1))).bind fun t157 => (if a < 0 then (impl_FlowBound.j3 k l best (m : Int) s a b l[i] t155 t157 l (l.length : Int) (i : Int) true) else (impl_FlowBound.j3 k l best (m : Int) s a b l[i] t155 t157 l (l.length : Int) (i : Int) (decide (t155 < a))))) (fun k => ?_) ?_
      · simp only [impl_FlowBound.l1]; rw [if_pos (by omega), if_pos (by omega), if_pos (by omega), if_pos (by omega), rdL_nat hi, if_pos (by omega), wr1 (by omega)]; simp only [if_pos (show 0 ≤ ((m + 1 : Nat) : Int) by omega), if_pos (show ((m + 1 : Nat) : Int) ≤ ((l[i].length : Nat) : Int) by omega)]; rfl
      · refine ev_bind _ e3 (ev_bind _ e4 ?_)
        by_cases q : a < 0
        · simp only [if_pos q] at hi' ⊢; exact im A true (by simp) r (by simpa using hi')
        · simp only [if_neg q] at hi' ⊢; exact im _ _ rfl r hi'
theorem core_FlowBound (l : List (List Int)) (hl : l.length ≤ 1048576) (hr : ∀ y ∈ l, y.length ≤ 1048576) : ∃ r b, Ev (fun k => spec_FlowBound.f k l) (r, b) ∧ Ev (fun k => impl_FlowBound.f k l) (r, b) := by
  unfold spec_FlowBound.f impl_FlowBound.f
  have es := spec_l8Good.ev l (by omega) (fun y hy => by have := hr y hy; omega)
  have ei := impl_isShop.ev l (fun y hy => by have := hr y hy; omega)
  by_cases h : ShopOk l
  · have key := rev_ind (P := fun m => ∀ best, Sim (fun k => spec_FlowBound.l0 k l best (m : Int)) (fun k => impl_FlowBound.l0 k l best (m : Int))) (machP l) ?_ ?_ 0 (Nat.zero_le _) 0
    · obtain ⟨⟨r, b⟩, hs, hi⟩ := key
      exact ⟨r, b, ev_guard' es (fun _ => hs) (fun hn => absurd h hn), ev_guard' ei (fun _ => hi) (fun hn => absurd h hn)⟩
    · intro best
      refine sim_step _ _ (fun k => ?_) (fun k => ?_) (sim_stop (f := fun k => spec_FlowBound.j1 k l best (machP l : Int) false) (g := fun k => impl_FlowBound.j1 k l best (machP l : Int) false) (r := (best, true)) (fun k => by simp only [spec_FlowBound.j1]; rfl) (fun k => by simp only [impl_FlowBound.j1]; rfl))
      · simp only [spec_FlowBound.l0, spec_l8Machines.eq, Option.bind_some]; rw [if_neg (by omega)]
      · simp only [impl_FlowBound.l0, impl_machinesOf.eq, Option.bind_some]; rw [if_neg (by omega)]
    · intro m hm ih best
      by_cases h0 : 0 < l.length
      · refine sim_step _ _ (fun k => ?_) (fun k => ?_) (sim_step (f := fun k => spec_FlowBound.j1 k l best (m : Int) true) (g := fun k => impl_FlowBound.j1 k l best (m : Int) true) _ _ (fun k => by simp only [spec_FlowBound.j1]; rfl) (fun k => by simp only [impl_FlowBound.j1]; rfl) (flowBound_rows l h h0 m hm best ih 0 (-1) (-1)))
        · simp only [spec_FlowBound.l0, spec_l8Machines.eq, Option.bind_some]; rw [if_pos (by omega), ne_bool _ (by omega)]
        · simp only [impl_FlowBound.l0, impl_machinesOf.eq, Option.bind_some]; rw [if_pos (by omega), ne_bool _ (by omega)]
      · refine sim_step _ _ (fun k => ?_) (fun k => ?_) (sim_stop (f := fun k => spec_FlowBound.j1 k l best (m : Int) false) (g := fun k => impl_FlowBound.j1 k l best (m : Int) false) (r := (best, true)) (fun k => by simp only [spec_FlowBound.j1]; rfl) (fun k => by simp only [impl_FlowBound.j1]; rfl))
        · simp only [spec_FlowBound.l0, spec_l8Machines.eq, Option.bind_some]; rw [if_pos (by omega), show decide ((l.length : Int) > 0) = false from decide_eq_false (by omega)]
        · simp only [impl_FlowBound.l0, impl_machinesOf.eq, Option.bind_some]; rw [if_pos (by omega), show decide ((l.length : Int) > 0) = false from decide_eq_false (by omega)]
  · exact ⟨0, false, ev_guard es (fun h1 => absurd h1 h) (fun _ => rfl), ev_guard ei (fun h1 => absurd h1 h) (fun _ => rfl)⟩

end Go.Proofs.Ytgelmpoaainlfaa.Pure
