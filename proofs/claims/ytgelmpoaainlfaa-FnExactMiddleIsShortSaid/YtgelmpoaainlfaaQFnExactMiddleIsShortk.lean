/- Proved here: what functions that the law FnExactMiddleIsShort reaches answer (underP, spec_l8Under, impl_isShopOf, core_MiddleIsShort). Conditions: those that each theorem names. -/
import Derived.Test.YtgelmpoaainlfaaQFnExactMiddleIsShortj
set_option linter.unusedVariables false
set_option linter.unusedSimpArgs false
namespace Go.Proofs.Ytgelmpoaainlfaa.Pure
open Go.RowKit Go.Proofs.Ytgelmpoaainlfaa.XFnExactMiddleIsShort Go.Proofs.YtgelmpoaainlfaaW.PrintWords Go.Proofs.YtgelmpoaainlfaaW.PrintLast

theorem rd_nat' {l : List Int} (i : Nat) (h : i < l.length) : rd l (i : Int) = l[i] := rd_nat h
/-- Every row's number at a is at most every row's number at b. -/
def UnderP (l : List (List Int)) (a b : Int) : Prop := ∀ r ∈ l, ∀ s ∈ l, rd r a ≤ rd s b

theorem spec_l8Under.ev (l : List (List Int)) (a b : Int) (m : Nat) (hm : ∀ r ∈ l, r.length = m) (ha : 0 ≤ a ∧ a < m) (hb : 0 ≤ b ∧ b < m) (hl : l.length ≤ 1000000000) : EvB (fun k => spec_l8Under.f k l a b) (UnderP l a b) := by
  have key := rev_ind (P := fun i => EvB (fun k => spec_l8Under.l0 k l a b (i : Int)) (∀ r ∈ l.drop i, ∀ s ∈ l, rd r a ≤ rd s b)) l.length ?_ ?_ 0 (Nat.zero_le _)
  · simpa [spec_l8Under.f, UnderP] using key
  · refine evB_of (fun _ => ev_stop fun k => ?_) (fun h => absurd (by simp) h)
    simp only [spec_l8Under.l0]; rw [if_neg (by omega)]
  · intro i hi ih
    rw [drop_cons hi]
    have hri := hm _ (List.getElem_mem hi)
    have row := rev_ind (P := fun j => EvB (fun k => spec_l8Under.l1 k l a b (i : Int) (j : Int)) ((∀ s ∈ l.drop j, rd l[i] a ≤ rd s b) ∧ ∀ r ∈ l.drop (i + 1), ∀ s ∈ l, rd r a ≤ rd s b)) l.length ?_ ?_ 0 (Nat.zero_le _)
    · obtain ⟨c, hc, hP⟩ := row
      refine ⟨c, ev_go _ (fun k => ?_) hc, hP.trans ?_⟩
      · simp only [spec_l8Under.l0]; rw [if_pos (by omega)]; rfl
      · simp only [List.drop_zero, List.mem_cons, forall_eq_or_imp]
    · obtain ⟨c, hc, hP⟩ := ih
      refine ⟨c, ev_go _ (fun k => ?_) hc, by rw [hP]; simp⟩
      simp only [spec_l8Under.l1]; rw [if_neg (by omega), wr1 (by omega)]
    · intro j hj ih'
      rw [drop_cons hj]
      have hrj := hm _ (List.getElem_mem hj)
      by_cases q : rd l[i] a > rd l[j] b
      · refine evB_of (fun h => absurd (h.1 _ List.mem_cons_self) (by omega)) (fun _ => ev_stop fun k => ?_)
        simp only [spec_l8Under.l1]; rw [if_pos (by omega), if_pos (by omega), if_pos (by omega), if_pos (by omega), rdL_nat hi, if_pos (by omega), if_pos (by omega), if_pos (by omega), rdL_nat hj, if_pos (by omega), if_pos q]
      · obtain ⟨c, hc, hP⟩ := ih'
        refine ⟨c, ev_go _ (fun k => ?_) hc, by rw [hP]; simp only [List.mem_cons, forall_eq_or_imp]; exact ⟨fun h => ⟨⟨by omega, h.1⟩, h.2⟩, fun h => ⟨h.1.2, h.2⟩⟩⟩
        simp only [spec_l8Under.l1]; rw [if_pos (by omega), if_pos (by omega), if_pos (by omega), if_pos (by omega), rdL_nat hi, if_pos (by omega), if_pos (by omega), if_pos (by omega), rdL_nat hj, if_pos (by omega), if_neg q, wr1 (by omega)]

theorem impl_isShopOf.ev (l : List (List Int)) (a : Int) (hr : ∀ y ∈ l, y.length ≤ 1000000000000000) : EvB (fun k => impl_isShopOf.f k l a) (ShopOk l ∧ (0 < l.length → (machP l : Int) = a)) := by
  unfold impl_isShopOf.f
  have e := impl_isShop.ev l hr
  by_cases h : ShopOk l
  · by_cases h0 : l.length = 0
    · refine evB_of (fun _ => evB_bind e (fun _ => ?_) (fun hn => absurd h hn)) (fun hn => absurd ⟨h, fun h1 => absurd h1 (by omega)⟩ hn)
      simp only [if_true]; rw [show (fun _ : Nat => if (l.length : Int) = 0 then some true else if 0 < (l.length : Int) then some ((((rd_L1 l 0).length : Nat) : Int) == a) else none) = fun _ => some true from funext fun _ => by rw [if_pos (by omega)]]
      exact Ev.now _
    · have hv : ∀ c, (c = true ↔ (machP l : Int) = a) → Ev (fun k => (impl_isShop.f k l).bind fun t137 => if t137 = true then if (l.length : Int) = 0 then some true else if 0 < (l.length : Int) then some ((((rd_L1 l 0).length : Nat) : Int) == a) else none else some false) c := by
        intro c hc
        refine evB_bind e (fun _ => ?_) (fun hn => absurd h hn)
        simp only [if_true]
        rw [show (fun _ : Nat => if (l.length : Int) = 0 then some true else if 0 < (l.length : Int) then some ((((rd_L1 l 0).length : Nat) : Int) == a) else none) = fun _ => some c from funext fun _ => by
          rw [if_neg (by omega), if_pos (by omega), rdL_zero (by omega), ← machP_cons (by omega)]
          congr 1
          rw [Bool.eq_iff_iff, hc]; simp]
        exact Ev.now _
      refine evB_of (fun h' => hv true (by simp [h'.2 (by omega)])) (fun h' => hv false ?_)
      simp only [Bool.false_eq_true, false_iff]
      exact fun hh => h' ⟨h, fun _ => hh⟩
  · refine evB_of (fun h' => absurd h'.1 h) (fun _ => evB_bind e (fun h' => absurd h' h) (fun _ => ?_))
    simp only [Bool.false_eq_true, if_false]; exact Ev.now _

theorem impl_middle (l : List (List Int)) (h : ShopOk l) (h3 : 0 < l.length → (machP l : Int) = 3) : Ev (fun k => impl_MiddleIsShort.l0 k l true true l (l.length : Int) 0) ((l.all fun r => l.all fun s => decide (rd r 1 ≤ rd s 0)) || (l.all fun r => l.all fun s => decide (rd r 1 ≤ rd s 2)), true) := by
  have hl := h.1
  have key := rev_ind (P := fun i => ∀ x y, Ev (fun k => impl_MiddleIsShort.l0 k l x y l (l.length : Int) (i : Int)) ((x && (l.drop i).all fun r => l.all fun s => decide (rd r 1 ≤ rd s 0)) || (y && (l.drop i).all fun r => l.all fun s => decide (rd r 1 ≤ rd s 2)), true)) l.length ?_ ?_ 0 (Nat.zero_le _) true true
  · simpa using key
  · intro x y
    refine ev_stop fun k => ?_
    simp only [impl_MiddleIsShort.l0]; rw [if_neg (by omega)]
    cases x <;> simp
  · intro i hi ih x y
    have hri : (l[i].length : Int) = 3 := by rw [(h.2.2 _ (List.getElem_mem hi)).1]; exact h3 (by omega)
    have row := rev_ind (P := fun j => ∀ x y, Ev (fun k => impl_MiddleIsShort.l1 k l x y l[i] l (l.length : Int) (i : Int) l (l.length : Int) (j : Int)) (((x && (l.drop j).all fun s => decide (rd l[i] 1 ≤ rd s 0)) && (l.drop (i + 1)).all fun r => l.all fun s => decide (rd r 1 ≤ rd s 0)) || ((y && (l.drop j).all fun s => decide (rd l[i] 1 ≤ rd s 2)) && (l.drop (i + 1)).all fun r => l.all fun s => decide (rd r 1 ≤ rd s 2)), true)) l.length ?_ ?_ 0 (Nat.zero_le _) x y
    · rw [drop_cons hi]
      simp only [List.all_cons, List.drop_zero, Bool.and_assoc] at row ⊢
      refine ev_go _ (fun k => ?_) row
      simp only [impl_MiddleIsShort.l0]; rw [if_pos (by omega), if_pos (by omega), if_pos (by omega), rdL_nat hi]; rfl
    · intro x y
      simp only [List.drop_length, List.all_nil, Bool.and_true]
      refine ev_go _ (fun k => ?_) (ih x y)
      simp only [impl_MiddleIsShort.l1]; rw [if_neg (by omega), wr1 (by omega)]
    · intro j hj ih' x y
      have hrj : (l[j].length : Int) = 3 := by rw [(h.2.2 _ (List.getElem_mem hj)).1]; exact h3 (by omega)
      rw [drop_cons hj]
      simp only [List.all_cons]
      have go := ih' (x && decide (rd l[i] 1 ≤ rd l[j] 0)) (y && decide (rd l[i] 1 ≤ rd l[j] 2))
      simp only [Bool.and_assoc] at go ⊢
      refine ev_go _ (fun k => ?_) go
      simp only [impl_MiddleIsShort.l1]; rw [if_pos (by omega), if_pos (by omega), if_pos (by omega), rdL_nat hj]
      cases x <;> cases y <;> simp only [Bool.false_eq_true, if_false, if_true, Bool.true_and, Bool.false_and]
      · rw [wr1 (by omega)]
      · rw [if_pos (by omega), if_pos (by omega), wr1 (by omega)]
      · rw [if_pos (by omega), if_pos (by omega), wr1 (by omega)]
      · rw [if_pos (by omega), if_pos (by omega), if_pos (by omega), wr1 (by omega)]
theorem core_MiddleIsShort (l : List (List Int)) (hl : l.length ≤ 1048576) (hr : ∀ y ∈ l, y.length ≤ 1048576) : ∃ r b, Ev (fun k => spec_MiddleIsShort.f k l) (r, b) ∧ Ev (fun k => impl_MiddleIsShort.f k l) (r, b) := by
  have es := spec_l8Good.ev l (by omega) (fun y hy => by have := hr y hy; omega)
  have ei := impl_isShopOf.ev l 3 (fun y hy => by have := hr y hy; omega)
  unfold spec_MiddleIsShort.f impl_MiddleIsShort.f
  have sno : Ev (fun k => spec_MiddleIsShort.j0 k l true) (false, false) := ev_stop fun k => by simp only [spec_MiddleIsShort.j0]; rfl
  by_cases h : ShopOk l ∧ (0 < l.length → (machP l : Int) = 3)
  · have hm : ∀ r ∈ l, r.length = 3 := fun r hr' => by
      have := (h.1.2.2 r hr').1
      have := h.2 (List.length_pos_of_mem hr')
      omega
    have e1 := spec_l8Under.ev l 1 0 3 hm (by omega) (by omega) (by omega)
    have e2 := spec_l8Under.ev l 1 2 3 hm (by omega) (by omega) (by omega)
    have d1 : (l.all fun r => l.all fun s => decide (rd r 1 ≤ rd s 0)) = true ↔ UnderP l 1 0 := by simp [UnderP]
    have d2 : (l.all fun r => l.all fun s => decide (rd r 1 ≤ rd s 2)) = true ↔ UnderP l 1 2 := by simp [UnderP]
    have hj : Ev (fun k => spec_MiddleIsShort.j0 k l false) (((l.all fun r => l.all fun s => decide (rd r 1 ≤ rd s 0)) || (l.all fun r => l.all fun s => decide (rd r 1 ≤ rd s 2))), true) := by
      refine ev_go (fun k => (spec_l8Under.f k l 1 0).bind fun t116 => (if t116 = true then (some (true, true)) else ((spec_l8Under.f k l 1 2).bind fun t117 => (some (t117, true))))) (fun k => by simp only [spec_MiddleIsShort.j0]; rfl) ?_
      refine evB_bind e1 (fun h1 => ?_) (fun h1 => ?_)
      · rw [d1.2 h1]; simp only [if_true, Bool.true_or]; exact Ev.now _
      · rw [show (l.all fun r => l.all fun s => decide (rd r 1 ≤ rd s 0)) = false by rw [← Bool.not_eq_true]; exact fun hh => h1 (d1.1 hh)]
        simp only [Bool.false_eq_true, if_false, Bool.false_or]
        refine evB_bind e2 (fun h2 => ?_) (fun h2 => ?_)
        · rw [d2.2 h2]; exact Ev.now _
        · rw [show (l.all fun r => l.all fun s => decide (rd r 1 ≤ rd s 2)) = false by rw [← Bool.not_eq_true]; exact fun hh => h2 (d2.1 hh)]
          exact Ev.now _
    refine ⟨_, _, ev_guard' es (fun _ => ?_) (fun hn => absurd h.1 hn), ev_guard' ei (fun _ => impl_middle l h.1 h.2) (fun hn => absurd h hn)⟩
    by_cases h0 : 0 < l.length
    · simp only [if_pos (show (l.length : Int) > 0 by omega), if_pos (show 0 < (l.length : Int) by omega), rdL_zero h0, ← machP_cons h0]
      rw [show ((machP l : Int) != 3) = false by simpa using h.2 h0]
      exact hj
    · simp only [if_neg (show ¬ (l.length : Int) > 0 by omega)]
      exact hj
  · refine ⟨false, false, ev_guard' es (fun h1 => ?_) (fun _ => sno), ev_guard' ei (fun h1 => absurd h1 h) (fun _ => Ev.now _)⟩
    by_cases h0 : 0 < l.length
    · simp only [if_pos (show (l.length : Int) > 0 by omega), if_pos (show 0 < (l.length : Int) by omega), rdL_zero h0, ← machP_cons h0]
      rw [show ((machP l : Int) != 3) = true by
        by_cases e : (machP l : Int) = 3
        · exact absurd ⟨h1, fun _ => e⟩ h
        · simpa using e]
      exact sno
    · exact absurd ⟨h1, fun hh => absurd hh h0⟩ h

end Go.Proofs.Ytgelmpoaainlfaa.Pure
