/- Proved here: what functions that the law FnExactJohnsonOrder reaches answer (core_JohnsonOrder). Conditions: those that each theorem names. -/
import Derived.Test.YtphgpffgidfmmaaQFnExactJohnsonOrders
set_option linter.unusedVariables false
set_option linter.unusedSimpArgs false
namespace Go.Proofs.Ytphgpffgidfmmaa.Pure
open Go.RowKit Go.Proofs.Ytphgpffgidfmmaa.XFnExactJohnsonOrder Go.Proofs.YtphgpffgidfmmaaW.PrintWords Go.Proofs.YtphgpffgidfmmaaW.PrintLast

theorem johnLt_pre (shop : List (List Int)) (P : Int → Prop) : Pre (johnLt shop) P := by
  refine ⟨fun a b c _ _ _ => ?_, fun a b _ _ => ?_⟩
  · unfold johnLt
    generalize rd (shop.getD a.toNat []) 0 = a0
    generalize rd (shop.getD a.toNat []) 1 = a1
    generalize rd (shop.getD b.toNat []) 0 = b0
    generalize rd (shop.getD b.toNat []) 1 = b1
    generalize rd (shop.getD c.toNat []) 0 = c0
    generalize rd (shop.getD c.toNat []) 1 = c1
    by_cases ha : a0 ≤ a1 <;> by_cases hb : b0 ≤ b1 <;> by_cases hc : c0 ≤ c1 <;> simp [ha, hb, hc] <;> omega
  · unfold johnLt
    generalize rd (shop.getD a.toNat []) 0 = a0
    generalize rd (shop.getD a.toNat []) 1 = a1
    generalize rd (shop.getD b.toNat []) 0 = b0
    generalize rd (shop.getD b.toNat []) 1 = b1
    by_cases ha : a0 ≤ a1 <;> by_cases hb : b0 ≤ b1 <;> simp [ha, hb] <;> omega
theorem johnBe_lt (shop : List (List Int)) {a b : Int} (h : a < b) : johnBe shop a b = !(johnLt shop b a) := by
  unfold johnLt johnBe
  generalize rd (shop.getD a.toNat []) 0 = a0
  generalize rd (shop.getD a.toNat []) 1 = a1
  generalize rd (shop.getD b.toNat []) 0 = b0
  generalize rd (shop.getD b.toNat []) 1 = b1
  rw [Bool.eq_iff_iff]
  by_cases ha : a0 ≤ a1 <;> by_cases hb : b0 ≤ b1 <;> simp [ha, hb, h] <;> omega
theorem spec_l8Johnson.ev (shop : List (List Int)) (h8 : shop.length ≤ 8) (hr : ∀ r ∈ shop, r.length = 2) : Ev (fun k => spec_l8Johnson.f k shop) (sortN (johnLt shop) shop.length) := by
  have hg : ∀ a : Int, 0 ≤ a ∧ a < (shop.length : Int) → (shop.getD a.toNat []).length = 2 := by
    intro a ha
    have hh : a.toNat < shop.length := by omega
    rw [List.getD_eq_getElem?_getD, List.getElem?_eq_getElem hh]; exact hr _ (List.getElem_mem hh)
  have key := rev_ind (P := fun i => ∀ out : List Int, out.length = i → (∀ y ∈ out, 0 ≤ y ∧ y < (i : Int)) → SortedLt (johnLt shop) out → Ev (fun k => spec_l8Johnson.l0 k shop out (i : Int)) (insAll (johnLt shop) ((nums_to shop.length).drop i) out)) shop.length ?_ ?_ 0 (Nat.zero_le _) [] rfl (by simp) List.Pairwise.nil
  · simpa [spec_l8Johnson.f, sortN] using key
  · intro out ho _ _
    refine ev_stop fun k => ?_
    simp only [spec_l8Johnson.l0]; rw [if_neg (by omega), List.drop_of_length_le (by rw [nums_to_length]; omega), insAll]
  · intro i hi ih out ho hm' hs
    have hm : ∀ y ∈ out, 0 ≤ y ∧ y < (shop.length : Int) := fun y hy => by have := hm' y hy; omega
    refine ev_go (fun k => spec_l8Johnson.l1 k shop out (i : Int) 0) (fun k => ?h) ?e
    case e =>
      have hi2 : (nums_to shop.length)[i]'(by rw [nums_to_length]; exact hi) = (i : Int) := by simp [nums_to]
      rw [drop_cons (by rw [nums_to_length]; exact hi), hi2, insAll]
      have hP : Pre (johnLt shop) (fun y => 0 ≤ y ∧ y < (shop.length : Int)) := johnLt_pre _ _
      have hxi : 0 ≤ (i : Int) ∧ (i : Int) < (shop.length : Int) := by omega
      have hm2 : ∀ y ∈ insAt (johnLt shop) (i : Int) out, 0 ≤ y ∧ y < ((i + 1 : Nat) : Int) := insAt_mem (P := fun y => 0 ≤ y ∧ y < ((i + 1 : Nat) : Int)) (by omega) (fun y hy => by have := hm' y hy; omega)
      have inner := rev_ind (P := fun j => (∀ y ∈ out.take j, johnLt shop (i : Int) y = false) → Ev (fun k => spec_l8Johnson.l1 k shop out (i : Int) (j : Int)) (insAll (johnLt shop) ((nums_to shop.length).drop (i + 1)) (insAt (johnLt shop) (i : Int) out))) out.length ?_ ?_ 0 (Nat.zero_le _) (by simp)
      · exact inner
      · intro ht
        have ha := insAt_at hP hxi hm hs out.length (Nat.le_refl _) ht (fun h => absurd h (by omega))
        have hn := ih (insAt (johnLt shop) (i : Int) out) (by rw [insAt_len]; omega) hm2 (insAt_sorted hP hxi hm hs)
        rw [ha] at hn ⊢
        refine ev_go _ (fun k => ?_) hn
        simp only [spec_l8Johnson.l1]; rw [if_neg (by omega)]
        simp only [Option.bind_some]
        rw [if_pos (by omega), if_pos (by omega), if_pos (by simp; omega), if_pos (by simp; omega), if_pos (by simp; omega), wr1 (by omega)]
        simp
      · intro j hj ihj ht
        have hy := hm _ (List.getElem_mem hj)
        have hy' := hm' _ (List.getElem_mem hj)
        have hfi : ∀ k, spec_l8First.f k shop out[j] (i : Int) = some (!(johnLt shop (i : Int) out[j])) := fun k => by
          unfold spec_l8First.f
          rw [if_pos ⟨hy, hxi, hg _ hy, hg _ hxi⟩, johnBe_lt shop hy'.2]
        by_cases q : johnLt shop (i : Int) out[j] = false
        · refine ev_go _ (fun k => ?_) (ihj ?_)
          · simp only [spec_l8Johnson.l1]; rw [rd_nat hj, if_pos (by omega), if_pos (by omega), hfi, q, Option.bind_some, if_pos (by rfl), wr1 (by omega)]
          · intro y hy
            rw [List.take_succ_eq_append_getElem hj] at hy
            rcases List.mem_append.1 hy with hy | hy
            · exact ht y hy
            · rw [List.mem_singleton] at hy; subst hy; exact q
        · have q' : johnLt shop (i : Int) out[j] = true := by simpa using q
          have ha := insAt_at hP hxi hm hs j (by omega) ht (fun _ => q')
          have hn := ih (insAt (johnLt shop) (i : Int) out) (by rw [insAt_len]; omega) hm2 (insAt_sorted hP hxi hm hs)
          rw [ha] at hn ⊢
          refine ev_go _ (fun k => ?_) hn
          simp only [spec_l8Johnson.l1]; rw [rd_nat hj, if_pos (by omega), if_pos (by omega), hfi, q', Option.bind_some, if_neg (by simp)]
          simp only [Option.bind_some]
          rw [if_pos (by omega), if_pos (by simp; omega), if_pos (by simp; omega), if_pos (by simp; omega), wr1 (by omega)]
          simp
    case h => simp only [spec_l8Johnson.l0]; rw [if_pos (by omega)]
theorem core_JohnsonOrder (l : List (List Int)) (hl : l.length ≤ 1048576) (hr : ∀ y ∈ l, y.length ≤ 1048576) : ∃ r b, Ev (fun k => spec_JohnsonOrder.f k l) (r, b) ∧ Ev (fun k => impl_JohnsonOrder.f k l) (r, b) ∧ r.length ≤ 1048576 := by
  unfold spec_JohnsonOrder.f impl_JohnsonOrder.f
  have es := spec_l8Pair.ev l (by omega) (fun y hy => by have := hr y hy; omega)
  have ei := impl_isShopOf.ev l 2 (fun y hy => by have := hr y hy; omega)
  by_cases h : ShopOk l ∧ (0 < l.length → (machP l : Int) = 2)
  · have h8 := h.1.1
    have hrow : ∀ r ∈ l, r.length = 2 := fun r hr => by
      have h1 := (h.1.2.2 r hr).1
      have h2 := h.2 (List.length_pos_of_mem hr)
      omega
    have hp := sortN_isPerm (johnLt l) l.length
    refine ⟨sortN (johnLt l) l.length, true, ev_guard' es (fun _ => ev_bind _ (spec_l8Johnson.ev l h8 hrow) (Ev.now _)) (fun hn => absurd h hn), ev_guard' ei (fun _ => ?_) (fun hn => absurd h hn), by have := hp.1; omega⟩
    simp only [if_pos hrow]
    refine ev_bind (nums_to l.length) (impl_numbersTo.ev _ (by omega)) ?_
    simp only [if_pos (show (nums_to l.length).length ≤ 1048576 ∧ ∀ x ∈ nums_to l.length, 0 ≤ x ∧ x < (l.length : Int) from ⟨by rw [nums_to_length]; omega, fun x hx => mem_nums_to.1 hx⟩)]
    exact Ev.now _
  · exact ⟨[], false, ev_guard' es (fun h1 => absurd h1 h) (fun _ => Ev.now _), ev_guard' ei (fun h1 => absurd h1 h) (fun _ => Ev.now _), by simp⟩

end Go.Proofs.Ytphgpffgidfmmaa.Pure
