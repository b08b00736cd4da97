/- Proved here: what functions that the law FnExactIsJohnsonSorted reaches answer (spec_l8Pair, core_IsJohnsonSorted). Conditions: those that each theorem names. -/
import Derived.Test.YtigfamfbppdbaaaQFnExactIsJohnsonSortedk
set_option linter.unusedVariables false
set_option linter.unusedSimpArgs false
namespace Go.Proofs.Ytigfamfbppdbaaa.Pure
open Go.RowKit Go.Proofs.Ytigfamfbppdbaaa.XFnExactIsJohnsonSorted Go.Proofs.YtigfamfbppdbaaaW.PrintWords Go.Proofs.YtigfamfbppdbaaaW.PrintLast

theorem spec_l8Pair.ev (l : List (List Int)) (hl : l.length ≤ 1000000000) (hr : ∀ y ∈ l, y.length ≤ 1000000000) : EvB (fun k => spec_l8Pair.f k l) (ShopOk l ∧ (0 < l.length → (machP l : Int) = 2)) := by
  unfold spec_l8Pair.f
  have e := spec_l8Good.ev l (by omega) (fun y hy => by have := hr y hy; omega)
  by_cases h0 : l.length = 0
  · refine evB_of (fun h => ev_guard' e (fun _ => ?_) (fun hn => absurd h.1 hn)) (fun h => ev_guard' e (fun h1 => absurd ⟨h1, fun c => absurd c (by omega)⟩ h) (fun _ => Ev.now _))
    simp only [if_pos (show (l.length : Int) = 0 by omega)]; exact Ev.now _
  · have hc : ((((rd_L1 l 0).length : Nat) : Int) == 2) = true ↔ (machP l : Int) = 2 := by rw [rdL_zero (by omega), ← machP_cons (by omega), beq_iff_eq]
    refine evB_of (fun h => ev_guard' e (fun _ => ?_) (fun hn => absurd h.1 hn)) (fun h => ev_guard' e (fun h1 => ?_) (fun _ => Ev.now _))
    · simp only [if_neg (show ¬ (l.length : Int) = 0 by omega), if_pos (show 0 < (l.length : Int) by omega), hc.2 (h.2 (by omega))]; exact Ev.now _
    · rw [show ((((rd_L1 l 0).length : Nat) : Int) == 2) = false by rw [← Bool.not_eq_true]; exact fun c => h ⟨h1, fun _ => hc.1 c⟩]
      simp only [if_neg (show ¬ (l.length : Int) = 0 by omega), if_pos (show 0 < (l.length : Int) by omega)]; exact Ev.now _

theorem johnson_both (l : List (List Int)) (o : List Int) (h : ShopOk l) (h2 : 0 < l.length → (machP l : Int) = 2) (ho : IsPerm l.length o) : ∃ r b, Ev (fun k => spec_IsJohnsonSorted.l0 k l o 0) (r, b) ∧ Ev (fun k => impl_IsJohnsonSorted.l0 k l o o (o.length : Int) 0) (r, b) := by
  have hl := h.1
  have hol := ho.1
  have hx : ∀ i, i < o.length → (0 ≤ rd o (i : Int) ∧ rd o (i : Int) < (l.length : Int)) ∧ (rd_L1 l (rd o (i : Int))).length = 2 := by
    intro i hi
    have hx := ho.2.2 _ (List.getElem_mem hi)
    rw [← rd_nat hi] at hx
    refine ⟨hx, ?_⟩
    obtain ⟨x, hx'⟩ : ∃ x : Nat, rd o (i : Int) = x := ⟨(rd o (i : Int)).toNat, by omega⟩
    rw [hx', rdL_nat (by omega)]
    have := (h.2.2 _ (List.getElem_mem (show x < l.length by omega))).1
    have := h2 (by omega)
    omega
  have key := rev_ind (P := fun i => Sim (fun k => spec_IsJohnsonSorted.l0 k l o (i : Int)) (fun k => impl_IsJohnsonSorted.l0 k l o o (o.length : Int) (i : Int))) o.length ?_ ?_ 0 (Nat.zero_le _)
  · obtain ⟨⟨r, b⟩, a, c⟩ := key
    exact ⟨r, b, a, c⟩
  · refine sim_stop (r := (true, true)) (fun k => ?_) (fun k => ?_)
    · simp only [spec_IsJohnsonSorted.l0]; rw [if_neg (by omega)]
    · simp only [impl_IsJohnsonSorted.l0]; rw [if_neg (by omega)]
  · intro i hi ih
    have hi' := hx i hi
    have hdl : (o.drop (i + 1)).length = o.length - (i + 1) := by simp
    have row := rev_ind (P := fun q => Sim (fun k => spec_IsJohnsonSorted.l1 k l o (i : Int) ((i + 1 + q : Nat) : Int)) (fun k => impl_IsJohnsonSorted.l1 k l o (rd o (i : Int)) o (o.length : Int) (i : Int) (o.drop (i + 1)) ((o.drop (i + 1)).length : Int) (q : Int))) (o.length - (i + 1)) ?_ ?_ 0 (Nat.zero_le _)
    · refine sim_step _ _ (fun k => ?_) (fun k => ?_) row
      · simp only [spec_IsJohnsonSorted.l0]; rw [if_pos (by omega), wr1 (by omega)]
      · simp only [impl_IsJohnsonSorted.l0]; rw [if_pos (by omega), if_pos (by omega), if_pos (by omega), wr1 (by omega), if_pos (by omega), if_pos (by omega)]; rfl
    · refine sim_step _ _ (fun k => ?_) (fun k => ?_) ih
      · simp only [spec_IsJohnsonSorted.l1]; rw [if_neg (by omega), wr1 (by omega)]
      · simp only [impl_IsJohnsonSorted.l1]; rw [if_neg (by omega), wr1 (by omega)]
    · intro q hq ih'
      have hj := hx (i + 1 + q) (by omega)
      have hd : rd (o.drop (i + 1)) (q : Int) = rd o ((i + 1 + q : Nat) : Int) := by
        rw [rd_nat (by omega), rd_nat (by omega), List.getElem_drop]
      by_cases c : mn (rd (rd_L1 l (rd o (i : Int))) 0) (rd (rd_L1 l (rd o ((i + 1 + q : Nat) : Int))) 1) > mn (rd (rd_L1 l (rd o ((i + 1 + q : Nat) : Int))) 0) (rd (rd_L1 l (rd o (i : Int))) 1)
      · refine sim_stop (r := (false, true)) (fun k => ?_) (fun k => ?_)
        · simp only [spec_IsJohnsonSorted.l1]; rw [if_pos (by omega), if_pos (by omega), if_pos (by omega), if_pos hi'.1.1, if_pos hi'.1.2, if_pos (by omega), if_pos hj.1.1, if_pos hj.1.2, if_pos (by omega), if_pos (by omega), spec_l1Least.eqk, Option.bind_some, if_pos (by omega), if_pos (by omega), spec_l1Least.eqk, Option.bind_some, if_pos c]
        · simp only [impl_IsJohnsonSorted.l1]; rw [if_pos (by omega), if_pos (by omega), if_pos (by omega), if_pos hi'.1.1, if_pos hi'.1.2, if_pos (by omega), hd, if_pos hj.1.1, if_pos hj.1.2, if_pos (by omega), if_pos (by omega), if_pos (by omega), if_pos c]
      · refine sim_step _ _ (fun k => ?_) (fun k => ?_) ih'
        · simp only [spec_IsJohnsonSorted.l1]; rw [if_pos (by omega), if_pos (by omega), if_pos (by omega), if_pos hi'.1.1, if_pos hi'.1.2, if_pos (by omega), if_pos hj.1.1, if_pos hj.1.2, if_pos (by omega), if_pos (by omega), spec_l1Least.eqk, Option.bind_some, if_pos (by omega), if_pos (by omega), spec_l1Least.eqk, Option.bind_some, if_neg c, wr1 (by omega)]; rfl
        · simp only [impl_IsJohnsonSorted.l1]; rw [if_pos (by omega), if_pos (by omega), if_pos (by omega), if_pos hi'.1.1, if_pos hi'.1.2, if_pos (by omega), hd, if_pos hj.1.1, if_pos hj.1.2, if_pos (by omega), if_pos (by omega), if_pos (by omega), if_neg c, wr1 (by omega)]
theorem core_IsJohnsonSorted (l : List (List Int)) (o : List Int) (hl : l.length ≤ 1048576) (hr : ∀ y ∈ l, y.length ≤ 1048576) (ho : o.length ≤ 1048576) : ∃ r b, Ev (fun k => spec_IsJohnsonSorted.f k l o) (r, b) ∧ Ev (fun k => impl_IsJohnsonSorted.f k l o) (r, b) := by
  unfold spec_IsJohnsonSorted.f impl_IsJohnsonSorted.f
  have es := spec_l8Pair.ev l (by omega) (fun y hy => by have := hr y hy; omega)
  have ei := impl_isShopOf.ev l 2 (fun y hy => by have := hr y hy; omega)
  have eo := spec_l2Order.ev (l.length : Int) o (by omega)
  have sno : Ev (fun k => spec_IsJohnsonSorted.j0 k l o true) (false, false) := ev_stop fun k => by simp only [spec_IsJohnsonSorted.j0]; rfl
  have ino : Ev (fun k => impl_IsJohnsonSorted.j0 k l o true) (false, false) := ev_stop fun k => by simp only [impl_IsJohnsonSorted.j0]; rfl
  by_cases h : ShopOk l ∧ (0 < l.length → (machP l : Int) = 2)
  · have hl8 := h.1.1
    have ep := impl_isOrder.ev (l.length : Int) o (by omega) (by omega) (by omega)
    by_cases h2 : IsPerm l.length o
    · obtain ⟨r, b, a, c⟩ := johnson_both l o h.1 h.2 h2
      refine ⟨r, b, ev_guard' es (fun _ => ev_bind true (evB_true eo ⟨by omega, by simpa using h2⟩) (ev_go _ (fun k => by simp only [spec_IsJohnsonSorted.j0]; rfl) a)) (fun hn => absurd h hn), ev_guard' ei (fun _ => ev_bind true (evB_true ep (by simpa using h2)) (ev_go _ (fun k => by simp only [impl_IsJohnsonSorted.j0]; rfl) c)) (fun hn => absurd h hn)⟩
    · exact ⟨false, false, ev_guard' es (fun _ => ev_bind false (evB_false eo (fun h3 => h2 (by simpa using h3.2))) sno) (fun hn => absurd h hn), ev_guard' ei (fun _ => ev_bind false (evB_false ep (fun h3 => h2 (by simpa using h3))) ino) (fun hn => absurd h hn)⟩
  · exact ⟨false, false, ev_guard' es (fun h1 => absurd h1 h) (fun _ => sno), ev_guard' ei (fun h1 => absurd h1 h) (fun _ => ino)⟩

end Go.Proofs.Ytigfamfbppdbaaa.Pure
