/- Proved here: the statement over numbers and lists alone of the law FnSplitJoin, for all its arguments within the bounds that it names. Conditions: those that each theorem names. -/
import Derived.Test.YteeeclaooefjfaaQFnSplitJoinxo
set_option linter.unusedVariables false
set_option linter.unusedSimpArgs false
namespace Go.Proofs.Yteeeclaooefjfaa.Pure
open Go.RowKit Go.Proofs.Yteeeclaooefjfaa.XFnSplitJoin Go.Proofs.YteeeclaooefjfaaW.PrintWords Go.Proofs.YteeeclaooefjfaaW.PrintLast

theorem bl_asym : ∀ (a b : List UInt8), Op.bytesLess a b = true → Op.bytesLess b a = false
  | [], [], h => by simp [Op.bytesLess] at h
  | [], _ :: _, _ => by simp [Op.bytesLess]
  | _ :: _, [], h => by simp [Op.bytesLess] at h
  | a :: x, b :: y, h => by
    rw [Op.bytesLess] at h ⊢
    simp only [Bool.or_eq_true, decide_eq_true_eq, Bool.and_eq_true, beq_iff_eq] at h
    rcases h with h | ⟨rfl, h⟩
    · have h1 : ¬ b < a := UInt8.lt_asymm h
      have h2 : ¬ b = a := by rintro rfl; exact UInt8.lt_irrefl _ h
      simp [h1, h2]
    · simp [UInt8.lt_irrefl, bl_asym x y h]
theorem spec_DrawSplitString.tot {s : List Int} (hs : ByteL s) : ∃ a b, spec_DrawSplitString.f s = some (a, b) ∧ a.size ≤ 10 := by
  unfold spec_DrawSplitString.f
  obtain ⟨v, p1, q1, e, h1, h2, h3⟩ := any1 hs 0 0 (by omega) (by omega)
  rw [e, Option.bind_some]
  obtain ⟨u, p2, q2, e2, _⟩ := of_ hs p1 q1 [(⟨#[44]⟩ : ByteArray), (⟨#[44]⟩ : ByteArray), (⟨#[32]⟩ : ByteArray), (⟨#[]⟩ : ByteArray), (⟨#[44, 44]⟩ : ByteArray)] (by simp) (by omega) (by omega)
  simp only []
  rw [e2, Option.bind_some]
  exact ⟨v, u, rfl, h1⟩
theorem spec_DrawLessString.tot {s : List Int} (hs : ByteL s) : ∃ a b, spec_DrawLessString.f s = some (a, b) := by
  unfold spec_DrawLessString.f
  obtain ⟨v, p1, q1, e, h1, h2, h3⟩ := any1 hs 0 0 (by omega) (by omega)
  rw [e, Option.bind_some]
  obtain ⟨u, p2, q2, e2, _⟩ := any1 hs p1 q1 (by omega) (by omega)
  simp only []
  rw [e2, Option.bind_some]
  exact ⟨v, u, rfl⟩
theorem drawJoin_l0 {s : List Int} (hs : ByteL s) (n : Int) (hn : n ≤ 10) : ∀ (c : Nat) (i : Int) (ls : List ByteArray) (p q : Int), n ≤ i + c → 0 ≤ i → (ls.length : Int) ≤ i → i ≤ 10 → (∀ x ∈ ls, x.size ≤ 5000) → 0 ≤ p → p + 2 * (c : Int) ≤ 1000000000 → ∃ r m, Ev (fun k => spec_DrawJoinStrings.l0 k ls n i s p q) (r, m) ∧ r.length ≤ 20 ∧ ∀ x ∈ r, x.size ≤ 5000 := by
  intro c
  induction c with
  | zero =>
    intro i ls p q h1 h2 h3 h4 h5 h6 h7
    obtain ⟨b, p1, q1, e1, h8, h9⟩ := on hs p q 20 h6 (by omega)
    have marks_ : ∀ (p q : Int), 0 ≤ p → p ≤ 1000000000000 → ∃ v p' q', spec_l1Cur_of.f s p q [(⟨#[44]⟩ : ByteArray), (⟨#[59]⟩ : ByteArray), (⟨#[59]⟩ : ByteArray), (⟨#[]⟩ : ByteArray), (⟨#[97, 98]⟩ : ByteArray)] = some (v, p', q') := fun p q h h' => by
      obtain ⟨v, p', q', e, _⟩ := of_ hs p q [(⟨#[44]⟩ : ByteArray), (⟨#[59]⟩ : ByteArray), (⟨#[59]⟩ : ByteArray), (⟨#[]⟩ : ByteArray), (⟨#[97, 98]⟩ : ByteArray)] (by simp) h (by omega)
      exact ⟨v, p', q', e⟩
    by_cases hb : b = true
    · obtain ⟨v, p2, q2, e2, hv0, hv1, h10, h11⟩ := pk hs p1 q1 20 (by omega) (by omega)
      have hv2 := hv1 (by omega)
      obtain ⟨m, p3, q3, e3⟩ := marks_ p2 q2 (by omega) (by omega)
      have hw : wrap64 (3990 + v) = 3990 + v := wr (by omega) (by omega)
      refine ⟨ls ++ [strOfNums (List.replicate (3990 + v).toNat 0)], m, ev_stop fun k => ?_, by simp; omega, fun x hx => ?_⟩
      · simp only [spec_DrawJoinStrings.l0]
        rw [if_neg (by omega), e1, Option.bind_some]
        simp only []
        rw [if_pos hb, e2, Option.bind_some]
        simp only []
        rw [hw, if_pos (by omega), if_pos (by omega), if_pos (by omega), e3, Option.bind_some]
      · rcases List.mem_append.1 hx with hx | hx
        · exact h5 x hx
        · rw [List.mem_singleton] at hx
          subst hx
          have : (strOfNums (List.replicate (3990 + v).toNat 0)).size = (3990 + v).toNat := by simp [strOfNums, ByteArray.size]
          omega
    · obtain ⟨m, p3, q3, e3⟩ := marks_ p1 q1 (by omega) (by omega)
      refine ⟨ls, m, ev_stop fun k => ?_, by omega, h5⟩
      simp only [spec_DrawJoinStrings.l0]
      rw [if_neg (by omega), e1, Option.bind_some]
      simp only []
      rw [if_neg hb, e3, Option.bind_some]
  | succ c ih =>
    intro i ls p q h1 h2 h3 h4 h5 h6 h7
    by_cases hi : i < n
    · obtain ⟨v, p1, q1, e1, hv, h8, h9⟩ := any1 hs p q h6 (by omega)
      obtain ⟨r, m, hr, hr2⟩ := ih (i + 1) (ls ++ [v]) p1 q1 (by omega) (by omega) (by simp; omega) (by omega) (fun x hx => by
        rcases List.mem_append.1 hx with hx | hx
        · exact h5 x hx
        · rw [List.mem_singleton] at hx; subst hx; omega) (by omega) (by omega)
      refine ⟨r, m, ev_go _ (fun k => ?_) hr, hr2⟩
      simp only [spec_DrawJoinStrings.l0]
      rw [if_pos hi, e1, Option.bind_some]
      simp only []
      rw [if_pos (by omega), show wrap64 (i + 1) = i + 1 from wr (by omega) (by omega)]
    · exact ih i ls p q (by omega) h2 h3 h4 h5 h6 (by omega)
theorem spec_DrawJoinStrings.tot {s : List Int} (hs : ByteL s) : ∃ r m, Ev (fun k => spec_DrawJoinStrings.f k s) (r, m) ∧ r.length ≤ 20 ∧ ∀ x ∈ r, x.size ≤ 5000 := by
  unfold spec_DrawJoinStrings.f
  obtain ⟨v, p1, q1, e1, hv0, hv1, h8, h9⟩ := pk hs 0 0 4 (by omega) (by omega)
  have hv := hv1 (by omega)
  obtain ⟨r, m, h, h2⟩ := drawJoin_l0 hs v (by omega) 10 0 [] p1 q1 (by omega) (by omega) (by simp) (by omega) (by simp) (by omega) (by omega)
  refine ⟨r, m, ?_, h2⟩
  simp only [e1, Option.bind_some]
  exact h
theorem FnSplitJoin (l0 : List Int) (h0 : l0.length ≤ maxLen ∧ ∀ x ∈ l0, (Lit.int .u8 x).wf = true) : ∃ k, laws_FnSplitJoin.f k l0 = some true := by
  have hbytes := h0.2
  refine Ev.rounds (g := fun k => laws_FnSplitJoin.f k l0) ?_
  unfold laws_FnSplitJoin.f laws_vBig.f
  simp only [Option.bind_some]
  by_cases hbig : (l0.length : Int) > 65536
  · simp only [if_pos (decide_eq_true hbig)]; exact Ev.now _
  simp only [if_neg (show ¬ decide ((l0.length : Int) > 65536) = true by simpa using hbig)]
  obtain ⟨s, sep, e1, hs⟩ := spec_DrawSplitString.tot (s := l0) hbytes
  obtain ⟨parts, mark, hJ, hpl, hps⟩ := spec_DrawJoinStrings.tot (s := l0) hbytes
  obtain ⟨a, b, e3⟩ := spec_DrawLessString.tot (s := l0) hbytes
  obtain ⟨r, fine, j1, j2, _⟩ := join_both parts mark (by omega) hps
  simp only [e1, e3, Option.bind_some]
  have fin : ∀ (l : List ByteArray) (ok : Bool), (sep.size = 1 → l = splitP s (bt sep 0) 0 0 ∧ ok = true) → (sep.size ≠ 1 → l = [] ∧ ok = false) → Ev (fun k => laws_FnSplitJoin.j0 k s sep l ok false) true := by
    intro l ok h1 h2
    by_cases c : sep.size = 1
    · obtain ⟨rfl, rfl⟩ := h1 c
      have hfree := split_free s (bt sep 0) 0 (Nat.zero_le _) 0 (Nat.le_refl _) (fun j _ hj => by omega)
      have hlen := splitP_le s (bt sep 0) 0 (Nat.zero_le _) 0
      have hpos := splitP_pos s (bt sep 0) 0 (Nat.zero_le _) 0
      have hjs : joinAll sep (splitP s (bt sep 0) 0 0) = s := by rw [join_split c 0 (Nat.zero_le _) 0 (Nat.le_refl _)]; exact ByteArray.extract_zero_size
      obtain ⟨r2, b2, k1, _, k3⟩ := join_both (splitP s (bt sep 0) 0 0) sep (by omega) (fun p hp => by have := (hfree p hp).2; omega)
      obtain ⟨rfl, rfl⟩ := k3 hpos c (fun p hp => (hfree p hp).1) (by rw [hjs]; omega)
      refine ev_go (fun k => (impl_JoinStrings.f k (splitP s (bt sep 0) 0 0) sep).bind fun bt215 => (if (true : Bool) = true then (if bt215.2 = true then (some (bt215.1.toList == s.toList)) else (some false)) else (some false))) (fun k => ?_) (ev_bind _ k1 ?_)
      · simp only [laws_FnSplitJoin.j0]; rw [if_neg (by simp), if_pos (by omega)]
      · simp only [if_true]
        rw [hjs]
        simp only [beq_self_eq_true]
        exact Ev.now _
    · obtain ⟨rfl, rfl⟩ := h2 c
      refine ev_stop fun k => ?_
      simp only [laws_FnSplitJoin.j0]; rw [if_neg (by simp), if_neg (by omega)]
      simp
  have hsplit : ∃ l ok, Ev (fun k => impl_SplitString.f k s sep) (l, ok) ∧ (sep.size = 1 → l = splitP s (bt sep 0) 0 0 ∧ ok = true) ∧ (sep.size ≠ 1 → l = [] ∧ ok = false) := by
    unfold impl_SplitString.f
    simp only [if_neg (show ¬ (s.size : Int) > 4000 by omega)]
    by_cases c : sep.size = 1
    · simp only [if_pos (show (sep.size : Int) = 1 by omega), if_pos (show 0 < (sep.size : Int) by omega)]
      exact ⟨_, _, ev_bind _ (impl_split.ev s (bt sep 0) (by omega)) (Ev.now _), fun _ => ⟨rfl, rfl⟩, fun h => absurd c h⟩
    · simp only [if_neg (show ¬ (sep.size : Int) = 1 by omega)]
      exact ⟨_, _, Ev.now _, fun h => absurd h c, fun _ => ⟨rfl, rfl⟩⟩
  obtain ⟨l, ok, hs1, hs2, hs3⟩ := hsplit
  refine ev_bind _ hs1 (ev_bind _ hJ (ev_bind _ j1 (ev_bind _ j2 ?_)))
  simp only [bne_self_eq_false, Bool.false_eq_true, if_false, if_true, impl_LessString.f, spec_LessString.f, Option.bind_some]
  by_cases hl : Op.bytesLess a.toList b.toList = true
  · simp only [hl, if_true, bl_asym _ _ hl]
    exact fin l ok hs2 hs3
  · simp only [hl, Bool.false_eq_true, if_false]
    exact fin l ok hs2 hs3

end Go.Proofs.Yteeeclaooefjfaa.Pure
