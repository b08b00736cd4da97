/- Proved here: what functions that the law FnSplitJoin reaches answer (joinF, joinBoth, drawStr). Conditions: those that each theorem names. -/
import Derived.Test.YteeeclaooefjfaaQFnSplitJoinxe
set_option linter.unusedVariables false
set_option linter.unusedSimpArgs false
namespace Go.Proofs.Yteeeclaooefjfaa.Pure
open Go.RowKit Go.Proofs.Yteeeclaooefjfaa.XFnSplitJoin Go.Proofs.YteeeclaooefjfaaW.PrintWords Go.Proofs.YteeeclaooefjfaaW.PrintLast

def joinFrom (sep : ByteArray) : ByteArray → List ByteArray → ByteArray
  | acc, [] => acc
  | acc, p :: ps => joinFrom sep ((acc ++ sep) ++ p) ps
def joinAll (sep : ByteArray) : List ByteArray → ByteArray
  | [] => ⟨#[]⟩
  | p :: ps => joinFrom sep (⟨#[]⟩ ++ p) ps
def sizesF : List ByteArray → Nat
  | [] => 0
  | p :: ps => p.size + sizesF ps
def FreeB (b : Int) (p : ByteArray) : Prop := ∀ j, j < p.size → bt p (j : Int) ≠ b
theorem emp_app (p : ByteArray) : (⟨#[]⟩ : ByteArray) ++ p = p := ByteArray.empty_append
theorem joinFrom_size (sep : ByteArray) (h : sep.size = 1) : ∀ (ps : List ByteArray) (acc : ByteArray), (joinFrom sep acc ps).size = acc.size + ps.length + sizesF ps
  | [], acc => by simp [joinFrom, sizesF]
  | p :: ps, acc => by rw [joinFrom, joinFrom_size sep h ps, ByteArray.size_append, ByteArray.size_append, sizesF, List.length_cons]; omega
theorem joinFrom_app (sep a : ByteArray) : ∀ (ps : List ByteArray) (c : ByteArray), joinFrom sep (a ++ c) ps = a ++ joinFrom sep c ps
  | [], c => rfl
  | p :: ps, c => by rw [joinFrom, joinFrom, ByteArray.append_assoc, ByteArray.append_assoc, joinFrom_app sep a ps, ByteArray.append_assoc]
theorem joinAll_cons (sep x y : ByteArray) (ys : List ByteArray) : joinAll sep (x :: y :: ys) = x ++ (sep ++ joinAll sep (y :: ys)) := by
  rw [joinAll, joinAll, emp_app, emp_app, joinFrom, ByteArray.append_assoc, joinFrom_app, joinFrom_app]
theorem sep_ext {s sep : ByteArray} {i : Nat} (hi : i < s.size) (h1 : sep.size = 1) (hb : bt s (i : Int) = bt sep 0) : sep = s.extract i (i + 1) := by
  apply ByteArray.ext
  apply Array.ext
  · rw [ByteArray.size_data, ByteArray.size_data, ByteArray.size_extract]; omega
  · intro j h2 h3
    have hj : j = 0 := by rw [ByteArray.size_data] at h2; omega
    subst hj
    have e1 := bt_at s (i : Int) (by simpa using hi)
    have e2 := bt_at sep ((0 : Nat) : Int) (by rw [Int.toNat_natCast]; omega)
    have e3 : (s[i].toNat : Int) = (sep[0].toNat : Int) := by
      have : bt s (i : Int) = bt sep ((0 : Nat) : Int) := hb
      rw [← e1, ← e2] at this
      simpa using this
    have e4 : s[i] = sep[0] := UInt8.toNat_inj.1 (by omega)
    have e5 : (s.extract i (i + 1))[0]'(by rw [ByteArray.size_extract]; omega) = s[i] := ByteArray.getElem_extract _
    show sep[0] = (s.extract i (i + 1))[0]
    rw [e5, e4]
theorem join_split {s sep : ByteArray} (h1 : sep.size = 1) : ∀ i, i ≤ s.size → ∀ fr, fr ≤ i → joinAll sep (splitP s (bt sep 0) fr i) = s.extract fr s.size := by
  refine rev_ind s.size (fun fr hf => ?_) (fun i hi ih fr hf => ?_)
  · rw [splitP_end (by omega), joinAll, joinFrom, emp_app]
  · by_cases e : bt s (i : Int) = bt sep 0
    · rw [splitP_hit hi e]
      have hp := splitP_pos s (bt sep 0) (i + 1) hi (i + 1)
      have ih2 := ih (i + 1) (Nat.le_refl _)
      cases hc : splitP s (bt sep 0) (i + 1) (i + 1) with
      | nil => rw [hc] at hp; simp at hp
      | cons y ys =>
        rw [hc] at ih2
        rw [joinAll_cons, ih2]
        have hs : sep ++ s.extract (i + 1) s.size = s.extract i s.size := by
          rw [ByteArray.extract_eq_extract_append_extract (a := s) (i := i) (k := s.size) (i + 1) (by omega) (by omega), ← sep_ext hi h1 e]
        rw [hs, ← ByteArray.extract_eq_extract_append_extract i hf (by omega)]
    · rw [splitP_miss hi e]
      exact ih fr (by omega)
theorem bt_extr (s : ByteArray) {fr i j : Nat} (hi : i ≤ s.size) (hj : j < i - fr) : bt (s.extract fr i) (j : Int) = bt s ((fr + j : Nat) : Int) := by
  have h1 : j < (s.extract fr i).size := by rw [ByteArray.size_extract]; omega
  have h2 : fr + j < s.size := by omega
  rw [← bt_at (s.extract fr i) (j : Int) (by simpa using h1), ← bt_at s ((fr + j : Nat) : Int) (by rw [Int.toNat_natCast]; exact h2)]
  have := ByteArray.getElem_extract (b := s) (start := fr) (stop := i) (i := j) h1
  simp only [Int.toNat_natCast]
  rw [this]
theorem split_free (s : ByteArray) (b : Int) : ∀ i, i ≤ s.size → ∀ fr, fr ≤ i → (∀ j, fr ≤ j → j < i → bt s (j : Int) ≠ b) → ∀ p ∈ splitP s b fr i, FreeB b p ∧ p.size ≤ s.size := by
  refine rev_ind s.size (fun fr hf hfree p hp => ?_) (fun i hi ih fr hf hfree p hp => ?_)
  · rw [splitP_end (by omega), List.mem_singleton] at hp
    subst hp
    refine ⟨fun j hj => ?_, by rw [ByteArray.size_extract]; omega⟩
    rw [ByteArray.size_extract] at hj
    rw [bt_extr s (Nat.le_refl _) (by omega)]
    exact hfree _ (by omega) (by omega)
  · by_cases e : bt s (i : Int) = b
    · rw [splitP_hit hi e] at hp
      rcases List.mem_cons.1 hp with rfl | hp
      · refine ⟨fun j hj => ?_, by rw [ByteArray.size_extract]; omega⟩
        rw [ByteArray.size_extract] at hj
        rw [bt_extr s (by omega) (by omega)]
        exact hfree _ (by omega) (by omega)
      · exact ih (i + 1) (Nat.le_refl _) (fun j h1 h2 => by omega) p hp
    · rw [splitP_miss hi e] at hp
      refine ih fr (by omega) (fun j h1 h2 => ?_) p hp
      by_cases q : j = i
      · subst q; exact e
      · exact hfree j h1 (by omega)
theorem splitP_le (s : ByteArray) (b : Int) : ∀ i, i ≤ s.size → ∀ fr, (splitP s b fr i).length ≤ s.size - i + 1 := by
  refine rev_ind s.size (fun fr => by rw [splitP_end (by omega)]; simp) (fun i hi ih fr => ?_)
  by_cases e : bt s (i : Int) = b
  · rw [splitP_hit hi e, List.length_cons]; have := ih (i + 1); omega
  · rw [splitP_miss hi e]; have := ih fr; omega

theorem rdOf_nat {l : List ByteArray} {i : Nat} (h : i < l.length) : rdOf ByteArray.empty l (i : Int) = l[i] := by simp [rdOf, h]
theorem sizes_le {B : Nat} : ∀ (l : List ByteArray), (∀ p ∈ l, p.size ≤ B) → sizesF l ≤ l.length * B
  | [], _ => Nat.zero_le _
  | p :: l, h => by
    have := h p List.mem_cons_self
    have := sizes_le l (fun q hq => h q (List.mem_cons_of_mem _ hq))
    rw [sizesF, List.length_cons, Nat.succ_mul]; omega
theorem impl_join.ev (ls : List ByteArray) (sep : ByteArray) (h1 : sep.size = 1) (hl : ls.length ≤ 10000) (hp : ∀ p ∈ ls, p.size ≤ 5000) : Ev (fun k => impl_join.f k ls sep) (joinAll sep ls) := by
  have key := rev_ind (P := fun i => 1 ≤ i → ∀ acc : ByteArray, acc.size ≤ i * 5001 → Ev (fun k => impl_join.l0 k sep acc ls (ls.length : Int) (i : Int)) (joinFrom sep acc (ls.drop i))) ls.length ?_ ?_
  · unfold impl_join.f
    cases hls : ls with
    | nil =>
      refine ev_stop fun k => ?_
      simp only [impl_join.l0]; rw [if_neg (by simp)]; rfl
    | cons p ps =>
      have hp0 := hp p (by rw [hls]; exact List.mem_cons_self)
      have k1 := key 1 (by rw [hls]; simp) (Nat.le_refl _) (⟨#[]⟩ ++ p) (by rw [emp_app]; omega)
      rw [hls] at k1
      simp only [List.drop_succ_cons, List.drop_zero] at k1
      refine ev_go _ (fun k => ?_) k1
      simp only [impl_join.l0]
      rw [if_pos (by simp <;> omega), if_pos (by omega), if_pos (by simp <;> omega), if_neg (by omega), show rdOf ByteArray.empty (p :: ps) 0 = p from rfl, if_pos (by show 0 + p.size ≤ _; omega), show wrap64 ((0 : Int) + 1) = ((1 : Nat) : Int) from by rw [wr (by omega) (by omega)]; rfl]
  · intro _ acc _
    refine ev_stop fun k => ?_
    simp only [impl_join.l0]; rw [if_neg (by omega), List.drop_length]; rfl
  · intro i hi ih h0 acc ha
    have hpi := hp _ (List.getElem_mem hi)
    have hn := ih (by omega) ((acc ++ sep) ++ ls[i]) (by rw [ByteArray.size_append, ByteArray.size_append]; omega)
    rw [drop_cons hi, joinFrom]
    refine ev_go _ (fun k => ?_) hn
    simp only [impl_join.l0]
    rw [if_pos (by omega), if_pos (by omega), if_pos (by omega), if_pos (by omega), rdOf_nat hi, if_pos (by omega), if_pos (by rw [ByteArray.size_append]; omega), wr1 (by omega)]
theorem impl_JoinStrings.loop (ls : List ByteArray) (sep : ByteArray) (h1 : sep.size = 1) (hl : ls.length ≤ 10000) (hp : ∀ p ∈ ls, p.size ≤ 5000) : ∀ i, i ≤ ls.length → ∀ L : Nat, L ≤ 10000 + i * 5000 →
    ((∀ p ∈ ls.drop i, FreeB (bt sep 0) p) → L + sizesF (ls.drop i) ≤ 4000 → Ev (fun k => impl_JoinStrings.l0 k ls sep (L : Int) ls (ls.length : Int) (i : Int)) (joinAll sep ls, true)) ∧ (¬ ((∀ p ∈ ls.drop i, FreeB (bt sep 0) p) ∧ L + sizesF (ls.drop i) ≤ 4000) → Ev (fun k => impl_JoinStrings.l0 k ls sep (L : Int) ls (ls.length : Int) (i : Int)) (⟨#[]⟩, false)) := by
  refine rev_ind ls.length (fun L hL => ?_) (fun i hi ih L hL => ?_)
  · rw [List.drop_length]
    refine ⟨fun _ h2 => ?_, fun hn => ?_⟩
    · simp only [sizesF] at h2
      refine ev_go (fun k => (impl_join.f k ls sep).bind fun t182 => some (t182, true)) (fun k => ?_) (ev_bind _ (impl_join.ev ls sep h1 hl hp) (Ev.now _))
      simp only [impl_JoinStrings.l0]; rw [if_neg (by omega), if_neg (by omega)]
    · have h2 : ¬ L ≤ 4000 := fun h => hn ⟨by simp, by simp [sizesF]; exact h⟩
      refine ev_stop fun k => ?_
      simp only [impl_JoinStrings.l0]; rw [if_neg (by omega), if_pos (by omega)]
  · have hpi := hp _ (List.getElem_mem hi)
    have one := splitP_one ls[i] (bt sep 0) 0 (Nat.zero_le _) 0
    have hpos := splitP_pos ls[i] (bt sep 0) 0 (Nat.zero_le _) 0
    have hw : wrap64 ((L : Int) + (ls[i].size : Int)) = ((L + ls[i].size : Nat) : Int) := by rw [wr (by omega) (by omega)]; omega
    have step : ∀ z, Ev (fun k => if ((splitP ls[i] (bt sep 0) 0 0).length : Int) > 1 then some ((⟨#[]⟩ : ByteArray), false) else impl_JoinStrings.l0 k ls sep ((L + ls[i].size : Nat) : Int) ls (ls.length : Int) ((i + 1 : Nat) : Int)) z → Ev (fun k => impl_JoinStrings.l0 k ls sep (L : Int) ls (ls.length : Int) (i : Int)) z := fun z hz => by
      refine ev_go (fun k => (impl_split.f k ls[i] (bt sep 0)).bind fun t => if ((t.length : Int)) > 1 then some ((⟨#[]⟩ : ByteArray), false) else impl_JoinStrings.l0 k ls sep ((L + ls[i].size : Nat) : Int) ls (ls.length : Int) ((i + 1 : Nat) : Int)) (fun k => ?_) (ev_bind _ (impl_split.ev ls[i] (bt sep 0) (by omega)) hz)
      simp only [impl_JoinStrings.l0]; rw [if_pos (by omega), if_pos (by omega), if_pos (by omega), if_pos (by omega), rdOf_nat hi, hw, wr1 (by omega)]
    have hd : ∀ p, p ∈ ls.drop i ↔ p = ls[i] ∨ p ∈ ls.drop (i + 1) := fun p => by rw [drop_cons hi, List.mem_cons]
    have hsz : sizesF (ls.drop i) = ls[i].size + sizesF (ls.drop (i + 1)) := by rw [drop_cons hi, sizesF]
    have ihL := ih (L + ls[i].size) (by omega)
    rw [hsz]
    by_cases hf : FreeB (bt sep 0) ls[i]
    · have hone := one.2 (fun j _ hj => hf j hj)
      refine ⟨fun h2 h3 => step _ ?_, fun hn => step _ ?_⟩
      · simp only [if_neg (show ¬ ((splitP ls[i] (bt sep 0) 0 0).length : Int) > 1 by omega)]
        exact ihL.1 (fun p hp => h2 p ((hd p).2 (.inr hp))) (by omega)
      · simp only [if_neg (show ¬ ((splitP ls[i] (bt sep 0) 0 0).length : Int) > 1 by omega)]
        refine ihL.2 (fun hh => hn ⟨fun p hp => ?_, by omega⟩)
        rcases (hd p).1 hp with rfl | hp
        · exact hf
        · exact hh.1 p hp
    · have hne : ¬ (splitP ls[i] (bt sep 0) 0 0).length = 1 := fun e => hf fun j hj => one.1 e j (Nat.zero_le _) hj
      refine ⟨fun h2 _ => absurd (h2 _ ((hd _).2 (.inl rfl))) hf, fun hn => step _ ?_⟩
      simp only [if_pos (show ((splitP ls[i] (bt sep 0) 0 0).length : Int) > 1 by omega)]
      exact Ev.now _
theorem spec_JoinStrings.loop (ls : List ByteArray) (sep : ByteArray) (h1 : sep.size = 1) (hl : ls.length ≤ 10000) (hp : ∀ p ∈ ls, p.size ≤ 5000) : ∀ i, i ≤ ls.length → 1 ≤ i → ∀ acc : ByteArray, acc.size ≤ 4000 →
    ((∀ p ∈ ls.drop i, FreeB (bt sep 0) p) → (joinFrom sep acc (ls.drop i)).size ≤ 4000 → Ev (fun k => spec_JoinStrings.l0 k ls sep acc (i : Int)) (joinFrom sep acc (ls.drop i), true)) ∧ (¬ ((∀ p ∈ ls.drop i, FreeB (bt sep 0) p) ∧ (joinFrom sep acc (ls.drop i)).size ≤ 4000) → Ev (fun k => spec_JoinStrings.l0 k ls sep acc (i : Int)) (⟨#[]⟩, false)) := by
  refine rev_ind ls.length (fun _ acc ha => ?_) (fun i hi ih h0 acc ha => ?_)
  · rw [List.drop_length]
    refine ⟨fun _ _ => ev_stop fun k => ?_, fun hn => absurd ⟨by simp, ha⟩ hn⟩
    simp only [spec_JoinStrings.l0]; rw [if_neg (by omega)]; rfl
  · have hpi := hp _ (List.getElem_mem hi)
    have hst := spec_l1Stands.ev ls[i] (bt sep 0) (by omega)
    have step : ∀ (z : ByteArray × Bool), (FreeB (bt sep 0) ls[i] → Ev (fun k => if ((((acc ++ sep) ++ ls[i])).size : Int) > 4000 then some ((⟨#[]⟩ : ByteArray), false) else spec_JoinStrings.l0 k ls sep ((acc ++ sep) ++ ls[i]) ((i + 1 : Nat) : Int)) z) → (¬ FreeB (bt sep 0) ls[i] → z = (⟨#[]⟩, false)) → Ev (fun k => spec_JoinStrings.l0 k ls sep acc (i : Int)) z := fun z hz hz2 => by
      refine ev_go (fun k => (spec_l1Stands.f k ls[i] (bt sep 0)).bind fun t => if t = true then some ((⟨#[]⟩ : ByteArray), false) else (if ((((acc ++ sep) ++ ls[i])).size : Int) > 4000 then some ((⟨#[]⟩ : ByteArray), false) else spec_JoinStrings.l0 k ls sep ((acc ++ sep) ++ ls[i]) ((i + 1 : Nat) : Int))) (fun k => ?_) (evB_bind hst (fun h => ?_) (fun h => ?_))
      · simp only [spec_JoinStrings.l0]; rw [if_pos (by omega), if_pos (by omega), if_pos (by omega), rdOf_nat hi, if_pos (by omega), if_pos (by omega), if_pos (by rw [ByteArray.size_append]; omega), wr1 (by omega)]
      · simp only [if_true]
        obtain ⟨j, hj, e⟩ := h
        rw [hz2 (fun hf => hf j hj e)]
        exact Ev.now _
      · simp only [Bool.false_eq_true, if_false]
        exact hz (fun j hj e => h ⟨j, hj, e⟩)
    have hd : ∀ p, p ∈ ls.drop i ↔ p = ls[i] ∨ p ∈ ls.drop (i + 1) := fun p => by rw [drop_cons hi, List.mem_cons]
    have hjf : joinFrom sep acc (ls.drop i) = joinFrom sep ((acc ++ sep) ++ ls[i]) (ls.drop (i + 1)) := by rw [drop_cons hi, joinFrom]
    have hge := joinFrom_size sep h1 (ls.drop (i + 1)) ((acc ++ sep) ++ ls[i])
    rw [hjf]
    by_cases hs : ((acc ++ sep) ++ ls[i]).size ≤ 4000
    · have ihL := ih (by omega) _ hs
      refine ⟨fun h2 h3 => step _ (fun _ => ?_) (fun hn => absurd (h2 _ ((hd _).2 (.inl rfl))) hn), fun hn => step _ (fun hf => ?_) (fun _ => rfl)⟩
      · simp only [if_neg (show ¬ ((((acc ++ sep) ++ ls[i])).size : Int) > 4000 by omega)]
        exact ihL.1 (fun p hp => h2 p ((hd p).2 (.inr hp))) h3
      · simp only [if_neg (show ¬ ((((acc ++ sep) ++ ls[i])).size : Int) > 4000 by omega)]
        refine ihL.2 (fun hh => hn ⟨fun p hp => ?_, hh.2⟩)
        rcases (hd p).1 hp with rfl | hp
        · exact hf
        · exact hh.1 p hp
    · refine ⟨fun _ h3 => absurd h3 (by omega), fun hn => step _ (fun hf => ?_) (fun _ => rfl)⟩
      simp only [if_pos (show ((((acc ++ sep) ++ ls[i])).size : Int) > 4000 by omega)]
      exact Ev.now _
theorem join_both (ls : List ByteArray) (sep : ByteArray) (hl : ls.length ≤ 10000) (hp : ∀ p ∈ ls, p.size ≤ 5000) : ∃ r b, Ev (fun k => impl_JoinStrings.f k ls sep) (r, b) ∧ Ev (fun k => spec_JoinStrings.f k ls sep) (r, b) ∧ (0 < ls.length → sep.size = 1 → (∀ p ∈ ls, FreeB (bt sep 0) p) → (joinAll sep ls).size ≤ 4000 → r = joinAll sep ls ∧ b = true) := by
  have noI : ∀ b, b = true → Ev (fun k => impl_JoinStrings.j0 k ls sep b) (⟨#[]⟩, false) := fun b hb => ev_stop fun k => by simp only [impl_JoinStrings.j0]; rw [if_pos hb]
  have noS : ∀ b, b = true → Ev (fun k => spec_JoinStrings.j0 k ls sep b) (⟨#[]⟩, false) := fun b hb => ev_stop fun k => by simp only [spec_JoinStrings.j0]; rw [if_pos hb]
  unfold impl_JoinStrings.f spec_JoinStrings.f
  by_cases h0 : ls.length = 0
  · refine ⟨⟨#[]⟩, false, ?_, ?_, fun h => absurd h (by omega)⟩
    · simp only [if_pos (show (ls.length : Int) = 0 by omega)]
      exact noI _ rfl
    · by_cases h1 : (sep.size : Int) = 1
      · simp only [if_pos h1]; exact noS _ (by rw [beq_iff_eq]; omega)
      · simp only [if_neg h1]; exact noS _ rfl
  · simp only [if_neg (show ¬ (ls.length : Int) = 0 by omega)]
    by_cases h1 : sep.size = 1
    · simp only [if_pos (show (sep.size : Int) = 1 by omega)]
      have upI : ∀ z, Ev (fun k => impl_JoinStrings.l0 k ls sep ((ls.length - 1 : Nat) : Int) ls (ls.length : Int) ((0 : Nat) : Int)) z → Ev (fun k => impl_JoinStrings.j0 k ls sep ((sep.size : Int) != 1)) z := fun z hz => by
        refine ev_go _ (fun k => ?_) hz
        simp only [impl_JoinStrings.j0]; rw [if_neg (by simp [h1]), show wrap64 ((ls.length : Int) - 1) = ((ls.length - 1 : Nat) : Int) by rw [wr (by omega) (by omega)]; omega]
        rfl
      have LI := impl_JoinStrings.loop ls sep h1 hl hp 0 (Nat.zero_le _) (ls.length - 1) (by omega)
      rw [List.drop_zero] at LI
      cases hls : ls with
      | nil => rw [hls] at h0; simp at h0
      | cons p ps =>
        rw [← hls]
        have hp0 := hp p (by rw [hls]; exact List.mem_cons_self)
        have eJ : joinAll sep ls = joinFrom sep p ps := by rw [hls, joinAll, emp_app]
        have sJ : (joinAll sep ls).size = (ls.length - 1) + sizesF ls := by rw [eJ, joinFrom_size sep h1, hls, sizesF, List.length_cons]; omega
        have hst := spec_l1Stands.ev p (bt sep 0) (by omega)
        have memd : ∀ q, q ∈ ls ↔ q = p ∨ q ∈ ps := fun q => by rw [hls, List.mem_cons]
        have stepS : ∀ (z : ByteArray × Bool), (FreeB (bt sep 0) p → Ev (fun k => if (p.size : Int) > 4000 then some ((⟨#[]⟩ : ByteArray), false) else spec_JoinStrings.l0 k ls sep p ((1 : Nat) : Int)) z) → (¬ FreeB (bt sep 0) p → z = (⟨#[]⟩, false)) → Ev (fun k => spec_JoinStrings.j0 k ls sep ((ls.length : Int) == 0)) z := fun z hz hz2 => by
          refine ev_go (fun k => spec_JoinStrings.l0 k ls sep (⟨#[]⟩ : ByteArray) 0) (fun k => ?_) (ev_go (fun k => (spec_l1Stands.f k p (bt sep 0)).bind fun t => if t = true then some ((⟨#[]⟩ : ByteArray), false) else (if (p.size : Int) > 4000 then some ((⟨#[]⟩ : ByteArray), false) else spec_JoinStrings.l0 k ls sep p ((1 : Nat) : Int))) (fun k => ?_) (evB_bind hst (fun h => ?_) (fun h => ?_)))
          · simp only [spec_JoinStrings.j0]; rw [if_neg (by rw [beq_iff_eq]; omega)]
          · simp only [spec_JoinStrings.l0]; rw [if_pos (by omega), if_pos (by omega), if_pos (by omega), show rdOf ByteArray.empty ls 0 = p by rw [hls]; rfl, if_neg (by omega), emp_app, if_pos (by show 0 + p.size ≤ _; omega), show wrap64 ((0 : Int) + 1) = ((1 : Nat) : Int) from by rw [wr (by omega) (by omega)]; rfl]
          · simp only [if_true]
            obtain ⟨j, hj, e⟩ := h
            rw [hz2 (fun hf => hf j hj e)]
            exact Ev.now _
          · simp only [Bool.false_eq_true, if_false]
            exact hz (fun j hj e => h ⟨j, hj, e⟩)
        have hdrop : ls.drop 1 = ps := by rw [hls]; rfl
        have hge := joinFrom_size sep h1 ps p
        by_cases hc : (∀ q ∈ ls, FreeB (bt sep 0) q) ∧ (ls.length - 1) + sizesF ls ≤ 4000
        · have hpz : p.size ≤ 4000 := by have hc2 := hc.2; rw [← sJ, eJ, hge] at hc2; omega
          have LS := spec_JoinStrings.loop ls sep h1 hl hp 1 (by omega) (Nat.le_refl _) p hpz
          rw [hdrop] at LS
          refine ⟨joinAll sep ls, true, upI _ (LI.1 hc.1 hc.2), stepS _ (fun _ => ?_) (fun hn => absurd (hc.1 p ((memd p).2 (.inl rfl))) hn), fun _ _ _ _ => ⟨rfl, rfl⟩⟩
          simp only [if_neg (show ¬ (p.size : Int) > 4000 by omega)]
          rw [eJ]
          exact LS.1 (fun q hq => hc.1 q ((memd q).2 (.inr hq))) (by rw [← eJ, sJ]; exact hc.2)
        · refine ⟨⟨#[]⟩, false, upI _ (LI.2 hc), stepS _ (fun hf => ?_) (fun _ => rfl), fun _ _ h3 h4 => absurd ⟨h3, by rw [← sJ]; exact h4⟩ hc⟩
          by_cases hpz : p.size ≤ 4000
          · simp only [if_neg (show ¬ (p.size : Int) > 4000 by omega)]
            have LS := spec_JoinStrings.loop ls sep h1 hl hp 1 (by omega) (Nat.le_refl _) p hpz
            rw [hdrop] at LS
            refine LS.2 (fun hh => hc ⟨fun q hq => ?_, by rw [← sJ, eJ]; exact hh.2⟩)
            rcases (memd q).1 hq with rfl | hq
            · exact hf
            · exact hh.1 q hq
          · simp only [if_pos (show (p.size : Int) > 4000 by omega)]
            exact Ev.now _
    · simp only [if_neg (show ¬ (sep.size : Int) = 1 by omega)]
      exact ⟨⟨#[]⟩, false, noI _ (by simp; omega), noS _ rfl, fun _ h => absurd h h1⟩

theorem of_ {s : List Int} (hs : ByteL s) (p q : Int) (l : List ByteArray) (hl : 0 < l.length) (hp : 0 ≤ p) (hb : p ≤ 900000000000000) : ∃ v p' q', spec_l1Cur_of.f s p q l = some (v, p', q') ∧ v ∈ l ∧ p ≤ p' ∧ p' ≤ p + 2 := by
  unfold spec_l1Cur_of.f
  obtain ⟨v, p1, q1, e, h0, h1, h2, h3⟩ := pk hs p q (l.length : Int) hp hb
  have h4 := h1 (by omega)
  rw [e, Option.bind_some, if_pos h0, if_pos h4]
  refine ⟨_, _, _, rfl, ?_, h2, h3⟩
  rw [rdOf, List.getD_eq_getElem?_getD, List.getElem?_eq_getElem (by omega)]
  exact List.getElem_mem _
def any1L : List ByteArray := [(⟨#[]⟩ : ByteArray), (⟨#[97]⟩ : ByteArray), (⟨#[97, 44, 98]⟩ : ByteArray), (⟨#[115, 111, 109, 101, 32, 119, 111, 114, 100, 115]⟩ : ByteArray), (⟨#[120, 35, 121]⟩ : ByteArray), (⟨#[45, 49, 50]⟩ : ByteArray), (⟨#[0, 255]⟩ : ByteArray), (⟨#[44, 44]⟩ : ByteArray), (⟨#[48]⟩ : ByteArray)]
theorem any1L_size : ∀ v ∈ any1L, v.size ≤ 10 := by
  intro v h1
  simp only [any1L, List.mem_cons, List.not_mem_nil, or_false] at h1
  rcases h1 with rfl | rfl | rfl | rfl | rfl | rfl | rfl | rfl | rfl <;> decide
theorem any1 {s : List Int} (hs : ByteL s) (p q : Int) (hp : 0 ≤ p) (hb : p ≤ 900000000000000) : ∃ v p' q', spec_l1Cur_any1.f s p q = some (v, p', q') ∧ v.size ≤ 10 ∧ p ≤ p' ∧ p' ≤ p + 2 := by
  obtain ⟨v, p1, q1, e, h1, h2, h3⟩ := of_ hs p q any1L (by simp [any1L]) hp hb
  refine ⟨v, p1, q1, ?_, any1L_size v h1, h2, h3⟩
  show (spec_l1Cur_of.f s p q any1L).bind (fun bt115 => (some (bt115.1, bt115.2.1, bt115.2.2))) = _
  rw [e]; rfl

end Go.Proofs.Yteeeclaooefjfaa.Pure
