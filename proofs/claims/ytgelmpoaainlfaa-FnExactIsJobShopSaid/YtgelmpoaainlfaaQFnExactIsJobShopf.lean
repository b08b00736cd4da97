/- Proved here: what functions that the law FnExactIsJobShop reaches answer (tyOp, tyLOp, laws_szOpS, laws_toOpS, laws_eqOpS, listsOp, laws_szOpSS, laws_toOpSS, laws_eqOpSS). Conditions: those that each theorem names. -/
import Derived.Test.YtgelmpoaainlfaaQFnExactIsJobShopb
set_option linter.unusedVariables false
set_option linter.unusedSimpArgs false
namespace Go.Proofs.Ytgelmpoaainlfaa.Pure
open Go.RowKit Go.Proofs.Ytgelmpoaainlfaa.XFnExactIsJobShop Go.Proofs.YtgelmpoaainlfaaW.PrintWords Go.Proofs.YtgelmpoaainlfaaW.PrintLast

abbrev POp := S125
abbrev LOp := S160
theorem rdPOp {l : List POp} {i : Nat} (h : i < l.length) : rd_T125 l (i : Int) = l[i] := by simp [rd_T125, h]
theorem rdPOp_zero {l : List POp} (h : 0 < l.length) : rd_T125 l 0 = l[0] := by simp [rd_T125, h]
def cvOp (x : LOp) : POp := ⟨x.f0, x.f1⟩

theorem rdLOp {l : List LOp} {i : Nat} (h : i < l.length) : rd_T160 l (i : Int) = l[i] := by simp [rd_T160, h]

theorem laws_szOpS.eq (l : List LOp) (a : Int) (h0 : 0 ≤ a) (h1 : a ≤ 1048576) (hl : l.length ≤ 9223372036854775807) : ∃ n, laws_szOpS.f l a = some n ∧ n ≤ 1048576 ∧ (0 ≤ n → l.length ≤ 1048576) := by
  unfold laws_szOpS.f
  rw [wr (by omega) (by omega)]
  by_cases h : a - (l.length : Int) < 0
  · exact ⟨-1, by rw [if_pos h], by omega, fun h => absurd h (by omega)⟩
  · exact ⟨_, by rw [if_neg h], by omega, fun _ => by omega⟩

theorem laws_toOpS.ev (l : List LOp) (hl : l.length ≤ 1000000000000) : Ev (fun k => laws_toOpS.f k l) (l.map cvOp) := by
  unfold laws_toOpS.f
  rw [show (fun k => if 0 ≤ (l.length : Int) then (if ((l.length : Int) : Int).toNat ≤ 17592186044416 then (laws_toOpS.l0 k l (List.replicate ((l.length : Int) : Int).toNat z125) 0) else none) else none) = fun k => laws_toOpS.l0 k l (List.replicate l.length z125) 0 from funext fun k => by rw [if_pos (by omega), if_pos (by omega)]; rfl]
  have key := rev_ind (P := fun i => Ev (fun k => laws_toOpS.l0 k l ((l.map cvOp).take i ++ (List.replicate l.length z125).drop i) (i : Int)) (l.map cvOp)) l.length ?_ ?_ 0 (Nat.zero_le _)
  · simpa using key
  · refine ev_stop fun k => ?_
    simp only [laws_toOpS.l0]; rw [if_neg (by omega), List.take_of_length_le (by simp)]; simp
  · intro i hi ih
    have hlen : ((l.map cvOp).take i ++ (List.replicate l.length z125).drop i).length = l.length := by simp; omega
    refine ev_go _ (fun k => ?_) ih
    simp only [laws_toOpS.l0, laws_toOp.f, Option.bind_some]; rw [if_pos (by omega), if_pos (by omega), if_pos (by rw [hlen]; omega), rdLOp hi, wr1 (by omega)]
    have := set_copy (l := l.map cvOp) (z := List.replicate l.length z125) (i := i) (by simpa using hi) (by simpa using hi)
    rw [show ((i : Int)).toNat = i by omega, ← this]
    simp [cvOp]

theorem laws_eqOp.eq (a b : POp) : ∃ c, laws_eqOp.f a.f0 a.f1 b.f0 b.f1 = some c ∧ (c = true ↔ a = b) := by
  obtain ⟨a0, a1⟩ := a
  obtain ⟨b0, b1⟩ := b
  unfold laws_eqOp.f
  by_cases h0 : a0 = b0
  · by_cases h1 : a1 = b1
    · exact ⟨true, by simp [h0, h1], by simp [h0, h1]⟩
    · exact ⟨false, by simp [h0, h1], by simp [h1]⟩
  · exact ⟨false, by simp [h0], by simp [h0]⟩
theorem laws_eqOpS.ev (l m : List POp) (hl : l.length ≤ 1000000000000000) : EvB (fun k => laws_eqOpS.f k l m) (l = m) := by
  unfold laws_eqOpS.f
  by_cases e : (l.length : Int) = (m.length : Int)
  · simp only [if_pos e]
    have key := rev_ind (P := fun i => EvB (fun k => laws_eqOpS.l0 k l m (i : Int)) (l.drop i = m.drop i)) l.length ?_ ?_ 0 (Nat.zero_le _)
    · simpa using key
    · refine evB_of (fun _ => ev_stop fun k => ?_) (fun h => absurd ?_ h)
      · simp only [laws_eqOpS.l0]; rw [if_neg (by omega)]
      · rw [List.drop_eq_nil_of_le (by omega), List.drop_eq_nil_of_le (by omega)]
    · intro i hi ih
      have hm : i < m.length := by omega
      rw [drop_cons hi, drop_cons hm]
      obtain ⟨c, hc, hce⟩ := laws_eqOp.eq l[i] m[i]
      by_cases q : l[i] = m[i]
      · obtain ⟨b, hb, hP⟩ := ih
        refine ⟨b, ev_go _ (fun k => ?_) hb, by rw [hP, q]; exact ⟨fun h => by rw [h], fun h => (List.cons.inj h).2⟩⟩
        simp only [laws_eqOpS.l0]; rw [if_pos (by omega), if_pos (by omega), if_pos (by omega), rdPOp hi, rdPOp hm, hc, Option.bind_some, if_pos (hce.2 q), wr1 (by omega)]
      · refine evB_of (fun h => absurd (List.cons.inj h).1 q) (fun _ => ev_stop fun k => ?_)
        simp only [laws_eqOpS.l0]; rw [if_pos (by omega), if_pos (by omega), if_pos (by omega), rdPOp hi, rdPOp hm, hc, Option.bind_some, if_neg (fun h => q (hce.1 h))]
  · simp only [if_neg e]
    exact evB_of (fun h => absurd (by rw [h]) e) (fun _ => Ev.now _)
theorem laws_eqOpS.same (l : List POp) (hl : l.length ≤ 1000000000000000) : Ev (fun k => laws_eqOpS.f k l l) true := evB_true (laws_eqOpS.ev l l hl) rfl

theorem rdLLOp {l : List (List LOp)} {i : Nat} (h : i < l.length) : rd_L2 l (i : Int) = l[i] := by simp [rd_L2, h]
theorem rdLPOp {l : List (List POp)} {i : Nat} (h : i < l.length) : rd_L4 l (i : Int) = l[i] := by simp [rd_L4, h]
theorem rdLPOp_zero {l : List (List POp)} (h : 0 < l.length) : rd_L4 l 0 = l[0] := by simp [rd_L4, h]
def cvvOp (x : List LOp) : List POp := x.map cvOp

theorem laws_szOpSS.ev (l : List (List LOp)) (a : Int) (h0 : 0 ≤ a) (h1 : a ≤ 1048576) (hl : l.length ≤ maxLen) (hr : ∀ y ∈ l, y.length ≤ maxLen) : ∃ n, Ev (fun k => laws_szOpSS.f k l a) n ∧ n ≤ 1048576 ∧ (0 ≤ n → l.length ≤ 1048576 ∧ ∀ y ∈ l, y.length ≤ 1048576) := by
  unfold maxLen at hl hr
  unfold laws_szOpSS.f
  rw [wr (by omega) (by omega)]
  by_cases h : a - (l.length : Int) < 0
  · refine ⟨-1, by simp only [if_pos h]; exact Ev.now _, by omega, fun h => absurd h (by omega)⟩
  · simp only [if_neg h]
    have key := rev_ind (P := fun i => ∀ b : Int, 0 ≤ b → b ≤ 1048576 → ∃ n, Ev (fun k => laws_szOpSS.l0 k l b (i : Int)) n ∧ n ≤ 1048576 ∧ (0 ≤ n → ∀ y ∈ l.drop i, y.length ≤ 1048576)) l.length ?_ ?_ 0 (Nat.zero_le _)
    · obtain ⟨n, h2, h3, h4⟩ := key (a - (l.length : Int)) (by omega) (by omega)
      exact ⟨n, h2, h3, fun hn => ⟨by omega, by simpa using h4 hn⟩⟩
    · intro b hb0 hb1
      refine ⟨b, ev_stop fun k => ?_, hb1, fun _ => by simp⟩
      simp only [laws_szOpSS.l0]; rw [if_neg (by omega)]
    · intro i hi ih b hb0 hb1
      obtain ⟨n, e, hn1, hn2⟩ := laws_szOpS.eq l[i] b hb0 hb1 (hr _ (List.getElem_mem hi))
      by_cases hn : n < 0
      · refine ⟨-1, ev_stop fun k => ?_, by omega, fun h => absurd h (by omega)⟩
        simp only [laws_szOpSS.l0]; rw [if_pos (by omega), if_pos (by omega), rdLLOp hi, e, Option.bind_some, if_pos hn]
      · obtain ⟨m, h2, h3, h4⟩ := ih n (by omega) hn1
        refine ⟨m, ev_go _ (fun k => ?_) h2, h3, fun hm y hy => ?_⟩
        · simp only [laws_szOpSS.l0]; rw [if_pos (by omega), if_pos (by omega), rdLLOp hi, e, Option.bind_some, if_neg hn, wr1 (by omega)]
        · rw [drop_cons hi] at hy
          rcases List.mem_cons.1 hy with rfl | hy
          · exact hn2 (by omega)
          · exact h4 hm y hy

theorem laws_toOpSS.ev (l : List (List LOp)) (hl : l.length ≤ 1000000000000) (hr : ∀ y ∈ l, y.length ≤ 1000000000000) : Ev (fun k => laws_toOpSS.f k l) (l.map cvvOp) := by
  unfold laws_toOpSS.f
  rw [show (fun k => if 0 ≤ (l.length : Int) then (if ((l.length : Int) : Int).toNat ≤ 11728124029610 then (laws_toOpSS.l0 k l (List.replicate ((l.length : Int) : Int).toNat []) 0) else none) else none) = fun k => laws_toOpSS.l0 k l (List.replicate l.length []) 0 from funext fun k => by rw [if_pos (by omega), if_pos (by omega)]; rfl]
  have key := rev_ind (P := fun i => Ev (fun k => laws_toOpSS.l0 k l ((l.map cvvOp).take i ++ (List.replicate l.length ([] : List POp)).drop i) (i : Int)) (l.map cvvOp)) l.length ?_ ?_ 0 (Nat.zero_le _)
  · simpa using key
  · refine ev_stop fun k => ?_
    simp only [laws_toOpSS.l0]; rw [if_neg (by omega), List.take_of_length_le (by simp)]; simp
  · intro i hi ih
    have hlen : ((l.map cvvOp).take i ++ (List.replicate l.length ([] : List POp)).drop i).length = l.length := by simp; omega
    refine ev_go (fun k => (laws_toOpS.f k l[i]).bind fun t => laws_toOpSS.l0 k l (((l.map cvvOp).take i ++ (List.replicate l.length ([] : List POp)).drop i).set i t) ((i + 1 : Nat) : Int)) (fun k => ?_) (ev_bind (l[i].map cvOp) (laws_toOpS.ev _ (hr _ (List.getElem_mem hi))) ?_)
    · simp only [laws_toOpSS.l0]; rw [if_pos (by omega), if_pos (by omega), rdLLOp hi]
      congr 1; funext t
      rw [if_pos (by rw [hlen]; omega), wr1 (by omega)]; rfl
    · have := set_copy (l := l.map cvvOp) (z := List.replicate l.length ([] : List POp)) (i := i) (by simpa using hi) (by simpa using hi)
      rw [show (l.map cvvOp)[i]'(by simpa using hi) = l[i].map cvOp by simp [cvvOp]] at this
      rw [this]; exact ih

theorem laws_eqOpSS.ev (l m : List (List POp)) (hl : l.length ≤ 1000000000000000) (hr : ∀ y ∈ l, y.length ≤ 1000000000000000) : EvB (fun k => laws_eqOpSS.f k l m) (l = m) := by
  unfold laws_eqOpSS.f
  by_cases e : (l.length : Int) = (m.length : Int)
  · simp only [if_pos e]
    have key := rev_ind (P := fun i => EvB (fun k => laws_eqOpSS.l0 k l m (i : Int)) (l.drop i = m.drop i)) l.length ?_ ?_ 0 (Nat.zero_le _)
    · simpa using key
    · refine evB_of (fun _ => ev_stop fun k => ?_) (fun h => absurd ?_ h)
      · simp only [laws_eqOpSS.l0]; rw [if_neg (by omega)]
      · rw [List.drop_eq_nil_of_le (by omega), List.drop_eq_nil_of_le (by omega)]
    · intro i hi ih
      have hm : i < m.length := by omega
      rw [drop_cons hi, drop_cons hm]
      have step : ∀ k, laws_eqOpSS.l0 (k + 1) l m (i : Int) = (laws_eqOpS.f k l[i] m[i]).bind fun t => if t = true then laws_eqOpSS.l0 k l m ((i + 1 : Nat) : Int) else some false := fun k => by
        simp only [laws_eqOpSS.l0]; rw [if_pos (by omega), if_pos (by omega), if_pos (by omega), rdLPOp hi, rdLPOp hm, wr1 (by omega)]
      have he := laws_eqOpS.ev l[i] m[i] (hr _ (List.getElem_mem hi))
      refine evB_of (fun h => ?_) (fun h => ?_)
      · obtain ⟨h1, h2⟩ := List.cons.inj h
        refine ev_go _ step (evB_bind he (fun _ => ?_) (fun h => absurd h1 h))
        simp only [if_true]; exact evB_true ih h2
      · refine ev_go _ step (evB_bind he (fun h1 => ?_) (fun _ => by simp only [Bool.false_eq_true, if_false]; exact Ev.now _))
        simp only [if_true]; exact evB_false ih (fun h2 => h (by rw [h1, h2]))
  · simp only [if_neg e]
    exact evB_of (fun h => absurd (by rw [h]) e) (fun _ => Ev.now _)
theorem laws_eqOpSS.same (l : List (List POp)) (hl : l.length ≤ 1000000000000000) (hr : ∀ y ∈ l, y.length ≤ 1000000000000000) : Ev (fun k => laws_eqOpSS.f k l l) true := evB_true (laws_eqOpSS.ev l l hl hr) rfl

end Go.Proofs.Ytgelmpoaainlfaa.Pure
