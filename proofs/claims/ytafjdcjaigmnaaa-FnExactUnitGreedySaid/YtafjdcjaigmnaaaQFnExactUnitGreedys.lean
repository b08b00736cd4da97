/- Proved here: what functions that the law FnExactUnitGreedy reaches answer (sortP, impl_numbersTo, ltI, spec_l1Put). Conditions: those that each theorem names. -/
import Derived.Test.YtafjdcjaigmnaaaQFnExactUnitGreedyj
set_option linter.unusedVariables false
set_option linter.unusedSimpArgs false
namespace Go.Proofs.Ytafjdcjaigmnaaa.Pure
open Go.RowKit Go.Proofs.Ytafjdcjaigmnaaa.XFnExactUnitGreedy Go.Proofs.YtafjdcjaigmnaaaW.PrintWords Go.Proofs.YtafjdcjaigmnaaaW.PrintLast

/-- An order in which one may stand ahead of another: what 'not ahead' is handed on through, and what is ahead is not behind. -/
structure Pre (lt : Int → Int → Bool) (P : Int → Prop) : Prop where
  trans : ∀ a b c, P a → P b → P c → lt b a = false → lt c b = false → lt c a = false
  asym : ∀ a b, P a → P b → lt a b = true → lt b a = false
def SortedLt (lt : Int → Int → Bool) (l : List Int) : Prop := l.Pairwise fun a b => lt b a = false
theorem pre_key (f : Int → Int) (P : Int → Prop) : Pre (fun a b => decide (f a < f b)) P := by
  refine ⟨fun a b c _ _ _ h1 h2 => ?_, fun a b _ _ h => ?_⟩ <;> simp at * <;> omega
theorem insPos_at {lt : Int → Int → Bool} {P : Int → Prop} (hp : Pre lt P) {x : Int} {out : List Int} (hx : P x) (ho : ∀ y ∈ out, P y) (hs : SortedLt lt out) (j : Nat) (hj : j ≤ out.length) (h1 : ∀ y ∈ out.take j, lt x y = false) (h2 : ∀ h : j < out.length, lt x out[j] = true) : insPos lt x out out.length = j := by
  have key : ∀ d, j + d ≤ out.length → insPos lt x out (j + d) = j := by
    intro d
    induction d with
    | zero =>
      intro _
      cases j with
      | zero => rfl
      | succ j =>
        rw [Nat.add_zero, insPos, if_neg]
        have hm : out[j] ∈ out.take (j + 1) := List.mem_take_iff_getElem.2 ⟨j, by omega, rfl⟩
        have := h1 _ hm
        simp [List.getD_eq_getElem?_getD, show j < out.length by omega, this]
    | succ d ih =>
      intro hd
      rw [← Nat.add_assoc, insPos, if_pos, ih (by omega)]
      have hq : lt x (out[j + d]'(by omega)) = true := by
        refine Classical.byContradiction fun hc => ?_
        have hc : lt x (out[j + d]'(by omega)) = false := by simpa using hc
        have hj2 := h2 (by omega)
        by_cases e : d = 0
        · subst e; simp at hc; rw [hc] at hj2; cases hj2
        · have hpw := (List.pairwise_iff_getElem.1 hs) j (j + d) (by omega) (by omega) (by omega)
          have := hp.trans _ _ _ (ho _ (List.getElem_mem (by omega : j < out.length))) (ho _ (List.getElem_mem (by omega : j + d < out.length))) hx hpw hc
          rw [this] at hj2; cases hj2
      simpa [List.getD_eq_getElem?_getD, show j + d < out.length by omega] using hq
  have := key (out.length - j) (by omega)
  rwa [show j + (out.length - j) = out.length by omega] at this
theorem insAt_at {lt : Int → Int → Bool} {P : Int → Prop} (hp : Pre lt P) {x : Int} {out : List Int} (hx : P x) (ho : ∀ y ∈ out, P y) (hs : SortedLt lt out) (j : Nat) (hj : j ≤ out.length) (h1 : ∀ y ∈ out.take j, lt x y = false) (h2 : ∀ h : j < out.length, lt x out[j] = true) : insAt lt x out = out.take j ++ x :: out.drop j := by
  unfold insAt
  rw [insPos_at hp hx ho hs j hj h1 h2]
theorem insPos_left {lt : Int → Int → Bool} {x : Int} {out : List Int} : ∀ k, k ≤ out.length → (0 < insPos lt x out k → lt x (out.getD (insPos lt x out k - 1) 0) = false) ∧ (∀ i, insPos lt x out k ≤ i → i < k → lt x (out.getD i 0) = true)
  | 0, _ => ⟨fun h => absurd h (by simp [insPos]), fun i _ h => absurd h (by omega)⟩
  | k + 1, hk => by
    have ih := insPos_left (lt := lt) (x := x) (out := out) k (by omega)
    rw [insPos]
    by_cases q : lt x (out.getD k 0) = true
    · rw [if_pos q]
      refine ⟨ih.1, fun i h1 h2 => ?_⟩
      by_cases e : i = k
      · subst e; exact q
      · exact ih.2 i h1 (by omega)
    · rw [if_neg q]
      exact ⟨fun _ => by simpa using q, fun i h1 h2 => absurd h1 (by omega)⟩
theorem insAt_perm (lt : Int → Int → Bool) (x : Int) (out : List Int) : (insAt lt x out).Perm (x :: out) := by
  unfold insAt
  refine List.perm_middle.trans ?_
  rw [List.take_append_drop]
theorem insAt_sorted {lt : Int → Int → Bool} {P : Int → Prop} (hp : Pre lt P) {x : Int} {out : List Int} (hx : P x) (ho : ∀ y ∈ out, P y) (hs : SortedLt lt out) : SortedLt lt (insAt lt x out) := by
  unfold insAt SortedLt
  obtain ⟨hl, hr⟩ := insPos_left (lt := lt) (x := x) (out := out) out.length (Nat.le_refl _)
  have hle := insPos_le lt x out out.length
  generalize hq : insPos lt x out out.length = p at hl hr hle ⊢
  rw [List.pairwise_append, List.pairwise_cons]
  have left : ∀ a ∈ out.take p, lt x a = false := by
    intro a ha
    obtain ⟨i, hi, rfl⟩ := List.mem_take_iff_getElem.1 ha
    have hi' : i < p := by omega
    have h0 := hl (by omega)
    rw [List.getD_eq_getElem?_getD, List.getElem?_eq_getElem (by omega), Option.getD_some] at h0
    by_cases e : i = p - 1
    · subst e; exact h0
    · exact hp.trans _ _ _ (ho _ (List.getElem_mem _)) (ho _ (List.getElem_mem (by omega : p - 1 < out.length))) hx ((List.pairwise_iff_getElem.1 hs) i (p - 1) (by omega) (by omega) (by omega)) h0
  have right : ∀ b ∈ out.drop p, lt b x = false := by
    intro b hb
    obtain ⟨i, hi, rfl⟩ := List.mem_drop_iff_getElem.1 hb
    have h0 := hr (p + i) (by omega) (by omega)
    rw [List.getD_eq_getElem?_getD, List.getElem?_eq_getElem (by omega), Option.getD_some] at h0
    exact hp.asym _ _ hx (ho _ (List.getElem_mem _)) h0
  have hs' := hs
  unfold SortedLt at hs'
  rw [← List.take_append_drop p out, List.pairwise_append] at hs'
  refine ⟨hs'.1, ⟨right, hs'.2.1⟩, fun a ha b hb => ?_⟩
  rcases List.mem_cons.1 hb with rfl | hb
  · exact left a ha
  · exact hs'.2.2 a ha b hb
theorem insAll_perm (lt : Int → Int → Bool) : ∀ (l out : List Int), (insAll lt l out).Perm (l ++ out)
  | [], out => List.Perm.refl _
  | x :: l, out => by
    rw [insAll]
    refine (insAll_perm lt l _).trans ?_
    refine ((insAt_perm lt x out).append_left l).trans ?_
    exact List.perm_middle
theorem insAll_sorted {lt : Int → Int → Bool} {P : Int → Prop} (hp : Pre lt P) : ∀ (l out : List Int), (∀ y ∈ l, P y) → (∀ y ∈ out, P y) → SortedLt lt out → SortedLt lt (insAll lt l out)
  | [], out, _, _, h => h
  | x :: l, out, hl, ho, h => by
    rw [insAll]
    have hx := hl x List.mem_cons_self
    refine insAll_sorted hp l _ (fun y hy => hl y (List.mem_cons_of_mem _ hy)) (fun y hy => ?_) (insAt_sorted hp hx ho h)
    rcases List.mem_cons.1 ((insAt_perm lt x out).mem_iff.1 hy) with rfl | hy
    · exact hx
    · exact ho y hy
/-- All numbers below n, sorted. -/
def sortN (lt : Int → Int → Bool) (n : Nat) : List Int := insAll lt (nums_to n) []
theorem sortN_perm (lt : Int → Int → Bool) (n : Nat) : (sortN lt n).Perm (nums_to n) := by
  have := insAll_perm lt (nums_to n) []
  rwa [List.append_nil] at this
theorem sortN_isPerm (lt : Int → Int → Bool) (n : Nat) : IsPerm n (sortN lt n) := by
  have h := sortN_perm lt n
  refine ⟨by rw [h.length_eq, nums_to_length], h.nodup_iff.2 (nums_to_nodup n), fun x hx => mem_nums_to.1 (h.mem_iff.1 hx)⟩

theorem impl_numbersTo.ev (n : Nat) (hn : n ≤ 1048576) : Ev (fun k => impl_numbersTo.f k (n : Int)) (nums_to n) := by
  have ht : ∀ i, i < n → (nums_to n).take i ++ [(i : Int)] = (nums_to n).take (i + 1) := by
    intro i hi
    rw [List.take_succ_eq_append_getElem (by rw [nums_to_length]; exact hi)]
    simp [nums_to]
  have key := rev_ind (P := fun i => Ev (fun k => impl_numbersTo.l0 k (n : Int) ((nums_to n).take i) (i : Int)) (nums_to n)) n ?_ ?_ 0 (Nat.zero_le _)
  · simpa [impl_numbersTo.f] using key
  · refine ev_stop fun k => ?_
    simp only [impl_numbersTo.l0]; rw [if_neg (by omega), List.take_of_length_le (by rw [nums_to_length]; omega)]
  · intro i hi ih
    rw [← ht i hi] at ih
    refine ev_go _ (fun k => ?_) ih
    simp only [impl_numbersTo.l0]; rw [if_pos (by omega), if_pos (by simp; omega), wr1 (by omega)]

def ltI : Int → Int → Bool := fun a b => decide (a < b)
theorem ltI_pre (P : Int → Prop) : Pre ltI P := pre_key (fun x => x) P
theorem insAll_len (lt : Int → Int → Bool) (l : List Int) : (insAll lt l []).length = l.length := by
  have := (insAll_perm lt l []).length_eq
  simpa using this
theorem insAll_mem {lt : Int → Int → Bool} {l : List Int} {x : Int} : x ∈ insAll lt l [] ↔ x ∈ l := by
  have := (insAll_perm lt l []).mem_iff (a := x)
  simpa using this

theorem spec_l1Put.ev (l : List Int) (n : Int) (hl : l.length ≤ 1000000) (hs : SortedLt ltI l) (hn : n ∉ l) : Ev (fun k => spec_l1Put.f k l n) (insAt ltI n l) := by
  have hP := ltI_pre (fun _ => True)
  have key := rev_ind (P := fun j => (∀ y ∈ l.take j, ltI n y = false) → Ev (fun k => spec_l1Put.l0 k l n (j : Int)) (insAt ltI n l)) l.length ?_ ?_ 0 (Nat.zero_le _) (by simp)
  · simpa [spec_l1Put.f] using key
  · intro ht
    rw [insAt_at hP trivial (fun _ _ => trivial) hs l.length (Nat.le_refl _) ht (fun h => absurd h (by omega))]
    refine ev_stop fun k => ?_
    simp only [spec_l1Put.l0]; rw [if_neg (by omega)]
    simp only [Option.bind_some]
    rw [if_pos (by omega), if_pos (by omega), if_pos (by simp; omega), if_pos (by simp; omega), if_pos (by simp; omega)]
    simp
  · intro j hj ih ht
    by_cases q : l[j] < n
    · refine ev_go _ (fun k => ?_) (ih ?_)
      · simp only [spec_l1Put.l0]; rw [rd_nat hj, if_pos (by omega), if_pos (by omega), if_pos q, wr1 (by omega)]
      · intro y hy
        rw [List.take_succ_eq_append_getElem hj] at hy
        rcases List.mem_append.1 hy with hy | hy
        · exact ht y hy
        · rw [List.mem_singleton] at hy; subst hy; unfold ltI; simp; omega
    · have hne : l[j] ≠ n := fun e => hn (e ▸ List.getElem_mem hj)
      rw [insAt_at hP trivial (fun _ _ => trivial) hs j (by omega) ht (fun _ => by unfold ltI; simp; omega)]
      refine ev_stop fun k => ?_
      simp only [spec_l1Put.l0]; rw [rd_nat hj, if_pos (by omega), if_pos (by omega), if_neg q, if_neg hne]
      simp only [Option.bind_some]
      rw [if_pos (by omega), if_pos (by simp; omega), if_pos (by simp; omega), if_pos (by simp; omega)]
      simp

end Go.Proofs.Ytafjdcjaigmnaaa.Pure
