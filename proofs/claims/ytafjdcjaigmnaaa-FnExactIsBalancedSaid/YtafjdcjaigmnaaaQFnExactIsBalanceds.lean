/- Proved here: what functions that the law FnExactIsBalanced reaches answer (sortP, impl_numbersTo, byEnds, spec_l10Sorted, ltI, spec_l1Put, spec_l6Ascending, impl_ascending, shortBoth, evMono, spec_l6All, core_IsBalanced). Conditions: those that each theorem names. -/
import Derived.Test.YtafjdcjaigmnaaaQFnExactIsBalancedj
set_option linter.unusedVariables false
set_option linter.unusedSimpArgs false
namespace Go.Proofs.Ytafjdcjaigmnaaa.Pure
open Go.RowKit Go.Proofs.Ytafjdcjaigmnaaa.XFnExactIsBalanced Go.Proofs.YtafjdcjaigmnaaaW.PrintWords Go.Proofs.YtafjdcjaigmnaaaW.PrintLast

/-- An order in which one may stand ahead of another: what 'not ahead' is handed on through, and what is ahead is not behind. -/
structure Pre (lt : Int → Int → Bool) (P : Int → Prop) : Prop where
  trans : ∀ a b c, P a → P b → P c → lt b a = false → lt c b = false → lt c a = false
  asym : ∀ a b, P a → P b → lt a b = true → lt b a = false
def SortedLt (lt : Int → Int → Bool) (l : List Int) : Prop := l.Pairwise fun a b => lt b a = false
theorem pre_key (f : Int → Int) (P : Int → Prop) : Pre (fun a b => decide (f a < f b)) P := by
  refine ⟨fun a b c _ _ _ h1 h2 => ?_, fun a b _ _ h => ?_⟩ <;> simp at * <;> omega
theorem insPos_at {lt : Int → Int → Bool} {P : Int → Prop} (hp : Pre lt P) {x : Int} {out : List Int} (hx : P x) (ho : ∀ y ∈ out, P y) (hs : SortedLt lt out) (j : Nat) (hj : j ≤ out.length) (h1 : ∀ y ∈ out.take j, lt x y = false) (h2 : ∀ h : j < out.length, lt x out[j] = true) : insPos lt x out out.length = j := by
  have key : ∀ d, j + d ≤ out.length → insPos lt x out (j + d) = j := by
    intro d
    induction d with
    | zero =>
      intro _
      cases j with
      | zero => rfl
      | succ j =>
        rw [Nat.add_zero, insPos, if_neg]
        have hm : out[j] ∈ out.take (j + 1) := List.mem_take_iff_getElem.2 ⟨j, by omega, rfl⟩
        have := h1 _ hm
        simp [List.getD_eq_getElem?_getD, show j < out.length by omega, this]
    | succ d ih =>
      intro hd
      rw [← Nat.add_assoc, insPos, if_pos, ih (by omega)]
      have hq : lt x (out[j + d]'(by omega)) = true := by
        refine Classical.byContradiction fun hc => ?_
        have hc : lt x (out[j + d]'(by omega)) = false := by simpa using hc
        have hj2 := h2 (by omega)
        by_cases e : d = 0
        · subst e; simp at hc; rw [hc] at hj2; cases hj2
        · have hpw := (List.pairwise_iff_getElem.1 hs) j (j + d) (by omega) (by omega) (by omega)
          have := hp.trans _ _ _ (ho _ (List.getElem_mem (by omega : j < out.length))) (ho _ (List.getElem_mem (by omega : j + d < out.length))) hx hpw hc
          rw [this] at hj2; cases hj2
      simpa [List.getD_eq_getElem?_getD, show j + d < out.length by omega] using hq
  have := key (out.length - j) (by omega)
  rwa [show j + (out.length - j) = out.length by omega] at this
theorem insAt_at {lt : Int → Int → Bool} {P : Int → Prop} (hp : Pre lt P) {x : Int} {out : List Int} (hx : P x) (ho : ∀ y ∈ out, P y) (hs : SortedLt lt out) (j : Nat) (hj : j ≤ out.length) (h1 : ∀ y ∈ out.take j, lt x y = false) (h2 : ∀ h : j < out.length, lt x out[j] = true) : insAt lt x out = out.take j ++ x :: out.drop j := by
  unfold insAt
  rw [insPos_at hp hx ho hs j hj h1 h2]
theorem insPos_left {lt : Int → Int → Bool} {x : Int} {out : List Int} : ∀ k, k ≤ out.length → (0 < insPos lt x out k → lt x (out.getD (insPos lt x out k - 1) 0) = false) ∧ (∀ i, insPos lt x out k ≤ i → i < k → lt x (out.getD i 0) = true)
  | 0, _ => ⟨fun h => absurd h (by simp [insPos]), fun i _ h => absurd h (by omega)⟩
  | k + 1, hk => by
    have ih := insPos_left (lt := lt) (x := x) (out := out) k (by omega)
    rw [insPos]
    by_cases q : lt x (out.getD k 0) = true
    · rw [if_pos q]
      refine ⟨ih.1, fun i h1 h2 => ?_⟩
      by_cases e : i = k
      · subst e; exact q
      · exact ih.2 i h1 (by omega)
    · rw [if_neg q]
      exact ⟨fun _ => by simpa using q, fun i h1 h2 => absurd h1 (by omega)⟩
theorem insAt_perm (lt : Int → Int → Bool) (x : Int) (out : List Int) : (insAt lt x out).Perm (x :: out) := by
  unfold insAt
  refine List.perm_middle.trans ?_
  rw [List.take_append_drop]
theorem insAt_sorted {lt : Int → Int → Bool} {P : Int → Prop} (hp : Pre lt P) {x : Int} {out : List Int} (hx : P x) (ho : ∀ y ∈ out, P y) (hs : SortedLt lt out) : SortedLt lt (insAt lt x out) := by
  unfold insAt SortedLt
  obtain ⟨hl, hr⟩ := insPos_left (lt := lt) (x := x) (out := out) out.length (Nat.le_refl _)
  have hle := insPos_le lt x out out.length
  generalize hq : insPos lt x out out.length = p at hl hr hle ⊢
  rw [List.pairwise_append, List.pairwise_cons]
  have left : ∀ a ∈ out.take p, lt x a = false := by
    intro a ha
    obtain ⟨i, hi, rfl⟩ := List.mem_take_iff_getElem.1 ha
    have hi' : i < p := by omega
    have h0 := hl (by omega)
    rw [List.getD_eq_getElem?_getD, List.getElem?_eq_getElem (by omega), Option.getD_some] at h0
    by_cases e : i = p - 1
    · subst e; exact h0
    · exact hp.trans _ _ _ (ho _ (List.getElem_mem _)) (ho _ (List.getElem_mem (by omega : p - 1 < out.length))) hx ((List.pairwise_iff_getElem.1 hs) i (p - 1) (by omega) (by omega) (by omega)) h0
  have right : ∀ b ∈ out.drop p, lt b x = false := by
    intro b hb
    obtain ⟨i, hi, rfl⟩ := List.mem_drop_iff_getElem.1 hb
    have h0 := hr (p + i) (by omega) (by omega)
    rw [List.getD_eq_getElem?_getD, List.getElem?_eq_getElem (by omega), Option.getD_some] at h0
    exact hp.asym _ _ hx (ho _ (List.getElem_mem _)) h0
  have hs' := hs
  unfold SortedLt at hs'
  rw [← List.take_append_drop p out, List.pairwise_append] at hs'
  refine ⟨hs'.1, ⟨right, hs'.2.1⟩, fun a ha b hb => ?_⟩
  rcases List.mem_cons.1 hb with rfl | hb
  · exact left a ha
  · exact hs'.2.2 a ha b hb
theorem insAll_perm (lt : Int → Int → Bool) : ∀ (l out : List Int), (insAll lt l out).Perm (l ++ out)
  | [], out => List.Perm.refl _
  | x :: l, out => by
    rw [insAll]
    refine (insAll_perm lt l _).trans ?_
    refine ((insAt_perm lt x out).append_left l).trans ?_
    exact List.perm_middle
theorem insAll_sorted {lt : Int → Int → Bool} {P : Int → Prop} (hp : Pre lt P) : ∀ (l out : List Int), (∀ y ∈ l, P y) → (∀ y ∈ out, P y) → SortedLt lt out → SortedLt lt (insAll lt l out)
  | [], out, _, _, h => h
  | x :: l, out, hl, ho, h => by
    rw [insAll]
    have hx := hl x List.mem_cons_self
    refine insAll_sorted hp l _ (fun y hy => hl y (List.mem_cons_of_mem _ hy)) (fun y hy => ?_) (insAt_sorted hp hx ho h)
    rcases List.mem_cons.1 ((insAt_perm lt x out).mem_iff.1 hy) with rfl | hy
    · exact hx
    · exact ho y hy
/-- All numbers below n, sorted. -/
def sortN (lt : Int → Int → Bool) (n : Nat) : List Int := insAll lt (nums_to n) []
theorem sortN_perm (lt : Int → Int → Bool) (n : Nat) : (sortN lt n).Perm (nums_to n) := by
  have := insAll_perm lt (nums_to n) []
  rwa [List.append_nil] at this
theorem sortN_isPerm (lt : Int → Int → Bool) (n : Nat) : IsPerm n (sortN lt n) := by
  have h := sortN_perm lt n
  refine ⟨by rw [h.length_eq, nums_to_length], h.nodup_iff.2 (nums_to_nodup n), fun x hx => mem_nums_to.1 (h.mem_iff.1 hx)⟩

theorem impl_numbersTo.ev (n : Nat) (hn : n ≤ 1048576) : Ev (fun k => impl_numbersTo.f k (n : Int)) (nums_to n) := by
  have ht : ∀ i, i < n → (nums_to n).take i ++ [(i : Int)] = (nums_to n).take (i + 1) := by
    intro i hi
    rw [List.take_succ_eq_append_getElem (by rw [nums_to_length]; exact hi)]
    simp [nums_to]
  have key := rev_ind (P := fun i => Ev (fun k => impl_numbersTo.l0 k (n : Int) ((nums_to n).take i) (i : Int)) (nums_to n)) n ?_ ?_ 0 (Nat.zero_le _)
  · simpa [impl_numbersTo.f] using key
  · refine ev_stop fun k => ?_
    simp only [impl_numbersTo.l0]; rw [if_neg (by omega), List.take_of_length_le (by rw [nums_to_length]; omega)]
  · intro i hi ih
    rw [← ht i hi] at ih
    refine ev_go _ (fun k => ?_) ih
    simp only [impl_numbersTo.l0]; rw [if_pos (by omega), if_pos (by simp; omega), wr1 (by omega)]

def endLt (ends : List Int) : Int → Int → Bool := fun a b => decide (rd ends a < rd ends b)
theorem endLt_pre (ends : List Int) (P : Int → Prop) : Pre (endLt ends) P := pre_key (fun a => rd ends a) P
theorem impl_byEnds.ev (ends : List Int) (h : ends.length ≤ 1048576) : Ev (fun k => impl_byEnds.f k ends) (sortN (endLt ends) ends.length) := by
  unfold impl_byEnds.f
  refine ev_bind (nums_to ends.length) (impl_numbersTo.ev _ h) ?_
  rw [show (fun (_ : Nat) => if (nums_to ends.length).length ≤ 1048576 ∧ ∀ x ∈ nums_to ends.length, 0 ≤ x ∧ x < (ends.length : Int) then some (insAll (fun a b => decide (rd ends a < rd ends b)) (nums_to ends.length) []) else none) = fun _ => some (sortN (endLt ends) ends.length) from funext fun _ => by rw [if_pos ⟨by rw [nums_to_length]; exact h, fun x hx => mem_nums_to.1 hx⟩]; rfl]
  exact Ev.now _

theorem spec_l10Sorted.ev (ends : List Int) (h : ends.length ≤ 1048576) : Ev (fun k => spec_l10Sorted.f k ends) (sortN (endLt ends) ends.length) := by
  have key := rev_ind (P := fun i => ∀ out : List Int, out.length = i → (∀ y ∈ out, 0 ≤ y ∧ y < ends.length) → SortedLt (endLt ends) out → Ev (fun k => spec_l10Sorted.l0 k ends out (i : Int)) (insAll (endLt ends) ((nums_to ends.length).drop i) out)) ends.length ?_ ?_ 0 (Nat.zero_le _) [] rfl (by simp) List.Pairwise.nil
  · simpa [spec_l10Sorted.f, sortN] using key
  · intro out ho _ _
    refine ev_stop fun k => ?_
    simp only [spec_l10Sorted.l0]; rw [if_neg (by omega), List.drop_of_length_le (by rw [nums_to_length]; omega), insAll]
  · intro i hi ih out ho hm hs
    refine ev_go (fun k => spec_l10Sorted.l1 k ends out (i : Int) 0) (fun k => ?h) ?e
    case e =>
      have hi2 : (nums_to ends.length)[i]'(by rw [nums_to_length]; exact hi) = (i : Int) := by simp [nums_to]
      rw [drop_cons (by rw [nums_to_length]; exact hi), hi2, insAll]
      have hP : Pre (endLt ends) (fun y => 0 ≤ y ∧ y < (ends.length : Int)) := endLt_pre _ _
      have hxi : 0 ≤ (i : Int) ∧ (i : Int) < (ends.length : Int) := by omega
      have inner := rev_ind (P := fun j => (∀ y ∈ out.take j, endLt ends (i : Int) y = false) → Ev (fun k => spec_l10Sorted.l1 k ends out (i : Int) (j : Int)) (insAll (endLt ends) ((nums_to ends.length).drop (i + 1)) (insAt (endLt ends) (i : Int) out))) out.length ?_ ?_ 0 (Nat.zero_le _) (by simp)
      · exact inner
      · intro ht
        have ha := insAt_at hP hxi hm hs out.length (Nat.le_refl _) ht (fun h => absurd h (by omega))
        have hn := ih (insAt (endLt ends) (i : Int) out) (by rw [insAt_len]; omega) (insAt_mem hxi hm) (insAt_sorted hP hxi hm hs)
        rw [ha] at hn ⊢
        refine ev_go _ (fun k => ?_) hn
        simp only [spec_l10Sorted.l1]; rw [if_neg (by omega)]
        simp only [Option.bind_some]
        rw [if_pos (by omega), if_pos (by omega), if_pos (by simp; omega), if_pos (by simp; omega), if_pos (by simp; omega), wr1 (by omega)]
        simp
      · intro j hj ihj ht
        have hy := hm _ (List.getElem_mem hj)
        by_cases q : rd ends out[j] ≤ rd ends (i : Int)
        · refine ev_go _ (fun k => ?_) (ihj ?_)
          · simp only [spec_l10Sorted.l1]; rw [rd_nat hj, if_pos (by omega), if_pos (by omega), if_pos (by omega), if_pos (by omega), if_pos (by omega), if_pos (by omega), if_pos q, wr1 (by omega)]
          · intro y hy
            rw [List.take_succ_eq_append_getElem hj] at hy
            rcases List.mem_append.1 hy with hy | hy
            · exact ht y hy
            · rw [List.mem_singleton] at hy; subst hy; unfold endLt; simp; omega
        · have ha := insAt_at hP hxi hm hs j (by omega) ht (fun _ => by unfold endLt; simp; omega)
          have hn := ih (insAt (endLt ends) (i : Int) out) (by rw [insAt_len]; omega) (insAt_mem hxi hm) (insAt_sorted hP hxi hm hs)
          rw [ha] at hn ⊢
          refine ev_go _ (fun k => ?_) hn
          simp only [spec_l10Sorted.l1]; rw [rd_nat hj, if_pos (by omega), if_pos (by omega), if_pos (by omega), if_pos (by omega), if_pos (by omega), if_pos (by omega), if_neg q]
          simp only [Option.bind_some]
          rw [if_pos (by omega), if_pos (by simp; omega), if_pos (by simp; omega), if_pos (by simp; omega), wr1 (by omega)]
          simp
    case h => simp only [spec_l10Sorted.l0]; rw [if_pos (by omega)]

def ltI : Int → Int → Bool := fun a b => decide (a < b)
theorem ltI_pre (P : Int → Prop) : Pre ltI P := pre_key (fun x => x) P
theorem insAll_len (lt : Int → Int → Bool) (l : List Int) : (insAll lt l []).length = l.length := by
  have := (insAll_perm lt l []).length_eq
  simpa using this
theorem insAll_mem {lt : Int → Int → Bool} {l : List Int} {x : Int} : x ∈ insAll lt l [] ↔ x ∈ l := by
  have := (insAll_perm lt l []).mem_iff (a := x)
  simpa using this

theorem spec_l1Put.ev (l : List Int) (n : Int) (hl : l.length ≤ 1000000) (hs : SortedLt ltI l) (hn : n ∉ l) : Ev (fun k => spec_l1Put.f k l n) (insAt ltI n l) := by
  have hP := ltI_pre (fun _ => True)
  have key := rev_ind (P := fun j => (∀ y ∈ l.take j, ltI n y = false) → Ev (fun k => spec_l1Put.l0 k l n (j : Int)) (insAt ltI n l)) l.length ?_ ?_ 0 (Nat.zero_le _) (by simp)
  · simpa [spec_l1Put.f] using key
  · intro ht
    rw [insAt_at hP trivial (fun _ _ => trivial) hs l.length (Nat.le_refl _) ht (fun h => absurd h (by omega))]
    refine ev_stop fun k => ?_
    simp only [spec_l1Put.l0]; rw [if_neg (by omega)]
    simp only [Option.bind_some]
    rw [if_pos (by omega), if_pos (by omega), if_pos (by simp; omega), if_pos (by simp; omega), if_pos (by simp; omega)]
    simp
  · intro j hj ih ht
    by_cases q : l[j] < n
    · refine ev_go _ (fun k => ?_) (ih ?_)
      · simp only [spec_l1Put.l0]; rw [rd_nat hj, if_pos (by omega), if_pos (by omega), if_pos q, wr1 (by omega)]
      · intro y hy
        rw [List.take_succ_eq_append_getElem hj] at hy
        rcases List.mem_append.1 hy with hy | hy
        · exact ht y hy
        · rw [List.mem_singleton] at hy; subst hy; unfold ltI; simp; omega
    · have hne : l[j] ≠ n := fun e => hn (e ▸ List.getElem_mem hj)
      rw [insAt_at hP trivial (fun _ _ => trivial) hs j (by omega) ht (fun _ => by unfold ltI; simp; omega)]
      refine ev_stop fun k => ?_
      simp only [spec_l1Put.l0]; rw [rd_nat hj, if_pos (by omega), if_pos (by omega), if_neg q, if_neg hne]
      simp only [Option.bind_some]
      rw [if_pos (by omega), if_pos (by simp; omega), if_pos (by simp; omega), if_pos (by simp; omega)]
      simp

theorem spec_l6Ascending.ev (l : List Int) (hl : l.length ≤ 1000000) (hn : l.Nodup) : Ev (fun k => spec_l6Ascending.f k l) (insAll ltI l []) := by
  have key := rev_ind (P := fun i => ∀ out : List Int, out.length = i → SortedLt ltI out → (∀ y ∈ l.drop i, y ∉ out) → Ev (fun k => spec_l6Ascending.l0 k l out (i : Int)) (insAll ltI (l.drop i) out)) l.length ?_ ?_ 0 (Nat.zero_le _) [] rfl List.Pairwise.nil (by simp)
  · simpa [spec_l6Ascending.f] using key
  · intro out ho _ _
    refine ev_stop fun k => ?_
    simp only [spec_l6Ascending.l0]; rw [if_neg (by omega), List.drop_length, insAll]
  · intro i hi ih out ho hs hd
    rw [drop_cons hi, insAll]
    have hnd : (l.drop i).Nodup := (List.drop_sublist i l).nodup hn
    rw [drop_cons hi] at hnd hd
    have hx := hd _ List.mem_cons_self
    refine ev_go (fun k => (spec_l1Put.f k out l[i]).bind fun t => spec_l6Ascending.l0 k l t ((i + 1 : Nat) : Int)) (fun k => ?_) (ev_bind _ (spec_l1Put.ev out l[i] (by omega) hs hx) (ih _ (by rw [insAt_len]; omega) (insAt_sorted (ltI_pre (fun _ => True)) trivial (fun _ _ => trivial) hs) ?_))
    · simp only [spec_l6Ascending.l0]; rw [if_pos (by omega), if_pos (by omega), rd_nat hi, wr1 (by omega)]
    · intro y hy hm
      rcases List.mem_cons.1 ((insAt_perm ltI l[i] out).mem_iff.1 hm) with rfl | hm
      · exact (List.nodup_cons.1 hnd).1 hy
      · exact hd y (List.mem_cons_of_mem _ hy) hm

theorem impl_ascending.ev (l : List Int) (hl : l.length ≤ 1000000) : Ev (fun k => impl_ascending.f k l) (insAll ltI l []) := by
  unfold impl_ascending.f
  rw [if_pos (by omega)]
  exact Ev.now _

theorem shortBoth (jobs : List J) (ends : List Int) (hj : jobs.length ≤ 1000000) (he : ends.length = jobs.length) : ∃ r b, Ev (fun k => spec_l10Short.f k jobs ends) r ∧ Ev (fun k => impl_shortSet.f k jobs ends) (r, b) ∧ (b = true ↔ 0 < r.length) ∧ r.length ≤ jobs.length := by
  have hp := sortN_isPerm (endLt ends) ends.length
  have e1 := spec_l10Sorted.ev ends (by omega)
  have e2 := impl_byEnds.ev ends (by omega)
  generalize sortN (endLt ends) ends.length = order at hp e1 e2
  obtain ⟨hlen, hnd, hmem⟩ := hp
  have key := rev_ind (P := fun i => ∃ r b, Ev (fun k => spec_l10Short.l0 k jobs ends order ((i + 1 : Nat) : Int)) r ∧ Ev (fun k => impl_shortSet.l0 k jobs ends order (order.length : Int) (i : Int)) (r, b) ∧ (b = true ↔ 0 < r.length) ∧ r.length ≤ jobs.length) order.length ?_ ?_ 0 (Nat.zero_le _)
  · obtain ⟨r, b, h1, h2, h3, h4⟩ := key
    exact ⟨r, b, ev_bind order e1 h1, ev_bind order e2 h2, h3, h4⟩
  · refine ⟨[], false, ev_stop fun k => ?_, ev_stop fun k => ?_, by simp, by simp⟩
    · simp only [spec_l10Short.l0]; rw [if_neg (by omega)]
    · simp only [impl_shortSet.l0]; rw [if_neg (by omega)]
  · intro i hi ih
    have htl : (order.take (i + 1)).length = i + 1 := by simp; omega
    have ha := spec_l6Ascending.ev (order.take (i + 1)) (by omega) ((List.take_sublist _ _).nodup hnd)
    have hb := impl_ascending.ev (order.take (i + 1)) (by omega)
    have hsl := insAll_len ltI (order.take (i + 1))
    have hsm : ∀ x ∈ insAll ltI (order.take (i + 1)) [], 0 ≤ x ∧ x < jobs.length := fun x hx => by
      have := hmem x (List.mem_of_mem_take (insAll_mem.1 hx)); omega
    generalize insAll ltI (order.take (i + 1)) [] = set at ha hb hsl hsm
    have s1 := spec_l10Supply.ev jobs ends set he (by omega) hsm
    have s2 := impl_supplyOf.ev jobs ends set he (by omega) hsm
    have d1 := spec_l10Demand.ev jobs set (by omega) hsm
    have d2 := impl_demandOf.ev jobs set (by omega) hsm
    obtain ⟨r, b, h1, h2, h3, h4⟩ := ih
    have u1 : ∀ k, spec_l10Short.l0 (k + 1) jobs ends order ((i + 1 : Nat) : Int) = ((spec_l6Ascending.f k (order.take (i + 1))).bind fun t => (spec_l10Supply.f k jobs ends t).bind fun a => (spec_l10Demand.f k jobs t).bind fun d => if a < d then some t else spec_l10Short.l0 k jobs ends order ((i + 1 + 1 : Nat) : Int)) := fun k => by
      simp only [spec_l10Short.l0]; rw [if_pos (by omega), if_pos (by omega), wr1 (by omega), show (((i + 1 : Nat) : Int)).toNat = i + 1 by omega]
    have u2 : ∀ k, impl_shortSet.l0 (k + 1) jobs ends order (order.length : Int) (i : Int) = ((impl_ascending.f k (order.take (i + 1))).bind fun t => (impl_supplyOf.f k jobs ends t).bind fun a => (impl_demandOf.f k jobs t).bind fun d => if a < d then some (t, true) else impl_shortSet.l0 k jobs ends order (order.length : Int) ((i + 1 : Nat) : Int)) := fun k => by
      simp only [impl_shortSet.l0]; rw [wr1 (by omega), if_pos (by omega), if_pos (by omega), if_pos (by omega), show (((i + 1 : Nat) : Int)).toNat = i + 1 by omega]
    by_cases q : supplyF jobs ends set 0 < demandF jobs set 0 0
    · refine ⟨set, true, ev_go _ u1 (ev_bind _ ha (ev_bind _ s1 (ev_bind _ d1 ?_))), ev_go _ u2 (ev_bind _ hb (ev_bind _ s2 (ev_bind _ d2 ?_))), by simp; omega, by omega⟩
      · simp only [if_pos q]; exact Ev.now _
      · simp only [if_pos q]; exact Ev.now _
    · refine ⟨r, b, ev_go _ u1 (ev_bind _ ha (ev_bind _ s1 (ev_bind _ d1 ?_))), ev_go _ u2 (ev_bind _ hb (ev_bind _ s2 (ev_bind _ d2 ?_))), h3, h4⟩
      · simp only [if_neg q]; exact h1
      · simp only [if_neg q]; exact h2

theorem ev_mono {α : Type} {g : Nat → Option α} {r : α} (K : Nat) (h : g K = some r) (hm : ∀ k, LeO (g k) (g (k + 1))) : Ev g r := by
  refine ⟨K, fun k hk => ?_⟩
  obtain ⟨d, rfl⟩ : ∃ d, k = K + d := ⟨k - K, by omega⟩
  clear hk
  induction d with
  | zero => exact h
  | succ d ih => exact hm _ _ ih

set_option maxRecDepth 100000 in
theorem l4Set_all : ∀ n, n < 9 → spec_l4Set.f 20 ((n : Nat) : Int) (wrap64 ((shl .i64 1 ((n : Nat) : Int)) - 1)) = some (nums_to n) := by decide +kernel
theorem spec_l6All.ev (jobs : List J) (hj : jobs.length ≤ 8) : Ev (fun k => spec_l6All.f k jobs) (nums_to jobs.length) := by
  unfold spec_l6All.f
  exact ev_bind (nums_to jobs.length) (ev_mono 20 (l4Set_all _ (by omega)) (fun k => spec_l4Set.mono _ _ k)) (Ev.now _)

theorem core_IsBalanced (jobs : List J) (ends : List Int) (hj : jobs.length ≤ 1048576) (hl : ends.length ≤ 1048576) : ∃ b c, Ev (fun k => spec_IsBalanced.f k jobs ends) (b, c) ∧ Ev (fun k => impl_IsBalanced.f k jobs ends) (b, c) := by
  unfold spec_IsBalanced.f impl_IsBalanced.f
  have es := spec_l6Good.ev jobs (by omega)
  have ei := impl_IsPlain.ev jobs (by omega)
  have es2 := spec_l10Vector.ev jobs ends (by omega)
  have ei2 := impl_isVector.ev jobs ends (by omega)
  have no1 : Ev (fun k => spec_IsBalanced.j0 k jobs ends true) (false, false) := ev_stop fun k => by simp only [spec_IsBalanced.j0]; rw [if_pos trivial]
  have no2 : Ev (fun k => impl_IsBalanced.j0 k jobs ends true) (false, false) := ev_stop fun k => by simp only [impl_IsBalanced.j0]; rw [if_pos trivial]
  by_cases h : PlainOk jobs
  · by_cases h2 : VecOk jobs.length ends
    · have hj8 := h.1.1
      have hx : ∀ x ∈ nums_to jobs.length, 0 ≤ x ∧ x < jobs.length := fun x hx => mem_nums_to.1 hx
      have hnl := nums_to_length jobs.length
      have s1 := spec_l10Supply.ev jobs ends (nums_to jobs.length) h2.1 (by omega) hx
      have s2 := impl_supplyOf.ev jobs ends (nums_to jobs.length) h2.1 (by omega) hx
      have d1 := spec_l10Demand.ev jobs (nums_to jobs.length) (by omega) hx
      have d2 := impl_demandOf.ev jobs (nums_to jobs.length) (by omega) hx
      obtain ⟨r, b, h3, h4, h5, h6⟩ := shortBoth jobs ends (by omega) h2.1
      have f1 : ∀ c, Ev (fun k => (spec_l6All.f k jobs).bind fun t275 => ((spec_l10Short.f k jobs ends).bind fun t278 => (if (t278.length : Int) = 0 then ((spec_l10Supply.f k jobs ends t275).bind fun t281 => ((spec_l10Demand.f k jobs t275).bind fun t282 => (some ((t281 == t282), true)))) else (some (false, true))))) (c, true) → Ev (fun k => spec_IsBalanced.f k jobs ends) (c, true) := fun c hc => by
        unfold spec_IsBalanced.f
        refine ev_guard' es (fun _ => evB_bind es2 (fun _ => ?_) (fun hn => absurd h2 hn)) (fun hn => absurd h hn)
        exact ev_go _ (fun k => by simp only [spec_IsBalanced.j0]; rw [if_neg (by simp)]) hc
      have f2 : ∀ c, Ev (fun k => (impl_numbersTo.f k (jobs.length : Int)).bind fun t326 => ((impl_shortSet.f k jobs ends).bind fun bt329 => (if bt329.2 = true then (some (false, true)) else ((impl_supplyOf.f k jobs ends t326).bind fun t333 => ((impl_demandOf.f k jobs t326).bind fun t334 => (some ((t333 == t334), true))))))) (c, true) → Ev (fun k => impl_IsBalanced.f k jobs ends) (c, true) := fun c hc => by
        unfold impl_IsBalanced.f
        refine ev_guard' ei (fun _ => evB_bind ei2 (fun _ => ?_) (fun hn => absurd h2 hn)) (fun hn => absurd h hn)
        exact ev_go _ (fun k => by simp only [impl_IsBalanced.j0]; rw [if_neg (by simp)]) hc
      by_cases q : 0 < r.length
      · have hb := h5.2 q
        subst hb
        refine ⟨false, true, f1 _ (ev_bind _ (spec_l6All.ev jobs hj8) (ev_bind r h3 ?_)), f2 _ (ev_bind _ (impl_numbersTo.ev jobs.length (by omega)) (ev_bind (r, true) h4 ?_))⟩
        · simp only [if_neg (show ¬ (r.length : Int) = 0 by omega)]; exact Ev.now _
        · simp only [if_true]; exact Ev.now _
      · have hb : b = false := by cases b with
          | false => rfl
          | true => exact absurd (h5.1 rfl) q
        subst hb
        refine ⟨supplyF jobs ends (nums_to jobs.length) 0 == demandF jobs (nums_to jobs.length) 0 0, true, f1 _ (ev_bind _ (spec_l6All.ev jobs hj8) (ev_bind r h3 ?_)), f2 _ (ev_bind _ (impl_numbersTo.ev jobs.length (by omega)) (ev_bind (r, false) h4 ?_))⟩
        · simp only [if_pos (show (r.length : Int) = 0 by omega)]; exact ev_bind _ s1 (ev_bind _ d1 (Ev.now _))
        · simp only [Bool.false_eq_true, if_false]; exact ev_bind _ s2 (ev_bind _ d2 (Ev.now _))
    · exact ⟨false, false, ev_guard' es (fun _ => evB_bind es2 (fun h3 => absurd h3 h2) (fun _ => no1)) (fun _ => no1), ev_guard' ei (fun _ => evB_bind ei2 (fun h3 => absurd h3 h2) (fun _ => no2)) (fun _ => no2)⟩
  · exact ⟨false, false, ev_guard' es (fun h1 => absurd h1 h) (fun _ => no1), ev_guard' ei (fun h1 => absurd h1 h) (fun _ => no2)⟩

end Go.Proofs.Ytafjdcjaigmnaaa.Pure
