/- Proved here: what functions that the law FnExactIsOrderVector reaches answer (sortP, impl_numbersTo, byEnds, spec_l10Sorted, spec_l1Same, impl_compareLists, core_IsOrderVector). Conditions: those that each theorem names. -/
import Derived.Test.YtoeoaphejhmjbaaQFnExactIsOrderVectorl
set_option linter.unusedVariables false
set_option linter.unusedSimpArgs false
namespace Go.Proofs.Ytoeoaphejhmjbaa.Pure
open Go.RowKit Go.Proofs.Ytoeoaphejhmjbaa.XFnExactIsOrderVector Go.Proofs.YtoeoaphejhmjbaaW.PrintWords Go.Proofs.YtoeoaphejhmjbaaW.PrintLast

/-- An order in which one may stand ahead of another: what 'not ahead' is handed on through, and what is ahead is not behind. -/
structure Pre (lt : Int → Int → Bool) (P : Int → Prop) : Prop where
  trans : ∀ a b c, P a → P b → P c → lt b a = false → lt c b = false → lt c a = false
  asym : ∀ a b, P a → P b → lt a b = true → lt b a = false
def SortedLt (lt : Int → Int → Bool) (l : List Int) : Prop := l.Pairwise fun a b => lt b a = false
theorem pre_key (f : Int → Int) (P : Int → Prop) : Pre (fun a b => decide (f a < f b)) P := by
  refine ⟨fun a b c _ _ _ h1 h2 => ?_, fun a b _ _ h => ?_⟩ <;> simp at * <;> omega
theorem insPos_at {lt : Int → Int → Bool} {P : Int → Prop} (hp : Pre lt P) {x : Int} {out : List Int} (hx : P x) (ho : ∀ y ∈ out, P y) (hs : SortedLt lt out) (j : Nat) (hj : j ≤ out.length) (h1 : ∀ y ∈ out.take j, lt x y = false) (h2 : ∀ h : j < out.length, lt x out[j] = true) : insPos lt x out out.length = j := by
  have key : ∀ d, j + d ≤ out.length → insPos lt x out (j + d) = j := by
    intro d
    induction d with
    | zero =>
      intro _
      cases j with
      | zero => rfl
      | succ j =>
        rw [Nat.add_zero, insPos, if_neg]
        have hm : out[j] ∈ out.take (j + 1) := List.mem_take_iff_getElem.2 ⟨j, by omega, rfl⟩
        have := h1 _ hm
        simp [List.getD_eq_getElem?_getD, show j < out.length by omega, this]
    | succ d ih =>
      intro hd
      rw [← Nat.add_assoc, insPos, if_pos, ih (by omega)]
      have hq : lt x (out[j + d]'(by omega)) = true := by
        refine Classical.byContradiction fun hc => ?_
        have hc : lt x (out[j + d]'(by omega)) = false := by simpa using hc
        have hj2 := h2 (by omega)
        by_cases e : d = 0
        · subst e; simp at hc; rw [hc] at hj2; cases hj2
        · have hpw := (List.pairwise_iff_getElem.1 hs) j (j + d) (by omega) (by omega) (by omega)
          have := hp.trans _ _ _ (ho _ (List.getElem_mem (by omega : j < out.length))) (ho _ (List.getElem_mem (by omega : j + d < out.length))) hx hpw hc
          rw [this] at hj2; cases hj2
      simpa [List.getD_eq_getElem?_getD, show j + d < out.length by omega] using hq
  have := key (out.length - j) (by omega)
  rwa [show j + (out.length - j) = out.length by omega] at this
theorem insAt_at {lt : Int → Int → Bool} {P : Int → Prop} (hp : Pre lt P) {x : Int} {out : List Int} (hx : P x) (ho : ∀ y ∈ out, P y) (hs : SortedLt lt out) (j : Nat) (hj : j ≤ out.length) (h1 : ∀ y ∈ out.take j, lt x y = false) (h2 : ∀ h : j < out.length, lt x out[j] = true) : insAt lt x out = out.take j ++ x :: out.drop j := by
  unfold insAt
  rw [insPos_at hp hx ho hs j hj h1 h2]
theorem insPos_left {lt : Int → Int → Bool} {x : Int} {out : List Int} : ∀ k, k ≤ out.length → (0 < insPos lt x out k → lt x (out.getD (insPos lt x out k - 1) 0) = false) ∧ (∀ i, insPos lt x out k ≤ i → i < k → lt x (out.getD i 0) = true)
  | 0, _ => ⟨fun h => absurd h (by simp [insPos]), fun i _ h => absurd h (by omega)⟩
  | k + 1, hk => by
    have ih := insPos_left (lt := lt) (x := x) (out := out) k (by omega)
    rw [insPos]
    by_cases q : lt x (out.getD k 0) = true
    · rw [if_pos q]
      refine ⟨ih.1, fun i h1 h2 => ?_⟩
      by_cases e : i = k
      · subst e; exact q
      · exact ih.2 i h1 (by omega)
    · rw [if_neg q]
      exact ⟨fun _ => by simpa using q, fun i h1 h2 => absurd h1 (by omega)⟩
theorem insAt_perm (lt : Int → Int → Bool) (x : Int) (out : List Int) : (insAt lt x out).Perm (x :: out) := by
  unfold insAt
  refine List.perm_middle.trans ?_
  rw [List.take_append_drop]
theorem insAt_sorted {lt : Int → Int → Bool} {P : Int → Prop} (hp : Pre lt P) {x : Int} {out : List Int} (hx : P x) (ho : ∀ y ∈ out, P y) (hs : SortedLt lt out) : SortedLt lt (insAt lt x out) := by
  unfold insAt SortedLt
  obtain ⟨hl, hr⟩ := insPos_left (lt := lt) (x := x) (out := out) out.length (Nat.le_refl _)
  have hle := insPos_le lt x out out.length
  generalize hq : insPos lt x out out.length = p at hl hr hle ⊢
  rw [List.pairwise_append, List.pairwise_cons]
  have left : ∀ a ∈ out.take p, lt x a = false := by
    intro a ha
    obtain ⟨i, hi, rfl⟩ := List.mem_take_iff_getElem.1 ha
    have hi' : i < p := by omega
    have h0 := hl (by omega)
    rw [List.getD_eq_getElem?_getD, List.getElem?_eq_getElem (by omega), Option.getD_some] at h0
    by_cases e : i = p - 1
    · subst e; exact h0
    · exact hp.trans _ _ _ (ho _ (List.getElem_mem _)) (ho _ (List.getElem_mem (by omega : p - 1 < out.length))) hx ((List.pairwise_iff_getElem.1 hs) i (p - 1) (by omega) (by omega) (by omega)) h0
  have right : ∀ b ∈ out.drop p, lt b x = false := by
    intro b hb
    obtain ⟨i, hi, rfl⟩ := List.mem_drop_iff_getElem.1 hb
    have h0 := hr (p + i) (by omega) (by omega)
    rw [List.getD_eq_getElem?_getD, List.getElem?_eq_getElem (by omega), Option.getD_some] at h0
    exact hp.asym _ _ hx (ho _ (List.getElem_mem _)) h0
  have hs' := hs
  unfold SortedLt at hs'
  rw [← List.take_append_drop p out, List.pairwise_append] at hs'
  refine ⟨hs'.1, ⟨right, hs'.2.1⟩, fun a ha b hb => ?_⟩
  rcases List.mem_cons.1 hb with rfl | hb
  · exact left a ha
  · exact hs'.2.2 a ha b hb
theorem insAll_perm (lt : Int → Int → Bool) : ∀ (l out : List Int), (insAll lt l out).Perm (l ++ out)
  | [], out => List.Perm.refl _
  | x :: l, out => by
    rw [insAll]
    refine (insAll_perm lt l _).trans ?_
    refine ((insAt_perm lt x out).append_left l).trans ?_
    exact List.perm_middle
theorem insAll_sorted {lt : Int → Int → Bool} {P : Int → Prop} (hp : Pre lt P) : ∀ (l out : List Int), (∀ y ∈ l, P y) → (∀ y ∈ out, P y) → SortedLt lt out → SortedLt lt (insAll lt l out)
  | [], out, _, _, h => h
  | x :: l, out, hl, ho, h => by
    rw [insAll]
    have hx := hl x List.mem_cons_self
    refine insAll_sorted hp l _ (fun y hy => hl y (List.mem_cons_of_mem _ hy)) (fun y hy => ?_) (insAt_sorted hp hx ho h)
    rcases List.mem_cons.1 ((insAt_perm lt x out).mem_iff.1 hy) with rfl | hy
    · exact hx
    · exact ho y hy
/-- All numbers below n, sorted. -/
def sortN (lt : Int → Int → Bool) (n : Nat) : List Int := insAll lt (nums_to n) []
theorem sortN_perm (lt : Int → Int → Bool) (n : Nat) : (sortN lt n).Perm (nums_to n) := by
  have := insAll_perm lt (nums_to n) []
  rwa [List.append_nil] at this
theorem sortN_isPerm (lt : Int → Int → Bool) (n : Nat) : IsPerm n (sortN lt n) := by
  have h := sortN_perm lt n
  refine ⟨by rw [h.length_eq, nums_to_length], h.nodup_iff.2 (nums_to_nodup n), fun x hx => mem_nums_to.1 (h.mem_iff.1 hx)⟩

theorem impl_numbersTo.ev (n : Nat) (hn : n ≤ 1048576) : Ev (fun k => impl_numbersTo.f k (n : Int)) (nums_to n) := by
  have ht : ∀ i, i < n → (nums_to n).take i ++ [(i : Int)] = (nums_to n).take (i + 1) := by
    intro i hi
    rw [List.take_succ_eq_append_getElem (by rw [nums_to_length]; exact hi)]
    simp [nums_to]
  have key := rev_ind (P := fun i => Ev (fun k => impl_numbersTo.l0 k (n : Int) ((nums_to n).take i) (i : Int)) (nums_to n)) n ?_ ?_ 0 (Nat.zero_le _)
  · simpa [impl_numbersTo.f] using key
  · refine ev_stop fun k => ?_
    simp only [impl_numbersTo.l0]; rw [if_neg (by omega), List.take_of_length_le (by rw [nums_to_length]; omega)]
  · intro i hi ih
    rw [← ht i hi] at ih
    refine ev_go _ (fun k => ?_) ih
    simp only [impl_numbersTo.l0]; rw [if_pos (by omega), if_pos (by simp; omega), wr1 (by omega)]

def endLt (ends : List Int) : Int → Int → Bool := fun a b => decide (rd ends a < rd ends b)
theorem endLt_pre (ends : List Int) (P : Int → Prop) : Pre (endLt ends) P := pre_key (fun a => rd ends a) P
theorem impl_byEnds.ev (ends : List Int) (h : ends.length ≤ 1048576) : Ev (fun k => impl_byEnds.f k ends) (sortN (endLt ends) ends.length) := by
  unfold impl_byEnds.f
  refine ev_bind (nums_to ends.length) (impl_numbersTo.ev _ h) ?_
  rw [show (fun (_ : Nat) => if (nums_to ends.length).length ≤ 1048576 ∧ ∀ x ∈ nums_to ends.length, 0 ≤ x ∧ x < (ends.length : Int) then some (insAll (fun a b => decide (rd ends a < rd ends b)) (nums_to ends.length) []) else none) = fun _ => some (sortN (endLt ends) ends.length) from funext fun _ => by rw [if_pos ⟨by rw [nums_to_length]; exact h, fun x hx => mem_nums_to.1 hx⟩]; rfl]
  exact Ev.now _

theorem spec_l10Sorted.ev (ends : List Int) (h : ends.length ≤ 1048576) : Ev (fun k => spec_l10Sorted.f k ends) (sortN (endLt ends) ends.length) := by
  have key := rev_ind (P := fun i => ∀ out : List Int, out.length = i → (∀ y ∈ out, 0 ≤ y ∧ y < ends.length) → SortedLt (endLt ends) out → Ev (fun k => spec_l10Sorted.l0 k ends out (i : Int)) (insAll (endLt ends) ((nums_to ends.length).drop i) out)) ends.length ?_ ?_ 0 (Nat.zero_le _) [] rfl (by simp) List.Pairwise.nil
  · simpa [spec_l10Sorted.f, sortN] using key
  · intro out ho _ _
    refine ev_stop fun k => ?_
    simp only [spec_l10Sorted.l0]; rw [if_neg (by omega), List.drop_of_length_le (by rw [nums_to_length]; omega), insAll]
  · intro i hi ih out ho hm hs
    refine ev_go (fun k => spec_l10Sorted.l1 k ends out (i : Int) 0) (fun k => ?h) ?e
    case e =>
      have hi2 : (nums_to ends.length)[i]'(by rw [nums_to_length]; exact hi) = (i : Int) := by simp [nums_to]
      rw [drop_cons (by rw [nums_to_length]; exact hi), hi2, insAll]
      have hP : Pre (endLt ends) (fun y => 0 ≤ y ∧ y < (ends.length : Int)) := endLt_pre _ _
      have hxi : 0 ≤ (i : Int) ∧ (i : Int) < (ends.length : Int) := by omega
      have inner := rev_ind (P := fun j => (∀ y ∈ out.take j, endLt ends (i : Int) y = false) → Ev (fun k => spec_l10Sorted.l1 k ends out (i : Int) (j : Int)) (insAll (endLt ends) ((nums_to ends.length).drop (i + 1)) (insAt (endLt ends) (i : Int) out))) out.length ?_ ?_ 0 (Nat.zero_le _) (by simp)
      · exact inner
      · intro ht
        have ha := insAt_at hP hxi hm hs out.length (Nat.le_refl _) ht (fun h => absurd h (by omega))
        have hn := ih (insAt (endLt ends) (i : Int) out) (by rw [insAt_len]; omega) (insAt_mem hxi hm) (insAt_sorted hP hxi hm hs)
        rw [ha] at hn ⊢
        refine ev_go _ (fun k => ?_) hn
        simp only [spec_l10Sorted.l1]; rw [if_neg (by omega)]
        simp only [Option.bind_some]
        rw [if_pos (by omega), if_pos (by omega), if_pos (by simp; omega), if_pos (by simp; omega), if_pos (by simp; omega), wr1 (by omega)]
        simp
      · intro j hj ihj ht
        have hy := hm _ (List.getElem_mem hj)
        by_cases q : rd ends out[j] ≤ rd ends (i : Int)
        · refine ev_go _ (fun k => ?_) (ihj ?_)
          · simp only [spec_l10Sorted.l1]; rw [rd_nat hj, if_pos (by omega), if_pos (by omega), if_pos (by omega), if_pos (by omega), if_pos (by omega), if_pos (by omega), if_pos q, wr1 (by omega)]
          · intro y hy
            rw [List.take_succ_eq_append_getElem hj] at hy
            rcases List.mem_append.1 hy with hy | hy
            · exact ht y hy
            · rw [List.mem_singleton] at hy; subst hy; unfold endLt; simp; omega
        · have ha := insAt_at hP hxi hm hs j (by omega) ht (fun _ => by unfold endLt; simp; omega)
          have hn := ih (insAt (endLt ends) (i : Int) out) (by rw [insAt_len]; omega) (insAt_mem hxi hm) (insAt_sorted hP hxi hm hs)
          rw [ha] at hn ⊢
          refine ev_go _ (fun k => ?_) hn
          simp only [spec_l10Sorted.l1]; rw [rd_nat hj, if_pos (by omega), if_pos (by omega), if_pos (by omega), if_pos (by omega), if_pos (by omega), if_pos (by omega), if_neg q]
          simp only [Option.bind_some]
          rw [if_pos (by omega), if_pos (by simp; omega), if_pos (by simp; omega), if_pos (by simp; omega), wr1 (by omega)]
          simp
    case h => simp only [spec_l10Sorted.l0]; rw [if_pos (by omega)]

theorem spec_l1Same.ev (a b : List Int) (ha : a.length ≤ 1000000000000) (hb : b.length ≤ 1000000000000) : EvB (fun k => spec_l1Same.f k a b) (a = b) := by
  unfold spec_l1Same.f
  by_cases e : (a.length : Int) = (b.length : Int)
  · simp only [if_pos e]
    have key := rev_ind (P := fun i => EvB (fun k => spec_l1Same.l0 k a b (i : Int)) (a.drop i = b.drop i)) a.length ?_ ?_ 0 (Nat.zero_le _)
    · simpa using key
    · refine evB_of (fun _ => ev_stop fun k => ?_) (fun h => absurd (by rw [List.drop_length, List.drop_of_length_le (by omega)]) h)
      simp only [spec_l1Same.l0]; rw [if_neg (by omega)]
    · intro i hi ih
      rw [drop_cons hi, drop_cons (by omega : i < b.length), List.cons.injEq]
      by_cases q : a[i] = b[i]'(by omega)
      · obtain ⟨c, hc, hP⟩ := ih
        refine ⟨c, ev_go _ (fun k => ?_) hc, hP.trans ⟨fun h => ⟨q, h⟩, fun h => h.2⟩⟩
        simp only [spec_l1Same.l0]; rw [if_pos (by omega), if_pos (by omega), if_pos (by omega), rd_nat hi, rd_nat (by omega : i < b.length), if_pos q, wr1 (by omega)]
      · refine evB_of (fun h => absurd h.1 q) (fun _ => ev_stop fun k => ?_)
        simp only [spec_l1Same.l0]; rw [if_pos (by omega), if_pos (by omega), if_pos (by omega), rd_nat hi, rd_nat (by omega : i < b.length), if_neg q]
  · simp only [if_neg e]
    exact evB_of (fun h => absurd (by rw [h]) e) (fun _ => Ev.now _)

theorem wrap_sub {x y : Int} (hx : -9223372036854775808 ≤ x ∧ x ≤ 9223372036854775807) (hy : -9223372036854775808 ≤ y ∧ y ≤ 9223372036854775807) : wrap64 (x - y) = 0 ↔ x = y := by unfold wrap64; omega
theorem impl_compareLists.ev (a b : List Int) (hla : a.length ≤ 1000000000000) (hlb : b.length ≤ 1000000000000) (ha : ∀ x ∈ a, -9223372036854775808 ≤ x ∧ x ≤ 9223372036854775807) (hb : ∀ x ∈ b, -9223372036854775808 ≤ x ∧ x ≤ 9223372036854775807) : ∃ c : Int, Ev (fun k => impl_compareLists.f k a b) c ∧ (c = 0 ↔ a = b) := by
  have fin : ∀ i : Nat, i ≤ a.length → i ≤ b.length → (¬ (i < a.length ∧ i < b.length)) → ∃ c : Int, Ev (fun k => impl_compareLists.j1 k a b (i : Int) false) c ∧ (c = 0 ↔ a.drop i = b.drop i) := by
    intro i h1 h2 h3
    refine ⟨wrap64 ((a.length : Int) - (b.length : Int)), ev_stop fun k => ?_, ?_⟩
    · simp only [impl_compareLists.j1]; rw [if_neg (by simp)]
    · rw [wrap_sub (by omega) (by omega)]
      constructor
      · intro h; rw [List.drop_of_length_le (by omega), List.drop_of_length_le (by omega)]
      · intro h
        have := congrArg List.length h
        simp at this; omega
  have key := rev_ind (P := fun i => i ≤ b.length → ∃ c : Int, Ev (fun k => impl_compareLists.l0 k a b (i : Int)) c ∧ (c = 0 ↔ a.drop i = b.drop i)) a.length ?_ ?_ 0 (Nat.zero_le _) (Nat.zero_le _)
  · simpa [impl_compareLists.f] using key
  · intro hib
    obtain ⟨c, hc, e⟩ := fin a.length (Nat.le_refl _) hib (by omega)
    refine ⟨c, ev_go _ (fun k => ?_) hc, e⟩
    simp only [impl_compareLists.l0]; rw [if_neg (by omega)]
  · intro i hi ih hib
    by_cases q : i < b.length
    · rw [drop_cons hi, drop_cons q, List.cons.injEq]
      by_cases e : a[i] = b[i]
      · obtain ⟨c, hc, e2⟩ := ih (by omega)
        refine ⟨c, ev_go (fun k => impl_compareLists.j1 k a b (i : Int) true) (fun k => ?_) (ev_go (fun k => impl_compareLists.l0 k a b ((i + 1 : Nat) : Int)) (fun k => ?_) hc), e2.trans ⟨fun h => ⟨e, h⟩, fun h => h.2⟩⟩
        · simp only [impl_compareLists.l0]; rw [if_pos (by omega), decide_eq_true (by omega : (i : Int) < (b.length : Int))]
        · simp only [impl_compareLists.j1]; rw [if_pos trivial, if_pos (by omega), if_pos (by omega), if_pos (by omega), rd_nat hi, rd_nat q, if_pos e, wr1 (by omega)]
      · refine ⟨wrap64 (a[i] - b[i]), ev_go (fun k => impl_compareLists.j1 k a b (i : Int) true) (fun k => ?_) (ev_stop fun k => ?_), ?_⟩
        · simp only [impl_compareLists.l0]; rw [if_pos (by omega), decide_eq_true (by omega : (i : Int) < (b.length : Int))]
        · simp only [impl_compareLists.j1]; rw [if_pos trivial, if_pos (by omega), if_pos (by omega), if_pos (by omega), rd_nat hi, rd_nat q, if_neg e]
        · rw [wrap_sub (ha _ (List.getElem_mem _)) (hb _ (List.getElem_mem _))]
          exact ⟨fun h => absurd h e, fun h => absurd h.1 e⟩
    · obtain ⟨c, hc, e⟩ := fin i (by omega) hib (by omega)
      refine ⟨c, ev_go _ (fun k => ?_) hc, e⟩
      simp only [impl_compareLists.l0]; rw [if_pos (by omega), decide_eq_false (by omega : ¬ (i : Int) < (b.length : Int))]

theorem core_IsOrderVector (jobs : List J) (ends : List Int) (hj : jobs.length ≤ 1048576) (hl : ends.length ≤ 1048576) : ∃ b c, Ev (fun k => spec_IsOrderVector.f k jobs ends) (b, c) ∧ Ev (fun k => impl_IsOrderVector.f k jobs ends) (b, c) := by
  unfold spec_IsOrderVector.f impl_IsOrderVector.f
  have es := spec_l6Good.ev jobs (by omega)
  have ei := impl_IsPlain.ev jobs (by omega)
  have es2 := spec_l10Vector.ev jobs ends (by omega)
  have ei2 := impl_isVector.ev jobs ends (by omega)
  have no1 : Ev (fun k => spec_IsOrderVector.j0 k jobs ends true) (false, false) := ev_stop fun k => by simp only [spec_IsOrderVector.j0]; rw [if_pos trivial]
  have no2 : Ev (fun k => impl_IsOrderVector.j0 k jobs ends true) (false, false) := ev_stop fun k => by simp only [impl_IsOrderVector.j0]; rw [if_pos trivial]
  by_cases h : PlainOk jobs
  · by_cases h2 : VecOk jobs.length ends
    · have hp := sortN_isPerm (endLt ends) ends.length
      have ht : TwoOk jobs (sortN (endLt ends) ends.length) := ⟨h.1, by rw [← h2.1]; exact hp⟩
      have hj8 := h.1.1
      have hE := endsAll_len jobs (sortN (endLt ends) ends.length)
      obtain ⟨c, hc, ec⟩ := impl_compareLists.ev (endsAll jobs (sortN (endLt ends) ends.length)) ends (by omega) (by omega) (fun x hx => by
        obtain ⟨i, hi, rfl⟩ := List.getElem_of_mem hx
        rw [(endsAll_get jobs _ ht i (by omega)).1]; unfold wrap64; omega) (fun x hx => by have := h2.2 x hx; omega)
      obtain ⟨b, hb, eb⟩ := spec_l1Same.ev (endsAll jobs (sortN (endLt ends) ends.length)) ends (by omega) (by omega)
      have hbc : b = (c == 0) := by
        cases b
        · have : ¬ c = 0 := fun h3 => absurd (eb.2 (ec.1 h3)) (by simp)
          simp [this]
        · have : c = 0 := ec.2 (eb.1 rfl)
          simp [this]
      refine ⟨b, true, ev_guard' es (fun _ => evB_bind es2 (fun _ => ?_) (fun hn => absurd h2 hn)) (fun hn => absurd h hn), ev_guard' ei (fun _ => evB_bind ei2 (fun _ => ?_) (fun hn => absurd h2 hn)) (fun hn => absurd h hn)⟩
      · refine ev_go _ (fun k => by simp only [spec_IsOrderVector.j0]; rw [if_neg (by simp)]) ?_
        exact ev_bind _ (spec_l10Sorted.ev ends hl) (ev_bind _ (spec_l2Ends.ev jobs _ ht) (ev_bind b hb (Ev.now _)))
      · refine ev_go _ (fun k => by simp only [impl_IsOrderVector.j0]; rw [if_neg (by simp)]) ?_
        refine ev_bind _ (impl_byEnds.ev ends hl) (ev_bind (endsAll jobs (sortN (endLt ends) ends.length)) (impl_endsOf.ev jobs _ (by omega) (by have := ht.2.1; omega) ht.2.2.2) (ev_bind c hc ?_))
        rw [hbc]; exact Ev.now _
    · exact ⟨false, false, ev_guard' es (fun _ => evB_bind es2 (fun h3 => absurd h3 h2) (fun _ => no1)) (fun _ => no1), ev_guard' ei (fun _ => evB_bind ei2 (fun h3 => absurd h3 h2) (fun _ => no2)) (fun _ => no2)⟩
  · exact ⟨false, false, ev_guard' es (fun h1 => absurd h1 h) (fun _ => no1), ev_guard' ei (fun h1 => absurd h1 h) (fun _ => no2)⟩

end Go.Proofs.Ytoeoaphejhmjbaa.Pure
