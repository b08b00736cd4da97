/- Proved here: what functions that the law FnExactWrapAround reaches answer (spanSS, laws_eqSpanSSw, laws_markSpanSS, lengthBoth). Conditions: those that each theorem names. -/
import Derived.Test.YtplbabjigikgjaaQFnExactWrapAroundxc
set_option linter.unusedVariables false
set_option linter.unusedSimpArgs false
namespace Go.Proofs.Ytplbabjigikgjaa.Pure
open Go.RowKit Go.Proofs.Ytplbabjigikgjaa.XFnExactWrapAround Go.Proofs.YtplbabjigikgjaaW.PrintWords Go.Proofs.YtplbabjigikgjaaW.PrintLast

theorem rdLSS {l : List (List PSpan)} {i : Nat} (h : i < l.length) : rd_L7 l (i : Int) = l[i] := by simp [rd_L7, h]

theorem laws_eqSpanSS.same (l : List (List PSpan)) (hl : l.length ≤ 1000000000000000) (hr : ∀ y ∈ l, y.length ≤ 1000000000000000) : Ev (fun k => laws_eqSpanSS.f k l l) true := by
  unfold laws_eqSpanSS.f
  simp only [if_true]
  refine rev_ind (P := fun i => Ev (fun k => laws_eqSpanSS.l0 k l l (i : Int)) true) l.length ?_ ?_ 0 (Nat.zero_le _)
  · refine ev_stop fun k => ?_
    simp only [laws_eqSpanSS.l0]; rw [if_neg (by omega)]
  · intro i hi ih
    refine ev_go (fun k => (laws_eqSpanS.f k l[i] l[i]).bind fun t => if t = true then laws_eqSpanSS.l0 k l l ((i + 1 : Nat) : Int) else some false) (fun k => ?_) (ev_bind true (laws_eqSpanS.same l[i] (hr _ (List.getElem_mem hi))) (by simp only [if_true]; exact ih))
    simp only [laws_eqSpanSS.l0]; rw [if_pos (by omega), if_pos (by omega), if_pos (by omega), rdLSS hi, wr1 (by omega)]

def spM (a : Int) : Nat → List PSpan
  | 0 => []
  | n + 1 => ⟨a, a + 1, a + 2⟩ :: spM (a + 3) n
theorem spM_len : ∀ (n : Nat) (a : Int), (spM a n).length = n
  | 0, _ => rfl
  | n + 1, a => by rw [spM, List.length_cons, spM_len n]
theorem sp_ext {a b c a' b' c' : Int} (h : a = a') (h2 : b = b') (h3 : c = c') : (⟨a, b, c⟩ : PSpan) = ⟨a', b', c'⟩ := by rw [h, h2, h3]
theorem spM_snoc : ∀ (n : Nat) (a : Int), spM a (n + 1) = spM a n ++ [⟨a + 3 * n, a + 3 * n + 1, a + 3 * n + 2⟩]
  | 0, a => by simp [spM]
  | n + 1, a => by
    rw [spM, spM_snoc n, spM, List.cons_append]
    have e : a + 3 + 3 * (n : Int) = a + 3 * ((n + 1 : Nat) : Int) := by omega
    rw [e]
theorem spM_get : ∀ (n : Nat) (a : Int) (i : Nat) (h : i < (spM a n).length), (spM a n)[i] = ⟨a + 3 * i, a + 3 * i + 1, a + 3 * i + 2⟩
  | 0, _, i, h => by simp [spM] at h
  | n + 1, a, 0, h => by simp [spM]
  | n + 1, a, i + 1, h => by
    simp only [spM, List.getElem_cons_succ]
    rw [spM_get n]
    congr 1
    · simp; omega
    · simp; omega
    · simp; omega
theorem laws_markSpanS.ev (l : List PSpan) (a : Int) (h0 : 0 ≤ a) (h1 : a ≤ 1000000000000000) (hl : l.length ≤ 1048576) : Ev (fun k => laws_markSpanS.f k l a) (a + 3 * l.length, spM a l.length) := by
  have key := rev_ind (P := fun i => Ev (fun k => laws_markSpanS.l0 k (spM a i ++ l.drop i) (a + 3 * i) (i : Int)) (a + 3 * l.length, spM a l.length)) l.length ?_ ?_ 0 (Nat.zero_le _)
  · simpa [laws_markSpanS.f, spM] using key
  · refine ev_stop fun k => ?_
    have hlen : (spM a l.length ++ l.drop l.length).length = l.length := by simp [spM_len]
    simp only [laws_markSpanS.l0]; rw [if_neg (by rw [hlen]; omega)]; simp
  · intro i hi ih
    have hlen : (spM a i ++ l.drop i).length = l.length := by simp [spM_len]; omega
    have w1 : wrap64 (a + 3 * i + 1) = a + 3 * i + 1 := wr (by omega) (by omega)
    have w2 : wrap64 (a + 3 * i + 1 + 1) = a + 3 * i + 2 := by rw [wr (by omega) (by omega)]; omega
    have w3 : wrap64 (a + 3 * i + 2 + 1) = a + 3 * ((i + 1 : Nat) : Int) := by rw [wr (by omega) (by omega)]; omega
    refine ev_go _ (fun k => ?_) ih
    simp only [laws_markSpanS.l0, Option.bind_some]; rw [if_pos (by rw [hlen]; omega), if_pos (by omega), w1, w2, w3, wr1 (by omega)]
    congr 1
    have hset : ∀ (z : PSpan), (spM a i ++ l.drop i).set (i : Int).toNat z = spM a i ++ z :: l.drop (i + 1) := fun z => by
      rw [Int.toNat_natCast, drop_cons hi, List.set_append_right _ _ (by rw [spM_len]; exact Nat.le_refl _), spM_len, Nat.sub_self, List.set_cons_zero]
    have hset2 : ∀ (y z : PSpan), (spM a i ++ y :: l.drop (i + 1)).set (i : Int).toNat z = spM a i ++ z :: l.drop (i + 1) := fun y z => by
      rw [Int.toNat_natCast, List.set_append_right _ _ (by rw [spM_len]; exact Nat.le_refl _), spM_len, Nat.sub_self, List.set_cons_zero]
    have hrd : ∀ (y : PSpan), rd_T120 (spM a i ++ y :: l.drop (i + 1)) (i : Int) = y := fun y => by
      rw [rdPSpan (by simp [spM_len]), List.getElem_append_right (by rw [spM_len]; exact Nat.le_refl _)]
      simp [spM_len]
    rw [hset, hrd, hset2, hrd, hset2, spM_snoc, List.append_assoc]
    rfl
theorem laws_heldSpanS.ev (n : Nat) (a : Int) (h0 : 0 ≤ a) (h1 : a ≤ 1000000000000000) (hl : n ≤ 1048576) : Ev (fun k => laws_heldSpanS.f k (spM a n) a) (a + 3 * n) := by
  have key := rev_ind (P := fun i => Ev (fun k => laws_heldSpanS.l0 k (spM a n) (a + 3 * i) (i : Int)) (a + 3 * n)) n ?_ ?_ 0 (Nat.zero_le _)
  · simpa [laws_heldSpanS.f] using key
  · refine ev_stop fun k => ?_
    simp only [laws_heldSpanS.l0]; rw [if_neg (by rw [spM_len]; omega)]
  · intro i hi ih
    have hi' : i < (spM a n).length := by rw [spM_len]; exact hi
    have w1 : wrap64 (a + 3 * i + 1) = a + 3 * i + 1 := wr (by omega) (by omega)
    have w2 : wrap64 (a + 3 * i + 1 + 1) = a + 3 * i + 2 := by rw [wr (by omega) (by omega)]; omega
    have w3 : wrap64 (a + 3 * i + 2 + 1) = a + 3 * ((i + 1 : Nat) : Int) := by rw [wr (by omega) (by omega)]; omega
    refine ev_go _ (fun k => ?_) ih
    simp only [laws_heldSpanS.l0]; rw [if_pos (by rw [spM_len]; omega), if_pos (by omega), rdPSpan hi', spM_get, if_pos rfl, w1, if_pos rfl, w2, if_pos rfl, w3, wr1 (by omega)]
def sumLenS : List (List PSpan) → Nat
  | [] => 0
  | y :: ys => y.length + sumLenS ys
def markS (a : Int) : List (List PSpan) → List (List PSpan)
  | [] => []
  | y :: ys => spM a y.length :: markS (a + 3 * y.length) ys
theorem sumLenS_le : ∀ l : List (List PSpan), (∀ y ∈ l, y.length ≤ 1048576) → sumLenS l ≤ l.length * 1048576
  | [], _ => Nat.zero_le _
  | y :: ys, h => by
    have := h y List.mem_cons_self
    have := sumLenS_le ys (fun z hz => h z (List.mem_cons_of_mem _ hz))
    simp only [sumLenS, List.length_cons]; omega
theorem markS_len : ∀ (l : List (List PSpan)) (a : Int), (markS a l).length = l.length
  | [], _ => rfl
  | y :: ys, a => by rw [markS, List.length_cons, List.length_cons, markS_len ys]
theorem laws_markSpanSS.go : ∀ (l dn : List (List PSpan)) (a : Int), 0 ≤ a → a + 3 * sumLenS l ≤ 500000000000000 → dn.length + l.length ≤ 1048576 → (∀ y ∈ l, y.length ≤ 1048576) → Ev (fun k => laws_markSpanSS.l0 k (dn ++ l) a (dn.length : Int)) (a + 3 * sumLenS l, dn ++ markS a l)
  | [], dn, a, _, _, _, _ => by
    refine ev_stop fun k => ?_
    simp only [laws_markSpanSS.l0, List.append_nil]; rw [if_neg (by omega), if_neg (by omega)]; simp [sumLenS, markS]
  | y :: ys, dn, a, h0, h1, h2, h3 => by
    simp only [sumLenS, List.length_cons] at h1 h2
    have hy := h3 y List.mem_cons_self
    have ih := laws_markSpanSS.go ys (dn ++ [spM a y.length]) (a + 3 * y.length) (by omega) (by omega) (by simp; omega) (fun z hz => h3 z (List.mem_cons_of_mem _ hz))
    rw [List.length_append, List.length_singleton, List.append_assoc, List.append_assoc] at ih
    rw [sumLenS, markS, show a + 3 * ((y.length + sumLenS ys : Nat) : Int) = a + 3 * (y.length : Int) + 3 * (sumLenS ys : Int) by omega]
    refine ev_go (fun k => (laws_markSpanS.f k y a).bind fun b => laws_markSpanSS.l0 k ((dn ++ y :: ys).set dn.length b.2) b.1 ((dn.length + 1 : Nat) : Int)) (fun k => ?_) (ev_bind _ (laws_markSpanS.ev y a h0 (by omega) hy) ?_)
    · simp only [laws_markSpanSS.l0]; rw [if_pos (by simp; omega), show rowSpS (dn ++ y :: ys) (dn.length : Int) = y from by simp [rowSpS], wr1 (by omega)]; rfl
    · rw [List.set_append_right _ _ (Nat.le_refl _), Nat.sub_self, List.set_cons_zero]
      exact ih
theorem laws_heldSpanSS.go : ∀ (l dn : List (List PSpan)) (a : Int), 0 ≤ a → a + 3 * sumLenS l ≤ 500000000000000 → dn.length + l.length ≤ 1048576 → (∀ y ∈ l, y.length ≤ 1048576) → Ev (fun k => laws_heldSpanSS.l0 k (dn ++ markS a l) a (dn.length : Int)) (a + 3 * sumLenS l)
  | [], dn, a, _, _, _, _ => by
    refine ev_stop fun k => ?_
    simp only [laws_heldSpanSS.l0, markS, List.append_nil]; rw [if_neg (by omega)]; simp [sumLenS]
  | y :: ys, dn, a, h0, h1, h2, h3 => by
    simp only [sumLenS, List.length_cons] at h1 h2
    have hy := h3 y List.mem_cons_self
    have ih := laws_heldSpanSS.go ys (dn ++ [spM a y.length]) (a + 3 * y.length) (by omega) (by omega) (by simp; omega) (fun z hz => h3 z (List.mem_cons_of_mem _ hz))
    rw [List.length_append, List.length_singleton, List.append_assoc] at ih
    rw [sumLenS, markS, show a + 3 * ((y.length + sumLenS ys : Nat) : Int) = a + 3 * (y.length : Int) + 3 * (sumLenS ys : Int) by omega]
    refine ev_go (fun k => (laws_heldSpanS.f k (spM a y.length) a).bind fun t => if t < 0 then some (-1) else laws_heldSpanSS.l0 k (dn ++ spM a y.length :: markS (a + 3 * y.length) ys) t ((dn.length + 1 : Nat) : Int)) (fun k => ?_) (ev_bind _ (laws_heldSpanS.ev y.length a h0 (by omega) hy) ?_)
    · simp only [laws_heldSpanSS.l0]; rw [if_pos (by simp; omega), if_pos (by omega), rdLSS (show dn.length < (dn ++ spM a y.length :: markS (a + 3 * y.length) ys).length by simp), wr1 (by omega)]
      congr 2
      rw [List.getElem_append_right (Nat.le_refl _)]; simp
    · simp only [if_neg (show ¬ (a + 3 * (y.length : Int) < 0) by omega)]
      exact ih
theorem laws_markSpanSS.held (l : List (List PSpan)) (hl : l.length ≤ 1048576) (hw : ∀ y ∈ l, y.length ≤ 1048576) : ∃ n l', Ev (fun k => laws_markSpanSS.f k l 1) (n, l') ∧ Ev (fun k => laws_heldSpanSS.f k l' 1) n ∧ ((n < 0) = False) := by
  have := sumLenS_le l hw
  refine ⟨1 + 3 * sumLenS l, markS 1 l, ?_, ?_, by simp; omega⟩
  · unfold laws_markSpanSS.f
    simp only [if_pos hl]
    exact laws_markSpanSS.go l [] 1 (by omega) (by omega) (by simpa using hl) hw
  · unfold laws_heldSpanSS.f
    exact laws_heldSpanSS.go l [] 1 (by omega) (by omega) (by simpa using hl) hw

def sumD : List J → Int
  | [] => 0
  | x :: xs => x.f0 + sumD xs
theorem sumD_in : ∀ (l : List J), (∀ j ∈ l, 1 ≤ j.f0 ∧ j.f0 ≤ 50) → 0 ≤ sumD l ∧ sumD l ≤ 50 * (l.length : Int)
  | [], _ => by simp [sumD]
  | x :: xs, h => by
    have h1 := h x List.mem_cons_self
    have h2 := sumD_in xs (fun j hj => h j (List.mem_cons_of_mem _ hj))
    simp only [sumD, List.length_cons]; omega
theorem spec_l2Times.ev (jobs : List J) (hj : JobsOk jobs) : Ev (fun k => spec_l2Times.f k jobs) (sumD jobs) := by
  have h8 := hj.1
  have key := rev_ind (P := fun i => ∀ s : Int, 0 ≤ s → s ≤ 50 * (i : Int) → Ev (fun k => spec_l2Times.l0 k jobs s (i : Int)) (s + sumD (jobs.drop i))) jobs.length ?_ ?_ 0 (Nat.zero_le _) 0 (by omega) (by omega)
  · simpa [spec_l2Times.f] using key
  · intro s _ _
    refine ev_stop fun k => ?_
    simp only [spec_l2Times.l0]; rw [if_neg (by omega), List.drop_length, sumD, Int.add_zero]
  · intro i hi ih s h0 h1
    have ht := (hj.2 _ (List.getElem_mem hi)).1
    rw [drop_cons hi, sumD, ← Int.add_assoc]
    refine ev_go _ (fun k => ?_) (ih (s + jobs[i].f0) (by omega) (by omega))
    simp only [spec_l2Times.l0]; rw [if_pos (by omega), if_pos (by omega), rdJ hi, wr (x := s + jobs[i].f0) (by omega) (by omega), wr1 (by omega)]
theorem impl_totalOf.ev (jobs : List J) (hj : JobsOk jobs) : Ev (fun k => impl_totalOf.f k jobs) (sumD jobs) := by
  have h8 := hj.1
  have key := rev_ind (P := fun i => ∀ s : Int, 0 ≤ s → s ≤ 50 * (i : Int) → Ev (fun k => impl_totalOf.l0 k s jobs (jobs.length : Int) (i : Int)) (s + sumD (jobs.drop i))) jobs.length ?_ ?_ 0 (Nat.zero_le _) 0 (by omega) (by omega)
  · simpa [impl_totalOf.f] using key
  · intro s _ _
    refine ev_stop fun k => ?_
    simp only [impl_totalOf.l0]; rw [if_neg (by omega), List.drop_length, sumD, Int.add_zero]
  · intro i hi ih s h0 h1
    have ht := (hj.2 _ (List.getElem_mem hi)).1
    rw [drop_cons hi, sumD, ← Int.add_assoc]
    refine ev_go _ (fun k => ?_) (ih (s + jobs[i].f0) (by omega) (by omega))
    simp only [impl_totalOf.l0]; rw [if_pos (by omega), if_pos (by omega), if_pos (by omega), rdJ hi, wr (x := s + jobs[i].f0) (by omega) (by omega), wr1 (by omega)]
theorem impl_ceilDiv.eq (T m : Int) (h0 : 0 ≤ T) (h1 : T ≤ 1000000) (hm : 1 ≤ m ∧ m ≤ 4) : impl_ceilDiv.f T m = some ((T + m - 1) / m) := by
  unfold impl_ceilDiv.f impl_floorDiv.f
  rw [wr (x := -T) (by omega) (by omega), if_neg (by omega), Int.neg_tmod, Int.neg_tdiv, Int.tmod_eq_emod_of_nonneg h0, Int.tdiv_eq_ediv_of_nonneg h0]
  obtain ⟨q, hq⟩ : ∃ q, q = T / m := ⟨_, rfl⟩
  obtain ⟨e, he⟩ : ∃ e, e = T % m := ⟨_, rfl⟩
  rw [← hq, ← he]
  have hqe : 0 ≤ q ∧ q ≤ T ∧ 0 ≤ e ∧ (e = 0 → (T + m - 1) / m = q) ∧ (0 < e → (T + m - 1) / m = q + 1) := by
    have hc : m = 1 ∨ m = 2 ∨ m = 3 ∨ m = 4 := by omega
    rcases hc with rfl | rfl | rfl | rfl <;> omega
  obtain ⟨q1, q2, q3, q4, q5⟩ := hqe
  clear hq he
  rw [wr (x := -q) (by omega) (by omega)]
  by_cases c : -e < 0
  · rw [if_pos c, wr (x := -q - 1) (by omega) (by omega), Option.bind_some, wr (x := -(-q - 1)) (by omega) (by omega), q5 (by omega)]
    congr 1; omega
  · rw [if_neg c, Option.bind_some, wr (x := -(-q)) (by omega) (by omega), q4 (by omega)]
    congr 1; omega
def lenF (jobs : List J) (m : Int) (E : List A2) : Int := mx (mxW (tailsL jobs (cloF jobs.length E)) 0) ((sumD jobs + m - 1) / m)
theorem ceil_ge (T m : Int) (hm : 1 ≤ m ∧ m ≤ 4) : T ≤ (T + m - 1) / m * m := by
  have hc : m = 1 ∨ m = 2 ∨ m = 3 ∨ m = 4 := by omega
  rcases hc with rfl | rfl | rfl | rfl <;> omega
theorem ceil_le (T m : Int) (h0 : 0 ≤ T) (hm : 1 ≤ m ∧ m ≤ 4) : 0 ≤ (T + m - 1) / m ∧ (T + m - 1) / m ≤ T + 3 ∧ (1 ≤ T → 1 ≤ (T + m - 1) / m) := by
  have hc : m = 1 ∨ m = 2 ∨ m = 3 ∨ m = 4 := by omega
  rcases hc with rfl | rfl | rfl | rfl <;> omega
theorem job_times (jobs : List J) (hj : JobsOk jobs) : ∀ j ∈ jobs, 1 ≤ j.f0 ∧ j.f0 ≤ 50 := fun j h => (hj.2 j h).1
theorem spec_l7Bound.ev (jobs : List J) (m : Int) (E : List A2) (hj : JobsOk jobs) (h : PrecOk (jobs.length : Int) E) (hm : 1 ≤ m ∧ m ≤ 4) : Ev (fun k => spec_l7Bound.f k jobs m E) (lenF jobs m E) := by
  have hs := sumD_in jobs (job_times jobs hj)
  have h8 := hj.1
  have hc := ceil_le (sumD jobs) m hs.1 hm
  unfold spec_l7Bound.f
  refine ev_bind _ (spec_l7Tails.ev jobs E hj h) (ev_bind _ (spec_l2Last.ev _ (by rw [tailsL_len]; omega)) (ev_bind _ (spec_l2Times.ev jobs hj) ?_))
  rw [wr (x := sumD jobs + m) (by omega) (by omega), wr (x := sumD jobs + m - 1) (by omega) (by omega), Int.tdiv_eq_ediv_of_nonneg (by omega), wr (x := (sumD jobs + m - 1) / m) (by omega) (by omega), spec_l1Most.eq]
  simp only [if_neg (show ¬ m = 0 by omega), Option.bind_some]
  exact Ev.now _
theorem impl_lengthBound.ev (jobs : List J) (m : Int) (E : List A2) (hj : JobsOk jobs) (h : PrecOk (jobs.length : Int) E) (hm : 1 ≤ m ∧ m ≤ 4) : Ev (fun k => impl_lengthBound.f k jobs m E) (lenF jobs m E) := by
  have hs := sumD_in jobs (job_times jobs hj)
  have h8 := hj.1
  unfold impl_lengthBound.f
  refine ev_bind _ (impl_tailsOf.ev jobs E hj h) (ev_bind _ (impl_greatestOf.ev _ (by rw [tailsL_len]; omega)) (ev_bind _ (impl_totalOf.ev jobs hj) ?_))
  rw [impl_ceilDiv.eq _ _ hs.1 (by omega) hm]
  exact Ev.now _

end Go.Proofs.Ytplbabjigikgjaa.Pure
