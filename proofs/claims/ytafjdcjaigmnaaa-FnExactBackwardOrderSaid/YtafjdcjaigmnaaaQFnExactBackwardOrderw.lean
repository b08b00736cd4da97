/- Proved here: what functions that the law FnExactBackwardOrder reaches answer (bitsL, backF, impl_timeOf, spec_l4Sums, spec_l4Rest, backBoth, core_BackwardOrder). Conditions: those that each theorem names. -/
import Derived.Test.YtafjdcjaigmnaaaQFnExactBackwardOrders
set_option linter.unusedVariables false
set_option linter.unusedSimpArgs false
namespace Go.Proofs.Ytafjdcjaigmnaaa.Pure
open Go.RowKit Go.Proofs.Ytafjdcjaigmnaaa.XFnExactBackwardOrder Go.Proofs.YtafjdcjaigmnaaaW.PrintWords Go.Proofs.YtafjdcjaigmnaaaW.PrintLast

/-- The numbers whose bits are set in a code below 256. -/
def bitsL (c : Nat) : List Int := (nums_to 8).filter fun i => decide (c / 2 ^ i.toNat % 2 = 1)
theorem mem_bitsL {c : Nat} {x : Int} : x ∈ bitsL c ↔ (0 ≤ x ∧ x < 8) ∧ c / 2 ^ x.toNat % 2 = 1 := by
  unfold bitsL
  rw [List.mem_filter, mem_nums_to]
  simp
set_option maxRecDepth 100000 in
theorem listOf_all : ∀ c, c < 256 → impl_listOf.f 20 ((c : Nat) : Int) = some (bitsL c) := by decide +kernel
set_option maxRecDepth 100000 in
theorem bitsL_less : ∀ c, c < 256 → ∀ i, i < 8 → (c / 2 ^ i % 2 = 1 → Go.bits .andNot .i64 ((c : Nat) : Int) (shl .i64 1 ((i : Nat) : Int)) = ((c - 2 ^ i : Nat) : Int) ∧ bitsL (c - 2 ^ i) = (bitsL c).filter fun y => decide (y ≠ ((i : Nat) : Int))) := by decide +kernel
set_option maxRecDepth 100000 in
theorem bitsL_full : ∀ n, n < 9 → wrap64 (shl .i64 1 ((n : Nat) : Int) - 1) = ((2 ^ n - 1 : Nat) : Int) ∧ bitsL (2 ^ n - 1) = nums_to n ∧ 2 ^ n - 1 < 256 := by decide +kernel
theorem impl_listOf.ev (c : Nat) (h : c < 256) : Ev (fun k => impl_listOf.f k (c : Int)) (bitsL c) := ev_mono 20 (listOf_all c h) (fun k => impl_listOf.mono _ k)

def timeF (jobs : List J) : List Int → Int → Int
  | [], s => s
  | x :: xs, s => timeF jobs xs (wrap64 (s + (rd_T54 jobs x).f0))
def backF (jobs : List J) (lim e : Int) : List Int → Int → Int
  | [], c => c
  | x :: xs, c => backF jobs lim e xs (if wrap64 ((rd_T54 jobs x).f3 + lim) ≥ e then (if c < 0 then x else if (rd_T54 jobs x).f0 ≥ (rd_T54 jobs c).f0 then x else c) else c)
theorem backF_or (jobs : List J) (lim e : Int) : ∀ (l : List Int) (c : Int), backF jobs lim e l c = c ∨ backF jobs lim e l c ∈ l
  | [], _ => .inl rfl
  | x :: xs, c => by
    rw [backF]
    rcases backF_or jobs lim e xs (if wrap64 ((rd_T54 jobs x).f3 + lim) ≥ e then (if c < 0 then x else if (rd_T54 jobs x).f0 ≥ (rd_T54 jobs c).f0 then x else c) else c) with h | h
    · rw [h]
      split
      · split
        · exact .inr List.mem_cons_self
        · split
          · exact .inr List.mem_cons_self
          · exact .inl rfl
      · exact .inl rfl
    · exact .inr (List.mem_cons_of_mem _ h)

theorem impl_timeOf.ev (jobs : List J) (c : Nat) (h : c < 256) (hx : ∀ x ∈ bitsL c, 0 ≤ x ∧ x < jobs.length) : Ev (fun k => impl_timeOf.f k jobs (c : Int)) (timeF jobs (bitsL c) 0) := by
  unfold impl_timeOf.f
  refine ev_bind _ (impl_listOf.ev c h) ?_
  have hl : (bitsL c).length ≤ 8 := by unfold bitsL; exact Nat.le_trans (List.length_filter_le _ _) (by rw [nums_to_length]; omega)
  generalize bitsL c = l at hx hl
  have key := rev_ind (P := fun i => ∀ s, Ev (fun k => impl_timeOf.l0 k jobs s l (l.length : Int) (i : Int)) (timeF jobs (l.drop i) s)) l.length ?_ ?_ 0 (Nat.zero_le _) 0
  · simpa using key
  · intro s
    refine ev_stop fun k => ?_
    simp only [impl_timeOf.l0]; rw [if_neg (by omega), List.drop_length]; rfl
  · intro i hi ih s
    have hxi := hx _ (List.getElem_mem hi)
    rw [drop_cons hi, timeF]
    refine ev_go _ (fun k => ?_) (ih _)
    simp only [impl_timeOf.l0]; rw [if_pos (by omega), if_pos (by omega), if_pos (by omega), rd_nat hi, if_pos hxi.1, if_pos hxi.2, wr1 (by omega)]

theorem spec_l4Sums.ev (jobs : List J) (l : List Int) (hl : l.length ≤ 1000000) (hx : ∀ x ∈ l, 0 ≤ x ∧ x < jobs.length) : ∃ a, Ev (fun k => spec_l4Sums.f k jobs l) (a, timeF jobs l 0) := by
  have key := rev_ind (P := fun i => ∀ a s, ∃ b, Ev (fun k => spec_l4Sums.l0 k jobs l (i : Int) a s) (b, timeF jobs (l.drop i) s)) l.length ?_ ?_ 0 (Nat.zero_le _) 0 0
  · simpa [spec_l4Sums.f] using key
  · intro a s
    refine ⟨a, ev_stop fun k => ?_⟩
    simp only [spec_l4Sums.l0]; rw [if_neg (by omega), List.drop_length]; rfl
  · intro i hi ih a s
    have hxi := hx _ (List.getElem_mem hi)
    obtain ⟨b, hb⟩ := ih (wrap64 (a + (rd_T54 jobs l[i]).f1)) (wrap64 (s + (rd_T54 jobs l[i]).f0))
    rw [drop_cons hi, timeF]
    refine ⟨b, ev_go _ (fun k => ?_) hb⟩
    simp only [spec_l4Sums.l0]; rw [if_pos (by omega), if_pos (by omega), rd_nat hi, if_pos hxi.1, if_pos hxi.2, wr1 (by omega)]

theorem spec_l4Rest.ev (l m : List Int) (hl : l.length ≤ 1000000) (hm : m.length ≤ 1000000) : Ev (fun k => spec_l4Rest.f k l m) (l.filter fun y => decide (y ∉ m)) := by
  have key := rev_ind (P := fun i => ∀ c : List Int, c.length ≤ i → Ev (fun k => spec_l4Rest.l0 k l m c (i : Int)) (c ++ (l.drop i).filter fun y => decide (y ∉ m))) l.length ?_ ?_ 0 (Nat.zero_le _) [] (by simp)
  · simpa [spec_l4Rest.f] using key
  · intro c _
    refine ev_stop fun k => ?_
    simp only [spec_l4Rest.l0]; rw [if_neg (by omega), List.drop_length]; simp
  · intro i hi ih c hc
    rw [drop_cons hi]
    refine ev_go (fun k => (spec_l1Has.f k m l[i]).bind fun t131 => (if t131 = true then (spec_l4Rest.l0 k l m c ((i + 1 : Nat) : Int)) else (if c.length < 17592186044416 then (spec_l4Rest.l0 k l m (c ++ [l[i]]) ((i + 1 : Nat) : Int)) else (none)))) (fun k => ?_) ?_
    · simp only [spec_l4Rest.l0]; rw [if_pos (by omega), if_pos (by omega), rd_nat hi, wr1 (by omega)]
    · refine ev_guard' (spec_l1Has.ev m l[i] (by omega)) (fun h => ?_) (fun h => ?_)
      · rw [List.filter_cons_of_neg (by simpa using h)]; exact ih c (by omega)
      · rw [List.filter_cons_of_pos (by simpa using h)]
        simp only [if_pos (show c.length < 17592186044416 by omega)]
        have := ih (c ++ [l[i]]) (by simp; omega)
        rwa [List.append_assoc] at this

theorem spec_l11Back.inner (jobs : List J) (lim e : Int) (out l : List Int) (hl : l.length ≤ 1000000) (hx : ∀ x ∈ l, 0 ≤ x ∧ x < jobs.length) (R : List Int × Bool) (h : Ev (fun k => spec_l11Back.l1 k jobs lim out l e (backF jobs lim e l (-1)) (l.length : Int)) R) : Ev (fun k => spec_l11Back.l1 k jobs lim out l e (-1) 0) R := by
  have key := rev_ind (P := fun i => ∀ c : Int, c < jobs.length → Ev (fun k => spec_l11Back.l1 k jobs lim out l e (backF jobs lim e (l.drop i) c) (l.length : Int)) R → Ev (fun k => spec_l11Back.l1 k jobs lim out l e c (i : Int)) R) l.length ?_ ?_ 0 (Nat.zero_le _) (-1) (by omega)
  · exact key (by simpa using h)
  · intro c _ hc
    rwa [List.drop_length, backF] at hc
  · intro i hi ih c hcl hc
    have hxi := hx _ (List.getElem_mem hi)
    rw [drop_cons hi, backF] at hc
    by_cases q1 : wrap64 ((rd_T54 jobs l[i]).f3 + lim) ≥ e
    · rw [if_pos q1] at hc
      by_cases q2 : c < 0
      · rw [if_pos q2] at hc
        refine ev_go _ (fun k => ?_) (ih _ hxi.2 hc)
        simp only [spec_l11Back.l1]; rw [if_pos (by omega), if_pos (by omega), rd_nat hi, if_pos hxi.1, if_pos hxi.2, if_pos q1, if_pos q2, wr1 (by omega)]
      · rw [if_neg q2] at hc
        by_cases q3 : (rd_T54 jobs l[i]).f0 ≥ (rd_T54 jobs c).f0
        · rw [if_pos q3] at hc
          refine ev_go _ (fun k => ?_) (ih _ hxi.2 hc)
          simp only [spec_l11Back.l1]; rw [if_pos (by omega), if_pos (by omega), rd_nat hi, if_pos hxi.1, if_pos hxi.2, if_pos q1, if_neg q2, if_pos (by omega), if_pos hcl, if_pos q3, wr1 (by omega)]
        · rw [if_neg q3] at hc
          refine ev_go _ (fun k => ?_) (ih _ hcl hc)
          simp only [spec_l11Back.l1]; rw [if_pos (by omega), if_pos (by omega), rd_nat hi, if_pos hxi.1, if_pos hxi.2, if_pos q1, if_neg q2, if_pos (by omega), if_pos hcl, if_neg q3, wr1 (by omega)]
    · rw [if_neg q1] at hc
      refine ev_go _ (fun k => ?_) (ih _ hcl hc)
      simp only [spec_l11Back.l1]; rw [if_pos (by omega), if_pos (by omega), rd_nat hi, if_pos hxi.1, if_pos hxi.2, if_neg q1, wr1 (by omega)]
theorem impl_BackwardOrder.inner (jobs : List J) (lim : Int) (out : List Int) (code : Nat) (hcode : code < 256) (m : Int) (hx : ∀ x ∈ bitsL code, 0 ≤ x ∧ x < jobs.length) (R : List Int × Bool) (h : Ev (fun k => impl_BackwardOrder.l1 k jobs lim out (code : Int) m (backF jobs lim (timeF jobs (bitsL code) 0) (bitsL code) (-1)) (bitsL code) ((bitsL code).length : Int) ((bitsL code).length : Int)) R) : Ev (fun k => impl_BackwardOrder.l1 k jobs lim out (code : Int) m (-1) (bitsL code) ((bitsL code).length : Int) 0) R := by
  have ht := impl_timeOf.ev jobs code hcode hx
  have hll : (bitsL code).length ≤ 8 := by unfold bitsL; exact Nat.le_trans (List.length_filter_le _ _) (by rw [nums_to_length]; omega)
  generalize timeF jobs (bitsL code) 0 = e at ht h
  generalize bitsL code = l at hx h hll
  have key := rev_ind (P := fun i => ∀ c : Int, c < jobs.length → Ev (fun k => impl_BackwardOrder.l1 k jobs lim out (code : Int) m (backF jobs lim e (l.drop i) c) l (l.length : Int) (l.length : Int)) R → Ev (fun k => impl_BackwardOrder.l1 k jobs lim out (code : Int) m c l (l.length : Int) (i : Int)) R) l.length ?_ ?_ 0 (Nat.zero_le _) (-1) (by omega)
  · exact key (by simpa using h)
  · intro c _ hc
    rwa [List.drop_length, backF] at hc
  · intro i hi ih c hcl hc
    have hxi := hx _ (List.getElem_mem hi)
    rw [drop_cons hi, backF] at hc
    refine ev_go (fun k => (impl_timeOf.f k jobs (code : Int)).bind fun t218 => (if (wrap64 (((rd_T54 jobs l[i]).f3) + lim)) ≥ t218 then (if c < 0 then (impl_BackwardOrder.l1 k jobs lim out (code : Int) m l[i] l (l.length : Int) ((i + 1 : Nat) : Int)) else (if 0 ≤ c then (if c < (jobs.length : Int) then (if ((rd_T54 jobs l[i]).f0) ≥ ((rd_T54 jobs c).f0) then (impl_BackwardOrder.l1 k jobs lim out (code : Int) m l[i] l (l.length : Int) ((i + 1 : Nat) : Int)) else (impl_BackwardOrder.l1 k jobs lim out (code : Int) m c l (l.length : Int) ((i + 1 : Nat) : Int))) else (none)) else (none))) else (impl_BackwardOrder.l1 k jobs lim out (code : Int) m c l (l.length : Int) ((i + 1 : Nat) : Int)))) (fun k => ?_) (ev_bind e ht ?_)
    · simp only [impl_BackwardOrder.l1]; rw [if_pos (by omega), if_pos (by omega), if_pos (by omega), rd_nat hi, if_pos hxi.1, if_pos hxi.2, wr1 (by omega)]
    · by_cases q1 : wrap64 ((rd_T54 jobs l[i]).f3 + lim) ≥ e
      · rw [if_pos q1] at hc
        simp only [if_pos q1]
        by_cases q2 : c < 0
        · rw [if_pos q2] at hc
          simp only [if_pos q2]
          exact ih _ hxi.2 hc
        · rw [if_neg q2] at hc
          simp only [if_neg q2, if_pos (show 0 ≤ c by omega), if_pos hcl]
          by_cases q3 : (rd_T54 jobs l[i]).f0 ≥ (rd_T54 jobs c).f0
          · rw [if_pos q3] at hc
            simp only [if_pos q3]
            exact ih _ hxi.2 hc
          · rw [if_neg q3] at hc
            simp only [if_neg q3]
            exact ih _ hcl hc
      · rw [if_neg q1] at hc
        simp only [if_neg q1]
        exact ih _ hcl hc
theorem back_both (jobs : List J) (lim : Int) (h8 : jobs.length ≤ 8) : ∀ (m : Nat) (code : Nat) (acc x6 : List Int), code < 256 → (bitsL code).length = m → (∀ x ∈ bitsL code, x < jobs.length) → x6.length = jobs.length → m ≤ jobs.length → acc.length + m = jobs.length → x6.drop m = acc →
    ∃ r b, Ev (fun k => spec_l11Back.l0 k jobs lim acc (bitsL code)) (r, b) ∧ Ev (fun k => impl_BackwardOrder.l0 k jobs lim x6 (code : Int) ((m : Int) - 1)) (r, b) ∧ r.length ≤ jobs.length
  | 0, code, acc, x6, hc, hm, hb, hl, _, ha, hd => by
    refine ⟨acc, true, ev_stop fun k => ?_, ev_stop fun k => ?_, by omega⟩
    · simp only [spec_l11Back.l0]; rw [if_neg (by omega)]
    · simp only [impl_BackwardOrder.l0]; rw [if_neg (by omega)]
      rw [List.drop_zero] at hd; rw [hd]
  | m + 1, code, acc, x6, hc, hm, hb, hl, hmn, ha, hd => by
    have hx : ∀ x ∈ bitsL code, 0 ≤ x ∧ x < (jobs.length : Int) := fun x hx => ⟨(mem_bitsL.1 hx).1.1, hb x hx⟩
    obtain ⟨w0, hs⟩ := spec_l4Sums.ev jobs (bitsL code) (by omega) hx
    have up1 : ∀ R, Ev (fun k => spec_l11Back.l1 k jobs lim acc (bitsL code) (timeF jobs (bitsL code) 0) (backF jobs lim (timeF jobs (bitsL code) 0) (bitsL code) (-1)) ((bitsL code).length : Int)) R → Ev (fun k => spec_l11Back.l0 k jobs lim acc (bitsL code)) R := fun R hR => by
      refine ev_go (fun k => (spec_l4Sums.f k jobs (bitsL code)).bind fun bt142 => spec_l11Back.l1 k jobs lim acc (bitsL code) bt142.2 (-1) 0) (fun k => ?_) (ev_bind _ hs (spec_l11Back.inner jobs lim _ acc _ (by omega) hx R hR))
      simp only [spec_l11Back.l0]; rw [if_pos (by omega)]
    have up2 : ∀ R, Ev (fun k => impl_BackwardOrder.l1 k jobs lim x6 (code : Int) (((m + 1 : Nat) : Int) - 1) (backF jobs lim (timeF jobs (bitsL code) 0) (bitsL code) (-1)) (bitsL code) ((bitsL code).length : Int) ((bitsL code).length : Int)) R → Ev (fun k => impl_BackwardOrder.l0 k jobs lim x6 (code : Int) (((m + 1 : Nat) : Int) - 1)) R := fun R hR => by
      refine ev_go (fun k => (impl_listOf.f k (code : Int)).bind fun t213 => impl_BackwardOrder.l1 k jobs lim x6 (code : Int) (((m + 1 : Nat) : Int) - 1) (-1) t213 (t213.length : Int) 0) (fun k => ?_) (ev_bind _ (impl_listOf.ev code hc) (impl_BackwardOrder.inner jobs lim x6 code hc _ hx R hR))
      simp only [impl_BackwardOrder.l0]; rw [if_pos (by omega)]
    rcases backF_or jobs lim (timeF jobs (bitsL code) 0) (bitsL code) (-1) with hbk | hbk
    · refine ⟨[], false, up1 _ (ev_stop fun k => ?_), up2 _ (ev_stop fun k => ?_), by simp⟩
      · simp only [spec_l11Back.l1]; rw [if_neg (by omega), hbk, if_pos (by omega)]
      · simp only [impl_BackwardOrder.l1]; rw [if_neg (by omega), hbk, if_pos (by omega)]
    · generalize backF jobs lim (timeF jobs (bitsL code) 0) (bitsL code) (-1) = best at hbk up1 up2
      have hbb := hx best hbk
      obtain ⟨i, rfl⟩ := Int.eq_ofNat_of_zero_le hbb.1
      have hbit := (mem_bitsL.1 hbk)
      obtain ⟨n1, n2⟩ := bitsL_less code hc i (by omega) (by simpa using hbit.2)
      have hnd : (bitsL code).Nodup := by unfold bitsL; exact (List.filter_sublist).nodup (nums_to_nodup 8)
      have hfe : (bitsL code).filter (fun y => decide (y ≠ (i : Int))) = (bitsL code).erase (i : Int) := by
        rw [hnd.erase_eq_filter]
        congr 1
        funext y
        simp [bne, Bool.beq_eq_decide_eq]
      have hlen : (bitsL (code - 2 ^ i)).length = m := by rw [n2, hfe, List.length_erase_of_mem hbk]; omega
      have hx6 : m < x6.length := by omega
      obtain ⟨r, b, e1, e2, e3⟩ := back_both jobs lim h8 m (code - 2 ^ i) ((i : Int) :: acc) (x6.set m (i : Int)) (Nat.lt_of_le_of_lt (Nat.sub_le _ _) hc) hlen (fun x hxx => by rw [n2] at hxx; exact hb x (List.mem_filter.1 hxx).1) (by simpa using hl) (by omega) (by simp; omega) (by
        rw [drop_cons (by simpa using hx6), List.getElem_set_self, List.drop_set_of_lt (by omega), hd])
      refine ⟨r, b, up1 _ (ev_go (fun k => (spec_l4Rest.f k (bitsL code) [(i : Int)]).bind fun t => spec_l11Back.l0 k jobs lim ((i : Int) :: acc) t) (fun k => ?_) (ev_bind (bitsL (code - 2 ^ i)) ?_ e1)), up2 _ (ev_go _ (fun k => ?_) e2), e3⟩
      · simp only [spec_l11Back.l1]; rw [if_neg (by omega), if_neg (by omega)]
        simp only [Option.bind_some]
        rw [if_pos (by simp; omega)]
        rfl
      · have := spec_l4Rest.ev (bitsL code) [(i : Int)] (by omega) (by simp)
        have he : ((bitsL code).filter fun y => decide (y ∉ [(i : Int)])) = bitsL (code - 2 ^ i) := by rw [n2]; congr 1; funext y; simp
        rw [he] at this
        exact this
      · simp only [impl_BackwardOrder.l1]; rw [if_neg (by omega), if_neg (by omega), if_pos (by omega), if_pos (by omega), if_pos (by omega), n1, show ((((m + 1 : Nat) : Int) - 1)).toNat = m by omega, show wrap64 ((((m + 1 : Nat) : Int) - 1) - 1) = (m : Int) - 1 by rw [wr (by omega) (by omega)]; omega]

theorem core_BackwardOrder (jobs : List J) (lim : Int) (hj : jobs.length ≤ 1048576) (hw : (Lit.int .i64 lim).wf = true) : ∃ r b, Ev (fun k => spec_BackwardOrder.f k jobs lim) (r, b) ∧ Ev (fun k => impl_BackwardOrder.f k jobs lim) (r, b) ∧ r.length ≤ 1048576 := by
  unfold spec_BackwardOrder.f impl_BackwardOrder.f
  simp only [spec_l1In.eq, impl_within.eq, Option.bind_some]
  have es := spec_l6Good.ev jobs (by omega)
  have ei := impl_IsPlain.ev jobs (by omega)
  have no : Ev (fun k => impl_BackwardOrder.j0 k jobs lim true) ([], false) := ev_stop fun k => by simp only [impl_BackwardOrder.j0]; rw [if_pos trivial]
  by_cases h : PlainOk jobs
  · by_cases q : (-500) ≤ lim ∧ lim ≤ 400
    · have h8 := h.1.1
      obtain ⟨f1, f2, f3⟩ := bitsL_full jobs.length (by omega)
      obtain ⟨r, b, e1, e2, e3⟩ := back_both jobs lim h8 jobs.length (2 ^ jobs.length - 1) [] (List.replicate jobs.length 0) f3 (by rw [f2, nums_to_length]) (fun x hx => by rw [f2] at hx; exact (mem_nums_to.1 hx).2) (by simp) (Nat.le_refl _) (by simp) (by simp)
      rw [f2] at e1
      refine ⟨r, b, ev_guard' es (fun _ => ?_) (fun hn => absurd h hn), ev_guard' ei (fun _ => ?_) (fun hn => absurd h hn), by omega⟩
      · simp only [decide_eq_true q, if_true]
        refine ev_bind (r, b) ?_ (Ev.now _)
        unfold spec_l11Back.f
        exact ev_bind _ (spec_l6All.ev jobs h8) e1
      · simp only [decide_eq_true q, Bool.not_true]
        refine ev_go _ (fun k => ?_) e2
        simp only [impl_BackwardOrder.j0]
        rw [if_neg (by simp), if_pos (by omega), if_pos (by omega), f1, wr (x := (jobs.length : Int) - 1) (by omega) (by omega)]
        simp
    · refine ⟨[], false, ev_guard' es (fun _ => ?_) (fun hn => absurd h hn), ev_guard' ei (fun _ => ?_) (fun hn => absurd h hn), by simp⟩
      · simp only [decide_eq_false q, Bool.false_eq_true, if_false]; exact Ev.now _
      · simp only [decide_eq_false q, Bool.not_false]; exact no
  · exact ⟨[], false, ev_guard' es (fun h1 => absurd h1 h) (fun _ => Ev.now _), ev_guard' ei (fun h1 => absurd h1 h) (fun _ => no), by simp⟩

end Go.Proofs.Ytafjdcjaigmnaaa.Pure
