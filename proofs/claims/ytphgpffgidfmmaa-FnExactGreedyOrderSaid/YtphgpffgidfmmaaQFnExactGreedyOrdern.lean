/- Proved here: what functions that the law FnExactGreedyOrder reaches answer (othF, nextF, spec_l5Next, impl_others, impl_greedyLoops, core_GreedyOrder). Conditions: those that each theorem names. -/
import Derived.Test.YtphgpffgidfmmaaQFnExactGreedyOrderj
set_option linter.unusedVariables false
set_option linter.unusedSimpArgs false
namespace Go.Proofs.Ytphgpffgidfmmaa.Pure
open Go.RowKit Go.Proofs.Ytphgpffgidfmmaa.XFnExactGreedyOrder Go.Proofs.YtphgpffgidfmmaaW.PrintWords Go.Proofs.YtphgpffgidfmmaaW.PrintLast

theorem nums_to_get (n : Nat) (i : Nat) (h : i < (nums_to n).length) : (nums_to n)[i] = (i : Int) := by simp [nums_to]
/-- The numbers from i below n that are not in a list. -/
def oth (n : Nat) (out : List Int) (i : Nat) : List Int := ((nums_to n).drop i).filter fun x => decide (x ∉ out)
theorem oth_end (n : Nat) (out : List Int) : oth n out n = [] := by
  unfold oth; rw [List.drop_of_length_le (by rw [nums_to_length]; omega)]; rfl
theorem oth_in {n : Nat} {out : List Int} {i : Nat} (hi : i < n) (h : (i : Int) ∈ out) : oth n out i = oth n out (i + 1) := by
  unfold oth
  rw [drop_cons (by rw [nums_to_length]; exact hi), nums_to_get, List.filter_cons_of_neg (by simpa using h)]
theorem oth_out {n : Nat} {out : List Int} {i : Nat} (hi : i < n) (h : (i : Int) ∉ out) : oth n out i = (i : Int) :: oth n out (i + 1) := by
  unfold oth
  rw [drop_cons (by rw [nums_to_length]; exact hi), nums_to_get, List.filter_cons_of_pos (by simpa using h)]
theorem mem_oth {n : Nat} {out : List Int} {x : Int} : x ∈ oth n out 0 ↔ (0 ≤ x ∧ x < n) ∧ x ∉ out := by
  unfold oth
  rw [List.drop_zero, List.mem_filter, mem_nums_to]; simp
theorem oth_len (n : Nat) (out : List Int) (i : Nat) : (oth n out i).length ≤ n := by
  unfold oth
  refine Nat.le_trans (List.length_filter_le _ _) ?_
  rw [List.length_drop, nums_to_length]; omega
theorem oth_pos {n : Nat} {out : List Int} (h : out.length < n) : ∃ x, x ∈ oth n out 0 := by
  refine Classical.byContradiction fun q => ?_
  have := nodup_sub (nums_to_nodup n) (s := out) (fun x hx => Classical.byContradiction fun hx' => q ⟨x, mem_oth.2 ⟨mem_nums_to.1 hx, hx'⟩⟩)
  rw [nums_to_length] at this
  omega

def nextF (jobs : List J) (t : Int) : List Int → Int → Int
  | [], c => c
  | x :: xs, c => nextF jobs t xs (if (rd_T66 jobs x).f2 ≤ t then (if c < 0 then x else if (rd_T66 jobs x).f3 < (rd_T66 jobs c).f3 then x else c) else c)
def availF (jobs : List J) (t : Int) : List Int → Int → Int
  | [], c => c
  | x :: xs, c => availF jobs t xs (mn c (mx t (rd_T66 jobs x).f2))
theorem nextF_none (jobs : List J) (t : Int) : ∀ (l : List Int) (c : Int), (∀ x ∈ l, ¬ (rd_T66 jobs x).f2 ≤ t) → nextF jobs t l c = c
  | [], _, _ => rfl
  | x :: xs, c, h => by
    rw [nextF, if_neg (h x List.mem_cons_self)]
    exact nextF_none jobs t xs c (fun y hy => h y (List.mem_cons_of_mem _ hy))
theorem nextF_or (jobs : List J) (t : Int) : ∀ (l : List Int) (c : Int), nextF jobs t l c = c ∨ nextF jobs t l c ∈ l
  | [], _ => .inl rfl
  | x :: xs, c => by
    rw [nextF]
    rcases nextF_or jobs t xs (if (rd_T66 jobs x).f2 ≤ t then (if c < 0 then x else if (rd_T66 jobs x).f3 < (rd_T66 jobs c).f3 then x else c) else c) with h | h
    · rw [h]
      split
      · split
        · exact .inr List.mem_cons_self
        · split
          · exact .inr List.mem_cons_self
          · exact .inl rfl
      · exact .inl rfl
    · exact .inr (List.mem_cons_of_mem _ h)
theorem nextF_some (jobs : List J) (t : Int) : ∀ (l : List Int) (c : Int), c < 0 → (∃ x ∈ l, (rd_T66 jobs x).f2 ≤ t) → nextF jobs t l c ∈ l
  | [], _, _, h => by obtain ⟨x, hx, _⟩ := h; simp at hx
  | x :: xs, c, hc, h => by
    rw [nextF]
    by_cases q : (rd_T66 jobs x).f2 ≤ t
    · rw [if_pos q, if_pos hc]
      rcases nextF_or jobs t xs x with e | e
      · rw [e]; exact List.mem_cons_self
      · exact List.mem_cons_of_mem _ e
    · rw [if_neg q]
      refine List.mem_cons_of_mem _ (nextF_some jobs t xs c hc ?_)
      obtain ⟨y, hy, hq⟩ := h
      rcases List.mem_cons.1 hy with rfl | hy
      · exact absurd hq q
      · exact ⟨y, hy, hq⟩
theorem availF_le (jobs : List J) (t : Int) : ∀ (l : List Int) (c : Int), availF jobs t l c ≤ c ∧ ∀ x ∈ l, availF jobs t l c ≤ mx t (rd_T66 jobs x).f2
  | [], _ => ⟨Int.le_refl _, fun x hx => by simp at hx⟩
  | x :: xs, c => by
    rw [availF]
    obtain ⟨h1, h2⟩ := availF_le jobs t xs (mn c (mx t (rd_T66 jobs x).f2))
    have m1 : mn c (mx t (rd_T66 jobs x).f2) ≤ c := by unfold mn; split <;> omega
    have m2 : mn c (mx t (rd_T66 jobs x).f2) ≤ mx t (rd_T66 jobs x).f2 := by unfold mn; split <;> omega
    refine ⟨by omega, fun y hy => ?_⟩
    rcases List.mem_cons.1 hy with rfl | hy
    · omega
    · exact h2 y hy
theorem availF_at (jobs : List J) (t : Int) : ∀ (l : List Int) (c : Int), availF jobs t l c = c ∨ ∃ x ∈ l, availF jobs t l c = mx t (rd_T66 jobs x).f2
  | [], _ => .inl rfl
  | x :: xs, c => by
    rw [availF]
    rcases availF_at jobs t xs (mn c (mx t (rd_T66 jobs x).f2)) with h | ⟨y, hy, h⟩
    · rw [h]
      unfold mn
      split
      · exact .inr ⟨x, List.mem_cons_self, rfl⟩
      · exact .inl rfl
    · exact .inr ⟨y, List.mem_cons_of_mem _ hy, h⟩

theorem spec_l5Next.ev (jobs : List J) (out : List Int) (t : Int) (hj : jobs.length ≤ 1000000) (ho : out.length ≤ 1000000) : Ev (fun k => spec_l5Next.f k jobs out t) (nextF jobs t (oth jobs.length out 0) (-1)) := by
  have key := rev_ind (P := fun i => ∀ c : Int, c < jobs.length → Ev (fun k => spec_l5Next.l0 k jobs out t c (i : Int)) (nextF jobs t (oth jobs.length out i) c)) jobs.length ?_ ?_ 0 (Nat.zero_le _) (-1) (by omega)
  · simpa [spec_l5Next.f] using key
  · intro c _
    refine ev_stop fun k => ?_
    simp only [spec_l5Next.l0]; rw [if_neg (by omega), oth_end]; rfl
  · intro i hi ih c hc
    have hh := spec_l1Has.ev out (i : Int) (by omega)
    by_cases m : (i : Int) ∈ out
    · rw [oth_in hi m]
      refine ev_go ?f (fun k => ?h) ?e
      case h => simp only [spec_l5Next.l0]; rw [if_pos (by omega), wr1 (by omega)]
      case e =>
        exact evB_bind hh (fun _ => by simp only [if_true]; exact ih c hc) (fun hn => absurd m hn)
    · rw [oth_out hi m, nextF, rdJ hi]
      refine ev_go ?f (fun k => ?h) ?e
      case h => simp only [spec_l5Next.l0]; rw [if_pos (by omega), wr1 (by omega), rdJ hi]
      case e =>
        refine evB_bind hh (fun hn => absurd hn m) (fun _ => ?_)
        simp only [Bool.false_eq_true, if_false, if_pos (show 0 ≤ (i : Int) by omega), rdJ hi]
        by_cases q1 : (jobs[i]).f2 ≤ t
        · simp only [if_pos q1]
          by_cases q2 : c < 0
          · simp only [if_pos q2]; exact ih _ (by omega)
          · simp only [if_neg q2, if_pos (show 0 ≤ c by omega), if_pos (show c < (jobs.length : Int) by omega)]
            by_cases q3 : (jobs[i]).f3 < (rd_T66 jobs c).f3
            · simp only [if_pos q3]; exact ih _ (by omega)
            · simp only [if_neg q3]; exact ih _ (by omega)
        · simp only [if_neg q1]; exact ih _ hc

theorem impl_others.ev (n : Nat) (out : List Int) (hn : n ≤ 1000000) (ho : out.length ≤ 1000000) : Ev (fun k => impl_others.f k (n : Int) out) (oth n out 0) := by
  have key := rev_ind (P := fun i => ∀ c : List Int, c.length ≤ i → Ev (fun k => impl_others.l0 k (n : Int) out c (i : Int)) (c ++ oth n out i)) n ?_ ?_ 0 (Nat.zero_le _) [] (by simp)
  · simpa [impl_others.f] using key
  · intro c _
    refine ev_stop fun k => ?_
    simp only [impl_others.l0]; rw [if_neg (by omega), oth_end, List.append_nil]
  · intro i hi ih c hc
    have hh := impl_has.ev out (i : Int) (by omega)
    by_cases m : (i : Int) ∈ out
    · rw [oth_in hi m]
      refine ev_go ?f (fun k => ?h) ?e
      case h => simp only [impl_others.l0]; rw [if_pos (by omega), wr1 (by omega)]
      case e =>
        exact evB_bind hh (fun _ => by simp only [if_true]; exact ih c (by omega)) (fun hn => absurd m hn)
    · rw [oth_out hi m]
      have ih := ih (c ++ [(i : Int)]) (by simp; omega)
      rw [List.append_assoc] at ih
      refine ev_go ?f (fun k => ?h) ?e
      case h => simp only [impl_others.l0]; rw [if_pos (by omega), wr1 (by omega)]
      case e =>
        exact evB_bind hh (fun hn => absurd hn m) (fun _ => by simp only [Bool.false_eq_true, if_false, if_pos (show c.length < 17592186044416 by omega)]; exact ih)

theorem impl_greedyOrder.avail (jobs : List J) (out : List Int) (t : Int) (l : List Int) (hl : l.length ≤ 1000000) (hx : ∀ x ∈ l, 0 ≤ x ∧ x < jobs.length) (r : List Int) (h : Ev (fun k => impl_greedyOrder.l2 k jobs out (availF jobs t l 1000) (-1) l (l.length : Int) 0) r) : Ev (fun k => impl_greedyOrder.l1 k jobs out t l 1000 l (l.length : Int) 0) r := by
  have key := rev_ind (P := fun i => ∀ c, Ev (fun k => impl_greedyOrder.l2 k jobs out (availF jobs t (l.drop i) c) (-1) l (l.length : Int) 0) r → Ev (fun k => impl_greedyOrder.l1 k jobs out t l c l (l.length : Int) (i : Int)) r) l.length ?_ ?_ 0 (Nat.zero_le _) 1000
  · exact key (by simpa using h)
  · intro c hc
    rw [List.drop_length, availF] at hc
    refine ev_go _ (fun k => ?_) hc
    simp only [impl_greedyOrder.l1]; rw [if_neg (by omega)]
  · intro i hi ih c hc
    rw [drop_cons hi, availF] at hc
    have hx := hx _ (List.getElem_mem hi)
    refine ev_go _ (fun k => ?_) (ih _ hc)
    simp only [impl_greedyOrder.l1]; rw [if_pos (by omega), if_pos (by omega), if_pos (by omega), rd_nat hi, if_pos hx.1, if_pos hx.2, wr1 (by omega)]
theorem impl_greedyOrder.pick (jobs : List J) (out : List Int) (t : Int) (l : List Int) (hl : l.length ≤ 1000000) (hx : ∀ x ∈ l, 0 ≤ x ∧ x < jobs.length) (r : List Int) (z : Int) (hz : nextF jobs t l (-1) = z) (h0 : 0 ≤ z) (h1 : z < jobs.length) (ho : out.length ≤ 1000000)
    (h : Ev (fun k => impl_greedyOrder.l0 k jobs (out ++ [z]) (wrap64 (t + (rd_T66 jobs z).f0))) r) : Ev (fun k => impl_greedyOrder.l2 k jobs out t (-1) l (l.length : Int) 0) r := by
  have key := rev_ind (P := fun i => ∀ c, c < (jobs.length : Int) → nextF jobs t (l.drop i) c = z → Ev (fun k => impl_greedyOrder.l2 k jobs out t c l (l.length : Int) (i : Int)) r) l.length ?_ ?_ 0 (Nat.zero_le _) (-1) (by omega)
  · exact key (by simpa using hz)
  · intro c _ hc
    rw [List.drop_length, nextF] at hc
    subst hc
    refine ev_go _ (fun k => ?_) h
    simp only [impl_greedyOrder.l2]; rw [if_neg (by omega), if_pos (by omega), if_pos h0, if_pos h1]
  · intro i hi ih c hcn hc
    rw [drop_cons hi, nextF] at hc
    have hx := hx _ (List.getElem_mem hi)
    by_cases q1 : (rd_T66 jobs l[i]).f2 ≤ t
    · rw [if_pos q1] at hc
      by_cases q2 : c < 0
      · rw [if_pos q2] at hc
        refine ev_go _ (fun k => ?_) (ih _ hx.2 hc)
        simp only [impl_greedyOrder.l2]; rw [if_pos (by omega), if_pos (by omega), if_pos (by omega), rd_nat hi, if_pos hx.1, if_pos hx.2, if_pos q1, if_pos q2, wr1 (by omega)]
      · rw [if_neg q2] at hc
        by_cases q3 : (rd_T66 jobs l[i]).f3 < (rd_T66 jobs c).f3
        · rw [if_pos q3] at hc
          refine ev_go _ (fun k => ?_) (ih _ hx.2 hc)
          simp only [impl_greedyOrder.l2]; rw [if_pos (by omega), if_pos (by omega), if_pos (by omega), rd_nat hi, if_pos hx.1, if_pos hx.2, if_pos q1, if_neg q2, if_pos (by omega), if_pos hcn, if_pos q3, wr1 (by omega)]
        · rw [if_neg q3] at hc
          refine ev_go _ (fun k => ?_) (ih _ hcn hc)
          simp only [impl_greedyOrder.l2]; rw [if_pos (by omega), if_pos (by omega), if_pos (by omega), rd_nat hi, if_pos hx.1, if_pos hx.2, if_pos q1, if_neg q2, if_pos (by omega), if_pos hcn, if_neg q3, wr1 (by omega)]
    · rw [if_neg q1] at hc
      refine ev_go _ (fun k => ?_) (ih _ hcn hc)
      simp only [impl_greedyOrder.l2]; rw [if_pos (by omega), if_pos (by omega), if_pos (by omega), rd_nat hi, if_pos hx.1, if_pos hx.2, if_neg q1, wr1 (by omega)]

theorem greedy_both (jobs : List J) (hj : JobsOk jobs) : ∃ r, Ev (fun k => spec_l5Greedy.l0 k jobs [] 0) r ∧ Ev (fun k => impl_greedyOrder.l0 k jobs [] 0) r ∧ r.length ≤ jobs.length := by
  have hj8 := hj.1
  have key := rev_ind (P := fun m => ∀ (out : List Int) (t : Int), out.length = m → (∀ x ∈ out, 0 ≤ x ∧ x < jobs.length) → 0 ≤ t → t ≤ 500 + 50 * m → ∃ r, Ev (fun k => spec_l5Greedy.l0 k jobs out t) r ∧ Ev (fun k => impl_greedyOrder.l0 k jobs out t) r ∧ r.length ≤ jobs.length) jobs.length ?_ ?_ 0 (Nat.zero_le _) [] 0 rfl (by simp) (by omega) (by omega)
  · exact key
  · intro out t ho _ _ _
    refine ⟨out, ev_stop fun k => ?_, ev_stop fun k => ?_, by omega⟩
    · simp only [spec_l5Greedy.l0]; rw [if_neg (by omega)]
    · simp only [impl_greedyOrder.l0]; rw [if_neg (by omega)]
  · intro m hm ih out t ho hox h0 ht
    have ol := oth_len jobs.length out 0
    have hox' : ∀ x ∈ oth jobs.length out 0, 0 ≤ x ∧ x < jobs.length := fun x hx => (mem_oth.1 hx).1
    have hrel : ∀ x ∈ oth jobs.length out 0, 0 ≤ (rd_T66 jobs x).f2 ∧ (rd_T66 jobs x).f2 ≤ 500 ∧ 1 ≤ (rd_T66 jobs x).f0 ∧ (rd_T66 jobs x).f0 ≤ 50 := by
      intro x hx
      have h := hox' x hx
      rw [rdJ_int h.1 h.2]
      have := hj.2 _ (List.getElem_mem (show x.toNat < jobs.length by omega))
      exact ⟨this.2.2.1.1, this.2.2.1.2, this.1.1, this.1.2⟩
    obtain ⟨x0, hx0⟩ := oth_pos (n := jobs.length) (out := out) (by omega)
    -- the time
    obtain ⟨T, hT⟩ : ∃ T, availF jobs t (oth jobs.length out 0) 1000 = T := ⟨_, rfl⟩
    have hle := availF_le jobs t (oth jobs.length out 0) 1000
    have hat := availF_at jobs t (oth jobs.length out 0) 1000
    rw [hT] at hle hat
    have hx0' := hrel x0 hx0
    have hT0 := hle.2 x0 hx0
    have hmx : ∀ a b : Int, mx a b = a ∧ b ≤ a ∨ mx a b = b ∧ a ≤ b := fun a b => by unfold mx; split <;> omega
    have hT1 : T ≠ 1000 := by rcases hmx t (rd_T66 jobs x0).f2 with h | h <;> omega
    obtain ⟨x1, hx1, hT2⟩ := hat.resolve_left hT1
    have hx1' := hrel x1 hx1
    have hTt : t ≤ T ∧ T ≤ 500 + 50 * m ∧ (rd_T66 jobs x1).f2 ≤ T := by rcases hmx t (rd_T66 jobs x1).f2 with h | h <;> omega
    have hno : ∀ s, t ≤ s → s < T → ∀ x ∈ oth jobs.length out 0, ¬ (rd_T66 jobs x).f2 ≤ s := by
      intro s h1 h2 x hx h3
      have := hle.2 x hx
      rcases hmx t (rd_T66 jobs x).f2 with h | h <;> omega
    -- the pick
    obtain ⟨z, hz⟩ : ∃ z, nextF jobs T (oth jobs.length out 0) (-1) = z := ⟨_, rfl⟩
    have hzm : z ∈ oth jobs.length out 0 := by rw [← hz]; exact nextF_some jobs T _ (-1) (by omega) ⟨x1, hx1, hTt.2.2⟩
    have hzr := hox' z hzm
    have hzj := hrel z hzm
    obtain ⟨r, hs, hi, hr⟩ := ih (out ++ [z]) (wrap64 (T + (rd_T66 jobs z).f0)) (by simp [ho]) (fun x hx => by
      rcases List.mem_append.1 hx with h | h
      · exact hox x h
      · rw [List.mem_singleton.1 h]; exact hzr) (by rw [wr (by omega) (by omega)]; omega) (by rw [wr (by omega) (by omega)]; omega)
    refine ⟨r, ?_, ?_, hr⟩
    · have walk := rev_ind (P := fun d => Ev (fun k => spec_l5Greedy.l0 k jobs out (t + (d : Int))) r) (T - t).toNat ?_ ?_ 0 (Nat.zero_le _)
      · simpa using walk
      · rw [show t + (((T - t).toNat : Nat) : Int) = T by omega]
        refine ev_go (fun k => (spec_l5Next.f k jobs out T).bind fun t137 => (if t137 < 0 then (spec_l5Greedy.l0 k jobs out (wrap64 (T + 1))) else (if out.length < 17592186044416 then (if 0 ≤ t137 then (if t137 < (jobs.length : Int) then (spec_l5Greedy.l0 k jobs (out ++ [t137]) (wrap64 (T + ((rd_T66 jobs t137).f0)))) else (none)) else (none)) else (none)))) (fun k => ?_) (ev_bind z (by rw [← hz]; exact spec_l5Next.ev jobs out T (by omega) (by omega)) ?_)
        · simp only [spec_l5Greedy.l0]; rw [if_pos (by omega)]
        · simp only [if_neg (show ¬ z < 0 by omega), if_pos (show out.length < 17592186044416 by omega), if_pos hzr.1, if_pos hzr.2]
          exact hs
      · intro d hd ihd
        have hnn := nextF_none jobs (t + (d : Int)) (oth jobs.length out 0) (-1) (hno _ (by omega) (by omega))
        refine ev_go (fun k => (spec_l5Next.f k jobs out (t + (d : Int))).bind fun t137 => (if t137 < 0 then (spec_l5Greedy.l0 k jobs out (wrap64 (t + (d : Int) + 1))) else (if out.length < 17592186044416 then (if 0 ≤ t137 then (if t137 < (jobs.length : Int) then (spec_l5Greedy.l0 k jobs (out ++ [t137]) (wrap64 (t + (d : Int) + ((rd_T66 jobs t137).f0)))) else (none)) else (none)) else (none)))) (fun k => ?_) (ev_bind (-1) (by rw [← hnn]; exact spec_l5Next.ev jobs out _ (by omega) (by omega)) ?_)
        · simp only [spec_l5Greedy.l0]; rw [if_pos (by omega)]
        · simp only [if_pos (show (-1 : Int) < 0 by omega), wr (x := t + (d : Int) + 1) (by omega) (by omega)]
          rw [show t + (d : Int) + 1 = t + ((d + 1 : Nat) : Int) by omega]
          exact ihd
    · refine ev_go (fun k => (impl_others.f k (jobs.length : Int) out).bind fun t161 => (impl_greedyOrder.l1 k jobs out t t161 1000 t161 (t161.length : Int) 0)) (fun k => ?_) (ev_bind _ (impl_others.ev jobs.length out (by omega) (by omega)) ?_)
      · simp only [impl_greedyOrder.l0]; rw [if_pos (by omega)]
      · refine impl_greedyOrder.avail jobs out t _ (by omega) hox' r ?_
        rw [hT]
        exact impl_greedyOrder.pick jobs out T _ (by omega) hox' r z hz hzr.1 hzr.2 (by omega) hi
theorem core_GreedyOrder (jobs : List J) (hj : jobs.length ≤ 1048576) : ∃ r b, Ev (fun k => spec_GreedyOrder.f k jobs) (r, b) ∧ Ev (fun k => impl_GreedyOrder.f k jobs) (r, b) ∧ r.length ≤ 1048576 := by
  unfold spec_GreedyOrder.f impl_GreedyOrder.f
  by_cases h : JobsOk jobs
  · obtain ⟨r, a, b, c⟩ := greedy_both jobs h
    exact ⟨r, true, ev_guard' (spec_l2Good.ev jobs (by omega)) (fun _ => ev_bind r a (Ev.now _)) (fun hn => absurd h hn), ev_guard' (impl_IsJobs.ev jobs) (fun _ => ev_bind r b (Ev.now _)) (fun hn => absurd h hn), by omega⟩
  · exact ⟨[], false, ev_guard' (spec_l2Good.ev jobs (by omega)) (fun h1 => absurd h1 h) (fun _ => Ev.now _), ev_guard' (impl_IsJobs.ev jobs) (fun h1 => absurd h1 h) (fun _ => Ev.now _), by simp⟩

end Go.Proofs.Ytphgpffgidfmmaa.Pure
