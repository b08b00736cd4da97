/- Proved here: what functions that the law FnExactOnTime reaches answer (dueP, impl_onTime, spec_l3Order, spec_l3OnTime, core_OnTime). Conditions: those that each theorem names. -/
import Derived.Test.YtoeoaphejhmjbaaQFnExactOnTimes
set_option linter.unusedVariables false
set_option linter.unusedSimpArgs false
namespace Go.Proofs.Ytoeoaphejhmjbaa.Pure
open Go.RowKit Go.Proofs.Ytoeoaphejhmjbaa.XFnExactOnTime Go.Proofs.YtoeoaphejhmjbaaW.PrintWords Go.Proofs.YtoeoaphejhmjbaaW.PrintLast

/-- The sum of the times of those that are due by a date. -/
def dueS (jobs : List J) (d : Int) : List Int → Int
  | [] => 0
  | x :: xs => (if (rd_T64 jobs x).f3 ≤ d then (rd_T64 jobs x).f0 else 0) + dueS jobs d xs
theorem dueS_perm (jobs : List J) (d : Int) {l m : List Int} (h : l.Perm m) : dueS jobs d l = dueS jobs d m := by
  induction h with
  | nil => rfl
  | cons x _ ih => simp only [dueS, ih]
  | swap x y l => simp only [dueS]; omega
  | trans _ _ ih1 ih2 => exact ih1.trans ih2
def InJ (jobs : List J) (l : List Int) : Prop := ∀ x ∈ l, 0 ≤ x ∧ x < jobs.length
theorem rdJ_ok {jobs : List J} (h : JobsOk jobs) {x : Int} (h0 : 0 ≤ x) (h1 : x < jobs.length) : JobOk (rd_T64 jobs x) := by
  rw [rdJ_int h0 h1]; exact h.2 _ (List.getElem_mem _)
theorem dueS_nonneg {jobs : List J} (h : JobsOk jobs) (d : Int) : ∀ l : List Int, InJ jobs l → 0 ≤ dueS jobs d l
  | [], _ => Int.le_refl _
  | x :: xs, hx => by
    have h1 := dueS_nonneg h d xs (fun y hy => hx y (List.mem_cons_of_mem _ hy))
    have h2 := rdJ_ok h (hx x List.mem_cons_self).1 (hx x List.mem_cons_self).2
    have := h2.1
    rw [dueS]; split <;> omega
theorem dueS_none {jobs : List J} (d : Int) : ∀ l : List Int, (∀ x ∈ l, d < (rd_T64 jobs x).f3) → dueS jobs d l = 0
  | [], _ => rfl
  | x :: xs, hx => by
    rw [dueS, if_neg (by have := hx x List.mem_cons_self; omega), dueS_none d xs (fun y hy => hx y (List.mem_cons_of_mem _ hy))]; rfl
def DueSorted (jobs : List J) (l : List Int) : Prop := l.Pairwise fun a b => (rd_T64 jobs a).f3 ≤ (rd_T64 jobs b).f3
theorem onTimeF_iff {jobs : List J} (h : JobsOk jobs) : ∀ (l : List Int) (t : Int), 0 ≤ t → t + 50 * (l.length : Int) ≤ 1000000000000 → InJ jobs l → DueSorted jobs l → (onTimeF jobs l t = true ↔ ∀ x ∈ l, t + dueS jobs (rd_T64 jobs x).f3 l ≤ (rd_T64 jobs x).f3)
  | [], _, _, _, _, _ => by simp [onTimeF]
  | x :: xs, t, h0, hb, hx, hs => by
    have hxs : InJ jobs xs := fun y hy => hx y (List.mem_cons_of_mem _ hy)
    have hok := rdJ_ok h (hx x List.mem_cons_self).1 (hx x List.mem_cons_self).2
    have ht := hok.1
    have hd := hok.2.2.2
    obtain ⟨hs1, hs2⟩ := List.pairwise_cons.1 hs
    simp only [List.length_cons] at hb
    have ih := onTimeF_iff h xs (t + (rd_T64 jobs x).f0) (by omega) (by omega) hxs hs2
    rw [onTimeF, wr (by omega) (by omega)]
    have hS : ∀ z ∈ xs, dueS jobs (rd_T64 jobs z).f3 (x :: xs) = (rd_T64 jobs x).f0 + dueS jobs (rd_T64 jobs z).f3 xs := fun z hz => by
      rw [dueS, if_pos (hs1 z hz)]
    have hSx : dueS jobs (rd_T64 jobs x).f3 (x :: xs) = (rd_T64 jobs x).f0 + dueS jobs (rd_T64 jobs x).f3 xs := by
      rw [dueS, if_pos (Int.le_refl _)]
    have hn := dueS_nonneg h (rd_T64 jobs x).f3 xs hxs
    by_cases q : t + (rd_T64 jobs x).f0 > (rd_T64 jobs x).f3
    · rw [if_pos q]
      refine ⟨fun e => absurd e (by simp), fun e => ?_⟩
      have := e x List.mem_cons_self
      rw [hSx] at this; omega
    · rw [if_neg q, ih]
      constructor
      · intro e z hz
        rcases List.mem_cons.1 hz with rfl | hz
        · rw [hSx]
          by_cases c : ∃ y ∈ xs, (rd_T64 jobs y).f3 ≤ (rd_T64 jobs z).f3
          · obtain ⟨y, hy, hle⟩ := c
            have e1 := e y hy
            have e2 : (rd_T64 jobs y).f3 = (rd_T64 jobs z).f3 := by have := hs1 y hy; omega
            rw [e2] at e1; omega
          · rw [dueS_none _ xs (fun y hy => Classical.byContradiction fun hc => c ⟨y, hy, by omega⟩)]; omega
        · rw [hS z hz]; have := e z hz; omega
      · intro e z hz
        have := e z (List.mem_cons_of_mem _ hz)
        rw [hS z hz] at this; omega
theorem onTimeF_perm {jobs : List J} (h : JobsOk jobs) {l m : List Int} (hl : l.length ≤ 1000000) (hi : InJ jobs l) (hp : l.Perm m) (h1 : DueSorted jobs l) (h2 : DueSorted jobs m) : onTimeF jobs l 0 = onTimeF jobs m 0 := by
  have e1 := onTimeF_iff h l 0 (by omega) (by omega) hi h1
  have e2 := onTimeF_iff h m 0 (by omega) (by rw [← hp.length_eq]; omega) (fun x hx => hi x (hp.mem_iff.2 hx)) h2
  have : onTimeF jobs l 0 = true ↔ onTimeF jobs m 0 = true := by
    rw [e1, e2]
    exact ⟨fun H x hx => by rw [← dueS_perm jobs _ hp]; exact H x (hp.mem_iff.2 hx), fun H x hx => by rw [dueS_perm jobs _ hp]; exact H x (hp.mem_iff.1 hx)⟩
  cases q1 : onTimeF jobs l 0 <;> cases q2 : onTimeF jobs m 0 <;> simp_all

theorem dueLt_pre (jobs : List J) (P : Int → Prop) : Pre (dueLt jobs) P := pre_key (fun a => (rd_T64 jobs a).f3) P
theorem dueSorted_of {jobs : List J} {l : List Int} (h : SortedLt (dueLt jobs) l) : DueSorted jobs l := by
  unfold SortedLt at h
  unfold DueSorted
  refine h.imp ?_
  intro a b hab
  unfold dueLt at hab
  simp at hab; omega
theorem impl_onTime.ev (jobs : List J) (l : List Int) (hl : l.length ≤ 1000000) (hi : InJ jobs l) : Ev (fun k => impl_onTime.f k jobs l) (onTimeF jobs (insAll (dueLt jobs) l []) 0) := by
  unfold impl_onTime.f
  rw [if_pos ⟨by omega, hi⟩]
  exact Ev.now _
theorem insDue (jobs : List J) (l : List Int) : DueSorted jobs (insAll (dueLt jobs) l []) ∧ l.Perm (insAll (dueLt jobs) l []) := by
  refine ⟨dueSorted_of (insAll_sorted (dueLt_pre jobs (fun _ => True)) l [] (fun _ _ => trivial) (fun _ _ => trivial) List.Pairwise.nil), ?_⟩
  have := insAll_perm (dueLt jobs) l []
  rw [List.append_nil] at this
  exact this.symm

theorem spec_l3Gap.eqI (jobs : List J) (a x y : Int) (hx : 0 ≤ x ∧ x < jobs.length) (hy : 0 ≤ y ∧ y < jobs.length) (h : JobsOk jobs) : spec_l3Gap.f jobs a x y = some (gapF a (rd_T64 jobs x) (rd_T64 jobs y)) := by
  obtain ⟨i, rfl⟩ := Int.eq_ofNat_of_zero_le hx.1
  obtain ⟨j, rfl⟩ := Int.eq_ofNat_of_zero_le hy.1
  rw [spec_l3Gap.eq jobs a i j (by omega) (by omega) h, rdJ (by omega), rdJ (by omega)]
theorem spec_l1Own.eq (l : List Int) (h : l.length ≤ 1000000000000) : spec_l1Own.f l = some l := by
  simp only [spec_l1Own.f, Option.bind_some]
  rw [if_pos (by simp; omega), List.nil_append]
/-- Whether the one stands ahead of the other, by a rule. -/
def gapLt (jobs : List J) (a : Int) : Int → Int → Bool := fun x y => decide (0 < gapF a (rd_T64 jobs y) (rd_T64 jobs x))
theorem spec_l3Order.ev (jobs : List J) (a : Int) (h : JobsOk jobs) (hP : Pre (gapLt jobs a) (fun y => 0 ≤ y ∧ y < (jobs.length : Int))) : Ev (fun k => spec_l3Order.f k jobs a) (sortN (gapLt jobs a) jobs.length) := by
  have hj8 := h.1
  have key := rev_ind (P := fun i => ∀ out : List Int, out.length = i → (∀ y ∈ out, 0 ≤ y ∧ y < jobs.length) → SortedLt (gapLt jobs a) out → Ev (fun k => spec_l3Order.l0 k jobs a out (i : Int)) (insAll (gapLt jobs a) ((nums_to jobs.length).drop i) out)) jobs.length ?_ ?_ 0 (Nat.zero_le _) [] rfl (by simp) List.Pairwise.nil
  · simpa [spec_l3Order.f, sortN] using key
  · intro out ho _ _
    refine ev_stop fun k => ?_
    simp only [spec_l3Order.l0]; rw [if_neg (by omega), List.drop_of_length_le (by rw [nums_to_length]; omega), insAll]
  · intro i hi ih out ho hm hs
    refine ev_go (fun k => spec_l3Order.l1 k jobs a out (i : Int) 0) (fun k => ?h) ?e
    case e =>
      have hi2 : (nums_to jobs.length)[i]'(by rw [nums_to_length]; exact hi) = (i : Int) := by simp [nums_to]
      rw [drop_cons (by rw [nums_to_length]; exact hi), hi2, insAll]
      have hxi : 0 ≤ (i : Int) ∧ (i : Int) < (jobs.length : Int) := by omega
      have inner := rev_ind (P := fun j => (∀ y ∈ out.take j, gapLt jobs a (i : Int) y = false) → Ev (fun k => spec_l3Order.l1 k jobs a out (i : Int) (j : Int)) (insAll (gapLt jobs a) ((nums_to jobs.length).drop (i + 1)) (insAt (gapLt jobs a) (i : Int) out))) out.length ?_ ?_ 0 (Nat.zero_le _) (by simp)
      · exact inner
      · intro ht
        have ha := insAt_at hP hxi hm hs out.length (Nat.le_refl _) ht (fun h => absurd h (by omega))
        have hn := ih (insAt (gapLt jobs a) (i : Int) out) (by rw [insAt_len]; omega) (insAt_mem hxi hm) (insAt_sorted hP hxi hm hs)
        rw [ha] at hn ⊢
        refine ev_go _ (fun k => ?_) hn
        simp only [spec_l3Order.l1]; rw [if_neg (by omega)]
        rw [spec_l1Own.eq _ (by simp; omega)]
        simp only [Option.bind_some]
        rw [if_pos (by omega), if_pos (by omega), if_pos (by simp; omega), if_pos (by simp; omega), wr1 (by omega)]
        simp
      · intro j hj ihj ht
        have hy := hm _ (List.getElem_mem hj)
        have hg := spec_l3Gap.eqI jobs a out[j] (i : Int) hy hxi h
        by_cases q : gapF a (rd_T64 jobs out[j]) (rd_T64 jobs (i : Int)) ≤ 0
        · refine ev_go _ (fun k => ?_) (ihj ?_)
          · simp only [spec_l3Order.l1]; rw [rd_nat hj, if_pos (by omega), if_pos (by omega), hg, Option.bind_some, if_pos q, wr1 (by omega)]
          · intro y hy
            rw [List.take_succ_eq_append_getElem hj] at hy
            rcases List.mem_append.1 hy with hy | hy
            · exact ht y hy
            · rw [List.mem_singleton] at hy; subst hy; unfold gapLt; simp; omega
        · have ha := insAt_at hP hxi hm hs j (by omega) ht (fun _ => by unfold gapLt; simp; omega)
          have hn := ih (insAt (gapLt jobs a) (i : Int) out) (by rw [insAt_len]; omega) (insAt_mem hxi hm) (insAt_sorted hP hxi hm hs)
          rw [ha] at hn ⊢
          refine ev_go _ (fun k => ?_) hn
          simp only [spec_l3Order.l1]; rw [rd_nat hj, if_pos (by omega), if_pos (by omega), hg, Option.bind_some, if_neg q]
          rw [spec_l1Own.eq _ (by simp; omega)]
          simp only [Option.bind_some]
          rw [if_pos (by omega), if_pos (by simp; omega), if_pos (by simp; omega), wr1 (by omega)]
          simp
    case h => simp only [spec_l3Order.l0]; rw [if_pos (by omega)]

theorem gap4_pre (jobs : List J) (P : Int → Prop) : Pre (gapLt jobs 4) P := by
  have : gapLt jobs 4 = fun a b => decide ((rd_T64 jobs a).f3 < (rd_T64 jobs b).f3) := by
    funext a b
    unfold gapLt gapF
    rw [if_neg (by decide), if_neg (by decide), if_neg (by decide)]
    by_cases q : (rd_T64 jobs a).f3 < (rd_T64 jobs b).f3
    · rw [decide_eq_true q, decide_eq_true (by omega)]
    · rw [decide_eq_false q, decide_eq_false (by omega)]
  rw [this]
  exact pre_key (fun a => (rd_T64 jobs a).f3) P
theorem gap4_due {jobs : List J} {l : List Int} (h : SortedLt (gapLt jobs 4) l) : DueSorted jobs l := by
  unfold SortedLt at h
  unfold DueSorted
  refine h.imp ?_
  intro a b hab
  unfold gapLt gapF at hab
  simp at hab; omega
theorem spec_l3OnTime.ev (jobs : List J) (l : List Int) (h : JobsOk jobs) (hl : SetOk jobs.length l) : Ev (fun k => spec_l3OnTime.f k jobs l) (onTimeF jobs (insAll (dueLt jobs) l []) 0) := by
  unfold spec_l3OnTime.f
  have hll := hl.len
  have hj8 := h.1
  have hperm := sortN_perm (gapLt jobs 4) jobs.length
  have hsort : SortedLt (gapLt jobs 4) (sortN (gapLt jobs 4) jobs.length) := insAll_sorted (gap4_pre jobs (fun _ => True)) _ [] (fun _ _ => trivial) (fun _ _ => trivial) List.Pairwise.nil
  refine ev_bind _ (spec_l3Order.ev jobs 4 h (gap4_pre jobs _)) ?_
  generalize sortN (gapLt jobs 4) jobs.length = order at hperm hsort
  have hmem : ∀ x ∈ order, 0 ≤ x ∧ x < (jobs.length : Int) := fun x hx => mem_nums_to.1 (hperm.mem_iff.1 hx)
  have hlen : order.length = jobs.length := by rw [hperm.length_eq, nums_to_length]
  have e : onTimeF jobs (insAll (dueLt jobs) l []) 0 = onTimeF jobs (order.filter fun x => decide (x ∈ l)) 0 := by
    obtain ⟨d1, p1⟩ := insDue jobs l
    refine onTimeF_perm h (by rw [← p1.length_eq]; omega) (fun x hx => hl.2 x (p1.mem_iff.2 hx)) ?_ d1 ?_
    · refine p1.symm.trans ?_
      rw [List.perm_ext_iff_of_nodup hl.1.nodup ((List.filter_sublist).nodup (hperm.nodup_iff.2 (nums_to_nodup _)))]
      intro x
      simp only [List.mem_filter, decide_eq_true_eq]
      exact ⟨fun hx => ⟨hperm.mem_iff.2 (mem_nums_to.2 (hl.2 x hx)), hx⟩, fun hx => hx.2⟩
    · exact List.Pairwise.sublist (List.filter_sublist) (gap4_due hsort)
  rw [e]
  have key := rev_ind (P := fun i => ∀ t, Ev (fun k => spec_l3OnTime.l0 k jobs l order t (i : Int)) (onTimeF jobs ((order.drop i).filter fun x => decide (x ∈ l)) t)) order.length ?_ ?_ 0 (Nat.zero_le _) 0
  · simpa using key
  · intro t
    refine ev_stop fun k => ?_
    simp only [spec_l3OnTime.l0]; rw [if_neg (by omega), List.drop_length]; rfl
  · intro i hi ih t
    have hx := hmem _ (List.getElem_mem hi)
    rw [drop_cons hi]
    refine ev_go (fun k => (spec_l1Has.f k l order[i]).bind fun t199 => (if t199 = true then (if (wrap64 (t + ((rd_T64 jobs order[i]).f0))) > ((rd_T64 jobs order[i]).f3) then (some false) else (spec_l3OnTime.l0 k jobs l order (wrap64 (t + ((rd_T64 jobs order[i]).f0))) ((i + 1 : Nat) : Int))) else (spec_l3OnTime.l0 k jobs l order t ((i + 1 : Nat) : Int)))) (fun k => ?_) ?_
    · simp only [spec_l3OnTime.l0]; rw [if_pos (by omega), if_pos (by omega), rd_nat hi, if_pos hx.1, if_pos hx.2, wr1 (by omega)]
    · refine ev_guard' (spec_l1Has.ev l order[i] (by omega)) (fun hin => ?_) (fun hn => ?_)
      · rw [List.filter_cons_of_pos (by simpa using hin), onTimeF]
        by_cases q : wrap64 (t + (rd_T64 jobs order[i]).f0) > (rd_T64 jobs order[i]).f3
        · simp only [if_pos q]; exact Ev.now _
        · simp only [if_neg q]; exact ih _
      · rw [List.filter_cons_of_neg (by simpa using hn)]; exact ih _

theorem spec_IsPlain.ev (l : List J) (hl : l.length ≤ 1000000000000) : EvB (fun k => spec_IsPlain.f k l) (PlainOk l) := by
  unfold spec_IsPlain.f PlainOk
  refine evB_of (fun h => ?_) (fun h => ?_)
  · refine evB_bind (spec_l2Good.ev l (by omega)) (fun _ => ?_) (fun h' => absurd h.1 h')
    simp only [if_true]
    exact evB_bind (spec_l3Plain.ev l hl) (fun _ => Ev.now _) (fun h' => absurd h.2 h')
  · refine evB_bind (spec_l2Good.ev l (by omega)) (fun h1 => ?_) (fun _ => by simp only [Bool.false_eq_true, if_false]; exact Ev.now _)
    simp only [if_true]
    exact evB_bind (spec_l3Plain.ev l hl) (fun h2 => absurd ⟨h1, h2⟩ h) (fun _ => Ev.now _)
theorem core_OnTime (jobs : List J) (set : List Int) (hj : jobs.length ≤ 1048576) (hl : set.length ≤ 1048576) : ∃ b c, Ev (fun k => spec_OnTime.f k jobs set) (b, c) ∧ Ev (fun k => impl_OnTime.f k jobs set) (b, c) := by
  unfold spec_OnTime.f impl_OnTime.f
  have es := spec_IsPlain.ev jobs (by omega)
  have ei := impl_IsPlain.ev jobs (by omega)
  have er : EvB (fun k => spec_l1Rising.f k set 0 (wrap64 ((jobs.length : Int) - 1))) (SetOk jobs.length set) := by
    rw [wr (x := (jobs.length : Int) - 1) (by omega) (by omega)]
    refine evB_iff (spec_l1Rising.ev set 0 ((jobs.length : Int) - 1) (by omega)) ?_
    unfold SetOk
    exact ⟨fun h => ⟨h.1, fun x hx => by have := h.2 x hx; omega⟩, fun h => ⟨h.1, fun x hx => by have := h.2 x hx; omega⟩⟩
  by_cases h : PlainOk jobs
  · have hj8 := h.1.1
    have ei2 := impl_isSet.ev jobs.length set (by omega) (by omega)
    by_cases h2 : SetOk jobs.length set
    · have hsl := h2.len
      exact ⟨_, true, ev_guard' es (fun _ => ev_guard' er (fun _ => ev_bind _ (spec_l3OnTime.ev jobs set h.1 h2) (Ev.now _)) (fun hn => absurd h2 hn)) (fun hn => absurd h hn), ev_guard' ei (fun _ => ev_guard' ei2 (fun _ => ev_bind _ (impl_onTime.ev jobs set (by omega) h2.2) (Ev.now _)) (fun hn => absurd h2 hn)) (fun hn => absurd h hn)⟩
    · exact ⟨false, false, ev_guard' es (fun _ => ev_guard' er (fun h3 => absurd h3 h2) (fun _ => Ev.now _)) (fun _ => Ev.now _), ev_guard' ei (fun _ => ev_guard' ei2 (fun h3 => absurd h3 h2) (fun _ => Ev.now _)) (fun _ => Ev.now _)⟩
  · exact ⟨false, false, ev_guard' es (fun h1 => absurd h1 h) (fun _ => Ev.now _), ev_guard' ei (fun h1 => absurd h1 h) (fun _ => Ev.now _)⟩

end Go.Proofs.Ytoeoaphejhmjbaa.Pure
