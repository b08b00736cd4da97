/- Proved here: what functions that the law FnExactUnitGreedy reaches answer (dueP, impl_onTime, spec_l6Due, spec_l6Timely). Conditions: those that each theorem names. -/
import Derived.Test.YtafjdcjaigmnaaaQFnExactUnitGreedys
set_option linter.unusedVariables false
set_option linter.unusedSimpArgs false
namespace Go.Proofs.Ytafjdcjaigmnaaa.Pure
open Go.RowKit Go.Proofs.Ytafjdcjaigmnaaa.XFnExactUnitGreedy Go.Proofs.YtafjdcjaigmnaaaW.PrintWords Go.Proofs.YtafjdcjaigmnaaaW.PrintLast

/-- The sum of the times of those that are due by a date. -/
def dueS (jobs : List J) (d : Int) : List Int → Int
  | [] => 0
  | x :: xs => (if (rd_T54 jobs x).f3 ≤ d then (rd_T54 jobs x).f0 else 0) + dueS jobs d xs
theorem dueS_perm (jobs : List J) (d : Int) {l m : List Int} (h : l.Perm m) : dueS jobs d l = dueS jobs d m := by
  induction h with
  | nil => rfl
  | cons x _ ih => simp only [dueS, ih]
  | swap x y l => simp only [dueS]; omega
  | trans _ _ ih1 ih2 => exact ih1.trans ih2
def InJ (jobs : List J) (l : List Int) : Prop := ∀ x ∈ l, 0 ≤ x ∧ x < jobs.length
theorem rdJ_ok {jobs : List J} (h : JobsOk jobs) {x : Int} (h0 : 0 ≤ x) (h1 : x < jobs.length) : JobOk (rd_T54 jobs x) := by
  rw [rdJ_int h0 h1]; exact h.2 _ (List.getElem_mem _)
theorem dueS_nonneg {jobs : List J} (h : JobsOk jobs) (d : Int) : ∀ l : List Int, InJ jobs l → 0 ≤ dueS jobs d l
  | [], _ => Int.le_refl _
  | x :: xs, hx => by
    have h1 := dueS_nonneg h d xs (fun y hy => hx y (List.mem_cons_of_mem _ hy))
    have h2 := rdJ_ok h (hx x List.mem_cons_self).1 (hx x List.mem_cons_self).2
    have := h2.1
    rw [dueS]; split <;> omega
theorem dueS_none {jobs : List J} (d : Int) : ∀ l : List Int, (∀ x ∈ l, d < (rd_T54 jobs x).f3) → dueS jobs d l = 0
  | [], _ => rfl
  | x :: xs, hx => by
    rw [dueS, if_neg (by have := hx x List.mem_cons_self; omega), dueS_none d xs (fun y hy => hx y (List.mem_cons_of_mem _ hy))]; rfl
def DueSorted (jobs : List J) (l : List Int) : Prop := l.Pairwise fun a b => (rd_T54 jobs a).f3 ≤ (rd_T54 jobs b).f3
theorem onTimeF_iff {jobs : List J} (h : JobsOk jobs) : ∀ (l : List Int) (t : Int), 0 ≤ t → t + 50 * (l.length : Int) ≤ 1000000000000 → InJ jobs l → DueSorted jobs l → (onTimeF jobs l t = true ↔ ∀ x ∈ l, t + dueS jobs (rd_T54 jobs x).f3 l ≤ (rd_T54 jobs x).f3)
  | [], _, _, _, _, _ => by simp [onTimeF]
  | x :: xs, t, h0, hb, hx, hs => by
    have hxs : InJ jobs xs := fun y hy => hx y (List.mem_cons_of_mem _ hy)
    have hok := rdJ_ok h (hx x List.mem_cons_self).1 (hx x List.mem_cons_self).2
    have ht := hok.1
    have hd := hok.2.2.2
    obtain ⟨hs1, hs2⟩ := List.pairwise_cons.1 hs
    simp only [List.length_cons] at hb
    have ih := onTimeF_iff h xs (t + (rd_T54 jobs x).f0) (by omega) (by omega) hxs hs2
    rw [onTimeF, wr (by omega) (by omega)]
    have hS : ∀ z ∈ xs, dueS jobs (rd_T54 jobs z).f3 (x :: xs) = (rd_T54 jobs x).f0 + dueS jobs (rd_T54 jobs z).f3 xs := fun z hz => by
      rw [dueS, if_pos (hs1 z hz)]
    have hSx : dueS jobs (rd_T54 jobs x).f3 (x :: xs) = (rd_T54 jobs x).f0 + dueS jobs (rd_T54 jobs x).f3 xs := by
      rw [dueS, if_pos (Int.le_refl _)]
    have hn := dueS_nonneg h (rd_T54 jobs x).f3 xs hxs
    by_cases q : t + (rd_T54 jobs x).f0 > (rd_T54 jobs x).f3
    · rw [if_pos q]
      refine ⟨fun e => absurd e (by simp), fun e => ?_⟩
      have := e x List.mem_cons_self
      rw [hSx] at this; omega
    · rw [if_neg q, ih]
      constructor
      · intro e z hz
        rcases List.mem_cons.1 hz with rfl | hz
        · rw [hSx]
          by_cases c : ∃ y ∈ xs, (rd_T54 jobs y).f3 ≤ (rd_T54 jobs z).f3
          · obtain ⟨y, hy, hle⟩ := c
            have e1 := e y hy
            have e2 : (rd_T54 jobs y).f3 = (rd_T54 jobs z).f3 := by have := hs1 y hy; omega
            rw [e2] at e1; omega
          · rw [dueS_none _ xs (fun y hy => Classical.byContradiction fun hc => c ⟨y, hy, by omega⟩)]; omega
        · rw [hS z hz]; have := e z hz; omega
      · intro e z hz
        have := e z (List.mem_cons_of_mem _ hz)
        rw [hS z hz] at this; omega
theorem onTimeF_perm {jobs : List J} (h : JobsOk jobs) {l m : List Int} (hl : l.length ≤ 1000000) (hi : InJ jobs l) (hp : l.Perm m) (h1 : DueSorted jobs l) (h2 : DueSorted jobs m) : onTimeF jobs l 0 = onTimeF jobs m 0 := by
  have e1 := onTimeF_iff h l 0 (by omega) (by omega) hi h1
  have e2 := onTimeF_iff h m 0 (by omega) (by rw [← hp.length_eq]; omega) (fun x hx => hi x (hp.mem_iff.2 hx)) h2
  have : onTimeF jobs l 0 = true ↔ onTimeF jobs m 0 = true := by
    rw [e1, e2]
    exact ⟨fun H x hx => by rw [← dueS_perm jobs _ hp]; exact H x (hp.mem_iff.2 hx), fun H x hx => by rw [dueS_perm jobs _ hp]; exact H x (hp.mem_iff.1 hx)⟩
  cases q1 : onTimeF jobs l 0 <;> cases q2 : onTimeF jobs m 0 <;> simp_all

theorem dueLt_pre (jobs : List J) (P : Int → Prop) : Pre (dueLt jobs) P := pre_key (fun a => (rd_T54 jobs a).f3) P
theorem dueSorted_of {jobs : List J} {l : List Int} (h : SortedLt (dueLt jobs) l) : DueSorted jobs l := by
  unfold SortedLt at h
  unfold DueSorted
  refine h.imp ?_
  intro a b hab
  unfold dueLt at hab
  simp at hab; omega
theorem impl_onTime.ev (jobs : List J) (l : List Int) (hl : l.length ≤ 1000000) (hi : InJ jobs l) : Ev (fun k => impl_onTime.f k jobs l) (onTimeF jobs (insAll (dueLt jobs) l []) 0) := by
  unfold impl_onTime.f
  rw [if_pos ⟨by omega, hi⟩]
  exact Ev.now _
theorem insDue (jobs : List J) (l : List Int) : DueSorted jobs (insAll (dueLt jobs) l []) ∧ l.Perm (insAll (dueLt jobs) l []) := by
  refine ⟨dueSorted_of (insAll_sorted (dueLt_pre jobs (fun _ => True)) l [] (fun _ _ => trivial) (fun _ _ => trivial) List.Pairwise.nil), ?_⟩
  have := insAll_perm (dueLt jobs) l []
  rw [List.append_nil] at this
  exact this.symm

def SoonP (jobs : List J) (a b : Int) : Prop := (rd_T54 jobs a).f3 < (rd_T54 jobs b).f3 ∨ ((rd_T54 jobs a).f3 = (rd_T54 jobs b).f3 ∧ ((rd_T54 jobs a).f0 < (rd_T54 jobs b).f0 ∨ ((rd_T54 jobs a).f0 = (rd_T54 jobs b).f0 ∧ a < b)))
instance (jobs : List J) (a b : Int) : Decidable (SoonP jobs a b) := by unfold SoonP; exact inferInstance
def soonLt (jobs : List J) : Int → Int → Bool := fun a b => decide (SoonP jobs a b)
theorem soonLt_eq {jobs : List J} {a b : Int} {p : Prop} [Decidable p] (h : p ↔ SoonP jobs a b) : some (decide p) = some (soonLt jobs a b) := by
  unfold soonLt
  by_cases q : p
  · rw [decide_eq_true q, decide_eq_true (h.1 q)]
  · rw [decide_eq_false q, decide_eq_false (fun c => q (h.2 c))]
theorem soonLt_f {jobs : List J} {a b : Int} : soonLt jobs a b = false ↔ ¬ SoonP jobs a b := by unfold soonLt; exact decide_eq_false_iff_not
theorem soonLt_t {jobs : List J} {a b : Int} : soonLt jobs a b = true ↔ SoonP jobs a b := by unfold soonLt; exact ⟨of_decide_eq_true, decide_eq_true⟩
theorem soonLt_pre (jobs : List J) (P : Int → Prop) : Pre (soonLt jobs) P := by
  refine ⟨fun a b c _ _ _ h1 h2 => ?_, fun a b _ _ h => ?_⟩
  · rw [soonLt_f] at *
    unfold SoonP at *; omega
  · rw [soonLt_f]
    rw [soonLt_t] at h
    unfold SoonP at *; omega
theorem spec_l6Sooner.eq (jobs : List J) (a b : Int) (ha : 0 ≤ a ∧ a < jobs.length) (hb : 0 ≤ b ∧ b < jobs.length) : spec_l6Sooner.f jobs a b = some (soonLt jobs a b) := by
  unfold spec_l6Sooner.f
  rw [if_pos ha.1, if_pos ha.2, if_pos hb.1, if_pos hb.2]
  by_cases q : (rd_T54 jobs a).f3 = (rd_T54 jobs b).f3
  · rw [if_pos q]
    by_cases q2 : (rd_T54 jobs a).f0 = (rd_T54 jobs b).f0
    · rw [if_pos q2]
      exact soonLt_eq (by unfold SoonP; omega)
    · rw [if_neg q2]
      exact soonLt_eq (by unfold SoonP; omega)
  · rw [if_neg q]
    exact soonLt_eq (by unfold SoonP; omega)
theorem soon_flip (jobs : List J) {x y : Int} (hne : x ≠ y) : soonLt jobs x y = !soonLt jobs y x := by
  unfold soonLt
  by_cases q : SoonP jobs y x
  · have : ¬ SoonP jobs x y := by unfold SoonP at *; omega
    simp [q, this]
  · have : SoonP jobs x y := by unfold SoonP at *; omega
    simp [q, this]
theorem spec_l6Due.ev (jobs : List J) (l : List Int) (hl : l.length ≤ 1000000) (hn : l.Nodup) (hi : InJ jobs l) : Ev (fun k => spec_l6Due.f k jobs l) (insAll (soonLt jobs) l []) := by
  have hP := soonLt_pre jobs (fun y => 0 ≤ y ∧ y < (jobs.length : Int))
  have key := rev_ind (P := fun i => ∀ out : List Int, out.length = i → (∀ y ∈ out, 0 ≤ y ∧ y < jobs.length) → SortedLt (soonLt jobs) out → (∀ y ∈ l.drop i, y ∉ out) → Ev (fun k => spec_l6Due.l0 k jobs l out (i : Int)) (insAll (soonLt jobs) (l.drop i) out)) l.length ?_ ?_ 0 (Nat.zero_le _) [] rfl (by simp) List.Pairwise.nil (by simp)
  · simpa [spec_l6Due.f] using key
  · intro out ho _ _ _
    refine ev_stop fun k => ?_
    simp only [spec_l6Due.l0]; rw [if_neg (by omega), List.drop_length, insAll]
  · intro i hi' ih out ho hm hs hd
    have hnd : (l.drop i).Nodup := (List.drop_sublist i l).nodup hn
    rw [drop_cons hi'] at hnd hd
    have hxo := hd _ List.mem_cons_self
    have hxi := hi _ (List.getElem_mem hi')
    have hrd := rd_nat hi'
    refine ev_go (fun k => spec_l6Due.l1 k jobs l out (i : Int) 0) (fun k => ?h) ?e
    case e =>
      rw [drop_cons hi', insAll]
      have hnext := ih (insAt (soonLt jobs) l[i] out) (by rw [insAt_len]; omega) (insAt_mem hxi hm) (insAt_sorted hP hxi hm hs) (fun y hy hmm => by
        rcases List.mem_cons.1 ((insAt_perm (soonLt jobs) l[i] out).mem_iff.1 hmm) with rfl | hmm
        · exact (List.nodup_cons.1 hnd).1 hy
        · exact hd y (List.mem_cons_of_mem _ hy) hmm)
      have inner := rev_ind (P := fun j => (∀ y ∈ out.take j, soonLt jobs l[i] y = false) → Ev (fun k => spec_l6Due.l1 k jobs l out (i : Int) (j : Int)) (insAll (soonLt jobs) (l.drop (i + 1)) (insAt (soonLt jobs) l[i] out))) out.length ?_ ?_ 0 (Nat.zero_le _) (by simp)
      · exact inner
      · intro ht
        have ha := insAt_at hP hxi hm hs out.length (Nat.le_refl _) ht (fun h => absurd h (by omega))
        rw [ha] at hnext ⊢
        refine ev_go _ (fun k => ?_) hnext
        simp only [spec_l6Due.l1]; rw [if_neg (by omega)]
        simp only [Option.bind_some]
        rw [hrd, if_pos (by omega), if_pos (by omega), if_pos (by simp; omega), if_pos (by omega), if_pos (by omega), if_pos (by simp; omega), if_pos (by simp; omega), wr1 (by omega)]
        simp
      · intro j hj ihj ht
        have hy := hm _ (List.getElem_mem hj)
        have hg := spec_l6Sooner.eq jobs out[j] l[i] hy hxi
        have hne : l[i] ≠ out[j] := fun e => hxo (e ▸ List.getElem_mem hj)
        by_cases q : soonLt jobs out[j] l[i] = true
        · refine ev_go _ (fun k => ?_) (ihj ?_)
          · simp only [spec_l6Due.l1]; rw [rd_nat hj, hrd, if_pos (by omega), if_pos (by omega), if_pos (by omega), if_pos (by omega), hg, Option.bind_some, if_pos q, wr1 (by omega)]
          · intro y hy
            rw [List.take_succ_eq_append_getElem hj] at hy
            rcases List.mem_append.1 hy with hy | hy
            · exact ht y hy
            · rw [List.mem_singleton] at hy; subst hy; rw [soon_flip jobs hne, q]; rfl
        · have ha := insAt_at hP hxi hm hs j (by omega) ht (fun _ => by rw [soon_flip jobs hne]; simpa using q)
          rw [ha] at hnext ⊢
          refine ev_go _ (fun k => ?_) hnext
          simp only [spec_l6Due.l1]; rw [rd_nat hj, hrd, if_pos (by omega), if_pos (by omega), if_pos (by omega), if_pos (by omega), hg, Option.bind_some, if_neg q]
          simp only [Option.bind_some]
          rw [if_pos (by omega), if_pos (by simp; omega), if_pos (by simp; omega), if_pos (by simp; omega), wr1 (by omega)]
          simp
    case h => simp only [spec_l6Due.l0]; rw [if_pos (by omega)]

theorem soonDue {jobs : List J} {l : List Int} (h : SortedLt (soonLt jobs) l) : DueSorted jobs l := by
  unfold SortedLt at h
  unfold DueSorted
  refine h.imp ?_
  intro a b hab
  rw [soonLt_f] at hab
  unfold SoonP at hab; omega
theorem spec_l6Timely.ev (jobs : List J) (l : List Int) (h : JobsOk jobs) (hl : SetOk jobs.length l) : Ev (fun k => spec_l6Timely.f k jobs l) (onTimeF jobs (insAll (dueLt jobs) l []) 0) := by
  have hll := hl.len
  have hj8 := h.1
  unfold spec_l6Timely.f
  have hp := insAll_perm (soonLt jobs) l []
  rw [List.append_nil] at hp
  have hs : SortedLt (soonLt jobs) (insAll (soonLt jobs) l []) := insAll_sorted (soonLt_pre jobs (fun _ => True)) l [] (fun _ _ => trivial) (fun _ _ => trivial) List.Pairwise.nil
  refine ev_bind _ (spec_l6Due.ev jobs l (by omega) hl.1.nodup hl.2) ?_
  generalize insAll (soonLt jobs) l [] = order at hp hs
  have hmem : ∀ x ∈ order, 0 ≤ x ∧ x < (jobs.length : Int) := fun x hx => hl.2 x (hp.mem_iff.1 hx)
  have hlen : order.length = l.length := hp.length_eq
  have e : onTimeF jobs (insAll (dueLt jobs) l []) 0 = onTimeF jobs order 0 := by
    obtain ⟨d1, p1⟩ := insDue jobs l
    exact onTimeF_perm h (by rw [← p1.length_eq]; omega) (fun x hx => hl.2 x (p1.mem_iff.2 hx)) (p1.symm.trans hp.symm) d1 (soonDue hs)
  rw [e]
  have key := rev_ind (P := fun i => ∀ t, Ev (fun k => spec_l6Timely.l0 k jobs order t (i : Int)) (onTimeF jobs (order.drop i) t)) order.length ?_ ?_ 0 (Nat.zero_le _) 0
  · simpa using key
  · intro t
    refine ev_stop fun k => ?_
    simp only [spec_l6Timely.l0]; rw [if_neg (by omega), List.drop_length]; rfl
  · intro i hi ih t
    have hx := hmem _ (List.getElem_mem hi)
    rw [drop_cons hi, onTimeF]
    by_cases q : wrap64 (t + (rd_T54 jobs order[i]).f0) > (rd_T54 jobs order[i]).f3
    · rw [if_pos q]
      refine ev_stop fun k => ?_
      simp only [spec_l6Timely.l0]; rw [if_pos (by omega), if_pos (by omega), rd_nat hi, if_pos hx.1, if_pos hx.2, if_pos q]
    · rw [if_neg q]
      refine ev_go _ (fun k => ?_) (ih _)
      simp only [spec_l6Timely.l0]; rw [if_pos (by omega), if_pos (by omega), rd_nat hi, if_pos hx.1, if_pos hx.2, if_neg q, wr1 (by omega)]

end Go.Proofs.Ytafjdcjaigmnaaa.Pure
