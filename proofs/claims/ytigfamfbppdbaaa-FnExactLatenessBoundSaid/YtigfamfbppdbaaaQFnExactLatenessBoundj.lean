/- Proved here: what functions that the law FnExactLatenessBound reaches answer (guard, lateFold, spec_l3Total, spec_l1Least, spec_l1Most, spec_l5Set, impl_latenessBound, core_LatenessBound). Conditions: those that each theorem names. -/
import Derived.Test.YtigfamfbppdbaaaQFnExactLatenessBoundi
set_option linter.unusedVariables false
set_option linter.unusedSimpArgs false
namespace Go.Proofs.Ytigfamfbppdbaaa.Pure
open Go.RowKit Go.Proofs.Ytigfamfbppdbaaa.XFnExactLatenessBound Go.Proofs.YtigfamfbppdbaaaW.PrintWords Go.Proofs.YtigfamfbppdbaaaW.PrintLast

theorem ev_guard {g : Nat → Option Bool} {P : Prop} {α : Type} {F : Nat → Option α} {z r : α} (h : EvB g P) (h1 : P → Ev F r) (h2 : ¬ P → r = z) : Ev (fun n => (g n).bind fun t => if t = true then F n else some z) r := by
  refine evB_bind h (fun hp => ?_) (fun hp => ?_)
  · simp only [if_true]; exact h1 hp
  · simp only [Bool.false_eq_true, if_false]; rw [h2 hp]; exact Ev.now _

/-- The least of the releases, the greatest due date, the times' sum: over a set of jobs. -/
def loF (jobs : List J) : List Int → Int → Int
  | [], a => a
  | x :: xs, a => loF jobs xs (mn a (rd_T55 jobs x).f2)
def hiF (jobs : List J) : List Int → Int → Int
  | [], a => a
  | x :: xs, a => hiF jobs xs (mx a (rd_T55 jobs x).f3)
def totF (jobs : List J) : List Int → Int → Int
  | [], a => a
  | x :: xs, a => totF jobs xs (wrap64 (a + (rd_T55 jobs x).f0))

theorem spec_l3Total.ev (jobs : List J) (l : List Int) (hl : l.length ≤ 1000000000000) (hx : ∀ x ∈ l, 0 ≤ x ∧ x < jobs.length) : Ev (fun k => spec_l3Total.f k jobs l) (totF jobs l 0) := by
  have key := rev_ind (P := fun i => ∀ s, Ev (fun k => spec_l3Total.l0 k jobs l s (i : Int)) (totF jobs (l.drop i) s)) l.length ?_ ?_ 0 (Nat.zero_le _) 0
  · simpa [spec_l3Total.f] using key
  · intro s
    refine ev_stop fun k => ?_
    simp only [spec_l3Total.l0]; rw [if_neg (by omega), List.drop_length]; rfl
  · intro i hi ih s
    rw [drop_cons hi, totF]
    have hx := hx _ (List.getElem_mem hi)
    refine ev_go _ (fun k => ?_) (ih _)
    simp only [spec_l3Total.l0]; rw [if_pos (by omega), if_pos (by omega), rd_nat hi, if_pos hx.1, if_pos hx.2, wr1 (by omega)]

theorem spec_l1Least.eq (a b : Int) : spec_l1Least.f a b = some (mn a b) := by
  unfold spec_l1Least.f mn; split <;> split <;> first | rfl | omega | (congr 1; omega)

theorem spec_l1Most.eq (a b : Int) : spec_l1Most.f a b = some (mx a b) := by
  unfold spec_l1Most.f mx; split <;> split <;> first | rfl | omega | (congr 1; omega)

theorem spec_l5Set.ev (jobs : List J) (l : List Int) (h0 : 0 < l.length) (hj : JobsOk jobs) (hl : l.length ≤ 1000000000000) (hx : ∀ x ∈ l, 0 ≤ x ∧ x < jobs.length) : Ev (fun k => spec_l5Set.f k jobs l) (wrap64 (wrap64 (loF jobs l 500 + totF jobs l 0) - hiF jobs l 0)) := by
  unfold spec_l5Set.f
  have h0' : (0 : Int) < l.length := by omega
  have hz := hx _ (List.getElem_mem h0)
  simp only [if_pos h0', rd_zero h0, if_pos hz.1, if_pos hz.2]
  have key := rev_ind (P := fun i => ∀ a b, Ev (fun k => spec_l5Set.l0 k jobs l a b (i : Int)) (wrap64 (wrap64 (loF jobs (l.drop i) a + totF jobs l 0) - hiF jobs (l.drop i) b))) l.length ?_ ?_ 0 (Nat.zero_le _) (rd_T55 jobs l[0]).f2 (rd_T55 jobs l[0]).f3
  · rw [drop_cons h0, loF, hiF] at key
    have e : l = l[0] :: l.drop 1 := by conv => lhs; rw [← List.drop_zero (l := l), drop_cons h0]
    have hr := rdJ_int hz.1 hz.2
    have ho := hj.2 _ (List.getElem_mem (show (l[0]).toNat < jobs.length by omega))
    rw [show loF jobs l 500 = loF jobs (l.drop 1) (mn 500 (rd_T55 jobs l[0]).f2) by conv => lhs; rw [e, loF], show hiF jobs l 0 = hiF jobs (l.drop 1) (mx 0 (rd_T55 jobs l[0]).f3) by conv => lhs; rw [e, hiF]]
    rw [show mn 500 (rd_T55 jobs l[0]).f2 = mn (rd_T55 jobs l[0]).f2 (rd_T55 jobs l[0]).f2 by rw [hr]; unfold mn; have := ho.2.2.1; split <;> split <;> omega, show mx 0 (rd_T55 jobs l[0]).f3 = mx (rd_T55 jobs l[0]).f3 (rd_T55 jobs l[0]).f3 by rw [hr]; unfold mx; have := ho.2.2.2; split <;> split <;> omega]
    exact key
  · intro a b
    refine ev_go (fun k => (spec_l3Total.f k jobs l).bind fun t => some (wrap64 (wrap64 (a + t) - b))) (fun k => ?_) ?_
    · simp only [spec_l5Set.l0]; rw [if_neg (by omega)]
    · rw [List.drop_length]
      exact ev_bind _ (spec_l3Total.ev jobs l hl hx) (Ev.now _)
  · intro i hi ih a b
    rw [drop_cons hi, loF, hiF]
    have hx := hx _ (List.getElem_mem hi)
    refine ev_go _ (fun k => ?_) (ih _ _)
    simp only [spec_l5Set.l0]; rw [if_pos (by omega), if_pos (by omega), rd_nat hi, if_pos hx.1, if_pos hx.2, spec_l1Least.eq, Option.bind_some, spec_l1Most.eq, Option.bind_some, wr1 (by omega)]

theorem impl_latenessBound.ev (jobs : List J) (l : List Int) (hl : l.length ≤ 1000000000000) (hx : ∀ x ∈ l, 0 ≤ x ∧ x < jobs.length) : Ev (fun k => impl_latenessBound.f k jobs l) (wrap64 (wrap64 (loF jobs l 500 + totF jobs l 0) - hiF jobs l 0)) := by
  have key := rev_ind (P := fun i => ∀ a b s, Ev (fun k => impl_latenessBound.l0 k jobs a b s l (l.length : Int) (i : Int)) (wrap64 (wrap64 (loF jobs (l.drop i) a + totF jobs (l.drop i) s) - hiF jobs (l.drop i) b))) l.length ?_ ?_ 0 (Nat.zero_le _) 500 0 0
  · simpa [impl_latenessBound.f] using key
  · intro a b s
    refine ev_stop fun k => ?_
    simp only [impl_latenessBound.l0]; rw [if_neg (by omega), List.drop_length]; rfl
  · intro i hi ih a b s
    rw [drop_cons hi, loF, hiF, totF]
    have hx := hx _ (List.getElem_mem hi)
    refine ev_go _ (fun k => ?_) (ih _ _ _)
    simp only [impl_latenessBound.l0]; rw [if_pos (by omega), if_pos (by omega), if_pos (by omega), rd_nat hi, if_pos hx.1, if_pos hx.2, wr1 (by omega)]

theorem core_LatenessBound (jobs : List J) (l : List Int) (hj : jobs.length ≤ 1048576) (hl : l.length ≤ 1048576) : ∃ r b, Ev (fun k => spec_LatenessBound.f k jobs l) (r, b) ∧ Ev (fun k => impl_LatenessBound.f k jobs l) (r, b) := by
  unfold spec_LatenessBound.f impl_LatenessBound.f
  have es : EvB (fun k => spec_l1Rising.f k l 0 (wrap64 ((jobs.length : Int) - 1))) (SetOk jobs.length l) := by
    refine evB_iff (spec_l1Rising.ev l 0 _ (by omega)) ?_
    rw [wr (by omega) (by omega)]
    unfold SetOk
    exact ⟨fun h => ⟨h.1, fun x hx => by have := h.2 x hx; omega⟩, fun h => ⟨h.1, fun x hx => by have := h.2 x hx; omega⟩⟩
  by_cases h : JobsOk jobs ∧ SetOk jobs.length l ∧ ¬ (l.length : Int) = 0
  · have hx := h.2.1.2
    refine ⟨wrap64 (wrap64 (loF jobs l 500 + totF jobs l 0) - hiF jobs l 0), true, ?_, ?_⟩
    · refine ev_guard (spec_l2Good.ev jobs (by omega)) (fun _ => ?_) (fun hn => absurd h.1 hn)
      simp only [if_neg h.2.2]
      exact ev_guard es (fun _ => ev_bind _ (spec_l5Set.ev jobs l (by have := h.2.2; omega) h.1 (by omega) hx) (Ev.now _)) (fun hn => absurd h.2.1 hn)
    · refine ev_guard (impl_IsJobs.ev jobs) (fun _ => ev_guard (impl_isSet.ev jobs.length l (by have := h.1.1; omega) (by omega)) (fun _ => ?_) (fun hn => absurd h.2.1 hn)) (fun hn => absurd h.1 hn)
      simp only [if_neg h.2.2]
      exact ev_bind _ (impl_latenessBound.ev jobs l (by omega) hx) (Ev.now _)
  · refine ⟨0, false, ?_, ?_⟩
    · exact ev_guard (spec_l2Good.ev jobs (by omega)) (fun h1 => ev_ite (fun _ => Ev.now _) (fun h3 => ev_guard es (fun h2 => absurd ⟨h1, h2, h3⟩ h) (fun _ => rfl))) (fun _ => rfl)
    · exact ev_guard (impl_IsJobs.ev jobs) (fun h1 => ev_guard (impl_isSet.ev jobs.length l (by have := h1.1; omega) (by omega)) (fun h2 => ev_ite (fun _ => Ev.now _) (fun h3 => absurd ⟨h1, h2, h3⟩ h)) (fun _ => rfl)) (fun _ => rfl)

end Go.Proofs.Ytigfamfbppdbaaa.Pure
