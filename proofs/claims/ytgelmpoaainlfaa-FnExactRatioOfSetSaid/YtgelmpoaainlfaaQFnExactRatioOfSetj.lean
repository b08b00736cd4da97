/- Proved here: what functions that the law FnExactRatioOfSet reaches answer (guard, ratioF, core_RatioOfSet). Conditions: those that each theorem names. -/
import Derived.Test.YtgelmpoaainlfaaQFnExactRatioOfSeti
set_option linter.unusedVariables false
set_option linter.unusedSimpArgs false
namespace Go.Proofs.Ytgelmpoaainlfaa.Pure
open Go.RowKit Go.Proofs.Ytgelmpoaainlfaa.XFnExactRatioOfSet Go.Proofs.YtgelmpoaainlfaaW.PrintWords Go.Proofs.YtgelmpoaainlfaaW.PrintLast

theorem ev_guard {g : Nat → Option Bool} {P : Prop} {α : Type} {F : Nat → Option α} {z r : α} (h : EvB g P) (h1 : P → Ev F r) (h2 : ¬ P → r = z) : Ev (fun n => (g n).bind fun t => if t = true then F n else some z) r := by
  refine evB_bind h (fun hp => ?_) (fun hp => ?_)
  · simp only [if_true]; exact h1 hp
  · simp only [Bool.false_eq_true, if_false]; rw [h2 hp]; exact Ev.now _
theorem ev_guard' {g : Nat → Option Bool} {P : Prop} {α : Type} {F G : Nat → Option α} {r : α} (h : EvB g P) (h1 : P → Ev F r) (h2 : ¬ P → Ev G r) : Ev (fun n => (g n).bind fun t => if t = true then F n else G n) r := by
  refine evB_bind h (fun hp => ?_) (fun hp => ?_)
  · simp only [if_true]; exact h1 hp
  · simp only [Bool.false_eq_true, if_false]; exact h2 hp

/-- The sum of the weights and of the times of a set's jobs. -/
def ratioF (jobs : List J) : List Int → Int → Int → Int × Int
  | [], a, b => (a, b)
  | x :: xs, a, b => ratioF jobs xs (wrap64 (a + (rd_T52 jobs x).f1)) (wrap64 (b + (rd_T52 jobs x).f0))

theorem spec_l4Sums.ev (jobs : List J) (l : List Int) (hl : l.length ≤ 1000000000000) (hx : ∀ x ∈ l, 0 ≤ x ∧ x < jobs.length) : Ev (fun k => spec_l4Sums.f k jobs l) (ratioF jobs l 0 0) := by
  have key := rev_ind (P := fun i => ∀ t s, Ev (fun k => spec_l4Sums.l0 k jobs l (i : Int) t s) (ratioF jobs (l.drop i) t s)) l.length ?_ ?_ 0 (Nat.zero_le _) 0 0
  · simpa [spec_l4Sums.f] using key
  · intro t s
    refine ev_stop fun k => ?_
    simp only [spec_l4Sums.l0]; rw [if_neg (by omega), List.drop_length]; rfl
  · intro i hi ih t s
    rw [drop_cons hi, ratioF]
    have hx := hx _ (List.getElem_mem hi)
    refine ev_go _ (fun k => ?_) (ih _ _)
    simp only [spec_l4Sums.l0]; rw [if_pos (by omega), if_pos (by omega), rd_nat hi, if_pos hx.1, if_pos hx.2, wr1 (by omega)]
theorem impl_ratioOf.ev (jobs : List J) (l : List Int) (hl : l.length ≤ 1000000000000) (hx : ∀ x ∈ l, 0 ≤ x ∧ x < jobs.length) : Ev (fun k => impl_ratioOf.f k jobs l) (ratioF jobs l 0 0) := by
  have key := rev_ind (P := fun i => ∀ t s, Ev (fun k => impl_ratioOf.l0 k jobs l (l.length : Int) (i : Int) t s) (ratioF jobs (l.drop i) t s)) l.length ?_ ?_ 0 (Nat.zero_le _) 0 0
  · simpa [impl_ratioOf.f] using key
  · intro t s
    refine ev_stop fun k => ?_
    simp only [impl_ratioOf.l0]; rw [if_neg (by omega), List.drop_length]; rfl
  · intro i hi ih t s
    rw [drop_cons hi, ratioF]
    have hx := hx _ (List.getElem_mem hi)
    refine ev_go _ (fun k => ?_) (ih _ _)
    simp only [impl_ratioOf.l0]; rw [if_pos (by omega), if_pos (by omega), if_pos (by omega), rd_nat hi, if_pos hx.1, if_pos hx.2, wr1 (by omega)]
theorem core_RatioOfSet (jobs : List J) (l : List Int) (hj : jobs.length ≤ 1048576) (hl : l.length ≤ 1048576) : ∃ r0 r1 b, Ev (fun k => spec_RatioOfSet.f k jobs l) (r0, r1, b) ∧ Ev (fun k => impl_RatioOfSet.f k jobs l) (r0, r1, b) ∧ Ev (fun k => laws_eqIntA2.f k r0 r1 r0 r1) true := by
  unfold spec_RatioOfSet.f impl_RatioOfSet.f
  have eq : ∀ a b : Int, Ev (fun k => laws_eqIntA2.f k a b a b) true := fun a b => by
    unfold laws_eqIntA2.f
    simp only [and_self, decide_true]
    exact Ev.now _
  have es : EvB (fun k => spec_l1Rising.f k l 0 (wrap64 ((jobs.length : Int) - 1))) (SetOk jobs.length l) := by
    refine evB_iff (spec_l1Rising.ev l 0 _ (by omega)) ?_
    rw [wr (by omega) (by omega)]
    unfold SetOk
    exact ⟨fun h => ⟨h.1, fun x hx => by have := h.2 x hx; omega⟩, fun h => ⟨h.1, fun x hx => by have := h.2 x hx; omega⟩⟩
  by_cases h : JobsOk jobs ∧ SetOk jobs.length l ∧ ¬ (l.length : Int) = 0
  · have hx := h.2.1.2
    refine ⟨(ratioF jobs l 0 0).1, (ratioF jobs l 0 0).2, true, ?_, ?_, eq _ _⟩
    · refine ev_guard (spec_l2Good.ev jobs (by omega)) (fun _ => ?_) (fun hn => absurd h.1 hn)
      simp only [if_neg h.2.2]
      exact ev_guard es (fun _ => ev_bind _ (spec_l4Sums.ev jobs l (by omega) hx) (Ev.now _)) (fun hn => absurd h.2.1 hn)
    · refine ev_guard (impl_IsJobs.ev jobs) (fun _ => ev_guard (impl_isSet.ev jobs.length l (by have := h.1.1; omega) (by omega)) (fun _ => ?_) (fun hn => absurd h.2.1 hn)) (fun hn => absurd h.1 hn)
      simp only [if_neg h.2.2]
      exact ev_bind _ (impl_ratioOf.ev jobs l (by omega) hx) (Ev.now _)
  · refine ⟨0, 0, false, ?_, ?_, eq _ _⟩
    · exact ev_guard (spec_l2Good.ev jobs (by omega)) (fun h1 => ev_ite (fun _ => Ev.now _) (fun h3 => ev_guard es (fun h2 => absurd ⟨h1, h2, h3⟩ h) (fun _ => rfl))) (fun _ => rfl)
    · exact ev_guard (impl_IsJobs.ev jobs) (fun h1 => ev_guard (impl_isSet.ev jobs.length l (by have := h1.1; omega) (by omega)) (fun h2 => ev_ite (fun _ => Ev.now _) (fun h3 => absurd ⟨h1, h2, h3⟩ h)) (fun _ => rfl)) (fun _ => rfl)

end Go.Proofs.Ytgelmpoaainlfaa.Pure
