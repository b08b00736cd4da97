/- Proved here: what functions that the law FnExactIsRuledOrder reaches answer (ruledOk, spec_l3Ruled, impl_isRuled, gapF, spec_l3Gap, impl_difference, ruledOrder, core_IsRuledOrder). Conditions: those that each theorem names. -/
import Derived.Test.YtehaakoaabbiaaaQFnExactIsRuledOrderm
set_option linter.unusedVariables false
set_option linter.unusedSimpArgs false
namespace Go.Proofs.Ytehaakoaabbiaaa.Pure
open Go.RowKit Go.Proofs.Ytehaakoaabbiaaa.XFnExactIsRuledOrder Go.Proofs.YtehaakoaabbiaaaW.PrintWords Go.Proofs.YtehaakoaabbiaaaW.PrintLast

/-- Jobs, and a rule that speaks of them. -/
def RuledOk (jobs : List J) (a : Int) : Prop := JobsOk jobs ∧ (1 ≤ a ∧ a ≤ 4) ∧ (a ≠ 1 → NoRel jobs)

theorem spec_l3Ruled.ev (jobs : List J) (a : Int) (hj : jobs.length ≤ 1000000000) : EvB (fun k => spec_l3Ruled.f k jobs a) (RuledOk jobs a) := by
  unfold spec_l3Ruled.f RuledOk
  simp only [spec_l1In.eq, Option.bind_some]
  have g := spec_l2Good.ev jobs (by omega)
  have p := spec_l3Plain.ev jobs (by omega)
  by_cases h1 : 1 ≤ a ∧ a ≤ 4
  · simp only [decide_eq_true h1, if_true]
    by_cases h2 : a = 1
    · simp only [if_pos h2]
      exact evB_of (fun h => ev_guard' g (fun _ => Ev.now _) (fun hn => absurd h.1 hn)) (fun h => ev_guard' g (fun h3 => absurd ⟨h3, h1, fun c => absurd h2 c⟩ h) (fun _ => Ev.now _))
    · simp only [if_neg h2]
      refine evB_of (fun h => ev_guard' g (fun _ => ev_bind true (evB_true p (h.2.2 h2)) (Ev.now _)) (fun hn => absurd h.1 hn)) (fun h => ev_guard' g (fun h3 => ev_bind false (evB_false p (fun h4 => h ⟨h3, h1, fun _ => h4⟩)) (Ev.now _)) (fun _ => Ev.now _))
  · simp only [decide_eq_false h1, Bool.false_eq_true, if_false]
    exact evB_of (fun h => absurd h.2.1 h1) (fun _ => ev_guard' g (fun _ => Ev.now _) (fun _ => Ev.now _))

theorem impl_isRuled.ev (jobs : List J) (a : Int) (hj : jobs.length ≤ 1000000000) : EvB (fun k => impl_isRuled.f k jobs a) (RuledOk jobs a) := by
  unfold impl_isRuled.f RuledOk
  simp only [impl_within.eq, Option.bind_some]
  have g := impl_IsJobs.ev jobs
  have p := impl_isPlain.ev jobs (by omega)
  by_cases h2 : a = 1
  · simp only [if_pos h2]
    exact evB_of (fun h => ev_guard' g (fun _ => Ev.now _) (fun hn => absurd h.1 hn)) (fun h => ev_guard' g (fun h3 => absurd ⟨h3, by omega, fun c => absurd h2 c⟩ h) (fun _ => Ev.now _))
  · simp only [if_neg h2]
    by_cases h1 : 2 ≤ a ∧ a ≤ 4
    · simp only [decide_eq_true h1, if_true]
      refine evB_of (fun h => ev_guard' g (fun _ => ev_bind true (evB_true p (h.2.2 h2)) (Ev.now _)) (fun hn => absurd h.1 hn)) (fun h => ev_guard' g (fun h3 => ev_bind false (evB_false p (fun h4 => h ⟨h3, by omega, fun _ => h4⟩)) (Ev.now _)) (fun _ => Ev.now _))
    · simp only [decide_eq_false h1, Bool.false_eq_true, if_false]
      exact evB_of (fun h => absurd h.2.1 (by omega)) (fun _ => ev_guard' g (fun _ => Ev.now _) (fun _ => Ev.now _))

/-- How far the one is behind the other, by a rule. -/
def gapF (a : Int) (x y : J) : Int := if a = 1 then x.f2 - y.f2 else if a = 2 then x.f0 - y.f0 else if a = 3 then x.f0 * y.f1 - y.f0 * x.f1 else x.f3 - y.f3
theorem gapF_neg (a : Int) (x y : J) : gapF a x y = - gapF a y x := by
  unfold gapF
  split
  · omega
  · split
    · omega
    · split <;> omega
theorem mul_small {x y : Int} (h1 : 0 ≤ x ∧ x ≤ 50) (h2 : 0 ≤ y ∧ y ≤ 50) : 0 ≤ x * y ∧ x * y ≤ 2500 := by
  have h3 := Int.mul_nonneg h1.1 h2.1
  have h4 : x * y ≤ 50 * 50 := Int.mul_le_mul h1.2 h2.2 h2.1 (by omega)
  omega
theorem gap_wrap {a : Int} {x y : J} (hx : JobOk x) (hy : JobOk y) : (if a = 1 then wrap64 (x.f2 - y.f2) else if a = 2 then wrap64 (x.f0 - y.f0) else if a = 3 then wrap64 (wrap64 (x.f0 * y.f1) - wrap64 (y.f0 * x.f1)) else wrap64 (x.f3 - y.f3)) = gapF a x y := by
  obtain ⟨h1, h2, h3, h4⟩ := hx
  obtain ⟨k1, k2, k3, k4⟩ := hy
  have m1 := mul_small (x := x.f0) (y := y.f1) (by omega) (by omega)
  have m2 := mul_small (x := y.f0) (y := x.f1) (by omega) (by omega)
  unfold gapF
  rw [wr (x := x.f2 - y.f2) (by omega) (by omega), wr (x := x.f0 - y.f0) (by omega) (by omega), wr (x := x.f3 - y.f3) (by omega) (by omega), wr (x := x.f0 * y.f1) (by omega) (by omega), wr (x := y.f0 * x.f1) (by omega) (by omega), wr (by omega) (by omega)]

theorem spec_l3Gap.eq (jobs : List J) (a : Int) (i j : Nat) (hi : i < jobs.length) (hj : j < jobs.length) (h : JobsOk jobs) : spec_l3Gap.f jobs a (i : Int) (j : Int) = some (gapF a jobs[i] jobs[j]) := by
  unfold spec_l3Gap.f
  rw [if_pos (by omega), if_pos (by omega), if_pos (by omega), if_pos (by omega), rdJ hi, rdJ hj, ← gap_wrap (h.2 _ (List.getElem_mem hi)) (h.2 _ (List.getElem_mem hj))]
  split
  · rfl
  · split
    · rfl
    · split <;> rfl

theorem impl_difference.eq (x y : J) (a : Int) (hx : JobOk x) (hy : JobOk y) : impl_difference.f x.f0 x.f1 x.f2 x.f3 y.f0 y.f1 y.f2 y.f3 a = some (gapF a x y) := by
  unfold impl_difference.f
  rw [← gap_wrap hx hy]
  split
  · rfl
  · split
    · rfl
    · split <;> rfl

/-- No job is behind the next, by a rule. -/
def RuledP (jobs : List J) (a : Int) (o : List Int) : Prop := ∀ i, i + 1 < o.length → gapF a (rd_T69 jobs (rd o (i : Int))) (rd_T69 jobs (rd o ((i + 1 : Nat) : Int))) ≤ 0

theorem order_at {n : Nat} {o : List Int} (h : IsPerm n o) (i : Nat) (hi : i < o.length) : ∃ x : Nat, rd o (i : Int) = x ∧ x < n := by
  have := h.2.2 _ (List.getElem_mem hi)
  rw [← rd_nat hi] at this
  exact ⟨(rd o (i : Int)).toNat, by omega, by omega⟩
theorem spec_l3Both.ev (jobs : List J) (o : List Int) (a : Int) (hj : jobs.length ≤ 1000000000) (ho : o.length ≤ 1000000000) : EvB (fun k => spec_l3Both.f k jobs o a) (RuledOk jobs a ∧ IsPerm jobs.length o) := by
  unfold spec_l3Both.f
  have e := spec_l2Order.ev (jobs.length : Int) o (by omega)
  have g := spec_l3Ruled.ev jobs a hj
  refine evB_of (fun h => ?_) (fun h => ?_)
  · refine ev_guard' g (fun _ => ?_) (fun hn => absurd h.1 hn)
    exact ev_bind true (evB_true e ⟨by have := h.1.1.1; omega, by simpa using h.2⟩) (Ev.now _)
  · refine ev_guard' g (fun h1 => ?_) (fun _ => Ev.now _)
    exact ev_bind false (evB_false e (fun h2 => h ⟨h1, by simpa using h2.2⟩)) (Ev.now _)
theorem impl_isRuledAndOrdered.ev (jobs : List J) (o : List Int) (a : Int) (hj : jobs.length ≤ 1000000000) (ho : o.length ≤ 1000000000) : EvB (fun k => impl_isRuledAndOrdered.f k jobs o a) (RuledOk jobs a ∧ IsPerm jobs.length o) := by
  unfold impl_isRuledAndOrdered.f
  have g := impl_isRuled.ev jobs a hj
  refine evB_of (fun h => ?_) (fun h => ?_)
  · refine ev_guard' g (fun h1 => ?_) (fun hn => absurd h.1 hn)
    exact ev_bind true (evB_true (impl_isOrder.ev (jobs.length : Int) o (by omega) (by have := h1.1.1; omega) (by omega)) (by simpa using h.2)) (Ev.now _)
  · refine ev_guard' g (fun h1 => ?_) (fun _ => Ev.now _)
    exact ev_bind false (evB_false (impl_isOrder.ev (jobs.length : Int) o (by omega) (by have := h1.1.1; omega) (by omega)) (fun h2 => h ⟨h1, by simpa using h2⟩)) (Ev.now _)
theorem spec_l3Wrong.ev (jobs : List J) (o : List Int) (a : Int) (h : JobsOk jobs) (hp : IsPerm jobs.length o) : ∃ r, Ev (fun k => spec_l3Wrong.f k jobs o a) r ∧ (r < 0 ↔ RuledP jobs a o) := by
  have hj := h.1
  have hl := hp.1
  have key := rev_ind (P := fun i => ∃ r, Ev (fun k => spec_l3Wrong.l0 k jobs o a (i : Int)) r ∧ (r < 0 ↔ ∀ q, i ≤ q → q + 1 < o.length → gapF a (rd_T69 jobs (rd o (q : Int))) (rd_T69 jobs (rd o ((q + 1 : Nat) : Int))) ≤ 0)) o.length ?_ ?_ 0 (Nat.zero_le _)
  · obtain ⟨r, e, hr⟩ := key
    exact ⟨r, e, hr.trans ⟨fun H q hq => H q (Nat.zero_le _) hq, fun H q _ hq => H q hq⟩⟩
  · refine ⟨-1, ev_stop fun k => ?_, by simp; intro q h1 h2; omega⟩
    simp only [spec_l3Wrong.l0]; rw [wr1 (by omega), if_neg (by omega)]
  · intro i hi ih
    by_cases c : i + 1 < o.length
    · obtain ⟨x, hx, hxn⟩ := order_at hp i hi
      obtain ⟨y, hy, hyn⟩ := order_at hp (i + 1) c
      have st : (∀ q, i ≤ q → q + 1 < o.length → gapF a (rd_T69 jobs (rd o (q : Int))) (rd_T69 jobs (rd o ((q + 1 : Nat) : Int))) ≤ 0) ↔ (gapF a jobs[x] jobs[y] ≤ 0 ∧ ∀ q, i + 1 ≤ q → q + 1 < o.length → gapF a (rd_T69 jobs (rd o (q : Int))) (rd_T69 jobs (rd o ((q + 1 : Nat) : Int))) ≤ 0) := by
        have e0 : gapF a (rd_T69 jobs (rd o (i : Int))) (rd_T69 jobs (rd o ((i + 1 : Nat) : Int))) = gapF a jobs[x] jobs[y] := by rw [hx, hy, rdJ hxn, rdJ hyn]
        constructor
        · intro H; exact ⟨by rw [← e0]; exact H i (Nat.le_refl _) c, fun q h1 h2 => H q (by omega) h2⟩
        · rintro ⟨H0, H⟩ q h1 h2
          by_cases e : q = i
          · subst e; rw [e0]; exact H0
          · exact H q (by omega) h2
      rw [st]
      by_cases q : gapF a jobs[x] jobs[y] > 0
      · refine ⟨i, ev_stop fun k => ?_, ⟨fun hh => absurd hh (by omega), fun hh => absurd hh.1 (by omega)⟩⟩
        simp only [spec_l3Wrong.l0]; rw [wr1 (by omega), if_pos (by omega), if_pos (by omega), if_pos (by omega), if_pos (by omega), hx, hy, spec_l3Gap.eq jobs a x y hxn hyn h, Option.bind_some, if_pos q]
      · obtain ⟨r, e, hr⟩ := ih
        refine ⟨r, ev_go _ (fun k => ?_) e, hr.trans ⟨fun H => ⟨by omega, H⟩, fun H => H.2⟩⟩
        simp only [spec_l3Wrong.l0]; rw [wr1 (by omega), if_pos (by omega), if_pos (by omega), if_pos (by omega), if_pos (by omega), hx, hy, spec_l3Gap.eq jobs a x y hxn hyn h, Option.bind_some, if_neg q]
    · refine ⟨-1, ev_stop fun k => ?_, by simp; intro q h1 h2; omega⟩
      simp only [spec_l3Wrong.l0]; rw [wr1 (by omega), if_neg (by omega)]
theorem impl_IsRuledOrder.loop (jobs : List J) (o : List Int) (a : Int) (h : JobsOk jobs) (hp : IsPerm jobs.length o) : ∀ b : Bool, (b = true ↔ RuledP jobs a o) → Ev (fun k => impl_IsRuledOrder.l0 k jobs o a 1) (b, true) := by
  have hj := h.1
  have hl := hp.1
  have key := rev_ind (P := fun i => 1 ≤ i → ∀ b : Bool, (b = true ↔ ∀ q, i ≤ q + 1 → q + 1 < o.length → gapF a (rd_T69 jobs (rd o (q : Int))) (rd_T69 jobs (rd o ((q + 1 : Nat) : Int))) ≤ 0) → Ev (fun k => impl_IsRuledOrder.l0 k jobs o a (i : Int)) (b, true)) (o.length + 1) ?_ ?_ 1 (by omega) (Nat.le_refl _)
  · intro b hb
    exact key b (hb.trans ⟨fun H q _ h2 => H q h2, fun H q h2 => H q (by omega) h2⟩)
  · intro _ b hb
    have : b = true := hb.2 (fun q h1 h2 => absurd h1 (by omega))
    subst this
    refine ev_stop fun k => ?_
    simp only [impl_IsRuledOrder.l0]; rw [if_neg (by omega)]
  · intro i hi ih h1 b hb
    by_cases c : i < o.length
    · obtain ⟨y, hy, hyn⟩ := order_at hp i c
      obtain ⟨x, hx, hxn⟩ := order_at hp (i - 1) (by omega)
      have e0 : gapF a (rd_T69 jobs (rd o ((i - 1 : Nat) : Int))) (rd_T69 jobs (rd o ((i - 1 + 1 : Nat) : Int))) = gapF a jobs[x] jobs[y] := by rw [hx, show i - 1 + 1 = i by omega, hy, rdJ hxn, rdJ hyn]
      have eg := gapF_neg a jobs[y] jobs[x]
      have ed := impl_difference.eq jobs[y] jobs[x] a (h.2 _ (List.getElem_mem hyn)) (h.2 _ (List.getElem_mem hxn))
      by_cases q : gapF a jobs[y] jobs[x] < 0
      · have : b = false := by
          rw [← Bool.not_eq_true]
          exact fun hh => absurd (hb.1 hh (i - 1) (by omega) (by omega)) (by rw [e0]; omega)
        subst this
        refine ev_stop fun k => ?_
        simp only [impl_IsRuledOrder.l0]; rw [if_pos (by omega), if_pos (by omega), wr (x := (i : Int) - 1) (by omega) (by omega), show ((i : Int) - 1) = ((i - 1 : Nat) : Int) by omega, hx, hy, if_pos (by omega), if_pos (by omega), if_pos (by omega), if_pos (by omega), if_pos (by omega), if_pos (by omega), rdJ hxn, rdJ hyn, ed, Option.bind_some, if_pos q]
      · refine ev_go _ (fun k => ?_) (ih (by omega) b (hb.trans ⟨fun H q h1 h2 => H q (by omega) h2, fun H q' h2 h3 => ?_⟩))
        · simp only [impl_IsRuledOrder.l0]; rw [if_pos (by omega), if_pos (by omega), wr (x := (i : Int) - 1) (by omega) (by omega), show ((i : Int) - 1) = ((i - 1 : Nat) : Int) by omega, hx, hy, if_pos (by omega), if_pos (by omega), if_pos (by omega), if_pos (by omega), if_pos (by omega), if_pos (by omega), rdJ hxn, rdJ hyn, ed, Option.bind_some, if_neg q, wr1 (by omega)]
        · by_cases e : q' = i - 1
          · subst e; rw [e0]; omega
          · exact H q' (by omega) h3
    · have : b = true := hb.2 (fun q h1 h2 => absurd h1 (by omega))
      subst this
      refine ev_stop fun k => ?_
      simp only [impl_IsRuledOrder.l0]; rw [if_neg (by omega)]
theorem core_IsRuledOrder (jobs : List J) (o : List Int) (a : Int) (hj : jobs.length ≤ 1048576) (ho : o.length ≤ 1048576) (_ : (Lit.int .i64 a).wf = true) : ∃ r b, Ev (fun k => spec_IsRuledOrder.f k jobs o a) (r, b) ∧ Ev (fun k => impl_IsRuledOrder.f k jobs o a) (r, b) := by
  have es := spec_l3Both.ev jobs o a (by omega) (by omega)
  have ei := impl_isRuledAndOrdered.ev jobs o a (by omega) (by omega)
  unfold spec_IsRuledOrder.f impl_IsRuledOrder.f
  by_cases h : RuledOk jobs a ∧ IsPerm jobs.length o
  · obtain ⟨r, e, hr⟩ := spec_l3Wrong.ev jobs o a h.1.1 h.2
    exact ⟨decide (r < 0), true, ev_guard' es (fun _ => ev_bind r e (Ev.now _)) (fun hn => absurd h hn), ev_guard' ei (fun _ => impl_IsRuledOrder.loop jobs o a h.1.1 h.2 _ (by simpa using hr)) (fun hn => absurd h hn)⟩
  · exact ⟨false, false, ev_guard' es (fun h1 => absurd h1 h) (fun _ => Ev.now _), ev_guard' ei (fun h1 => absurd h1 h) (fun _ => Ev.now _)⟩

end Go.Proofs.Ytehaakoaabbiaaa.Pure
