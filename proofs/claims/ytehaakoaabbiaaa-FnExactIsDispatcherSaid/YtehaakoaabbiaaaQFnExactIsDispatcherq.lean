/- Proved here: what functions that the law FnExactIsDispatcher reaches answer (evbC, taskP, spec_l12Tasks, spec_IsDispatcher, impl_IsDispatcher). Conditions: those that each theorem names. -/
import Derived.Test.YtehaakoaabbiaaaQFnExactIsDispatcherj
set_option linter.unusedVariables false
set_option linter.unusedSimpArgs false
namespace Go.Proofs.Ytehaakoaabbiaaa.Pure
open Go.RowKit Go.Proofs.Ytehaakoaabbiaaa.XFnExactIsDispatcher Go.Proofs.YtehaakoaabbiaaaW.PrintWords Go.Proofs.YtehaakoaabbiaaaW.PrintLast

theorem evB_condC {g : Nat → Option Bool} (g' : Nat → Option Bool) {C R : Prop} (h1 : C → ∀ k, g (k + 1) = g' k) (h2 : ¬ C → Ev g false) (hR : C → EvB g' R) : EvB g (C ∧ R) := by
  by_cases c : C
  · obtain ⟨b, hb, e⟩ := hR c
    exact ⟨b, ev_go _ (h1 c) hb, e.trans ⟨fun r => ⟨c, r⟩, fun r => r.2⟩⟩
  · exact evB_of (fun h => absurd h.1 c) (fun _ => h2 c)
theorem evB_loopC (n : Nat) (g : Nat → Nat → Option Bool) (P : Nat → Prop) (Q : Prop) (hstop : (∀ j, j < n → P j) → EvB (g n) Q) (hstep : ∀ i, i < n → (∀ j, j < i → P j) → ∀ R, (P i → EvB (g (i + 1)) R) → EvB (g i) (P i ∧ R)) : EvB (g 0) ((∀ i, i < n → P i) ∧ Q) := by
  have key := rev_ind (P := fun i => (∀ j, j < i → P j) → EvB (g i) ((∀ j, i ≤ j → j < n → P j) ∧ Q)) n ?_ ?_ 0 (Nat.zero_le _) (fun j hj => absurd hj (by omega))
  · exact evB_iff key ⟨fun h => ⟨fun i hi => h.1 i (Nat.zero_le _) hi, h.2⟩, fun h => ⟨fun i _ hi => h.1 i hi, h.2⟩⟩
  · intro hlt
    exact evB_iff (hstop hlt) ⟨fun h => ⟨fun j h1 h2 => absurd h1 (by omega), h⟩, fun h => h.2⟩
  · intro i hi ih hlt
    refine evB_iff (hstep i hi hlt _ (fun hp => ih (fun j hj => ?_))) ⟨fun h => ⟨fun j h1 h2 => ?_, h.2.2⟩, fun h => ⟨h.1 i (Nat.le_refl _) hi, fun j h1 h2 => h.1 j (by omega) h2, h.2⟩⟩
    · by_cases e : j = i
      · rw [e]; exact hp
      · exact hlt j (by omega)
    · by_cases e : j = i
      · rw [e]; exact h.1
      · exact h.2.1 j (by omega) h2

/-- A task's own part: a job, a machine, a start behind the release and ahead of now. -/
def OwnP (M T : Int) (jobs : List J) (x : PTask) : Prop := (0 ≤ x.f0 ∧ x.f0 ≤ (jobs.length : Int) - 1) ∧ (0 ≤ x.f1 ∧ x.f1 ≤ M - 1) ∧ ((rd_T69 jobs x.f0).f2 ≤ x.f2 ∧ x.f2 < T)
/-- Two tasks: not of one job, and not at once on one machine. -/
def ApartP (jobs : List J) (y x : PTask) : Prop := y.f0 ≠ x.f0 ∧ (y.f1 = x.f1 → ¬ wrap64 (y.f2 + (rd_T69 jobs y.f0).f0) > x.f2)
/-- A task stands behind the one before it. -/
def BehindP (y x : PTask) : Prop := ¬ y.f2 > x.f2 ∧ (y.f2 = x.f2 → ¬ y.f1 ≥ x.f1)
def tk (l : List PTask) (i : Nat) : PTask := rd_T66 l (i : Int)
def TasksP (M T : Int) (jobs : List J) (l : List PTask) : Prop := ∀ i, i < l.length → OwnP M T jobs (tk l i) ∧ (∀ k, k < i → ApartP jobs (tk l k) (tk l i)) ∧ (0 < i → BehindP (tk l (i - 1)) (tk l i))
def DispOk (M c T : Int) (jobs : List J) (l : List PTask) : Prop := (1 ≤ M ∧ M ≤ 4) ∧ (1 ≤ c ∧ c ≤ 4) ∧ (0 ≤ T ∧ T ≤ 1000) ∧ JobsOk jobs ∧ TasksP M T jobs l

theorem spec_l3Job.eq (jobs : List J) (a : Int) (h : jobs.length ≤ 1000000000) : spec_l3Job.f jobs a = some (decide (0 ≤ a ∧ a ≤ (jobs.length : Int) - 1)) := by
  unfold spec_l3Job.f
  rw [wr (by omega) (by omega), spec_l1In.eq]; rfl
theorem spec_l12Tasks.ev (M c T : Int) (jobs : List J) (l : List PTask) (hM : 1 ≤ M ∧ M ≤ 4) (hT : 0 ≤ T ∧ T ≤ 1000) (hj : jobs.length ≤ 8) (hl : l.length ≤ 1000000000) : EvB (fun k => spec_l12Tasks.f k M c T jobs l) (TasksP M T jobs l) := by
  have key := evB_loopC l.length (fun i k => spec_l12Tasks.l0 k (i : Int) M c T jobs l) (fun i => OwnP M T jobs (tk l i) ∧ (∀ k, k < i → ApartP jobs (tk l k) (tk l i)) ∧ (0 < i → BehindP (tk l (i - 1)) (tk l i))) True ?_ ?_
  · exact evB_iff (g := fun k => spec_l12Tasks.f k M c T jobs l) key ⟨fun h => h.1, fun h => ⟨h, trivial⟩⟩
  · intro _
    refine evB_of (fun _ => ev_stop fun k => ?_) (fun h => absurd trivial h)
    simp only [spec_l12Tasks.l0]; rw [if_neg (by omega)]
  · intro i hi hlt R hR
    rw [and_assoc, and_assoc]
    have bad : ∀ b : Bool, b = true → Ev (fun k => spec_l12Tasks.j1 k (i : Int) b M c T jobs l (tk l i).f0 (tk l i).f1 (tk l i).f2) false := fun b hb => ev_stop fun k => by simp only [spec_l12Tasks.j1]; rw [if_pos hb]
    refine evB_condC (fun k => spec_l12Tasks.j1 k (i : Int) false M c T jobs l (tk l i).f0 (tk l i).f1 (tk l i).f2) (fun hC k => ?_) (fun hC => ?_) (fun hC => ?_)
    · obtain ⟨h1, h2, h3⟩ := hC
      unfold tk at h1 h2 h3 ⊢
      simp only [spec_l12Tasks.l0]; rw [if_pos (by omega), if_pos (by omega), spec_l3Job.eq _ _ (by omega), Option.bind_some, if_pos (decide_eq_true h1), wr (by omega) (by omega), spec_l1In.eq, Option.bind_some, if_pos (decide_eq_true h2), if_neg (by omega), if_pos h1.1, if_pos (by omega), decide_eq_false (by omega)]
    · by_cases h1 : 0 ≤ (tk l i).f0 ∧ (tk l i).f0 ≤ (jobs.length : Int) - 1
      · by_cases h2 : 0 ≤ (tk l i).f1 ∧ (tk l i).f1 ≤ M - 1
        · by_cases h3 : (tk l i).f2 ≥ T
          · refine ev_go _ (fun k => ?_) (bad true rfl)
            unfold tk at h1 h2 h3 ⊢
            simp only [spec_l12Tasks.l0]; rw [if_pos (by omega), if_pos (by omega), spec_l3Job.eq _ _ (by omega), Option.bind_some, if_pos (decide_eq_true h1), wr (by omega) (by omega), spec_l1In.eq, Option.bind_some, if_pos (decide_eq_true h2), if_pos h3]
          · have h4 : (tk l i).f2 < (rd_T69 jobs (tk l i).f0).f2 := by
              by_cases q : (rd_T69 jobs (tk l i).f0).f2 ≤ (tk l i).f2
              · exact absurd ⟨h1, h2, q, by omega⟩ hC
              · omega
            refine ev_go _ (fun k => ?_) (bad true rfl)
            unfold tk at h1 h2 h3 h4 ⊢
            simp only [spec_l12Tasks.l0]; rw [if_pos (by omega), if_pos (by omega), spec_l3Job.eq _ _ (by omega), Option.bind_some, if_pos (decide_eq_true h1), wr (by omega) (by omega), spec_l1In.eq, Option.bind_some, if_pos (decide_eq_true h2), if_neg h3, if_pos h1.1, if_pos (by omega), decide_eq_true h4]
        · refine ev_go _ (fun k => ?_) (bad true rfl)
          unfold tk at h1 h2 ⊢
          simp only [spec_l12Tasks.l0]; rw [if_pos (by omega), if_pos (by omega), spec_l3Job.eq _ _ (by omega), Option.bind_some, if_pos (decide_eq_true h1), wr (by omega) (by omega), spec_l1In.eq, Option.bind_some, if_neg (by simpa using h2)]
      · refine ev_go _ (fun k => ?_) (bad true rfl)
        unfold tk at h1 ⊢
        simp only [spec_l12Tasks.l0]; rw [if_pos (by omega), if_pos (by omega), spec_l3Job.eq _ _ (by omega), Option.bind_some, if_neg (by simpa using h1)]
    · have loop := evB_loopC i (fun q k => spec_l12Tasks.l1 k (i : Int) (q : Int) M c T jobs l (tk l i).f0 (tk l i).f1 (tk l i).f2) (fun q => ApartP jobs (tk l q) (tk l i)) ((0 < i → BehindP (tk l (i - 1)) (tk l i)) ∧ R) ?_ ?_
      · obtain ⟨b, hb, e⟩ := loop
        exact ⟨b, ev_go _ (fun k => by simp only [spec_l12Tasks.j1]; rfl) hb, e⟩
      · intro hA
        refine evB_condC (fun k => spec_l12Tasks.l0 k ((i + 1 : Nat) : Int) M c T jobs l) (fun hB k => ?_) (fun hB => ?_) (fun hB => hR ⟨hC, hA, hB⟩)
        · simp only [spec_l12Tasks.l1]; rw [if_neg (by omega)]
          by_cases z : 0 < i
          · have hB := hB z
            unfold BehindP tk at hB
            unfold tk
            rw [if_pos (by omega), wr (by omega) (by omega), show ((i : Int) - 1) = ((i - 1 : Nat) : Int) by omega, if_pos (by omega), if_pos (by omega), if_neg hB.1]
            by_cases q : (rd_T66 l ((i - 1 : Nat) : Int)).f2 = (rd_T66 l (i : Int)).f2
            · rw [if_pos q, if_neg (hB.2 q), wr1 (by omega)]
            · rw [if_neg q, wr1 (by omega)]
          · rw [if_neg (by omega), wr1 (by omega)]
        · have z : 0 < i := Classical.byContradiction fun z => hB (fun z' => absurd z' z)
          have hB : ¬ BehindP (tk l (i - 1)) (tk l i) := fun x => hB (fun _ => x)
          unfold BehindP tk at hB
          refine ev_stop fun k => ?_
          simp only [spec_l12Tasks.l1]; rw [if_neg (by omega)]
          unfold tk
          rw [if_pos (by omega), wr (by omega) (by omega), show ((i : Int) - 1) = ((i - 1 : Nat) : Int) by omega, if_pos (by omega), if_pos (by omega)]
          by_cases q1 : (rd_T66 l ((i - 1 : Nat) : Int)).f2 > (rd_T66 l (i : Int)).f2
          · rw [if_pos q1]
          · rw [if_neg q1]
            by_cases q : (rd_T66 l ((i - 1 : Nat) : Int)).f2 = (rd_T66 l (i : Int)).f2
            · rw [if_pos q]
              by_cases q2 : (rd_T66 l ((i - 1 : Nat) : Int)).f1 ≥ (rd_T66 l (i : Int)).f1
              · rw [if_pos q2]
              · exact absurd ⟨q1, fun _ => q2⟩ hB
            · exact absurd ⟨q1, fun x => absurd x q⟩ hB
      · intro q hq _ R' hR'
        have ho := (hlt q hq).1.1
        refine evB_condC _ (fun hA k => ?_) (fun hA => ?_) hR'
        · unfold ApartP at hA
          unfold tk at hA ho
          simp only [spec_l12Tasks.l1]; rw [if_pos (by omega), if_pos (by omega), if_pos (by omega)]
          unfold tk
          rw [if_neg hA.1]
          by_cases c1 : (rd_T66 l (q : Int)).f1 = (rd_T66 l (i : Int)).f1
          · rw [if_pos c1, if_pos ho.1, if_pos (by omega), if_neg (hA.2 c1), wr1 (by omega)]
          · rw [if_neg c1, wr1 (by omega)]
        · unfold ApartP at hA
          unfold tk at hA ho
          refine ev_stop fun k => ?_
          simp only [spec_l12Tasks.l1]; rw [if_pos (by omega), if_pos (by omega), if_pos (by omega)]
          unfold tk
          by_cases c0 : (rd_T66 l (q : Int)).f0 = (rd_T66 l (i : Int)).f0
          · rw [if_pos c0]
          · rw [if_neg c0]
            by_cases c1 : (rd_T66 l (q : Int)).f1 = (rd_T66 l (i : Int)).f1
            · rw [if_pos c1, if_pos ho.1, if_pos (by omega)]
              by_cases c2 : wrap64 ((rd_T66 l (q : Int)).f2 + (rd_T69 jobs (rd_T66 l (q : Int)).f0).f0) > (rd_T66 l (i : Int)).f2
              · rw [if_pos c2]
              · exact absurd ⟨c0, fun _ => c2⟩ hA
            · exact absurd ⟨c0, fun x => absurd x c1⟩ hA

theorem spec_IsDispatcher.ev (M c T : Int) (jobs : List J) (l : List PTask) (hj : jobs.length ≤ 1000000000) (hl : l.length ≤ 1000000000) : EvB (fun k => spec_IsDispatcher.f k M c T jobs l) (DispOk M c T jobs l) := by
  have g := spec_l2Good.ev jobs (by omega)
  unfold spec_IsDispatcher.f spec_l12Good.f DispOk
  simp only [spec_l1In.eq, Option.bind_some]
  have no : ∀ {P : Prop}, ¬ P → EvB (fun _ => ((some false : Option Bool)).bind fun t131 => some t131) P := fun hP => evB_of (fun h => absurd h hP) (fun _ => Ev.now _)
  by_cases h1 : 1 ≤ M ∧ M ≤ 4
  · by_cases h2 : 1 ≤ c ∧ c ≤ 4
    · by_cases h3 : 0 ≤ T ∧ T ≤ 1000
      · simp only [decide_eq_true h1, decide_eq_true h2, decide_eq_true h3, if_true]
        by_cases h4 : JobsOk jobs
        · have t := spec_l12Tasks.ev M c T jobs l h1 h3 h4.1 hl
          exact evB_of (fun h => ev_bind true (ev_guard' g (fun _ => ev_bind true (evB_true t h.2.2.2.2) (Ev.now _)) (fun hn => absurd h4 hn)) (Ev.now _)) (fun h => ev_bind false (ev_guard' g (fun _ => ev_bind false (evB_false t (fun x => h ⟨h1, h2, h3, h4, x⟩)) (Ev.now _)) (fun hn => absurd h4 hn)) (Ev.now _))
        · exact evB_of (fun h => absurd h.2.2.2.1 h4) (fun _ => ev_bind false (ev_guard' g (fun x => absurd x h4) (fun _ => Ev.now _)) (Ev.now _))
      · simp only [decide_eq_true h1, decide_eq_true h2, decide_eq_false h3, if_true, Bool.false_eq_true, if_false]
        exact no (fun h => h3 h.2.2.1)
    · simp only [decide_eq_true h1, decide_eq_false h2, if_true, Bool.false_eq_true, if_false]
      exact no (fun h => h2 h.2.1)
  · simp only [decide_eq_false h1, Bool.false_eq_true, if_false]
    exact no (fun h => h1 h.1)

theorem tk_take {l : List PTask} {q i : Nat} (h : q < i) (hi : i ≤ l.length) : rd_T66 (l.take i) (q : Int) = tk l q := by
  unfold tk
  rw [rdPTask (by simp; omega), rdPTask (by omega), List.getElem_take]
theorem impl_IsDispatcher.tasks (M c T : Int) (jobs : List J) (l : List PTask) (hM : 1 ≤ M ∧ M ≤ 4) (hT : 0 ≤ T ∧ T ≤ 1000) (hj : jobs.length ≤ 8) (hl : l.length ≤ 1000000000) : EvB (fun k => impl_IsDispatcher.l0 k l (l.length : Int) 0 M c T jobs l) (TasksP M T jobs l) := by
  have key := evB_loopC l.length (fun i k => impl_IsDispatcher.l0 k l (l.length : Int) (i : Int) M c T jobs l) (fun i => OwnP M T jobs (tk l i) ∧ (0 < i → BehindP (tk l (i - 1)) (tk l i)) ∧ (∀ k, k < i → ApartP jobs (tk l k) (tk l i))) True ?_ ?_
  · refine evB_iff key ?_
    unfold TasksP
    exact ⟨fun h i hi => ⟨(h.1 i hi).1, (h.1 i hi).2.2, (h.1 i hi).2.1⟩, fun h => ⟨fun i hi => ⟨(h i hi).1, (h i hi).2.2, (h i hi).2.1⟩, trivial⟩⟩
  · intro _
    refine evB_of (fun _ => ev_stop fun k => ?_) (fun h => absurd trivial h)
    simp only [impl_IsDispatcher.l0]; rw [if_neg (by omega)]
  · intro i hi hlt R hR
    rw [and_assoc, and_assoc]
    have bad : Ev (fun k => impl_IsDispatcher.j2 k (i : Int) l (l.length : Int) (i : Int) true M c T jobs l (tk l i).f0 (tk l i).f1 (tk l i).f2) false := ev_stop fun k => by simp only [impl_IsDispatcher.j2]; rfl
    have bad3 : Ev (fun k => impl_IsDispatcher.j3 k (i : Int) l (l.length : Int) (i : Int) true M c T jobs l (tk l i).f0 (tk l i).f1 (tk l i).f2) false := ev_stop fun k => by simp only [impl_IsDispatcher.j3]; rfl
    refine evB_condC (fun k => impl_IsDispatcher.j2 k (i : Int) l (l.length : Int) (i : Int) false M c T jobs l (tk l i).f0 (tk l i).f1 (tk l i).f2) (fun hC k => ?_) (fun hC => ?_) (fun hC => ?_)
    · obtain ⟨h1, h2, h3⟩ := hC
      unfold tk at h1 h2 h3 ⊢
      simp only [impl_IsDispatcher.l0]; rw [if_pos (by omega), if_pos (by omega), if_pos (by omega), impl_isNumber.eq _ _ (by omega) (by omega), Option.bind_some, if_pos (decide_eq_true (by omega)), impl_isNumber.eq _ _ (by omega) (by omega), Option.bind_some, if_pos (decide_eq_true (by omega)), if_pos h1.1, if_pos (by omega), wr (by omega) (by omega), impl_within.eq, Option.bind_some, decide_eq_true (show (rd_T69 jobs (rd_T66 l (i : Int)).f0).f2 ≤ (rd_T66 l (i : Int)).f2 ∧ (rd_T66 l (i : Int)).f2 ≤ T - 1 by omega)]; rfl
    · by_cases h1 : 0 ≤ (tk l i).f0 ∧ (tk l i).f0 < (jobs.length : Int)
      · by_cases h2 : 0 ≤ (tk l i).f1 ∧ (tk l i).f1 < M
        · have h3 : ¬ ((rd_T69 jobs (tk l i).f0).f2 ≤ (tk l i).f2 ∧ (tk l i).f2 ≤ T - 1) := fun x => hC ⟨by omega, by omega, x.1, by omega⟩
          refine ev_go _ (fun k => ?_) bad
          unfold tk at h1 h2 h3 ⊢
          simp only [impl_IsDispatcher.l0]; rw [if_pos (by omega), if_pos (by omega), if_pos (by omega), impl_isNumber.eq _ _ (by omega) (by omega), Option.bind_some, if_pos (decide_eq_true h1), impl_isNumber.eq _ _ (by omega) (by omega), Option.bind_some, if_pos (decide_eq_true h2), if_pos h1.1, if_pos (by omega), wr (by omega) (by omega), impl_within.eq, Option.bind_some, decide_eq_false h3]; rfl
        · refine ev_go _ (fun k => ?_) bad
          unfold tk at h1 h2 ⊢
          simp only [impl_IsDispatcher.l0]; rw [if_pos (by omega), if_pos (by omega), if_pos (by omega), impl_isNumber.eq _ _ (by omega) (by omega), Option.bind_some, if_pos (decide_eq_true h1), impl_isNumber.eq _ _ (by omega) (by omega), Option.bind_some, if_neg (by simpa using h2)]
      · refine ev_go _ (fun k => ?_) bad
        unfold tk at h1 ⊢
        simp only [impl_IsDispatcher.l0]; rw [if_pos (by omega), if_pos (by omega), if_pos (by omega), impl_isNumber.eq _ _ (by omega) (by omega), Option.bind_some, if_neg (by simpa using h1)]
    · refine evB_condC (fun k => impl_IsDispatcher.j3 k (i : Int) l (l.length : Int) (i : Int) false M c T jobs l (tk l i).f0 (tk l i).f1 (tk l i).f2) (fun hB k => ?_) (fun hB => ?_) (fun hB => ?_)
      · simp only [impl_IsDispatcher.j2, Bool.false_eq_true, if_false]
        by_cases z : 0 < i
        · have hB := hB z
          unfold BehindP tk at hB
          unfold tk
          rw [if_pos (by omega), wr (by omega) (by omega), show ((i : Int) - 1) = ((i - 1 : Nat) : Int) by omega, if_pos (by omega), if_pos (by omega), if_neg hB.1]
          by_cases q : (rd_T66 l ((i - 1 : Nat) : Int)).f2 = (rd_T66 l (i : Int)).f2
          · rw [if_pos q, decide_eq_false (hB.2 q)]
          · rw [if_neg q]
        · rw [if_neg (by omega)]
      · have z : 0 < i := Classical.byContradiction fun z => hB (fun z' => absurd z' z)
        have hB : ¬ BehindP (tk l (i - 1)) (tk l i) := fun x => hB (fun _ => x)
        unfold BehindP tk at hB
        refine ev_go _ (fun k => ?_) bad3
        simp only [impl_IsDispatcher.j2, Bool.false_eq_true, if_false]
        unfold tk
        rw [if_pos (by omega), wr (by omega) (by omega), show ((i : Int) - 1) = ((i - 1 : Nat) : Int) by omega, if_pos (by omega), if_pos (by omega)]
        by_cases q1 : (rd_T66 l ((i - 1 : Nat) : Int)).f2 > (rd_T66 l (i : Int)).f2
        · rw [if_pos q1]
        · rw [if_neg q1]
          by_cases q : (rd_T66 l ((i - 1 : Nat) : Int)).f2 = (rd_T66 l (i : Int)).f2
          · rw [if_pos q]
            by_cases q2 : (rd_T66 l ((i - 1 : Nat) : Int)).f1 ≥ (rd_T66 l (i : Int)).f1
            · rw [decide_eq_true q2]
            · exact absurd ⟨q1, fun _ => q2⟩ hB
          · exact absurd ⟨q1, fun x => absurd x q⟩ hB
      · have ht : (l.take i).length = i := by simp; omega
        have loop := evB_loopC i (fun q k => impl_IsDispatcher.l1 k l (l.length : Int) (i : Int) (l.take i) ((l.take i).length : Int) (q : Int) M c T jobs l (tk l i).f0 (tk l i).f1 (tk l i).f2) (fun q => ApartP jobs (tk l q) (tk l i)) R ?_ ?_
        · obtain ⟨b, hb, e⟩ := loop
          refine ⟨b, ev_go _ (fun k => ?_) hb, e⟩
          simp only [impl_IsDispatcher.j3, Bool.false_eq_true, if_false]; rw [if_pos (by omega), if_pos (by omega), Option.bind_some]; rfl
        · intro hA
          obtain ⟨b, hb, e⟩ := hR ⟨hC, hB, hA⟩
          refine ⟨b, ev_go _ (fun k => ?_) hb, e⟩
          simp only [impl_IsDispatcher.l1]; rw [if_neg (by omega), wr1 (by omega)]
        · intro q hq _ R' hR'
          have ho := (hlt q hq).1.1
          have hk := tk_take hq (show i ≤ l.length by omega)
          refine evB_condC _ (fun hA k => ?_) (fun hA => ?_) hR'
          · unfold ApartP at hA
            simp only [impl_IsDispatcher.l1, impl_Dispatcher_endOf.f]; rw [if_pos (by omega), if_pos (by omega), if_pos (by omega), hk, if_neg hA.1]
            by_cases c1 : (tk l q).f1 = (tk l i).f1
            · rw [if_pos c1, if_pos ho.1, if_pos (by omega), Option.bind_some, if_neg (hA.2 c1), wr1 (by omega)]
            · rw [if_neg c1, wr1 (by omega)]
          · unfold ApartP at hA
            refine ev_stop fun k => ?_
            simp only [impl_IsDispatcher.l1, impl_Dispatcher_endOf.f]; rw [if_pos (by omega), if_pos (by omega), if_pos (by omega), hk]
            by_cases c0 : (tk l q).f0 = (tk l i).f0
            · rw [if_pos c0]
            · rw [if_neg c0]
              by_cases c1 : (tk l q).f1 = (tk l i).f1
              · rw [if_pos c1, if_pos ho.1, if_pos (by omega), Option.bind_some]
                by_cases c2 : wrap64 ((tk l q).f2 + (rd_T69 jobs (tk l q).f0).f0) > (tk l i).f2
                · rw [if_pos c2]
                · exact absurd ⟨c0, fun _ => c2⟩ hA
              · exact absurd ⟨c0, fun x => absurd x c1⟩ hA
theorem impl_IsDispatcher.ev (M c T : Int) (jobs : List J) (l : List PTask) (hl : l.length ≤ 1000000000) : EvB (fun k => impl_IsDispatcher.f k M c T jobs l) (DispOk M c T jobs l) := by
  have g := impl_IsJobs.ev jobs
  unfold impl_IsDispatcher.f DispOk
  simp only [impl_within.eq, Option.bind_some]
  have bad : Ev (fun k => impl_IsDispatcher.j0 k true M c T jobs l) false := ev_stop fun k => by simp only [impl_IsDispatcher.j0]; rfl
  by_cases h1 : 1 ≤ M ∧ M ≤ 4
  · by_cases h2 : 1 ≤ c ∧ c ≤ 4
    · by_cases h3 : 0 ≤ T ∧ T ≤ 1000
      · simp only [decide_eq_true h1, decide_eq_true h2, decide_eq_true h3, if_true]
        by_cases h4 : JobsOk jobs
        · obtain ⟨b, hb, e⟩ := impl_IsDispatcher.tasks M c T jobs l h1 h3 h4.1 hl
          exact ⟨b, ev_bind true (evB_true g h4) (ev_go _ (fun k => by simp only [impl_IsDispatcher.j0]; rfl) hb), e.trans ⟨fun x => ⟨h1, h2, h3, h4, x⟩, fun x => x.2.2.2.2⟩⟩
        · exact evB_of (fun h => absurd h.2.2.2.1 h4) (fun _ => ev_bind false (evB_false g h4) bad)
      · simp only [decide_eq_true h1, decide_eq_true h2, decide_eq_false h3, if_true, Bool.false_eq_true, if_false]
        exact evB_of (fun h => absurd h.2.2.1 h3) (fun _ => bad)
    · simp only [decide_eq_true h1, decide_eq_false h2, if_true, Bool.false_eq_true, if_false]
      exact evB_of (fun h => absurd h.2.1 h2) (fun _ => bad)
  · simp only [decide_eq_false h1, Bool.false_eq_true, if_false]
    exact evB_of (fun h => absurd h.1 h1) (fun _ => bad)

end Go.Proofs.Ytehaakoaabbiaaa.Pure
