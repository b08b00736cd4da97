/- Proved here: what functions that the law FnExactStairLength reaches answer (flowTwo, spec_l8Two, impl_isFlow, stairOk, spec_l8Stair, impl_isStaircase, core_StairLength). Conditions: those that each theorem names. -/
import Derived.Test.YtphgpffgidfmmaaQFnExactStairLengthm
set_option linter.unusedVariables false
set_option linter.unusedSimpArgs false
namespace Go.Proofs.Ytphgpffgidfmmaa.Pure
open Go.RowKit Go.Proofs.Ytphgpffgidfmmaa.XFnExactStairLength Go.Proofs.YtphgpffgidfmmaaW.PrintWords Go.Proofs.YtphgpffgidfmmaaW.PrintLast

def FlowTwo (l : List (List Int)) (o : List Int) : Prop := ShopOk l ∧ IsPerm l.length o

theorem spec_l8Two.ev (l : List (List Int)) (o : List Int) (hl : l.length ≤ 1000000000) (hr : ∀ y ∈ l, y.length ≤ 1000000000) (ho : o.length ≤ 1000000000) : EvB (fun k => spec_l8Two.f k l o) (FlowTwo l o) := by
  unfold spec_l8Two.f FlowTwo
  have e := spec_l2Order.ev (l.length : Int) o (by omega)
  have g := spec_l8Good.ev l (by omega) (fun y hy => by have := hr y hy; omega)
  refine evB_of (fun h => ?_) (fun h => ?_)
  · refine ev_guard' g (fun _ => ?_) (fun hn => absurd h.1 hn)
    exact ev_bind true (evB_true e ⟨by have := h.1.1; omega, by simpa using h.2⟩) (Ev.now _)
  · refine ev_guard' g (fun h1 => ?_) (fun _ => Ev.now _)
    exact ev_bind false (evB_false e (fun h2 => h ⟨h1, by simpa using h2.2⟩)) (Ev.now _)

theorem impl_isFlow.ev (l : List (List Int)) (o : List Int) (hr : ∀ y ∈ l, y.length ≤ 1000000000) (ho : o.length ≤ 1000000000) : EvB (fun k => impl_isFlow.f k l o) (FlowTwo l o) := by
  unfold impl_isFlow.f FlowTwo
  have g := impl_isShop.ev l (fun y hy => by have := hr y hy; omega)
  refine evB_of (fun h => ?_) (fun h => ?_)
  · refine ev_guard' g (fun h1 => ?_) (fun hn => absurd h.1 hn)
    exact ev_bind true (evB_true (impl_isOrder.ev (l.length : Int) o (by omega) (by have := h1.1; omega) (by omega)) (by simpa using h.2)) (Ev.now _)
  · refine ev_guard' g (fun h1 => ?_) (fun _ => Ev.now _)
    exact ev_bind false (evB_false (impl_isOrder.ev (l.length : Int) o (by omega) (by have := h1.1; omega) (by omega)) (fun h2 => h ⟨h1, by simpa using h2⟩)) (Ev.now _)

/-- A staircase of stops. -/
def StairOk (n m : Nat) (s : List Int) : Prop := (∀ i, i < s.length → (0 ≤ rd s (i : Int) ∧ rd s (i : Int) ≤ (n : Int) - 1) ∧ (0 < i → rd s ((i : Int) - 1) ≤ rd s (i : Int))) ∧ (0 < n ∧ s.length = m ∧ rd s ((s.length : Int) - 1) = (n : Int) - 1)

theorem spec_l8Stair.ev (l : List (List Int)) (s : List Int) (hl : l.length ≤ 1000000000) (hm : 1 ≤ machP l) (hs : s.length ≤ 1000000000) : EvB (fun k => spec_l8Stair.f k l s) (StairOk l.length (machP l) s) := by
  have key := evB_loop s.length (fun i k => spec_l8Stair.l0 k l s (i : Int)) (fun i => (0 ≤ rd s (i : Int) ∧ rd s (i : Int) ≤ (l.length : Int) - 1) ∧ (0 < i → rd s ((i : Int) - 1) ≤ rd s (i : Int))) (0 < l.length ∧ s.length = machP l ∧ rd s ((s.length : Int) - 1) = (l.length : Int) - 1) ?_ ?_
  · exact key
  · by_cases h0 : 0 < l.length
    · by_cases h1 : s.length = machP l
      · refine ⟨rd s ((s.length : Int) - 1) == (l.length : Int) - 1, ev_stop fun k => ?_, ?_⟩
        · simp only [spec_l8Stair.l0]; rw [if_neg (by omega), if_pos (by omega), spec_l8Machines.eq, Option.bind_some, if_pos (by omega), wr (by omega) (by omega), if_pos (by omega), if_pos (by omega), wr (by omega) (by omega)]
        · rw [beq_iff_eq]; exact ⟨fun h => ⟨h0, h1, h⟩, fun h => h.2.2⟩
      · refine evB_of (fun h => absurd h.2.1 h1) (fun _ => ev_stop fun k => ?_)
        simp only [spec_l8Stair.l0]; rw [if_neg (by omega), if_pos (by omega), spec_l8Machines.eq, Option.bind_some, if_neg (by omega)]
    · refine evB_of (fun h => absurd h.1 h0) (fun _ => ev_stop fun k => ?_)
      simp only [spec_l8Stair.l0]; rw [if_neg (by omega), if_neg (by omega)]
  · intro i hi R hR
    refine evB_leaf _ (fun e k => ?_) (fun e k => ?_) hR
    · by_cases c : 0 < i
      · simp only [spec_l8Stair.l0]; rw [if_pos (by omega), if_pos (by omega), wr (x := (l.length : Int) - 1) (by omega) (by omega), spec_l1In.eq, Option.bind_some, if_pos (by simpa using e.1), if_pos (by omega), wr (x := (i : Int) - 1) (by omega) (by omega), if_pos (by omega), if_pos (by omega), if_neg (by have := e.2 c; omega), wr1 (by omega)]
      · simp only [spec_l8Stair.l0]; rw [if_pos (by omega), if_pos (by omega), wr (x := (l.length : Int) - 1) (by omega) (by omega), spec_l1In.eq, Option.bind_some, if_pos (by simpa using e.1), if_neg (by omega), wr1 (by omega)]
    · by_cases e1 : 0 ≤ rd s (i : Int) ∧ rd s (i : Int) ≤ (l.length : Int) - 1
      · have c : 0 < i := Classical.byContradiction fun c => e ⟨e1, fun c' => absurd c' c⟩
        have e2 : rd s ((i : Int) - 1) > rd s (i : Int) := by
          by_cases q : rd s ((i : Int) - 1) ≤ rd s (i : Int)
          · exact absurd ⟨e1, fun _ => q⟩ e
          · omega
        simp only [spec_l8Stair.l0]; rw [if_pos (by omega), if_pos (by omega), wr (x := (l.length : Int) - 1) (by omega) (by omega), spec_l1In.eq, Option.bind_some, if_pos (by simpa using e1), if_pos (by omega), wr (x := (i : Int) - 1) (by omega) (by omega), if_pos (by omega), if_pos (by omega), if_pos e2]
      · simp only [spec_l8Stair.l0]; rw [if_pos (by omega), if_pos (by omega), wr (x := (l.length : Int) - 1) (by omega) (by omega), spec_l1In.eq, Option.bind_some, if_neg (by simpa using e1)]

theorem impl_isStaircase.ev (l : List (List Int)) (s : List Int) (hl : l.length ≤ 1000000000) (h0 : 0 < l.length) (hm : 1 ≤ machP l) (hm3 : machP l ≤ 3) : EvB (fun k => impl_isStaircase.f k l s) (StairOk l.length (machP l) s) := by
  unfold impl_isStaircase.f
  simp only [impl_machinesOf.eq, Option.bind_some]
  have no : ∀ {P : Prop}, ¬ P → EvB (fun k => impl_isStaircase.j0 k l s true) P := fun hP => evB_of (fun h => absurd h hP) (fun _ => ev_stop fun k => by simp only [impl_isStaircase.j0]; rfl)
  by_cases e : (s.length : Int) = (machP l : Int)
  · simp only [if_pos e, wr (x := (s.length : Int) - 1) (by omega) (by omega), if_pos (show 0 ≤ (s.length : Int) - 1 by omega), if_pos (show (s.length : Int) - 1 < (s.length : Int) by omega), wr (x := (l.length : Int) - 1) (by omega) (by omega)]
    by_cases q : rd s ((s.length : Int) - 1) = (l.length : Int) - 1
    · rw [show (rd s ((s.length : Int) - 1) != (l.length : Int) - 1) = false by simpa using q]
      have key := rev_ind (P := fun i => EvB (fun k => impl_isStaircase.l0 k l (if i = 0 then 0 else rd s ((i : Int) - 1)) s (s.length : Int) (i : Int)) (∀ j, i ≤ j → j < s.length → ((if j = 0 then 0 else rd s ((j : Int) - 1)) ≤ rd s (j : Int) ∧ rd s (j : Int) ≤ (l.length : Int) - 1))) s.length ?_ ?_ 0 (Nat.zero_le _)
      · refine evB_step _ (fun k => ?_) (evB_iff (by simpa using key) ?_)
        · simp only [impl_isStaircase.j0]; rfl
        · unfold StairOk
          constructor
          · intro H
            have pos : ∀ i, i < s.length → 0 ≤ rd s (i : Int) := by
              intro i
              induction i with
              | zero => intro hi; have := (H 0 hi).1; simpa using this
              | succ i ih =>
                intro hi
                have h1 := ih (by omega)
                have h2 := (H (i + 1) hi).1
                rw [if_neg (by omega), show (((i + 1 : Nat) : Int) - 1) = (i : Int) by omega] at h2
                omega
            refine ⟨fun i hi => ⟨⟨pos i hi, (H i hi).2⟩, fun c => ?_⟩, h0, by omega, q⟩
            have := (H i hi).1
            rwa [if_neg (by omega)] at this
          · intro H i hi
            have h := H.1 i hi
            refine ⟨?_, h.1.2⟩
            by_cases c : i = 0
            · rw [if_pos c]; exact h.1.1
            · rw [if_neg c]; exact h.2 (by omega)
      · refine evB_of (fun _ => ev_stop fun k => ?_) (fun h => absurd (fun j h1 h2 => absurd h1 (by omega)) h)
        simp only [impl_isStaircase.l0]; rw [if_neg (by omega)]
      · intro i hi ih
        have st : (∀ j, i ≤ j → j < s.length → ((if j = 0 then 0 else rd s ((j : Int) - 1)) ≤ rd s (j : Int) ∧ rd s (j : Int) ≤ (l.length : Int) - 1)) ↔ (((if i = 0 then 0 else rd s ((i : Int) - 1)) ≤ rd s (i : Int) ∧ rd s (i : Int) ≤ (l.length : Int) - 1) ∧ ∀ j, i + 1 ≤ j → j < s.length → ((if j = 0 then 0 else rd s ((j : Int) - 1)) ≤ rd s (j : Int) ∧ rd s (j : Int) ≤ (l.length : Int) - 1)) := by
          constructor
          · intro H; exact ⟨H i (Nat.le_refl _) hi, fun j h1 h2 => H j (by omega) h2⟩
          · rintro ⟨H0, H⟩ j h1 h2
            by_cases c : j = i
            · subst c; exact H0
            · exact H j (by omega) h2
        rw [st]
        refine evB_leaf _ (fun e1 k => ?_) (fun e1 k => ?_) ih
        · simp only [impl_isStaircase.l0]; rw [if_pos (by omega), if_pos (by omega), if_pos (by omega), wr (x := (l.length : Int) - 1) (by omega) (by omega), impl_within.eq, Option.bind_some, if_pos (decide_eq_true e1), wr1 (by omega), if_neg (by omega), show (((i + 1 : Nat) : Int) - 1) = (i : Int) by omega]
        · simp only [impl_isStaircase.l0]; rw [if_pos (by omega), if_pos (by omega), if_pos (by omega), wr (x := (l.length : Int) - 1) (by omega) (by omega), impl_within.eq, Option.bind_some, if_neg (fun h => e1 (of_decide_eq_true h))]
    · rw [show (rd s ((s.length : Int) - 1) != (l.length : Int) - 1) = true by simpa using q]
      exact no (fun h => q h.2.2.2)
  · simp only [if_neg e]
    exact no (fun h => e (by have := h.2.2.1; omega))

theorem stairs_both (l : List (List Int)) (o s : List Int) (h : FlowTwo l o) (hs : StairOk l.length (machP l) s) : ∃ r, Ev (fun k => spec_l8Length.f k l o s) r ∧ Ev (fun k => impl_stairLength.f k l o s) r := by
  have hl := h.1.1
  have hm := h.1.2.1
  have hsl := hs.2.2.1
  have hol := h.2.1
  have key := rev_ind (P := fun i => ∀ sum at' : Int, 0 ≤ at' → (∀ _ : i < s.length, at' ≤ rd s (i : Int)) → Sim (fun k => spec_l8Length.l0 k l o s sum at' (i : Int)) (fun k => impl_stairLength.l0 k l o sum at' s (s.length : Int) (i : Int))) s.length ?_ ?_ 0 (Nat.zero_le _) 0 0 (by omega) (fun h' => (hs.1 0 h').1.1)
  · exact key
  · intro sum at' _ _
    refine sim_stop (r := sum) (fun k => ?_) (fun k => ?_)
    · simp only [spec_l8Length.l0]; rw [if_neg (by omega)]
    · simp only [impl_stairLength.l0]; rw [if_neg (by omega)]
  · intro i hi ih sum at' h0 h1
    have h1 := h1 hi
    have hsi := (hs.1 i hi).1
    obtain ⟨S, hS⟩ : ∃ S : Nat, rd s (i : Int) = S := ⟨(rd s (i : Int)).toNat, by omega⟩
    obtain ⟨A, rfl⟩ : ∃ A : Nat, at' = A := ⟨at'.toNat, by omega⟩
    rw [hS] at hsi h1
    have row := rev_ind (P := fun q => ∀ sum : Int, Sim (fun k => spec_l8Length.l1 k l o s sum (i : Int) (q : Int)) (fun k => impl_stairLength.l1 k l o sum (i : Int) (S : Int) (q : Int) s (s.length : Int) (i : Int))) (S + 1) ?_ ?_ A (by omega) sum
    · refine sim_step _ _ (fun k => ?_) (fun k => ?_) row
      · simp only [spec_l8Length.l0]; rw [if_pos (by omega)]
      · simp only [impl_stairLength.l0]; rw [if_pos (by omega), if_pos (by omega), if_pos (by omega), hS]
    · intro sum
      refine sim_step _ _ (fun k => ?_) (fun k => ?_) (ih sum (S : Int) (by omega) (fun hh => ?_))
      · simp only [spec_l8Length.l1]; rw [if_pos (by omega), if_pos (by omega), hS, if_neg (by omega), wr1 (by omega)]
      · simp only [impl_stairLength.l1]; rw [if_neg (by omega), wr1 (by omega)]
      · have := (hs.1 (i + 1) hh).2 (by omega)
        rw [show (((i + 1 : Nat) : Int) - 1) = (i : Int) by omega, hS] at this
        exact this
    · intro q hq ih' sum
      have hqo : q < o.length := by omega
      have hx := h.2.2.2 _ (List.getElem_mem hqo)
      rw [← rd_nat hqo] at hx
      have hlen : (rd_L1 l (rd o (q : Int))).length = machP l := by
        obtain ⟨x, hx'⟩ : ∃ x : Nat, rd o (q : Int) = x := ⟨(rd o (q : Int)).toNat, by omega⟩
        rw [hx', rdL_nat (by omega)]
        exact (h.1.2.2 _ (List.getElem_mem (by omega))).1
      refine sim_step _ _ (fun k => ?_) (fun k => ?_) (ih' (wrap64 (sum + rd (rd_L1 l (rd o (q : Int))) (i : Int))))
      · simp only [spec_l8Length.l1]; rw [if_pos (by omega), if_pos (by omega), hS, if_pos (by omega), if_pos (by omega), if_pos (by omega), if_pos hx.1, if_pos hx.2, if_pos (by omega), wr1 (by omega)]
      · simp only [impl_stairLength.l1]; rw [if_pos (by omega), if_pos (by omega), if_pos (by omega), if_pos hx.1, if_pos hx.2, if_pos (by omega), if_pos (by omega), wr1 (by omega)]
theorem core_StairLength (l : List (List Int)) (o s : List Int) (hl : l.length ≤ 1048576) (hr : ∀ y ∈ l, y.length ≤ 1048576) (ho : o.length ≤ 1048576) (hs : s.length ≤ 1048576) : ∃ r b, Ev (fun k => spec_StairLength.f k l o s) (r, b) ∧ Ev (fun k => impl_StairLength.f k l o s) (r, b) := by
  unfold spec_StairLength.f impl_StairLength.f
  have es := spec_l8Two.ev l o (by omega) (fun y hy => by have := hr y hy; omega) (by omega)
  have ei := impl_isFlow.ev l o (fun y hy => by have := hr y hy; omega) (by omega)
  by_cases h : FlowTwo l o
  · have e2 := spec_l8Stair.ev l s (by omega) h.1.2.1.1 (by omega)
    by_cases h0 : (l.length : Int) = 0
    · refine ⟨0, false, ev_guard' es (fun _ => ev_guard' e2 (fun h2 => absurd h2.2.1 (by omega)) (fun _ => Ev.now _)) (fun hn => absurd h hn), ev_guard' ei (fun _ => ?_) (fun hn => absurd h hn)⟩
      simp only [if_pos h0]; exact Ev.now _
    · have e3 := impl_isStaircase.ev l s (by omega) (by omega) h.1.2.1.1 h.1.2.1.2
      by_cases h2 : StairOk l.length (machP l) s
      · obtain ⟨r, a, b⟩ := stairs_both l o s h h2
        refine ⟨r, true, ev_guard' es (fun _ => ev_guard' e2 (fun _ => ev_bind r a (Ev.now _)) (fun hn => absurd h2 hn)) (fun hn => absurd h hn), ev_guard' ei (fun _ => ?_) (fun hn => absurd h hn)⟩
        simp only [if_neg h0]
        exact ev_guard' e3 (fun _ => ev_bind r b (Ev.now _)) (fun hn => absurd h2 hn)
      · refine ⟨0, false, ev_guard' es (fun _ => ev_guard' e2 (fun h3 => absurd h3 h2) (fun _ => Ev.now _)) (fun hn => absurd h hn), ev_guard' ei (fun _ => ?_) (fun hn => absurd h hn)⟩
        simp only [if_neg h0]
        exact ev_guard' e3 (fun h3 => absurd h3 h2) (fun _ => Ev.now _)
  · exact ⟨0, false, ev_guard' es (fun h1 => absurd h1 h) (fun _ => Ev.now _), ev_guard' ei (fun h1 => absurd h1 h) (fun _ => Ev.now _)⟩

end Go.Proofs.Ytphgpffgidfmmaa.Pure
