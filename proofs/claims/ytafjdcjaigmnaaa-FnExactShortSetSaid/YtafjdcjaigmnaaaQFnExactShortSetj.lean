/- Proved here: what functions that the law FnExactShortSet reaches answer (guard, vectorOk, spec_l10Vector, impl_isVector, supplyF, spec_l10Supply, impl_supplyOf). Conditions: those that each theorem names. -/
import Derived.Test.YtafjdcjaigmnaaaQFnExactShortSeti
set_option linter.unusedVariables false
set_option linter.unusedSimpArgs false
namespace Go.Proofs.Ytafjdcjaigmnaaa.Pure
open Go.RowKit Go.Proofs.Ytafjdcjaigmnaaa.XFnExactShortSet Go.Proofs.YtafjdcjaigmnaaaW.PrintWords Go.Proofs.YtafjdcjaigmnaaaW.PrintLast

theorem ev_guard {g : Nat → Option Bool} {P : Prop} {α : Type} {F : Nat → Option α} {z r : α} (h : EvB g P) (h1 : P → Ev F r) (h2 : ¬ P → r = z) : Ev (fun n => (g n).bind fun t => if t = true then F n else some z) r := by
  refine evB_bind h (fun hp => ?_) (fun hp => ?_)
  · simp only [if_true]; exact h1 hp
  · simp only [Bool.false_eq_true, if_false]; rw [h2 hp]; exact Ev.now _
theorem ev_guard' {g : Nat → Option Bool} {P : Prop} {α : Type} {F G : Nat → Option α} {r : α} (h : EvB g P) (h1 : P → Ev F r) (h2 : ¬ P → Ev G r) : Ev (fun n => (g n).bind fun t => if t = true then F n else G n) r := by
  refine evB_bind h (fun hp => ?_) (fun hp => ?_)
  · simp only [if_true]; exact h1 hp
  · simp only [Bool.false_eq_true, if_false]; exact h2 hp

def VecOk (n : Nat) (l : List Int) : Prop := l.length = n ∧ ∀ x ∈ l, 0 ≤ x ∧ x ≤ 2000

theorem spec_l10Vector.ev (jobs : List J) (l : List Int) (hl : l.length ≤ 1000000000000) : EvB (fun k => spec_l10Vector.f k jobs l) (VecOk jobs.length l) := by
  have key := rev_ind (P := fun i => EvB (fun k => spec_l10Vector.l0 k jobs l (i : Int)) (l.length = jobs.length ∧ ∀ x ∈ l.drop i, 0 ≤ x ∧ x ≤ 2000)) l.length ?_ ?_ 0 (Nat.zero_le _)
  · simpa [spec_l10Vector.f, VecOk] using key
  · refine ⟨((l.length : Int) == (jobs.length : Int)), ev_stop fun k => ?_, ?_⟩
    · simp only [spec_l10Vector.l0]; rw [if_neg (by omega)]
    · simp only [beq_iff_eq, List.drop_length, List.not_mem_nil, false_implies, implies_true, and_true]
      omega
  · intro i hi ih
    rw [drop_cons hi]
    by_cases q : 0 ≤ l[i] ∧ l[i] ≤ 2000
    · obtain ⟨c, hb, hP⟩ := ih
      refine ⟨c, ev_go _ (fun k => ?_) hb, hP.trans ⟨fun h1 => ⟨h1.1, fun x hx => ?_⟩, fun h1 => ⟨h1.1, fun x hx => h1.2 x (List.mem_cons_of_mem _ hx)⟩⟩⟩
      · simp only [spec_l10Vector.l0]; rw [if_pos (by omega), if_pos (by omega), rd_nat hi, spec_l1In.eq, Option.bind_some, if_pos (by simpa using q), wr1 (by omega)]
      · rcases List.mem_cons.1 hx with rfl | hx
        · exact q
        · exact h1.2 x hx
    · refine evB_of (fun h => absurd (h.2 _ List.mem_cons_self) q) (fun _ => ev_stop fun k => ?_)
      simp only [spec_l10Vector.l0]; rw [if_pos (by omega), if_pos (by omega), rd_nat hi, spec_l1In.eq, Option.bind_some, if_neg (by simpa using q)]

theorem impl_isVector.ev (jobs : List J) (l : List Int) (hl : l.length ≤ 1000000000000) : EvB (fun k => impl_isVector.f k jobs l) (VecOk jobs.length l) := by
  unfold impl_isVector.f VecOk
  by_cases e : (l.length : Int) = (jobs.length : Int)
  · simp only [if_pos e]
    obtain ⟨b, hb, hP⟩ := impl_allWithin.ev l 0 2000 (by omega)
    exact ⟨b, ev_bind b hb (Ev.now _), hP.trans ⟨fun h => ⟨by omega, h⟩, fun h => h.2⟩⟩
  · simp only [if_neg e]
    exact evB_of (fun h => absurd (by rw [h.1]) e) (fun _ => Ev.now _)

def supplyF (jobs : List J) (ends : List Int) : List Int → Int → Int
  | [], s => s
  | x :: xs, s => supplyF jobs ends xs (wrap64 (s + wrap64 ((rd_T54 jobs x).f0 * rd ends x)))

theorem spec_l10Supply.ev (jobs : List J) (ends l : List Int) (he : ends.length = jobs.length) (hl : l.length ≤ 1000000000000) (hx : ∀ x ∈ l, 0 ≤ x ∧ x < jobs.length) : Ev (fun k => spec_l10Supply.f k jobs ends l) (supplyF jobs ends l 0) := by
  have key := rev_ind (P := fun i => ∀ s, Ev (fun k => spec_l10Supply.l0 k jobs ends l s (i : Int)) (supplyF jobs ends (l.drop i) s)) l.length ?_ ?_ 0 (Nat.zero_le _) 0
  · simpa [spec_l10Supply.f] using key
  · intro s
    refine ev_stop fun k => ?_
    simp only [spec_l10Supply.l0]; rw [if_neg (by omega), List.drop_length]; rfl
  · intro i hi ih s
    rw [drop_cons hi, supplyF]
    have hx := hx _ (List.getElem_mem hi)
    refine ev_go _ (fun k => ?_) (ih _)
    simp only [spec_l10Supply.l0]; rw [if_pos (by omega), if_pos (by omega), rd_nat hi, if_pos hx.1, if_pos hx.2, if_pos (by omega), wr1 (by omega)]

theorem impl_supplyOf.ev (jobs : List J) (ends l : List Int) (he : ends.length = jobs.length) (hl : l.length ≤ 1000000000000) (hx : ∀ x ∈ l, 0 ≤ x ∧ x < jobs.length) : Ev (fun k => impl_supplyOf.f k jobs ends l) (supplyF jobs ends l 0) := by
  have key := rev_ind (P := fun i => ∀ s, Ev (fun k => impl_supplyOf.l0 k jobs ends s l (l.length : Int) (i : Int)) (supplyF jobs ends (l.drop i) s)) l.length ?_ ?_ 0 (Nat.zero_le _) 0
  · simpa [impl_supplyOf.f] using key
  · intro s
    refine ev_stop fun k => ?_
    simp only [impl_supplyOf.l0]; rw [if_neg (by omega), List.drop_length]; rfl
  · intro i hi ih s
    rw [drop_cons hi, supplyF]
    have hx := hx _ (List.getElem_mem hi)
    refine ev_go _ (fun k => ?_) (ih _)
    simp only [impl_supplyOf.l0]; rw [if_pos (by omega), if_pos (by omega), if_pos (by omega), rd_nat hi, if_pos hx.1, if_pos hx.2, if_pos (by omega), wr1 (by omega)]

end Go.Proofs.Ytafjdcjaigmnaaa.Pure
