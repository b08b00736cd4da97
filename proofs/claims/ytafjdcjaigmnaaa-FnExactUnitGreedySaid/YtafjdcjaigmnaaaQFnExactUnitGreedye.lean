/- Proved here: what functions that the law FnExactUnitGreedy reaches answer (jobT, ljobT, laws_szJobS, laws_toJobS, laws_eqJobS, spec_l2Good, impl_IsJobs). Conditions: those that each theorem names. -/
import Derived.Test.YtafjdcjaigmnaaaQFnExactUnitGreedyb
set_option linter.unusedVariables false
set_option linter.unusedSimpArgs false
namespace Go.Proofs.Ytafjdcjaigmnaaa.Pure
open Go.RowKit Go.Proofs.Ytafjdcjaigmnaaa.XFnExactUnitGreedy Go.Proofs.YtafjdcjaigmnaaaW.PrintWords Go.Proofs.YtafjdcjaigmnaaaW.PrintLast

abbrev J := S54
theorem rdJ {l : List J} {i : Nat} (h : i < l.length) : rd_T54 l (i : Int) = l[i] := by simp [rd_T54, h]
theorem rdJ_zero {l : List J} (h : 0 < l.length) : rd_T54 l 0 = l[0] := by simp [rd_T54, h]
/-- A valid job. -/
def JobOk (j : J) : Prop := (1 ≤ j.f0 ∧ j.f0 ≤ 50) ∧ (0 ≤ j.f1 ∧ j.f1 ≤ 50) ∧ (0 ≤ j.f2 ∧ j.f2 ≤ 500) ∧ (0 ≤ j.f3 ∧ j.f3 ≤ 500)
/-- A list of jobs. -/
def JobsOk (l : List J) : Prop := l.length ≤ 8 ∧ ∀ j ∈ l, JobOk j

abbrev LJ := S56
theorem rdLJ {l : List LJ} {i : Nat} (h : i < l.length) : rd_T56 l (i : Int) = l[i] := by simp [rd_T56, h]
def cvJ (x : LJ) : J := ⟨x.f0, x.f1, x.f2, x.f3⟩

theorem laws_szJobS.eq (l : List LJ) (a : Int) (h0 : 0 ≤ a) (h1 : a ≤ 1048576) (hl : l.length ≤ 9223372036854775807) : ∃ n, laws_szJobS.f l a = some n ∧ n ≤ 1048576 ∧ (0 ≤ n → l.length ≤ 1048576) := by
  unfold laws_szJobS.f
  rw [wr (by omega) (by omega)]
  by_cases h : a - (l.length : Int) < 0
  · exact ⟨-1, by rw [if_pos h], by omega, fun h => absurd h (by omega)⟩
  · exact ⟨_, by rw [if_neg h], by omega, fun _ => by omega⟩

theorem laws_toJobS.ev (l : List LJ) (hl : l.length ≤ 1000000000000) : Ev (fun k => laws_toJobS.f k l) (l.map cvJ) := by
  unfold laws_toJobS.f
  rw [show (fun k => if 0 ≤ (l.length : Int) then (if ((l.length : Int) : Int).toNat ≤ 8796093022208 then (laws_toJobS.l0 k l (List.replicate ((l.length : Int) : Int).toNat z54) 0) else none) else none) = fun k => laws_toJobS.l0 k l (List.replicate l.length z54) 0 from funext fun k => by rw [if_pos (by omega), if_pos (by omega)]; rfl]
  have key := rev_ind (P := fun i => Ev (fun k => laws_toJobS.l0 k l ((l.map cvJ).take i ++ (List.replicate l.length z54).drop i) (i : Int)) (l.map cvJ)) l.length ?_ ?_ 0 (Nat.zero_le _)
  · simpa using key
  · refine ev_stop fun k => ?_
    simp only [laws_toJobS.l0]; rw [if_neg (by omega), List.take_of_length_le (by simp)]; simp
  · intro i hi ih
    have hlen : ((l.map cvJ).take i ++ (List.replicate l.length z54).drop i).length = l.length := by simp; omega
    refine ev_go _ (fun k => ?_) ih
    simp only [laws_toJobS.l0, laws_toJob.f, Option.bind_some]; rw [if_pos (by omega), if_pos (by omega), if_pos (by rw [hlen]; omega), rdLJ hi, wr1 (by omega)]
    have := set_copy (l := l.map cvJ) (z := List.replicate l.length z54) (i := i) (by simpa using hi) (by simpa using hi)
    rw [show ((i : Int)).toNat = i by omega, ← this]
    simp [cvJ]

theorem laws_eqJob.eq (a b : J) : ∃ c, laws_eqJob.f a.f0 a.f1 a.f2 a.f3 b.f0 b.f1 b.f2 b.f3 = some c ∧ (c = true ↔ a = b) := by
  obtain ⟨a0, a1, a2, a3⟩ := a
  obtain ⟨b0, b1, b2, b3⟩ := b
  unfold laws_eqJob.f
  by_cases h0 : a0 = b0
  · by_cases h1 : a1 = b1
    · by_cases h2 : a2 = b2
      · by_cases h3 : a3 = b3
        · exact ⟨true, by simp [h0, h1, h2, h3], by simp [h0, h1, h2, h3]⟩
        · exact ⟨false, by simp [h0, h1, h2, h3], by simp [h3]⟩
      · exact ⟨false, by simp [h0, h1, h2], by simp [h2]⟩
    · exact ⟨false, by simp [h0, h1], by simp [h1]⟩
  · exact ⟨false, by simp [h0], by simp [h0]⟩
theorem laws_eqJobS.ev (l m : List J) (hl : l.length ≤ 1000000000000000) : EvB (fun k => laws_eqJobS.f k l m) (l = m) := by
  unfold laws_eqJobS.f
  by_cases e : (l.length : Int) = (m.length : Int)
  · simp only [if_pos e]
    have key := rev_ind (P := fun i => EvB (fun k => laws_eqJobS.l0 k l m (i : Int)) (l.drop i = m.drop i)) l.length ?_ ?_ 0 (Nat.zero_le _)
    · simpa using key
    · refine evB_of (fun _ => ev_stop fun k => ?_) (fun h => absurd ?_ h)
      · simp only [laws_eqJobS.l0]; rw [if_neg (by omega)]
      · rw [List.drop_eq_nil_of_le (by omega), List.drop_eq_nil_of_le (by omega)]
    · intro i hi ih
      have hm : i < m.length := by omega
      rw [drop_cons hi, drop_cons hm]
      obtain ⟨c, hc, hce⟩ := laws_eqJob.eq l[i] m[i]
      by_cases q : l[i] = m[i]
      · obtain ⟨b, hb, hP⟩ := ih
        refine ⟨b, ev_go _ (fun k => ?_) hb, by rw [hP, q]; exact ⟨fun h => by rw [h], fun h => (List.cons.inj h).2⟩⟩
        simp only [laws_eqJobS.l0]; rw [if_pos (by omega), if_pos (by omega), if_pos (by omega), rdJ hi, rdJ hm, hc, Option.bind_some, if_pos (hce.2 q), wr1 (by omega)]
      · refine evB_of (fun h => absurd (List.cons.inj h).1 q) (fun _ => ev_stop fun k => ?_)
        simp only [laws_eqJobS.l0]; rw [if_pos (by omega), if_pos (by omega), if_pos (by omega), rdJ hi, rdJ hm, hc, Option.bind_some, if_neg (fun h => q (hce.1 h))]
  · simp only [if_neg e]
    exact evB_of (fun h => absurd (by rw [h]) e) (fun _ => Ev.now _)
theorem laws_eqJobS.same (l : List J) (hl : l.length ≤ 1000000000000000) : Ev (fun k => laws_eqJobS.f k l l) true := evB_true (laws_eqJobS.ev l l hl) rfl

theorem spec_l2Job.eq (j : J) : ∃ c, spec_l2Job.f j.f0 j.f1 j.f2 j.f3 = some c ∧ (c = true ↔ JobOk j) := by
  unfold spec_l2Job.f JobOk
  simp only [spec_l1In.eq, Option.bind_some]
  by_cases h0 : 1 ≤ j.f0 ∧ j.f0 ≤ 50
  · by_cases h1 : 0 ≤ j.f1 ∧ j.f1 ≤ 50
    · by_cases h2 : 0 ≤ j.f2 ∧ j.f2 ≤ 500
      · exact ⟨decide (0 ≤ j.f3 ∧ j.f3 ≤ 500), by simp [h0, h1, h2], by simp [h0, h1, h2]⟩
      · exact ⟨false, by simp [h0, h1, h2], by simp [h2]⟩
    · exact ⟨false, by simp [h0, h1], by simp [h1]⟩
  · exact ⟨false, by simp [h0], by simp [h0]⟩
theorem spec_l2Good.ev (l : List J) (hl : l.length ≤ 1000000000000000) : EvB (fun k => spec_l2Good.f k l) (JobsOk l) := by
  have key := rev_ind (P := fun i => EvB (fun k => spec_l2Good.l0 k l (i : Int)) (l.length ≤ 8 ∧ ∀ j ∈ l.drop i, JobOk j)) l.length ?_ ?_ 0 (Nat.zero_le _)
  · simpa [spec_l2Good.f, JobsOk] using key
  · refine ⟨decide ((l.length : Int) ≤ 8), ev_stop fun k => ?_, by simp; omega⟩
    simp only [spec_l2Good.l0]; rw [if_neg (by omega)]
  · intro i hi ih
    rw [drop_cons hi]
    obtain ⟨c, hc, hce⟩ := spec_l2Job.eq l[i]
    by_cases q : JobOk l[i]
    · obtain ⟨b, hb, hP⟩ := ih
      refine ⟨b, ev_go _ (fun k => ?_) hb, hP.trans ⟨fun h => ⟨h.1, fun x hx => ?_⟩, fun h => ⟨h.1, fun x hx => h.2 x (List.mem_cons_of_mem _ hx)⟩⟩⟩
      · simp only [spec_l2Good.l0]; rw [if_pos (by omega), if_pos (by omega), rdJ hi, hc, Option.bind_some, if_pos (hce.2 q), wr1 (by omega)]
      · rcases List.mem_cons.1 hx with rfl | hx
        · exact q
        · exact h.2 x hx
    · refine evB_of (fun h => absurd (h.2 _ List.mem_cons_self) q) (fun _ => ev_stop fun k => ?_)
      simp only [spec_l2Good.l0]; rw [if_pos (by omega), if_pos (by omega), rdJ hi, hc, Option.bind_some, if_neg (fun h => q (hce.1 h))]

theorem impl_IsJobs.ev (l : List J) : EvB (fun k => impl_IsJobs.f k l) (JobsOk l) := by
  unfold impl_IsJobs.f
  by_cases h8 : (l.length : Int) > 8
  · simp only [if_pos h8]
    exact evB_of (fun h => absurd h.1 (by omega)) (fun _ => Ev.now _)
  · simp only [if_neg h8]
    have key := rev_ind (P := fun i => EvB (fun k => impl_IsJobs.l0 k l (l.length : Int) (i : Int)) (∀ j ∈ l.drop i, JobOk j)) l.length ?_ ?_ 0 (Nat.zero_le _)
    · refine evB_iff (by simpa using key) ⟨fun h => ⟨by omega, h⟩, fun h => h.2⟩
    · refine evB_of (fun _ => ev_stop fun k => ?_) (fun h => absurd (by simp) h)
      simp only [impl_IsJobs.l0]; rw [if_neg (by omega)]
    · intro i hi ih
      rw [drop_cons hi]
      by_cases q : JobOk l[i]
      · obtain ⟨b, hb, hP⟩ := ih
        refine ⟨b, ev_go _ (fun k => ?_) hb, hP.trans ⟨fun h x hx => ?_, fun h x hx => h x (List.mem_cons_of_mem _ hx)⟩⟩
        · simp only [impl_IsJobs.l0, impl_within.eq, impl_isDate.f, Option.bind_some]
          rw [if_pos (by omega), if_pos (by omega), if_pos (by omega), rdJ hi, if_pos (by simpa using q.1), if_pos (by simpa using q.2.1), if_pos (by simpa using q.2.2.1), if_pos (by simpa using q.2.2.2), wr1 (by omega)]
        · rcases List.mem_cons.1 hx with rfl | hx
          · exact q
          · exact h x hx
      · refine evB_of (fun h => absurd (h _ List.mem_cons_self) q) (fun _ => ev_stop fun k => ?_)
        simp only [impl_IsJobs.l0, impl_within.eq, impl_isDate.f, Option.bind_some]
        rw [if_pos (by omega), if_pos (by omega), if_pos (by omega), rdJ hi]
        unfold JobOk at q
        by_cases h0 : 1 ≤ l[i].f0 ∧ l[i].f0 ≤ 50
        · rw [if_pos (by simpa using h0)]
          by_cases h1 : 0 ≤ l[i].f1 ∧ l[i].f1 ≤ 50
          · rw [if_pos (by simpa using h1)]
            by_cases h2 : 0 ≤ l[i].f2 ∧ l[i].f2 ≤ 500
            · rw [if_pos (by simpa using h2)]
              by_cases h3 : 0 ≤ l[i].f3 ∧ l[i].f3 ≤ 500
              · exact absurd ⟨h0, h1, h2, h3⟩ q
              · rw [if_neg (by simpa using h3)]
            · rw [if_neg (by simpa using h2)]
          · rw [if_neg (by simpa using h1)]
        · rw [if_neg (by simpa using h0)]

end Go.Proofs.Ytafjdcjaigmnaaa.Pure
