/- Proved here: what functions that the law FnExactLeastRegret reaches answer (jobT, ljobT, laws_szJobS, laws_toJobS, laws_eqJobS, spec_l2Good, impl_IsJobs, jobLists, laws_szJobSS, laws_toJobSS, laws_eqJobSS, spec_l11Lists, impl_AreScenarios). Conditions: those that each theorem names. -/
import Derived.Test.YtbcfmegepkhlpaaQFnExactLeastRegretb
set_option linter.unusedVariables false
set_option linter.unusedSimpArgs false
namespace Go.Proofs.Ytbcfmegepkhlpaa.Pure
open Go.RowKit Go.Proofs.Ytbcfmegepkhlpaa.XFnExactLeastRegret Go.Proofs.YtbcfmegepkhlpaaW.PrintWords Go.Proofs.YtbcfmegepkhlpaaW.PrintLast

abbrev J := S76
theorem rdJ {l : List J} {i : Nat} (h : i < l.length) : rd_T76 l (i : Int) = l[i] := by simp [rd_T76, h]
theorem rdJ_zero {l : List J} (h : 0 < l.length) : rd_T76 l 0 = l[0] := by simp [rd_T76, h]
/-- A valid job. -/
def JobOk (j : J) : Prop := (1 ≤ j.f0 ∧ j.f0 ≤ 50) ∧ (0 ≤ j.f1 ∧ j.f1 ≤ 50) ∧ (0 ≤ j.f2 ∧ j.f2 ≤ 500) ∧ (0 ≤ j.f3 ∧ j.f3 ≤ 500)
/-- A list of jobs. -/
def JobsOk (l : List J) : Prop := l.length ≤ 8 ∧ ∀ j ∈ l, JobOk j

abbrev LJ := S78
theorem rdLJ {l : List LJ} {i : Nat} (h : i < l.length) : rd_T78 l (i : Int) = l[i] := by simp [rd_T78, h]
def cvJ (x : LJ) : J := ⟨x.f0, x.f1, x.f2, x.f3⟩

theorem laws_szJobS.eq (l : List LJ) (a : Int) (h0 : 0 ≤ a) (h1 : a ≤ 1048576) (hl : l.length ≤ 9223372036854775807) : ∃ n, laws_szJobS.f l a = some n ∧ n ≤ 1048576 ∧ (0 ≤ n → l.length ≤ 1048576) := by
  unfold laws_szJobS.f
  rw [wr (by omega) (by omega)]
  by_cases h : a - (l.length : Int) < 0
  · exact ⟨-1, by rw [if_pos h], by omega, fun h => absurd h (by omega)⟩
  · exact ⟨_, by rw [if_neg h], by omega, fun _ => by omega⟩

theorem laws_toJobS.ev (l : List LJ) (hl : l.length ≤ 1000000000000) : Ev (fun k => laws_toJobS.f k l) (l.map cvJ) := by
  unfold laws_toJobS.f
  rw [show (fun k => if 0 ≤ (l.length : Int) then (if ((l.length : Int) : Int).toNat ≤ 8796093022208 then (laws_toJobS.l0 k l (List.replicate ((l.length : Int) : Int).toNat z76) 0) else none) else none) = fun k => laws_toJobS.l0 k l (List.replicate l.length z76) 0 from funext fun k => by rw [if_pos (by omega), if_pos (by omega)]; rfl]
  have key := rev_ind (P := fun i => Ev (fun k => laws_toJobS.l0 k l ((l.map cvJ).take i ++ (List.replicate l.length z76).drop i) (i : Int)) (l.map cvJ)) l.length ?_ ?_ 0 (Nat.zero_le _)
  · simpa using key
  · refine ev_stop fun k => ?_
    simp only [laws_toJobS.l0]; rw [if_neg (by omega), List.take_of_length_le (by simp)]; simp
  · intro i hi ih
    have hlen : ((l.map cvJ).take i ++ (List.replicate l.length z76).drop i).length = l.length := by simp; omega
    refine ev_go _ (fun k => ?_) ih
    simp only [laws_toJobS.l0, laws_toJob.f, Option.bind_some]; rw [if_pos (by omega), if_pos (by omega), if_pos (by rw [hlen]; omega), rdLJ hi, wr1 (by omega)]
    have := set_copy (l := l.map cvJ) (z := List.replicate l.length z76) (i := i) (by simpa using hi) (by simpa using hi)
    rw [show ((i : Int)).toNat = i by omega, ← this]
    simp [cvJ]

theorem laws_eqJob.eq (a b : J) : ∃ c, laws_eqJob.f a.f0 a.f1 a.f2 a.f3 b.f0 b.f1 b.f2 b.f3 = some c ∧ (c = true ↔ a = b) := by
  obtain ⟨a0, a1, a2, a3⟩ := a
  obtain ⟨b0, b1, b2, b3⟩ := b
  unfold laws_eqJob.f
  by_cases h0 : a0 = b0
  · by_cases h1 : a1 = b1
    · by_cases h2 : a2 = b2
      · by_cases h3 : a3 = b3
        · exact ⟨true, by simp [h0, h1, h2, h3], by simp [h0, h1, h2, h3]⟩
        · exact ⟨false, by simp [h0, h1, h2, h3], by simp [h3]⟩
      · exact ⟨false, by simp [h0, h1, h2], by simp [h2]⟩
    · exact ⟨false, by simp [h0, h1], by simp [h1]⟩
  · exact ⟨false, by simp [h0], by simp [h0]⟩
theorem laws_eqJobS.ev (l m : List J) (hl : l.length ≤ 1000000000000000) : EvB (fun k => laws_eqJobS.f k l m) (l = m) := by
  unfold laws_eqJobS.f
  by_cases e : (l.length : Int) = (m.length : Int)
  · simp only [if_pos e]
    have key := rev_ind (P := fun i => EvB (fun k => laws_eqJobS.l0 k l m (i : Int)) (l.drop i = m.drop i)) l.length ?_ ?_ 0 (Nat.zero_le _)
    · simpa using key
    · refine evB_of (fun _ => ev_stop fun k => ?_) (fun h => absurd ?_ h)
      · simp only [laws_eqJobS.l0]; rw [if_neg (by omega)]
      · rw [List.drop_eq_nil_of_le (by omega), List.drop_eq_nil_of_le (by omega)]
    · intro i hi ih
      have hm : i < m.length := by omega
      rw [drop_cons hi, drop_cons hm]
      obtain ⟨c, hc, hce⟩ := laws_eqJob.eq l[i] m[i]
      by_cases q : l[i] = m[i]
      · obtain ⟨b, hb, hP⟩ := ih
        refine ⟨b, ev_go _ (fun k => ?_) hb, by rw [hP, q]; exact ⟨fun h => by rw [h], fun h => (List.cons.inj h).2⟩⟩
        simp only [laws_eqJobS.l0]; rw [if_pos (by omega), if_pos (by omega), if_pos (by omega), rdJ hi, rdJ hm, hc, Option.bind_some, if_pos (hce.2 q), wr1 (by omega)]
      · refine evB_of (fun h => absurd (List.cons.inj h).1 q) (fun _ => ev_stop fun k => ?_)
        simp only [laws_eqJobS.l0]; rw [if_pos (by omega), if_pos (by omega), if_pos (by omega), rdJ hi, rdJ hm, hc, Option.bind_some, if_neg (fun h => q (hce.1 h))]
  · simp only [if_neg e]
    exact evB_of (fun h => absurd (by rw [h]) e) (fun _ => Ev.now _)
theorem laws_eqJobS.same (l : List J) (hl : l.length ≤ 1000000000000000) : Ev (fun k => laws_eqJobS.f k l l) true := evB_true (laws_eqJobS.ev l l hl) rfl

theorem spec_l2Job.eq (j : J) : ∃ c, spec_l2Job.f j.f0 j.f1 j.f2 j.f3 = some c ∧ (c = true ↔ JobOk j) := by
  unfold spec_l2Job.f JobOk
  simp only [spec_l1In.eq, Option.bind_some]
  by_cases h0 : 1 ≤ j.f0 ∧ j.f0 ≤ 50
  · by_cases h1 : 0 ≤ j.f1 ∧ j.f1 ≤ 50
    · by_cases h2 : 0 ≤ j.f2 ∧ j.f2 ≤ 500
      · exact ⟨decide (0 ≤ j.f3 ∧ j.f3 ≤ 500), by simp [h0, h1, h2], by simp [h0, h1, h2]⟩
      · exact ⟨false, by simp [h0, h1, h2], by simp [h2]⟩
    · exact ⟨false, by simp [h0, h1], by simp [h1]⟩
  · exact ⟨false, by simp [h0], by simp [h0]⟩
theorem spec_l2Good.ev (l : List J) (hl : l.length ≤ 1000000000000000) : EvB (fun k => spec_l2Good.f k l) (JobsOk l) := by
  have key := rev_ind (P := fun i => EvB (fun k => spec_l2Good.l0 k l (i : Int)) (l.length ≤ 8 ∧ ∀ j ∈ l.drop i, JobOk j)) l.length ?_ ?_ 0 (Nat.zero_le _)
  · simpa [spec_l2Good.f, JobsOk] using key
  · refine ⟨decide ((l.length : Int) ≤ 8), ev_stop fun k => ?_, by simp; omega⟩
    simp only [spec_l2Good.l0]; rw [if_neg (by omega)]
  · intro i hi ih
    rw [drop_cons hi]
    obtain ⟨c, hc, hce⟩ := spec_l2Job.eq l[i]
    by_cases q : JobOk l[i]
    · obtain ⟨b, hb, hP⟩ := ih
      refine ⟨b, ev_go _ (fun k => ?_) hb, hP.trans ⟨fun h => ⟨h.1, fun x hx => ?_⟩, fun h => ⟨h.1, fun x hx => h.2 x (List.mem_cons_of_mem _ hx)⟩⟩⟩
      · simp only [spec_l2Good.l0]; rw [if_pos (by omega), if_pos (by omega), rdJ hi, hc, Option.bind_some, if_pos (hce.2 q), wr1 (by omega)]
      · rcases List.mem_cons.1 hx with rfl | hx
        · exact q
        · exact h.2 x hx
    · refine evB_of (fun h => absurd (h.2 _ List.mem_cons_self) q) (fun _ => ev_stop fun k => ?_)
      simp only [spec_l2Good.l0]; rw [if_pos (by omega), if_pos (by omega), rdJ hi, hc, Option.bind_some, if_neg (fun h => q (hce.1 h))]

theorem impl_IsJobs.ev (l : List J) : EvB (fun k => impl_IsJobs.f k l) (JobsOk l) := by
  unfold impl_IsJobs.f
  by_cases h8 : (l.length : Int) > 8
  · simp only [if_pos h8]
    exact evB_of (fun h => absurd h.1 (by omega)) (fun _ => Ev.now _)
  · simp only [if_neg h8]
    have key := rev_ind (P := fun i => EvB (fun k => impl_IsJobs.l0 k l (l.length : Int) (i : Int)) (∀ j ∈ l.drop i, JobOk j)) l.length ?_ ?_ 0 (Nat.zero_le _)
    · refine evB_iff (by simpa using key) ⟨fun h => ⟨by omega, h⟩, fun h => h.2⟩
    · refine evB_of (fun _ => ev_stop fun k => ?_) (fun h => absurd (by simp) h)
      simp only [impl_IsJobs.l0]; rw [if_neg (by omega)]
    · intro i hi ih
      rw [drop_cons hi]
      by_cases q : JobOk l[i]
      · obtain ⟨b, hb, hP⟩ := ih
        refine ⟨b, ev_go _ (fun k => ?_) hb, hP.trans ⟨fun h x hx => ?_, fun h x hx => h x (List.mem_cons_of_mem _ hx)⟩⟩
        · simp only [impl_IsJobs.l0, impl_within.eq, impl_isDate.f, Option.bind_some]
          rw [if_pos (by omega), if_pos (by omega), if_pos (by omega), rdJ hi, if_pos (by simpa using q.1), if_pos (by simpa using q.2.1), if_pos (by simpa using q.2.2.1), if_pos (by simpa using q.2.2.2), wr1 (by omega)]
        · rcases List.mem_cons.1 hx with rfl | hx
          · exact q
          · exact h x hx
      · refine evB_of (fun h => absurd (h _ List.mem_cons_self) q) (fun _ => ev_stop fun k => ?_)
        simp only [impl_IsJobs.l0, impl_within.eq, impl_isDate.f, Option.bind_some]
        rw [if_pos (by omega), if_pos (by omega), if_pos (by omega), rdJ hi]
        unfold JobOk at q
        by_cases h0 : 1 ≤ l[i].f0 ∧ l[i].f0 ≤ 50
        · rw [if_pos (by simpa using h0)]
          by_cases h1 : 0 ≤ l[i].f1 ∧ l[i].f1 ≤ 50
          · rw [if_pos (by simpa using h1)]
            by_cases h2 : 0 ≤ l[i].f2 ∧ l[i].f2 ≤ 500
            · rw [if_pos (by simpa using h2)]
              by_cases h3 : 0 ≤ l[i].f3 ∧ l[i].f3 ≤ 500
              · exact absurd ⟨h0, h1, h2, h3⟩ q
              · rw [if_neg (by simpa using h3)]
            · rw [if_neg (by simpa using h2)]
          · rw [if_neg (by simpa using h1)]
        · rw [if_neg (by simpa using h0)]

theorem rdLLJ {l : List (List LJ)} {i : Nat} (h : i < l.length) : rd_L2 l (i : Int) = l[i] := by simp [rd_L2, h]
theorem rdLJJ {l : List (List J)} {i : Nat} (h : i < l.length) : rd_L4 l (i : Int) = l[i] := by simp [rd_L4, h]
theorem rdLJJ_zero {l : List (List J)} (h : 0 < l.length) : rd_L4 l 0 = l[0] := by simp [rd_L4, h]
def cvJJ (x : List LJ) : List J := x.map cvJ
/-- Scenarios. -/
def ScenOk (l : List (List J)) : Prop := (1 ≤ l.length ∧ l.length ≤ 4) ∧ ∀ r ∈ l, JobsOk r ∧ r.length = (l.headD []).length
theorem head_len {l : List (List J)} (h : 0 < l.length) : l.headD [] = l[0] := by
  cases l with
  | nil => simp at h
  | cons a l => rfl

theorem laws_szJobSS.ev (l : List (List LJ)) (a : Int) (h0 : 0 ≤ a) (h1 : a ≤ 1048576) (hl : l.length ≤ maxLen) (hr : ∀ y ∈ l, y.length ≤ maxLen) : ∃ n, Ev (fun k => laws_szJobSS.f k l a) n ∧ n ≤ 1048576 ∧ (0 ≤ n → l.length ≤ 1048576 ∧ ∀ y ∈ l, y.length ≤ 1048576) := by
  unfold maxLen at hl hr
  unfold laws_szJobSS.f
  rw [wr (by omega) (by omega)]
  by_cases h : a - (l.length : Int) < 0
  · refine ⟨-1, by simp only [if_pos h]; exact Ev.now _, by omega, fun h => absurd h (by omega)⟩
  · simp only [if_neg h]
    have key := rev_ind (P := fun i => ∀ b : Int, 0 ≤ b → b ≤ 1048576 → ∃ n, Ev (fun k => laws_szJobSS.l0 k l b (i : Int)) n ∧ n ≤ 1048576 ∧ (0 ≤ n → ∀ y ∈ l.drop i, y.length ≤ 1048576)) l.length ?_ ?_ 0 (Nat.zero_le _)
    · obtain ⟨n, h2, h3, h4⟩ := key (a - (l.length : Int)) (by omega) (by omega)
      exact ⟨n, h2, h3, fun hn => ⟨by omega, by simpa using h4 hn⟩⟩
    · intro b hb0 hb1
      refine ⟨b, ev_stop fun k => ?_, hb1, fun _ => by simp⟩
      simp only [laws_szJobSS.l0]; rw [if_neg (by omega)]
    · intro i hi ih b hb0 hb1
      obtain ⟨n, e, hn1, hn2⟩ := laws_szJobS.eq l[i] b hb0 hb1 (hr _ (List.getElem_mem hi))
      by_cases hn : n < 0
      · refine ⟨-1, ev_stop fun k => ?_, by omega, fun h => absurd h (by omega)⟩
        simp only [laws_szJobSS.l0]; rw [if_pos (by omega), if_pos (by omega), rdLLJ hi, e, Option.bind_some, if_pos hn]
      · obtain ⟨m, h2, h3, h4⟩ := ih n (by omega) hn1
        refine ⟨m, ev_go _ (fun k => ?_) h2, h3, fun hm y hy => ?_⟩
        · simp only [laws_szJobSS.l0]; rw [if_pos (by omega), if_pos (by omega), rdLLJ hi, e, Option.bind_some, if_neg hn, wr1 (by omega)]
        · rw [drop_cons hi] at hy
          rcases List.mem_cons.1 hy with rfl | hy
          · exact hn2 (by omega)
          · exact h4 hm y hy

theorem laws_toJobSS.ev (l : List (List LJ)) (hl : l.length ≤ 1000000000000) (hr : ∀ y ∈ l, y.length ≤ 1000000000000) : Ev (fun k => laws_toJobSS.f k l) (l.map cvJJ) := by
  unfold laws_toJobSS.f
  rw [show (fun k => if 0 ≤ (l.length : Int) then (if ((l.length : Int) : Int).toNat ≤ 11728124029610 then (laws_toJobSS.l0 k l (List.replicate ((l.length : Int) : Int).toNat []) 0) else none) else none) = fun k => laws_toJobSS.l0 k l (List.replicate l.length []) 0 from funext fun k => by rw [if_pos (by omega), if_pos (by omega)]; rfl]
  have key := rev_ind (P := fun i => Ev (fun k => laws_toJobSS.l0 k l ((l.map cvJJ).take i ++ (List.replicate l.length ([] : List J)).drop i) (i : Int)) (l.map cvJJ)) l.length ?_ ?_ 0 (Nat.zero_le _)
  · simpa using key
  · refine ev_stop fun k => ?_
    simp only [laws_toJobSS.l0]; rw [if_neg (by omega), List.take_of_length_le (by simp)]; simp
  · intro i hi ih
    have hlen : ((l.map cvJJ).take i ++ (List.replicate l.length ([] : List J)).drop i).length = l.length := by simp; omega
    refine ev_go (fun k => (laws_toJobS.f k l[i]).bind fun t => laws_toJobSS.l0 k l (((l.map cvJJ).take i ++ (List.replicate l.length ([] : List J)).drop i).set i t) ((i + 1 : Nat) : Int)) (fun k => ?_) (ev_bind (l[i].map cvJ) (laws_toJobS.ev _ (hr _ (List.getElem_mem hi))) ?_)
    · simp only [laws_toJobSS.l0]; rw [if_pos (by omega), if_pos (by omega), rdLLJ hi]
      congr 1; funext t
      rw [if_pos (by rw [hlen]; omega), wr1 (by omega)]; rfl
    · have := set_copy (l := l.map cvJJ) (z := List.replicate l.length ([] : List J)) (i := i) (by simpa using hi) (by simpa using hi)
      rw [show (l.map cvJJ)[i]'(by simpa using hi) = l[i].map cvJ by simp [cvJJ]] at this
      rw [this]; exact ih

theorem laws_eqJobSS.ev (l m : List (List J)) (hl : l.length ≤ 1000000000000000) (hr : ∀ y ∈ l, y.length ≤ 1000000000000000) : EvB (fun k => laws_eqJobSS.f k l m) (l = m) := by
  unfold laws_eqJobSS.f
  by_cases e : (l.length : Int) = (m.length : Int)
  · simp only [if_pos e]
    have key := rev_ind (P := fun i => EvB (fun k => laws_eqJobSS.l0 k l m (i : Int)) (l.drop i = m.drop i)) l.length ?_ ?_ 0 (Nat.zero_le _)
    · simpa using key
    · refine evB_of (fun _ => ev_stop fun k => ?_) (fun h => absurd ?_ h)
      · simp only [laws_eqJobSS.l0]; rw [if_neg (by omega)]
      · rw [List.drop_eq_nil_of_le (by omega), List.drop_eq_nil_of_le (by omega)]
    · intro i hi ih
      have hm : i < m.length := by omega
      rw [drop_cons hi, drop_cons hm]
      have step : ∀ k, laws_eqJobSS.l0 (k + 1) l m (i : Int) = (laws_eqJobS.f k l[i] m[i]).bind fun t => if t = true then laws_eqJobSS.l0 k l m ((i + 1 : Nat) : Int) else some false := fun k => by
        simp only [laws_eqJobSS.l0]; rw [if_pos (by omega), if_pos (by omega), if_pos (by omega), rdLJJ hi, rdLJJ hm, wr1 (by omega)]
      have he := laws_eqJobS.ev l[i] m[i] (hr _ (List.getElem_mem hi))
      refine evB_of (fun h => ?_) (fun h => ?_)
      · obtain ⟨h1, h2⟩ := List.cons.inj h
        refine ev_go _ step (evB_bind he (fun _ => ?_) (fun h => absurd h1 h))
        simp only [if_true]; exact evB_true ih h2
      · refine ev_go _ step (evB_bind he (fun h1 => ?_) (fun _ => by simp only [Bool.false_eq_true, if_false]; exact Ev.now _))
        simp only [if_true]; exact evB_false ih (fun h2 => h (by rw [h1, h2]))
  · simp only [if_neg e]
    exact evB_of (fun h => absurd (by rw [h]) e) (fun _ => Ev.now _)
theorem laws_eqJobSS.same (l : List (List J)) (hl : l.length ≤ 1000000000000000) (hr : ∀ y ∈ l, y.length ≤ 1000000000000000) : Ev (fun k => laws_eqJobSS.f k l l) true := evB_true (laws_eqJobSS.ev l l hl hr) rfl

theorem spec_l11Lists.ev (l : List (List J)) (hl : l.length ≤ 1000000000000000) (hr : ∀ y ∈ l, y.length ≤ 1000000000000000) : EvB (fun k => spec_l11Lists.f k l) (ScenOk l) := by
  have key := rev_ind (P := fun i => EvB (fun k => spec_l11Lists.l0 k l (i : Int)) ((1 ≤ l.length ∧ l.length ≤ 4) ∧ ∀ r ∈ l.drop i, JobsOk r ∧ r.length = (l.headD []).length)) l.length ?_ ?_ 0 (Nat.zero_le _)
  · simpa [spec_l11Lists.f, ScenOk] using key
  · refine ⟨decide (1 ≤ (l.length : Int) ∧ (l.length : Int) ≤ 4), ev_stop fun k => ?_, ?_⟩
    · simp only [spec_l11Lists.l0]; rw [if_neg (by omega), spec_l1In.eq]; rfl
    · rw [decide_eq_true_iff]
      simp only [List.drop_length, List.not_mem_nil, false_implies, implies_true, and_true]
      omega
  · intro i hi ih
    rw [drop_cons hi]
    have hpos : 0 < l.length := by omega
    have hh := head_len hpos
    have step : ∀ k, spec_l11Lists.l0 (k + 1) l (i : Int) = (spec_l2Good.f k l[i]).bind fun t => if t = true then (if ((l[i].length : Nat) : Int) = ((l[0].length : Nat) : Int) then spec_l11Lists.l0 k l ((i + 1 : Nat) : Int) else some false) else some false := fun k => by
      simp only [spec_l11Lists.l0]; rw [if_pos (by omega), if_pos (by omega), rdLJJ hi, rdLJJ_zero hpos, wr1 (by omega)]
      congr 1; funext t
      rw [if_pos (show (0 : Int) < (l.length : Int) by omega)]
    have hg := spec_l2Good.ev l[i] (hr _ (List.getElem_mem hi))
    refine evB_of (fun h => ?_) (fun h => ?_)
    · refine ev_go _ step (evB_bind hg (fun _ => ?_) (fun h' => absurd (h.2 _ List.mem_cons_self).1 h'))
      simp only [if_true]
      have := (h.2 _ List.mem_cons_self).2
      rw [hh] at this
      simp only [if_pos (show ((l[i].length : Nat) : Int) = ((l[0].length : Nat) : Int) by omega)]
      exact evB_true ih ⟨h.1, fun r hr' => h.2 r (List.mem_cons_of_mem _ hr')⟩
    · refine ev_go _ step (evB_bind hg (fun h1 => ?_) (fun _ => by simp only [Bool.false_eq_true, if_false]; exact Ev.now _))
      simp only [if_true]
      by_cases e : ((l[i].length : Nat) : Int) = ((l[0].length : Nat) : Int)
      · simp only [if_pos e]
        refine evB_false ih (fun h2 => h ⟨h2.1, fun r hr' => ?_⟩)
        rcases List.mem_cons.1 hr' with rfl | hr'
        · exact ⟨h1, by rw [hh]; omega⟩
        · exact h2.2 r hr'
      · simp only [if_neg e]
        exact Ev.now _

theorem impl_AreScenarios.ev (l : List (List J)) : EvB (fun k => impl_AreScenarios.f k l) (ScenOk l) := by
  unfold impl_AreScenarios.f
  simp only [impl_within.eq, Option.bind_some]
  by_cases h4 : (1 : Int) ≤ (l.length : Int) ∧ (l.length : Int) ≤ 4
  · simp only [h4, and_self, decide_true, if_true]
    have hpos : 0 < l.length := by omega
    have hh := head_len hpos
    have key := rev_ind (P := fun i => EvB (fun k => impl_AreScenarios.l0 k l l (l.length : Int) (i : Int)) (∀ r ∈ l.drop i, JobsOk r ∧ r.length = (l.headD []).length)) l.length ?_ ?_ 0 (Nat.zero_le _)
    · refine evB_iff (by simpa using key) ⟨fun h => ⟨by omega, h⟩, fun h => h.2⟩
    · refine evB_of (fun _ => ev_stop fun k => ?_) (fun h => absurd (by simp) h)
      simp only [impl_AreScenarios.l0]; rw [if_neg (by omega)]
    · intro i hi ih
      rw [drop_cons hi]
      have step : ∀ k, impl_AreScenarios.l0 (k + 1) l l (l.length : Int) (i : Int) = (impl_IsJobs.f k l[i]).bind fun t => if t = true then (if ((l[i].length : Nat) : Int) = ((l[0].length : Nat) : Int) then impl_AreScenarios.l0 k l l (l.length : Int) ((i + 1 : Nat) : Int) else some false) else some false := fun k => by
        simp only [impl_AreScenarios.l0]; rw [if_pos (by omega), if_pos (by omega), if_pos (by omega), rdLJJ hi, rdLJJ_zero hpos, wr1 (by omega)]
        congr 1; funext t
        rw [if_pos (show (0 : Int) < (l.length : Int) by omega)]
      have hg := impl_IsJobs.ev l[i]
      refine evB_of (fun h => ?_) (fun h => ?_)
      · refine ev_go _ step (evB_bind hg (fun _ => ?_) (fun h' => absurd (h _ List.mem_cons_self).1 h'))
        simp only [if_true]
        have := (h _ List.mem_cons_self).2
        rw [hh] at this
        simp only [if_pos (show ((l[i].length : Nat) : Int) = ((l[0].length : Nat) : Int) by omega)]
        exact evB_true ih (fun r hr' => h r (List.mem_cons_of_mem _ hr'))
      · refine ev_go _ step (evB_bind hg (fun h1 => ?_) (fun _ => by simp only [Bool.false_eq_true, if_false]; exact Ev.now _))
        simp only [if_true]
        by_cases e : ((l[i].length : Nat) : Int) = ((l[0].length : Nat) : Int)
        · simp only [if_pos e]
          refine evB_false ih (fun h2 => h (fun r hr' => ?_))
          rcases List.mem_cons.1 hr' with rfl | hr'
          · exact ⟨h1, by rw [hh]; omega⟩
          · exact h2 r hr'
        · simp only [if_neg e]
          exact Ev.now _
  · simp only [h4, decide_false, Bool.false_eq_true, if_false]
    exact evB_of (fun h => absurd h.1 (by omega)) (fun _ => Ev.now _)

end Go.Proofs.Ytbcfmegepkhlpaa.Pure
