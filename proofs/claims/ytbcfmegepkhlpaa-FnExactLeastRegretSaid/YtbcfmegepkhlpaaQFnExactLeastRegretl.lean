/- Proved here: what functions that the law FnExactLeastRegret reaches answer (twoOk, startsF, spec_l2Starts, impl_endsOf, endsAll, spec_l2Ends). Conditions: those that each theorem names. -/
import Derived.Test.YtbcfmegepkhlpaaQFnExactLeastRegretj
set_option linter.unusedVariables false
set_option linter.unusedSimpArgs false
namespace Go.Proofs.Ytbcfmegepkhlpaa.Pure
open Go.RowKit Go.Proofs.Ytbcfmegepkhlpaa.XFnExactLeastRegret Go.Proofs.YtbcfmegepkhlpaaW.PrintWords Go.Proofs.YtbcfmegepkhlpaaW.PrintLast

/-- Jobs, and an order of them. -/
def TwoOk (jobs : List J) (l : List Int) : Prop := JobsOk jobs ∧ IsPerm jobs.length l

def startsF (jobs : List J) : List Int → List Int → Int → List Int
  | [], out, _ => out
  | x :: xs, out, now => startsF jobs xs (out.set x.toNat (mx now (rd_T76 jobs x).f2)) (wrap64 (mx now (rd_T76 jobs x).f2 + (rd_T76 jobs x).f0))
def endsF (jobs : List J) : List Int → List Int → Int → List Int
  | [], out, _ => out
  | x :: xs, out, now => endsF jobs xs (out.set x.toNat (wrap64 (mx now (rd_T76 jobs x).f2 + (rd_T76 jobs x).f0))) (wrap64 (mx now (rd_T76 jobs x).f2 + (rd_T76 jobs x).f0))
theorem startsF_len (jobs : List J) : ∀ (l out : List Int) (now : Int), (startsF jobs l out now).length = out.length
  | [], _, _ => rfl
  | x :: xs, out, now => by rw [startsF, startsF_len]; simp
theorem endsF_len (jobs : List J) : ∀ (l out : List Int) (now : Int), (endsF jobs l out now).length = out.length
  | [], _, _ => rfl
  | x :: xs, out, now => by rw [endsF, endsF_len]; simp
def InI (x : Int) : Prop := -9223372036854775808 ≤ x ∧ x ≤ 9223372036854775807
theorem inI_wrap (x : Int) : InI (wrap64 x) := by unfold InI wrap64; omega
theorem mx_inI {a b : Int} (ha : InI a) (hb : InI b) : InI (mx a b) := by unfold mx InI at *; split <;> omega
/-- Each job's end is its start and its time, and its start is a whole number of the machine. -/
theorem ends_starts (jobs : List J) (hj : ∀ j ∈ jobs, InI j.f2) : ∀ (l out out' : List Int) (now : Int), InI now → (∀ x ∈ l, 0 ≤ x ∧ x < jobs.length) → out.length = jobs.length → out'.length = jobs.length → ∀ (i : Nat) (hi : i < jobs.length), ((i : Int) ∈ l ∨ (rd out' i = wrap64 (rd out i + (jobs[i]).f0) ∧ InI (rd out i))) →
    rd (endsF jobs l out' now) i = wrap64 (rd (startsF jobs l out now) i + (jobs[i]).f0) ∧ InI (rd (startsF jobs l out now) i)
  | [], _, _, _, _, _, _, _, i, hi, h => h.resolve_left (by simp)
  | x :: xs, out, out', now, hn, hx, ho, ho', i, hi, h => by
    have hx0 := hx x List.mem_cons_self
    rw [startsF, endsF]
    have hr := rdJ_int hx0.1 hx0.2
    have hjx := hj _ (List.getElem_mem (show x.toNat < jobs.length by omega))
    refine ends_starts jobs hj xs _ _ _ (inI_wrap _) (fun y hy => hx y (List.mem_cons_of_mem _ hy)) (by simpa using ho) (by simpa using ho') i hi ?_
    by_cases e : x = (i : Int)
    · right
      subst e
      rw [rd_nat (by simpa [ho'] using hi), rd_nat (by simpa [ho] using hi), rdJ hi]
      simp only [Int.toNat_natCast, List.getElem_set_self]
      exact ⟨trivial, mx_inI hn (hj _ (List.getElem_mem hi))⟩
    · rcases h with h | h
      · left
        exact (List.mem_cons.1 h).resolve_left (fun q => e q.symm)
      · right
        rw [rd_nat (by simpa [ho'] using hi), rd_nat (by simpa [ho] using hi), List.getElem_set_ne (by omega), List.getElem_set_ne (by omega), ← rd_nat (by omega), ← rd_nat (by omega)]
        exact h

theorem spec_l2Starts.ev (jobs : List J) (l : List Int) (hj : jobs.length ≤ 1000000) (hl : l.length ≤ 1000000000) (hx : ∀ x ∈ l, 0 ≤ x ∧ x < jobs.length) : Ev (fun k => spec_l2Starts.f k jobs l) (startsF jobs l (List.replicate jobs.length 0) 0) := by
  unfold spec_l2Starts.f
  rw [show (fun k => if 0 ≤ (jobs.length : Int) then (if ((jobs.length : Int) : Int).toNat ≤ 35184372088832 then (spec_l2Starts.l0 k jobs l (List.replicate ((jobs.length : Int) : Int).toNat 0) 0 0) else (none)) else (none)) = fun k => spec_l2Starts.l0 k jobs l (List.replicate jobs.length 0) 0 0 from funext fun k => by rw [if_pos (by omega), if_pos (by omega)]; rfl]
  have key := rev_ind (P := fun i => ∀ (out : List Int) (now : Int), out.length = jobs.length → Ev (fun k => spec_l2Starts.l0 k jobs l out now (i : Int)) (startsF jobs (l.drop i) out now)) l.length ?_ ?_ 0 (Nat.zero_le _) (List.replicate jobs.length 0) 0 (by simp)
  · simpa using key
  · intro out now _
    refine ev_stop fun k => ?_
    simp only [spec_l2Starts.l0]; rw [if_neg (by omega), List.drop_length]; rfl
  · intro i hi ih out now ho
    rw [drop_cons hi, startsF]
    have hx := hx _ (List.getElem_mem hi)
    refine ev_go _ (fun k => ?_) (ih _ _ (by simpa using ho))
    simp only [spec_l2Starts.l0]; rw [if_pos (by omega), if_pos (by omega), rd_nat hi, if_pos hx.1, if_pos hx.2, spec_l1Most.eq, Option.bind_some, if_pos (by omega), Option.bind_some, wr1 (by omega)]
    rw [show rd (out.set (l[i]).toNat (mx now (rd_T76 jobs l[i]).f2)) l[i] = mx now (rd_T76 jobs l[i]).f2 by
      obtain ⟨n, hn⟩ : ∃ n : Nat, l[i] = n := ⟨(l[i]).toNat, by omega⟩
      rw [hn, rd_nat (by simp; omega)]; simp]

theorem impl_endsOf.ev (jobs : List J) (l : List Int) (hj : jobs.length ≤ 1000000) (hl : l.length ≤ 1000000000) (hx : ∀ x ∈ l, 0 ≤ x ∧ x < jobs.length) : Ev (fun k => impl_endsOf.f k jobs l) (endsF jobs l (List.replicate jobs.length 0) 0) := by
  unfold impl_endsOf.f
  rw [show (fun k => if 0 ≤ (jobs.length : Int) then (if ((jobs.length : Int) : Int).toNat ≤ 35184372088832 then (impl_endsOf.l0 k jobs (List.replicate ((jobs.length : Int) : Int).toNat 0) 0 l (l.length : Int) 0) else (none)) else (none)) = fun k => impl_endsOf.l0 k jobs (List.replicate jobs.length 0) 0 l (l.length : Int) 0 from funext fun k => by rw [if_pos (by omega), if_pos (by omega)]; rfl]
  have key := rev_ind (P := fun i => ∀ (out : List Int) (now : Int), out.length = jobs.length → Ev (fun k => impl_endsOf.l0 k jobs out now l (l.length : Int) (i : Int)) (endsF jobs (l.drop i) out now)) l.length ?_ ?_ 0 (Nat.zero_le _) (List.replicate jobs.length 0) 0 (by simp)
  · simpa using key
  · intro out now _
    refine ev_stop fun k => ?_
    simp only [impl_endsOf.l0]; rw [if_neg (by omega), List.drop_length]; rfl
  · intro i hi ih out now ho
    rw [drop_cons hi, endsF]
    have hx := hx _ (List.getElem_mem hi)
    refine ev_go _ (fun k => ?_) (ih _ _ (by simpa using ho))
    simp only [impl_endsOf.l0]; rw [if_pos (by omega), if_pos (by omega), if_pos (by omega), rd_nat hi, if_pos hx.1, if_pos hx.2, if_pos (by omega), wr1 (by omega)]

/-- The ends of all jobs, by an order. -/
def endsAll (jobs : List J) (l : List Int) : List Int := endsF jobs l (List.replicate jobs.length 0) 0
def startsAll (jobs : List J) (l : List Int) : List Int := startsF jobs l (List.replicate jobs.length 0) 0
theorem endsAll_len (jobs : List J) (l : List Int) : (endsAll jobs l).length = jobs.length := by rw [endsAll, endsF_len]; simp
theorem startsAll_len (jobs : List J) (l : List Int) : (startsAll jobs l).length = jobs.length := by rw [startsAll, startsF_len]; simp
theorem endsAll_get (jobs : List J) (l : List Int) (h : TwoOk jobs l) (i : Nat) (hi : i < jobs.length) : (endsAll jobs l)[i]'(by rw [endsAll_len]; exact hi) = wrap64 ((startsAll jobs l)[i]'(by rw [startsAll_len]; exact hi) + (jobs[i]).f0) ∧ InI ((startsAll jobs l)[i]'(by rw [startsAll_len]; exact hi)) := by
  have := ends_starts jobs (fun j hj => by have := (h.1.2 j hj).2.2.1; unfold InI; omega) l (List.replicate jobs.length 0) (List.replicate jobs.length 0) 0 (by unfold InI; omega) h.2.2.2 (by simp) (by simp) i hi (.inl (h.2.all i (by omega) (by omega)))
  rwa [← rd_nat, ← rd_nat]

theorem spec_l2Ends.ev (jobs : List J) (l : List Int) (h : TwoOk jobs l) : Ev (fun k => spec_l2Ends.f k jobs l) (endsAll jobs l) := by
  have hj := h.1.1
  have hl := h.2.1
  unfold spec_l2Ends.f
  refine ev_bind (startsAll jobs l) (spec_l2Starts.ev jobs l (by omega) (by omega) h.2.2.2) ?_
  have key := rev_ind (P := fun i => Ev (fun k => spec_l2Ends.l0 k jobs ((endsAll jobs l).take i ++ (startsAll jobs l).drop i) (i : Int)) (endsAll jobs l)) jobs.length ?_ ?_ 0 (Nat.zero_le _)
  · simpa using key
  · refine ev_stop fun k => ?_
    simp only [spec_l2Ends.l0]; rw [if_neg (by omega), List.take_of_length_le (by rw [endsAll_len]; omega), List.drop_of_length_le (by rw [startsAll_len]; omega), List.append_nil]
  · intro i hi ih
    have he := endsAll_len jobs l
    have hs := startsAll_len jobs l
    have hlen : ((endsAll jobs l).take i ++ (startsAll jobs l).drop i).length = jobs.length := by simp [he, hs]; omega
    have hr : rd ((endsAll jobs l).take i ++ (startsAll jobs l).drop i) (i : Int) = (startsAll jobs l)[i]'(by omega) := by
      rw [rd_nat (by omega), List.getElem_append_right (by simp [he]; omega)]
      simp [he, show min i jobs.length = i by omega]
    refine ev_go _ (fun k => ?_) ih
    simp only [spec_l2Ends.l0]; rw [if_pos (by omega), if_pos (by omega), if_pos (by omega), wr1 (by omega), hr, rdJ hi, ← (endsAll_get jobs l h i hi).1, show ((i : Int)).toNat = i by omega, set_copy (by omega) (by omega)]

end Go.Proofs.Ytbcfmegepkhlpaa.Pure
