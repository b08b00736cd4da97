/- Proved here: what functions that the law FnExactOpenSchedule reaches answer (spec_l1In, impl_within, laws_toIntS, laws_eqIntS). Conditions: those that each theorem names. -/
import Derived.Test.YtbblhmpcpmamfaaQFnExactOpenSchedulea
set_option linter.unusedVariables false
set_option linter.unusedSimpArgs false
namespace Go.Proofs.Ytbblhmpcpmamfaa.Pure
open Go.RowKit Go.Proofs.Ytbblhmpcpmamfaa.XFnExactOpenSchedule Go.Proofs.YtbblhmpcpmamfaaW.PrintWords Go.Proofs.YtbblhmpcpmamfaaW.PrintLast

theorem spec_l1In.eq (a b c : Int) : spec_l1In.f a b c = some (decide (b ≤ a ∧ a ≤ c)) := by
  unfold spec_l1In.f
  by_cases h : a ≥ b
  · rw [if_pos h]; congr 1; simp; omega
  · rw [if_neg h]; congr 1; simp; omega

theorem impl_within.eq (a b c : Int) : impl_within.f a b c = some (decide (b ≤ a ∧ a ≤ c)) := by
  unfold impl_within.f
  by_cases h : b ≤ a
  · rw [if_pos h]; congr 1; simp; omega
  · rw [if_neg h]; congr 1; simp; omega

theorem laws_toIntS.ev (l : List Int) (hl : l.length ≤ 1000000000000) : Ev (fun k => laws_toIntS.f k l) l := by
  unfold laws_toIntS.f
  rw [show (fun k => if 0 ≤ (l.length : Int) then (if ((l.length : Int) : Int).toNat ≤ 35184372088832 then (laws_toIntS.l0 k l (List.replicate ((l.length : Int) : Int).toNat 0) 0) else none) else none) = fun k => laws_toIntS.l0 k l (List.replicate l.length 0) 0 from funext fun k => by rw [if_pos (by omega), if_pos (by omega)]; rfl]
  have key := rev_ind (P := fun i => Ev (fun k => laws_toIntS.l0 k l (l.take i ++ (List.replicate l.length (0 : Int)).drop i) (i : Int)) l) l.length ?_ ?_ 0 (Nat.zero_le _)
  · simpa using key
  · refine ev_stop fun k => ?_
    simp only [laws_toIntS.l0]; rw [if_neg (by omega)]; simp
  · intro i hi ih
    refine ev_go _ (fun k => ?_) ih
    have hlen : (l.take i ++ (List.replicate l.length (0 : Int)).drop i).length = l.length := by simp; omega
    simp only [laws_toIntS.l0]; rw [if_pos (by omega), if_pos (by omega), if_pos (by rw [hlen]; omega), rd_nat hi, wr1 (by omega)]
    rw [show ((i : Int)).toNat = i by omega, set_copy hi (by simpa using hi)]

theorem laws_eqIntS.ev (l m : List Int) (hl : l.length ≤ 1000000000000000) : EvB (fun k => laws_eqIntS.f k l m) (l = m) := by
  unfold laws_eqIntS.f
  by_cases e : (l.length : Int) = (m.length : Int)
  · simp only [if_pos e]
    have key := rev_ind (P := fun i => EvB (fun k => laws_eqIntS.l0 k l m (i : Int)) (l.drop i = m.drop i)) l.length ?_ ?_ 0 (Nat.zero_le _)
    · simpa using key
    · refine evB_of (fun _ => ev_stop fun k => ?_) (fun h => absurd ?_ h)
      · simp only [laws_eqIntS.l0]; rw [if_neg (by omega)]
      · rw [List.drop_eq_nil_of_le (by omega), List.drop_eq_nil_of_le (by omega)]
    · intro i hi ih
      have hm : i < m.length := by omega
      rw [drop_cons hi, drop_cons hm]
      by_cases q : l[i] = m[i]
      · obtain ⟨b, hb, hP⟩ := ih
        refine ⟨b, ev_go _ (fun k => ?_) hb, by rw [hP, q]; exact ⟨fun h => by rw [h], fun h => (List.cons.inj h).2⟩⟩
        simp only [laws_eqIntS.l0]; rw [if_pos (by omega), if_pos (by omega), if_pos (by omega), rd_nat hi, rd_nat hm, if_pos q, wr1 (by omega)]
      · refine evB_of (fun h => absurd (List.cons.inj h).1 q) (fun _ => ev_stop fun k => ?_)
        simp only [laws_eqIntS.l0]; rw [if_pos (by omega), if_pos (by omega), if_pos (by omega), rd_nat hi, rd_nat hm, if_neg q]
  · simp only [if_neg e]
    exact evB_of (fun h => absurd (by rw [h]) e) (fun _ => Ev.now _)
theorem laws_eqIntS.same (l : List Int) (hl : l.length ≤ 1000000000000000) : Ev (fun k => laws_eqIntS.f k l l) true := evB_true (laws_eqIntS.ev l l hl) rfl

end Go.Proofs.Ytbblhmpcpmamfaa.Pure
