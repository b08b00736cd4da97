/- Proved here: what functions that the law FnExactShortSet reaches answer (impl_allWithin). Conditions: those that each theorem names. -/
import Derived.Test.YtafjdcjaigmnaaaQFnExactShortSetb
set_option linter.unusedVariables false
set_option linter.unusedSimpArgs false
namespace Go.Proofs.Ytafjdcjaigmnaaa.Pure
open Go.RowKit Go.Proofs.Ytafjdcjaigmnaaa.XFnExactShortSet Go.Proofs.YtafjdcjaigmnaaaW.PrintWords Go.Proofs.YtafjdcjaigmnaaaW.PrintLast

theorem impl_allWithin.ev (l : List Int) (a b : Int) (hl : l.length ≤ 1000000000000000) : EvB (fun k => impl_allWithin.f k l a b) (∀ x ∈ l, a ≤ x ∧ x ≤ b) := by
  have key := rev_ind (P := fun i => EvB (fun k => impl_allWithin.l0 k a b l (l.length : Int) (i : Int)) (∀ x ∈ l.drop i, a ≤ x ∧ x ≤ b)) l.length ?_ ?_ 0 (Nat.zero_le _)
  · simpa [impl_allWithin.f] using key
  · refine evB_of (fun _ => ev_stop fun k => ?_) (fun h => absurd (by simp) h)
    simp only [impl_allWithin.l0]; rw [if_neg (by omega)]
  · intro i hi ih
    rw [drop_cons hi]
    by_cases q : a ≤ l[i] ∧ l[i] ≤ b
    · obtain ⟨c, hb, hP⟩ := ih
      refine ⟨c, ev_go _ (fun k => ?_) hb, hP.trans ⟨fun h1 x hx => ?_, fun h1 x hx => h1 x (List.mem_cons_of_mem _ hx)⟩⟩
      · simp only [impl_allWithin.l0]; rw [if_pos (by omega), if_pos (by omega), if_pos (by omega), rd_nat hi, impl_within.eq, Option.bind_some, if_pos (by simpa using q), wr1 (by omega)]
      · rcases List.mem_cons.1 hx with rfl | hx
        · exact q
        · exact h1 x hx
    · refine evB_of (fun h => absurd (h _ List.mem_cons_self) q) (fun _ => ev_stop fun k => ?_)
      simp only [impl_allWithin.l0]; rw [if_pos (by omega), if_pos (by omega), if_pos (by omega), rd_nat hi, impl_within.eq, Option.bind_some, if_neg (by simpa using q)]

end Go.Proofs.Ytafjdcjaigmnaaa.Pure
