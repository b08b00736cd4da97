/- Proved here: the statement over numbers and lists alone of the law FnExactIsValidLog, for all its arguments within the bounds that it names. Conditions: those that each theorem names. -/
import Derived.Test.YtehaakoaabbiaaaQFnExactIsValidLogu
set_option linter.unusedVariables false
set_option linter.unusedSimpArgs false
namespace Go.Proofs.Ytehaakoaabbiaaa.Pure
open Go.RowKit Go.Proofs.Ytehaakoaabbiaaa.XFnExactIsValidLog Go.Proofs.YtehaakoaabbiaaaW.PrintWords Go.Proofs.YtehaakoaabbiaaaW.PrintLast

theorem FnExactIsValidLog (a b : ByteArray) (n : Int) (h : a.size ≤ maxLen ∧ b.size ≤ maxLen ∧ (Lit.int .i64 n).wf = true) : ∃ k, laws_FnExactIsValidLog.f k a b n = some true := by
  refine Ev.rounds (g := fun k => laws_FnExactIsValidLog.f k a b n) ?_
  unfold laws_FnExactIsValidLog.f
  have hh : a.size ≤ maxLen ∧ b.size ≤ maxLen := ⟨h.1, h.2.1⟩
  unfold maxLen at hh
  have hsz : ∃ z, laws_szLog.f a b n 1048576 = some z ∧ (¬ z < 0 → a.size + b.size ≤ 1048576) := by
    unfold laws_szLog.f
    by_cases q : wrap64 (1048576 - (a.size : Int)) < 0
    · rw [if_pos q]; exact ⟨-1, rfl, fun hc => absurd (by omega) hc⟩
    · rw [if_neg q]
      by_cases q2 : wrap64 (wrap64 (1048576 - (a.size : Int)) - (b.size : Int)) < 0
      · rw [if_pos q2]; exact ⟨-1, rfl, fun hc => absurd (by omega) hc⟩
      · rw [if_neg q2]
        refine ⟨_, rfl, fun _ => ?_⟩
        rw [wr (x := 1048576 - (a.size : Int)) (by omega) (by omega)] at q q2
        rw [wr (by omega) (by omega)] at q2
        omega
  obtain ⟨z, hz, hz2⟩ := hsz
  have ez : Ev (fun _ : Nat => laws_szLog.f a b n 1048576) z := by rw [hz]; exact Ev.now z
  have et : Ev (fun _ : Nat => laws_toLog.f a b n) (a, b, n) := Ev.now _
  refine ev_bind z ez (ev_ite (fun _ => Ev.now _) (fun h0 => ev_bind (a, b, n) et ?_))
  have hab := hz2 h0
  have hs : (a ++ b).size = a.size + b.size := ByteArray.size_append
  obtain ⟨o1, e1, p1, p2, p3, p4, p5⟩ := open_both (a ++ b) (by omega)
  obtain ⟨o2, e2, r1, r2, r3, r4, r5⟩ := open_both a (by omega)
  have g : a.size + b.size ≤ 9223372036854775807 := by omega
  have hw : wrap64 ((a.size : Int) + (b.size : Int)) = (a.size : Int) + (b.size : Int) := wr (by omega) (by omega)
  have core : ∃ c, Ev (fun k => spec_IsValidLog.f k a b n) c ∧ Ev (fun k => impl_IsValidLog.f k a b n) c := by
    unfold spec_IsValidLog.f spec_l12Valid.f impl_IsValidLog.f
    simp only [hw, if_pos g]
    by_cases big : (a.size : Int) + (b.size : Int) > 30000
    · refine ⟨false, ?_, ev_bind _ p2 (ev_bind _ r2 ?_)⟩
      · simp only [if_pos big, Option.bind_some]; exact Ev.now _
      · simp only [if_neg (show ¬ (e1 : Int) = (a.size : Int) + (b.size : Int) by omega)]; exact Ev.now _
    · simp only [if_neg big]
      by_cases q1 : (e1 : Int) = (a.size : Int) + (b.size : Int)
      · by_cases q2 : (e2 : Int) = (a.size : Int)
        · refine ⟨((o1.length : Int) == n), ev_bind _ (ev_bind _ p1 (ev_bind _ r1 ?_)) (Ev.now _), ev_bind _ p2 (ev_bind _ r2 ?_)⟩
          · simp only [if_pos q1, if_pos q2]; exact Ev.now _
          · simp only [if_pos q1, if_pos q2]
            rw [show (n == (o1.length : Int)) = ((o1.length : Int) == n) by rw [Bool.eq_iff_iff]; simp only [beq_iff_eq]; exact eq_comm]
            exact Ev.now _
        · refine ⟨false, ev_bind _ (ev_bind _ p1 (ev_bind _ r1 ?_)) (Ev.now _), ev_bind _ p2 (ev_bind _ r2 ?_)⟩
          · simp only [if_pos q1, if_neg q2]; exact Ev.now _
          · simp only [if_pos q1, if_neg q2]; exact Ev.now _
      · refine ⟨false, ev_bind _ (ev_bind _ p1 (ev_bind _ r1 ?_)) (Ev.now _), ev_bind _ p2 (ev_bind _ r2 ?_)⟩
        · simp only [if_neg q1]; exact Ev.now _
        · simp only [if_neg q1]; exact Ev.now _
  obtain ⟨c, h1, h2⟩ := core
  refine ev_bind c h1 (ev_bind (a, b, n) et (ev_bind c h2 ?_))
  simp only [bne_self_eq_false, Bool.false_eq_true, if_false]
  exact Ev.now _

end Go.Proofs.Ytehaakoaabbiaaa.Pure
