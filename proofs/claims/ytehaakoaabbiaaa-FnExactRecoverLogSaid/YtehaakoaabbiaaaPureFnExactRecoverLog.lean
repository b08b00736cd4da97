/- Proved here: the statement over numbers and lists alone of the law FnExactRecoverLog, for all its arguments within the bounds that it names. Conditions: those that each theorem names. -/
import Derived.Test.YtehaakoaabbiaaaQFnExactRecoverLogu
set_option linter.unusedVariables false
set_option linter.unusedSimpArgs false
namespace Go.Proofs.Ytehaakoaabbiaaa.Pure
open Go.RowKit Go.Proofs.Ytehaakoaabbiaaa.XFnExactRecoverLog Go.Proofs.YtehaakoaabbiaaaW.PrintWords Go.Proofs.YtehaakoaabbiaaaW.PrintLast

theorem FnExactRecoverLog (s : ByteArray) (h : s.size ≤ 140737488351232) : ∃ k, laws_FnExactRecoverLog.f k s = some true := by
  refine Ev.rounds (g := fun k => laws_FnExactRecoverLog.f k s) ?_
  unfold laws_FnExactRecoverLog.f
  refine ev_ite (fun _ => Ev.now _) (fun hs => ?_)
  have core : ∃ c r x y b, Ev (fun k => spec_RecoverLog.f k s) (c, r, x, y, b) ∧ Ev (fun k => impl_RecoverLog.f k s) (c, r, x, y, b) := by
    unfold spec_RecoverLog.f impl_RecoverLog.f
    by_cases q : (s.size : Int) > 30000
    · simp only [if_pos q]; exact ⟨_, _, _, _, _, Ev.now _, Ev.now _⟩
    · simp only [if_neg q]
      obtain ⟨o, e, h1, h2, h3, h4, h5⟩ := open_both s (by omega)
      refine ⟨s.extract 0 ((e : Int) : Int).toNat, ⟨#[]⟩, (o.length : Int), (e : Int), true, ev_bind _ h1 ?_, ev_bind _ h2 ?_⟩
      · simp only [if_pos (show (0 : Int) ≤ (e : Int) by omega), if_pos (show (e : Int) ≤ (s.size : Int) by omega)]; exact Ev.now _
      · simp only [if_pos (show (0 : Int) ≤ (e : Int) by omega), if_pos (show (e : Int) ≤ (s.size : Int) by omega)]; exact Ev.now _
  obtain ⟨c, r, x, y, b, h1, h2⟩ := core
  refine ev_bind _ h1 (ev_bind _ h2 ?_)
  simp only [laws_eqLog.f, if_true, Option.bind_some, bne_self_eq_false, Bool.false_eq_true, if_false]
  exact Ev.now _

end Go.Proofs.Ytehaakoaabbiaaa.Pure
