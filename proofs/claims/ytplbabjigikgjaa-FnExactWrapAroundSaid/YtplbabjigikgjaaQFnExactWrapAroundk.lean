/- Proved here: what functions that the law FnExactWrapAround reaches answer (sumW, spec_l1MostK, impl_greatestOf). Conditions: those that each theorem names. -/
import Derived.Test.YtplbabjigikgjaaQFnExactWrapAroundj
set_option linter.unusedVariables false
set_option linter.unusedSimpArgs false
namespace Go.Proofs.Ytplbabjigikgjaa.Pure
open Go.RowKit Go.Proofs.Ytplbabjigikgjaa.XFnExactWrapAround Go.Proofs.YtplbabjigikgjaaW.PrintWords Go.Proofs.YtplbabjigikgjaaW.PrintLast

def sumW : List Int → Int → Int
  | [], a => a
  | x :: xs, a => sumW xs (wrap64 (a + x))
def mxW : List Int → Int → Int
  | [], a => a
  | x :: xs, a => mxW xs (mx a x)
theorem mx_eq (a b : Int) : mx a b = if a ≤ b then b else a := by unfold mx; split <;> split <;> omega
theorem mxW_mx : ∀ (l : List Int) (a b : Int), mxW l (mx a b) = mx a (mxW l b)
  | [], _, _ => rfl
  | x :: l, a, b => by
    rw [mxW, mxW, ← mxW_mx l a]
    congr 1
    unfold mx
    repeat' split
    all_goals omega
theorem mxW_ge : ∀ (l : List Int) (a : Int), a ≤ mxW l a
  | [], _ => Int.le_refl _
  | x :: l, a => by
    rw [mxW]
    refine Int.le_trans ?_ (mxW_ge l _)
    unfold mx; split <;> omega
theorem mxW_app : ∀ (l m : List Int) (a : Int), mxW (l ++ m) a = mxW m (mxW l a)
  | [], _, _ => rfl
  | x :: l, m, a => by rw [List.cons_append, mxW, mxW, mxW_app]
theorem mxW_two (l m : List Int) : mxW m (mxW l 0) = mx (mxW m 0) (mxW l 0) := by
  have h : mxW l 0 = mx (mxW l 0) 0 := by have := mxW_ge l 0; unfold mx; split <;> omega
  rw [h, mxW_mx, ← h]
  unfold mx; split <;> split <;> omega

theorem spec_l1Most.eqk (a b : Int) : spec_l1Most.f a b = some (mx a b) := by
  unfold spec_l1Most.f mx; split <;> split <;> first | rfl | omega | (congr 1; omega)

theorem impl_greatestOf.ev (l : List Int) (hl : l.length ≤ 1000000000) : Ev (fun k => impl_greatestOf.f k l) (mxW l 0) := by
  have key := rev_ind (P := fun i => ∀ s, Ev (fun k => impl_greatestOf.l0 k s l (l.length : Int) (i : Int)) (mxW (l.drop i) s)) l.length ?_ ?_ 0 (Nat.zero_le _) 0
  · simpa [impl_greatestOf.f] using key
  · intro s
    refine ev_stop fun k => ?_
    simp only [impl_greatestOf.l0]; rw [if_neg (by omega), List.drop_length]; rfl
  · intro i hi ih s
    rw [drop_cons hi, mxW]
    refine ev_go _ (fun k => ?_) (ih _)
    simp only [impl_greatestOf.l0]; rw [if_pos (by omega), if_pos (by omega), if_pos (by omega), rd_nat hi, wr1 (by omega)]

end Go.Proofs.Ytplbabjigikgjaa.Pure
