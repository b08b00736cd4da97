-- Written by a program of this session (the kit's print, widened). Proved here: what each function answers, for the arguments that its contract names.
import Derived.ChangeKeysEq
import Derived.Test.YtbcfmegepkhlpaaXFnExactLatenessFrontx0
namespace Go.Proofs.Ytbcfmegepkhlpaa.XFnExactLatenessFront
open Go.RowKit Go.Proofs.YtbcfmegepkhlpaaW.PrintWords Go.Proofs.YtbcfmegepkhlpaaW.PrintLast Go.Proofs.YtbcfmegepkhlpaaW.PrintMore
attribute [local go_sem] max2_int min2_int max_two min_two max_three min_three max_four min_four   -- for this text's walks alone
attribute [local go_sem] idxA_72_0 idxA_72_1 fldS_96_0 fldS_96_1 fldS_96_2 fldS_111_0 fldS_111_1 fldS_111_2
set_option linter.unusedVariables false
set_option linter.unusedSimpArgs false

theorem eqA72 (d:Nat) (w:World) (x0 y0:Int) (x1 y1:Int) :
  (Op.equalIn (d + 2) 72 (.agg #[.int .i64 x0,.int .i64 x1]) (.agg #[.int .i64 y0,.int .i64 y1])).run Try.prog w=.ok (x0 == y0 && (x1 == y1)) w:=by
 obtain ⟨i,hi,hh⟩:=Option.map_eq_some_iff.mp info3
 have c_:Try.prog.cellsOf 3=1:=by kernel_rfl
 rw [run_equalIn_array (P:=Try.prog) (w:=w) (d + 1) _ _ Try.underlying72 hi]
 have e0:∀ a b:Int,(Op.equalIn (d + 1) 3 (.int .i64 a) (.int .i64 b)).run Try.prog w=.ok (a == b) w:=by intro a b;go_simp
 have p0:∀ a b:Int,(part 3 #[.int .i64 a,.int .i64 b] 0).run Try.prog w=.ok (.int .i64 a) w:=by intro a b;go_simp
 have p1:∀ a b:Int,(part 3 #[.int .i64 a,.int .i64 b] 1).run Try.prog w=.ok (.int .i64 b) w:=by intro a b;go_simp
 simp only [show List.range 2=[0,1] from rfl,c_,Op.eqItems,Sem.run_bind,Nat.zero_mul,Nat.one_mul,p0,e0,Result.andThen_ok]
 cases hx:(x0 == y0)
 ·simp
 ·simp only [Bool.not_true,Bool.false_eq_true,if_false,Sem.run_bind,p1,e0,Result.andThen_ok]
  cases hy:(x1 == y1) <;> simp
end Go.Proofs.Ytbcfmegepkhlpaa.XFnExactLatenessFront
-- minified
