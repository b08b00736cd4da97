-- Written by a program of this session (the kit's print, widened). Proved here: what each function answers, for the arguments that its contract names.
import Derived.Test.YtbcfmegepkhlpaaXFnSharedx0
namespace Go.Proofs.Ytbcfmegepkhlpaa.XFnShared
open Go.RowKit Go.Proofs.YtbcfmegepkhlpaaW.PrintWords Go.Proofs.YtbcfmegepkhlpaaW.PrintLast Go.Proofs.YtbcfmegepkhlpaaW.PrintMore
attribute [local go_sem] max2_int min2_int max_two min_two max_three min_three max_four min_four   -- for this text's walks alone
attribute [local go_sem] idxA_72_0 idxA_72_1 fldS_96_0 fldS_96_1 fldS_96_2 fldS_111_0 fldS_111_1 fldS_111_2
set_option linter.unusedVariables false
set_option linter.unusedSimpArgs false

theorem eqA116 (d:Nat) (w:World) (x0 y0:Int) (x1 y1:Int) (x2 y2:Int) :
  (Op.equalIn (d + 2) 116 (.agg #[.int .i64 x0,.int .i64 x1,.int .i64 x2]) (.agg #[.int .i64 y0,.int .i64 y1,.int .i64 y2])).run Try.prog w=.ok (x0 == y0 && (x1 == y1 && (x2 == y2))) w:=by
 refine eqA_of Try.underlying116 (by kernel_rfl) ?_
 refine eqf_cons (by rfl) (by go_simp;rfl) (by go_simp;rfl) (by go_simp) ?_
 refine eqf_cons (by rfl) (by go_simp;rfl) (by go_simp;rfl) (by go_simp) ?_
 exact eqf_last (by rfl) (by go_simp;rfl) (by go_simp;rfl) (by go_simp)
end Go.Proofs.Ytbcfmegepkhlpaa.XFnShared
-- minified
