/- Proved here: what functions that the law FnExactLongestFirst reaches answer (spec_l1In, impl_within, impl_isNumber). Conditions: those that each theorem names. -/
import Derived.Test.YtplbabjigikgjaaQFnExactLongestFirsta
set_option linter.unusedVariables false
set_option linter.unusedSimpArgs false
namespace Go.Proofs.Ytplbabjigikgjaa.Pure
open Go.RowKit Go.Proofs.Ytplbabjigikgjaa.XFnExactLongestFirst Go.Proofs.YtplbabjigikgjaaW.PrintWords Go.Proofs.YtplbabjigikgjaaW.PrintLast

theorem spec_l1In.eq (a b c:Int):spec_l1In.f a b c=some (decide (b≤a∧a≤c)):=by
 unfold spec_l1In.f
 by_cases h:a≥b
 ·rw [if_pos h];congr 1;simp;omega
 ·rw [if_neg h];congr 1;simp;omega

theorem impl_within.eq (a b c:Int):impl_within.f a b c=some (decide (b≤a∧a≤c)):=by
 unfold impl_within.f
 by_cases h:b≤a
 ·rw [if_pos h];congr 1;simp;omega
 ·rw [if_neg h];congr 1;simp;omega

theorem impl_isNumber.eq (a n:Int) (h0:0≤n) (h1:n≤1000000000000000):impl_isNumber.f a n=some (decide (0≤a∧a<n)):=by
 unfold impl_isNumber.f
 rw [impl_within.eq,Option.bind_some,wr (by omega) (by omega)]
 simp only [Option.some.injEq,decide_eq_decide];omega

end Go.Proofs.Ytplbabjigikgjaa.Pure
-- minified
