-- Taken by a program of this session out of the printed words of this seat: what this claim's texts use.
import Derived.Test.YtplbabjigikgjaaXFnExactLeastWorstwTab
/-! ### 56. Four, five, six operations that may come up next, in any order -/
namespace Go.Proofs.YtplbabjigikgjaaW.PrintLast
section
variable {P : Program} {ops : Array Oper} {Q : Exit → Act → World → Prop} {md : Region.Mode} {S : World → Prop} {ds : List Nat} {T : Bool × List (List Nat × List Nat)}
end
end Go.Proofs.YtplbabjigikgjaaW.PrintLast

