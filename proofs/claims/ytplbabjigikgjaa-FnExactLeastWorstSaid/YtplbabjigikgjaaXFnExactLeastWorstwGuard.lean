-- Taken by a program of this session out of the printed words of this seat: what this claim's texts use.
import Derived.Test.YtplbabjigikgjaaXFnExactLeastWorstwWords
/-! ### 58. A guarded operation whose guard is known to want it: the same goal without the guard -/
namespace Go.Proofs.YtplbabjigikgjaaW.PrintWords
open Go.RowKit
section
variable {P : Program} {ops : Array Oper} {rest : List Oper} {o : Oper} {a : Act} {Q : Exit → Act → World → Prop} {W : World}
end
end Go.Proofs.YtplbabjigikgjaaW.PrintWords

