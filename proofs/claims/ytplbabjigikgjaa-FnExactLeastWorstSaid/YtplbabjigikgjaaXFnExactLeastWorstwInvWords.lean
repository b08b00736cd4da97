-- Taken by a program of this session out of the printed words of this seat: what this claim's texts use.
import Derived.Test.YtplbabjigikgjaaXFnExactLeastWorstwInv
import Derived.Test.YtplbabjigikgjaaXFnExactLeastWorstwFootNe
namespace Go.Proofs.YtplbabjigikgjaaW.PrintWords
open Go.RowKit
end Go.Proofs.YtplbabjigikgjaaW.PrintWords
namespace Go.Proofs.YtplbabjigikgjaaW.PrintLast
section
variable {ops : Array Oper} {a : Act} {o og : Oper} {g : Nat} {t : Tmp} {u : Bool}
end
end Go.Proofs.YtplbabjigikgjaaW.PrintLast

