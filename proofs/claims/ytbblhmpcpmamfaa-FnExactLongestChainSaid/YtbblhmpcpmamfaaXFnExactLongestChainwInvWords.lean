-- Taken by a program of this session out of the printed words of this seat: what this claim's texts use.
import Derived.Test.YtbblhmpcpmamfaaXFnExactLongestChainwInv
import Derived.Test.YtbblhmpcpmamfaaXFnExactLongestChainwFootNe
namespace Go.Proofs.YtbblhmpcpmamfaaW.PrintWords
open Go.RowKit
end Go.Proofs.YtbblhmpcpmamfaaW.PrintWords
namespace Go.Proofs.YtbblhmpcpmamfaaW.PrintLast
section
variable {ops : Array Oper} {a : Act} {o og : Oper} {g : Nat} {t : Tmp} {u : Bool}
end
end Go.Proofs.YtbblhmpcpmamfaaW.PrintLast

