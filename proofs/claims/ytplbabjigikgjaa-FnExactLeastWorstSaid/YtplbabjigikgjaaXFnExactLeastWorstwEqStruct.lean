-- Taken by a program of this session out of the printed words of this seat: what this claim's texts use.
import Derived.Test.YtplbabjigikgjaaXFnExactLeastWorstwWords
import Derived.Laws.StructEq
/-! ### 53. '==' of structs as_ one Bool -/
namespace Go.Proofs.YtplbabjigikgjaaW.PrintWords
open Go.RowKit
section
variable {P : Program} {d : Nat} {xs ys : Array Value} {f : Field} {fs : List Field} {a b : Value} {r s : Bool} {w : World}
end
end Go.Proofs.YtplbabjigikgjaaW.PrintWords

