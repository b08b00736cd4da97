/-
  No cell of these rows narrows 'for every input' (looked for: loops, veiled, ifaces, maps, wideKeys, modest, calm, conditions, laid).
  DERIVED. THE GIVEN ROWS OF THIS SEAT. 6 by the template 'for every input the law returns true; each argument reads behind the call as it read before'; 0 by the template 'total and deterministic' (their statements: YtphgpffgidfmmaaTotals.lean).
  GIVEN WITH THE SEED: the statements are not yours to turn. If you find one false, say at which input.
  Laid BY PROGRAM, IN A SANDBOX (cutbox-rows.mjs): the forced cells as the released guide's own fill.sh prints them over the translation 038ac4abd2bea39d… (all of the seat's roots in one cut). By AI agents, Wed Nov 11 2026. No macro, syntax, notation, axiom, sorry.
-/
import Derived.Test.YtphgpffgidfmmaaChecked
import GoSem.Claim
import GoSem.ClaimJoined
import GoSem.ClaimMapViews
import Derived.JoinedTies
import Derived.KernelRfl
namespace Go.Proofs.Ytphgpffgidfmmaa
/- THE CELL 'sum', in the pinned program and in every row, IS THE sha256 OF THE DUMP (.gsa) THAT YtphgpffgidfmmaaProg.lean LOADS. Nothing in Lean hashes anything: it is a label: what it is worth is what the hold of that sum in a sandbox is worth. -/
noncomputable def Try.pinned : Pinned := { name := "ytphgpffgidfmmaa", sum := "038ac4abd2bea39d638fe802142aae291412a36e04a1be1740ec46ed129dc2ff", checked := Try.checked }
namespace Rows
def none {H : Type} : Left H := { results := [], args := [] }

/-- 'laws.FnExactJohnsonOrder': WHATEVER THE INPUT: true; the input reads as it did. -/
def fnExactJohnsonOrderSpec : ChangeSpec := { name := "fnExactJohnsonOrder", fn := fun _ => fun
  | [d] => { results := [.lit (.bool true)], args := [d] }
  | _ => none }
def fnExactJohnsonOrderRow : OpenClaim := { program := "ytphgpffgidfmmaa", sum := "038ac4abd2bea39d638fe802142aae291412a36e04a1be1740ec46ed129dc2ff", func := "loop.example/g01103/laws.FnExactJohnsonOrder", spec := "fnExactJohnsonOrder", unfollowed := true, recurses := true, apart := false }
def FnExactJohnsonOrderSaid : Prop := fnExactJohnsonOrderRow.holds Try.pinned (OpenSpec.ofChange fnExactJohnsonOrderSpec)

/-- ITS FALSE NEIGHBOUR: 'it returns false'. Refute it at one input. -/
def fnExactJohnsonOrderWrong : ChangeSpec := { name := "fnExactJohnsonOrder", fn := fun _ => fun
  | [d] => { results := [.lit (.bool false)], args := [d] }
  | _ => none }
def FnExactJohnsonOrderWrongFalsely : Prop := fnExactJohnsonOrderRow.holds Try.pinned (OpenSpec.ofChange fnExactJohnsonOrderWrong)

/-- 'laws.FnExactSupplyOf': WHATEVER THE INPUT: true; the input reads as it did. -/
def fnExactSupplyOfSpec : ChangeSpec := { name := "fnExactSupplyOf", fn := fun _ => fun
  | [d1, d2, d3] => { results := [.lit (.bool true)], args := [d1, d2, d3] }
  | _ => none }
def fnExactSupplyOfRow : OpenClaim := { program := "ytphgpffgidfmmaa", sum := "038ac4abd2bea39d638fe802142aae291412a36e04a1be1740ec46ed129dc2ff", func := "loop.example/g01103/laws.FnExactSupplyOf", spec := "fnExactSupplyOf", apart := false }
def FnExactSupplyOfSaid : Prop := fnExactSupplyOfRow.holds Try.pinned (OpenSpec.ofChange fnExactSupplyOfSpec)

/-- ITS FALSE NEIGHBOUR: 'it returns false'. Refute it at one input. -/
def fnExactSupplyOfWrong : ChangeSpec := { name := "fnExactSupplyOf", fn := fun _ => fun
  | [d1, d2, d3] => { results := [.lit (.bool false)], args := [d1, d2, d3] }
  | _ => none }
def FnExactSupplyOfWrongFalsely : Prop := fnExactSupplyOfRow.holds Try.pinned (OpenSpec.ofChange fnExactSupplyOfWrong)

/-- 'laws.FnExactGreedyOrder': WHATEVER THE INPUT: true; the input reads as it did. -/
def fnExactGreedyOrderSpec : ChangeSpec := { name := "fnExactGreedyOrder", fn := fun _ => fun
  | [d] => { results := [.lit (.bool true)], args := [d] }
  | _ => none }
def fnExactGreedyOrderRow : OpenClaim := { program := "ytphgpffgidfmmaa", sum := "038ac4abd2bea39d638fe802142aae291412a36e04a1be1740ec46ed129dc2ff", func := "loop.example/g01103/laws.FnExactGreedyOrder", spec := "fnExactGreedyOrder", apart := false }
def FnExactGreedyOrderSaid : Prop := fnExactGreedyOrderRow.holds Try.pinned (OpenSpec.ofChange fnExactGreedyOrderSpec)

/-- ITS FALSE NEIGHBOUR: 'it returns false'. Refute it at one input. -/
def fnExactGreedyOrderWrong : ChangeSpec := { name := "fnExactGreedyOrder", fn := fun _ => fun
  | [d] => { results := [.lit (.bool false)], args := [d] }
  | _ => none }
def FnExactGreedyOrderWrongFalsely : Prop := fnExactGreedyOrderRow.holds Try.pinned (OpenSpec.ofChange fnExactGreedyOrderWrong)

/-- 'laws.FnExactStairLength': WHATEVER THE INPUT: true; the input reads as it did. -/
def fnExactStairLengthSpec : ChangeSpec := { name := "fnExactStairLength", fn := fun _ => fun
  | [d1, d2, d3] => { results := [.lit (.bool true)], args := [d1, d2, d3] }
  | _ => none }
def fnExactStairLengthRow : OpenClaim := { program := "ytphgpffgidfmmaa", sum := "038ac4abd2bea39d638fe802142aae291412a36e04a1be1740ec46ed129dc2ff", func := "loop.example/g01103/laws.FnExactStairLength", spec := "fnExactStairLength", apart := false }
def FnExactStairLengthSaid : Prop := fnExactStairLengthRow.holds Try.pinned (OpenSpec.ofChange fnExactStairLengthSpec)

/-- ITS FALSE NEIGHBOUR: 'it returns false'. Refute it at one input. -/
def fnExactStairLengthWrong : ChangeSpec := { name := "fnExactStairLength", fn := fun _ => fun
  | [d1, d2, d3] => { results := [.lit (.bool false)], args := [d1, d2, d3] }
  | _ => none }
def FnExactStairLengthWrongFalsely : Prop := fnExactStairLengthRow.holds Try.pinned (OpenSpec.ofChange fnExactStairLengthWrong)

/-- 'laws.FnExactStartsOf': WHATEVER THE INPUT: true; the input reads as it did. -/
def fnExactStartsOfSpec : ChangeSpec := { name := "fnExactStartsOf", fn := fun _ => fun
  | [d1, d2] => { results := [.lit (.bool true)], args := [d1, d2] }
  | _ => none }
def fnExactStartsOfRow : OpenClaim := { program := "ytphgpffgidfmmaa", sum := "038ac4abd2bea39d638fe802142aae291412a36e04a1be1740ec46ed129dc2ff", func := "loop.example/g01103/laws.FnExactStartsOf", spec := "fnExactStartsOf", apart := false }
def FnExactStartsOfSaid : Prop := fnExactStartsOfRow.holds Try.pinned (OpenSpec.ofChange fnExactStartsOfSpec)

/-- ITS FALSE NEIGHBOUR: 'it returns false'. Refute it at one input. -/
def fnExactStartsOfWrong : ChangeSpec := { name := "fnExactStartsOf", fn := fun _ => fun
  | [d1, d2] => { results := [.lit (.bool false)], args := [d1, d2] }
  | _ => none }
def FnExactStartsOfWrongFalsely : Prop := fnExactStartsOfRow.holds Try.pinned (OpenSpec.ofChange fnExactStartsOfWrong)

/-- 'laws.FnStrings': WHATEVER THE INPUT: true; the input reads as it did. -/
def fnStringsSpec : ChangeSpec := { name := "fnStrings", fn := fun _ => fun
  | [d] => { results := [.lit (.bool true)], args := [d] }
  | _ => none }
def fnStringsRow : OpenClaim := { program := "ytphgpffgidfmmaa", sum := "038ac4abd2bea39d638fe802142aae291412a36e04a1be1740ec46ed129dc2ff", func := "loop.example/g01103/laws.FnStrings", spec := "fnStrings", recurses := true, apart := false }
def FnStringsSaid : Prop := fnStringsRow.holds Try.pinned (OpenSpec.ofChange fnStringsSpec)

/-- ITS FALSE NEIGHBOUR: 'it returns false'. Refute it at one input. -/
def fnStringsWrong : ChangeSpec := { name := "fnStrings", fn := fun _ => fun
  | [d] => { results := [.lit (.bool false)], args := [d] }
  | _ => none }
def FnStringsWrongFalsely : Prop := fnStringsRow.holds Try.pinned (OpenSpec.ofChange fnStringsWrong)

/- THE SECOND FORM. 'bulk': how many values and letters a reading holds, each counted each time it is reached (what is shared counts as often as it is met; a slice's spare places count too). A statement '..UptoSaid' is the law's where the arguments, and the package variables that the reading takes, are together of bulk at most 1048576: NARROWER than '..Said'. Prove '..Said' where nothing that the law and all that it calls make is longer than what came in: it says more and counts as full. Else prove '..UptoSaid'. A law counts once. -/
mutual
def uptoBulk {H : Type} : DataW H → Nat
  | .lit (.string bytes) => bytes.length + 1
  | .lit _ => 1
  | .nil => 1
  | .ptr d => uptoBulk d + 1
  | .slice elems spare => uptoBulkAll elems + uptoBulkAll spare + 1
  | .agg parts => uptoBulkAll parts + 1
  | .iface _ d => uptoBulk d + 1
  | .map entries => uptoBulkEntries entries + 1
  | .held _ => 1
def uptoBulkAll {H : Type} : List (DataW H) → Nat
  | [] => 0
  | d :: r => uptoBulk d + uptoBulkAll r
def uptoBulkEntries {H : Type} : List (Lit × DataW H) → Nat
  | [] => 0
  | x :: r => uptoBulkEntry x + uptoBulkEntries r
def uptoBulkEntry {H : Type} : Lit × DataW H → Nat
  | (.string bytes, d) => bytes.length + uptoBulk d + 1
  | (_, d) => uptoBulk d + 1
 end
def uptoSmall : (H : Type) → List (DataW H) → Bool := fun _ ds => decide (uptoBulkAll ds ≤ 1048576)
def OpenSpec.upto (s : _root_.Go.ChangeSpec) : _root_.Go.OpenSpec := { _root_.Go.OpenSpec.ofChange s with cond := some uptoSmall }

/-- 'laws.FnExactJohnsonOrder', WHERE WHAT IT READS IS OF BULK AT MOST 1048576: true; the input reads as it did. -/
def fnExactJohnsonOrderUptoRow : OpenClaim := { program := "ytphgpffgidfmmaa", sum := "038ac4abd2bea39d638fe802142aae291412a36e04a1be1740ec46ed129dc2ff", func := "loop.example/g01103/laws.FnExactJohnsonOrder", spec := "fnExactJohnsonOrder", unfollowed := true, recurses := true, apart := false, narrowed := true }
def FnExactJohnsonOrderUptoSaid : Prop := fnExactJohnsonOrderUptoRow.holds Try.pinned (OpenSpec.upto fnExactJohnsonOrderSpec)

/-- 'laws.FnExactSupplyOf', WHERE WHAT IT READS IS OF BULK AT MOST 1048576: true; the input reads as it did. -/
def fnExactSupplyOfUptoRow : OpenClaim := { program := "ytphgpffgidfmmaa", sum := "038ac4abd2bea39d638fe802142aae291412a36e04a1be1740ec46ed129dc2ff", func := "loop.example/g01103/laws.FnExactSupplyOf", spec := "fnExactSupplyOf", apart := false, narrowed := true }
def FnExactSupplyOfUptoSaid : Prop := fnExactSupplyOfUptoRow.holds Try.pinned (OpenSpec.upto fnExactSupplyOfSpec)

/-- 'laws.FnExactGreedyOrder', WHERE WHAT IT READS IS OF BULK AT MOST 1048576: true; the input reads as it did. -/
def fnExactGreedyOrderUptoRow : OpenClaim := { program := "ytphgpffgidfmmaa", sum := "038ac4abd2bea39d638fe802142aae291412a36e04a1be1740ec46ed129dc2ff", func := "loop.example/g01103/laws.FnExactGreedyOrder", spec := "fnExactGreedyOrder", apart := false, narrowed := true }
def FnExactGreedyOrderUptoSaid : Prop := fnExactGreedyOrderUptoRow.holds Try.pinned (OpenSpec.upto fnExactGreedyOrderSpec)

/-- 'laws.FnExactStairLength', WHERE WHAT IT READS IS OF BULK AT MOST 1048576: true; the input reads as it did. -/
def fnExactStairLengthUptoRow : OpenClaim := { program := "ytphgpffgidfmmaa", sum := "038ac4abd2bea39d638fe802142aae291412a36e04a1be1740ec46ed129dc2ff", func := "loop.example/g01103/laws.FnExactStairLength", spec := "fnExactStairLength", apart := false, narrowed := true }
def FnExactStairLengthUptoSaid : Prop := fnExactStairLengthUptoRow.holds Try.pinned (OpenSpec.upto fnExactStairLengthSpec)

/-- 'laws.FnExactStartsOf', WHERE WHAT IT READS IS OF BULK AT MOST 1048576: true; the input reads as it did. -/
def fnExactStartsOfUptoRow : OpenClaim := { program := "ytphgpffgidfmmaa", sum := "038ac4abd2bea39d638fe802142aae291412a36e04a1be1740ec46ed129dc2ff", func := "loop.example/g01103/laws.FnExactStartsOf", spec := "fnExactStartsOf", apart := false, narrowed := true }
def FnExactStartsOfUptoSaid : Prop := fnExactStartsOfUptoRow.holds Try.pinned (OpenSpec.upto fnExactStartsOfSpec)

/-- 'laws.FnStrings', WHERE WHAT IT READS IS OF BULK AT MOST 1048576: true; the input reads as it did. -/
def fnStringsUptoRow : OpenClaim := { program := "ytphgpffgidfmmaa", sum := "038ac4abd2bea39d638fe802142aae291412a36e04a1be1740ec46ed129dc2ff", func := "loop.example/g01103/laws.FnStrings", spec := "fnStrings", recurses := true, apart := false, narrowed := true }
def FnStringsUptoSaid : Prop := fnStringsUptoRow.holds Try.pinned (OpenSpec.upto fnStringsSpec)

end Rows
end Go.Proofs.Ytphgpffgidfmmaa
