/-
  No cell of these rows narrows 'for every input' (looked for: loops, veiled, ifaces, maps, wideKeys, modest, calm, conditions, laid).
  DERIVED. THE GIVEN ROWS OF THIS SEAT. 6 by the template 'for every input the law returns true; each argument reads behind the call as it read before'; 0 by the template 'total and deterministic' (their statements: YteeeclaooefjfaaTotals.lean).
  GIVEN WITH THE SEED: the statements are not yours to turn. If you find one false, say at which input.
  Laid BY PROGRAM, IN A SANDBOX (cutbox-rows.mjs): the forced cells as the released guide's own fill.sh prints them over the translation 876fd3710b34e634… (all of the seat's roots in one cut). By AI agents, Wed Nov 11 2026. No macro, syntax, notation, axiom, sorry.
-/
import Derived.Test.YteeeclaooefjfaaChecked
import GoSem.Claim
import GoSem.ClaimJoined
import GoSem.ClaimMapViews
import Derived.JoinedTies
import Derived.KernelRfl
namespace Go.Proofs.Yteeeclaooefjfaa
/- THE CELL 'sum', in the pinned program and in every row, IS THE sha256 OF THE DUMP (.gsa) THAT YteeeclaooefjfaaProg.lean LOADS. Nothing in Lean hashes anything: it is a label: what it is worth is what the hold of that sum in a sandbox is worth. -/
noncomputable def Try.pinned : Pinned := { name := "yteeeclaooefjfaa", sum := "876fd3710b34e63403d2d8eeda2101fc6e1366023cc68d28e5cde666d2895aac", checked := Try.checked }
namespace Rows
def none {H : Type} : Left H := { results := [], args := [] }

/-- 'laws.FnExactIsOrder': WHATEVER THE INPUT: true; the input reads as it did. -/
def fnExactIsOrderSpec : ChangeSpec := { name := "fnExactIsOrder", fn := fun _ => fun
  | [d1, d2] => { results := [.lit (.bool true)], args := [d1, d2] }
  | _ => none }
def fnExactIsOrderRow : OpenClaim := { program := "yteeeclaooefjfaa", sum := "876fd3710b34e63403d2d8eeda2101fc6e1366023cc68d28e5cde666d2895aac", func := "loop.example/g01103/laws.FnExactIsOrder", spec := "fnExactIsOrder", apart := false }
def FnExactIsOrderSaid : Prop := fnExactIsOrderRow.holds Try.pinned (OpenSpec.ofChange fnExactIsOrderSpec)

/-- ITS FALSE NEIGHBOUR: 'it returns false'. Refute it at one input. -/
def fnExactIsOrderWrong : ChangeSpec := { name := "fnExactIsOrder", fn := fun _ => fun
  | [d1, d2] => { results := [.lit (.bool false)], args := [d1, d2] }
  | _ => none }
def FnExactIsOrderWrongFalsely : Prop := fnExactIsOrderRow.holds Try.pinned (OpenSpec.ofChange fnExactIsOrderWrong)

/-- 'laws.FnExactIsValidRecord': WHATEVER THE INPUT: true; the input reads as it did. -/
def fnExactIsValidRecordSpec : ChangeSpec := { name := "fnExactIsValidRecord", fn := fun _ => fun
  | [d] => { results := [.lit (.bool true)], args := [d] }
  | _ => none }
def fnExactIsValidRecordRow : OpenClaim := { program := "yteeeclaooefjfaa", sum := "876fd3710b34e63403d2d8eeda2101fc6e1366023cc68d28e5cde666d2895aac", func := "loop.example/g01103/laws.FnExactIsValidRecord", spec := "fnExactIsValidRecord", apart := false }
def FnExactIsValidRecordSaid : Prop := fnExactIsValidRecordRow.holds Try.pinned (OpenSpec.ofChange fnExactIsValidRecordSpec)

/-- ITS FALSE NEIGHBOUR: 'it returns false'. Refute it at one input. -/
def fnExactIsValidRecordWrong : ChangeSpec := { name := "fnExactIsValidRecord", fn := fun _ => fun
  | [d] => { results := [.lit (.bool false)], args := [d] }
  | _ => none }
def FnExactIsValidRecordWrongFalsely : Prop := fnExactIsValidRecordRow.holds Try.pinned (OpenSpec.ofChange fnExactIsValidRecordWrong)

/-- 'laws.FnExactIsShop': WHATEVER THE INPUT: true; the input reads as it did. -/
def fnExactIsShopSpec : ChangeSpec := { name := "fnExactIsShop", fn := fun _ => fun
  | [d] => { results := [.lit (.bool true)], args := [d] }
  | _ => none }
def fnExactIsShopRow : OpenClaim := { program := "yteeeclaooefjfaa", sum := "876fd3710b34e63403d2d8eeda2101fc6e1366023cc68d28e5cde666d2895aac", func := "loop.example/g01103/laws.FnExactIsShop", spec := "fnExactIsShop", apart := false }
def FnExactIsShopSaid : Prop := fnExactIsShopRow.holds Try.pinned (OpenSpec.ofChange fnExactIsShopSpec)

/-- ITS FALSE NEIGHBOUR: 'it returns false'. Refute it at one input. -/
def fnExactIsShopWrong : ChangeSpec := { name := "fnExactIsShop", fn := fun _ => fun
  | [d] => { results := [.lit (.bool false)], args := [d] }
  | _ => none }
def FnExactIsShopWrongFalsely : Prop := fnExactIsShopRow.holds Try.pinned (OpenSpec.ofChange fnExactIsShopWrong)

/-- 'laws.FnExactInsertJob': WHATEVER THE INPUT: true; the input reads as it did. -/
def fnExactInsertJobSpec : ChangeSpec := { name := "fnExactInsertJob", fn := fun _ => fun
  | [d1, d2, d3] => { results := [.lit (.bool true)], args := [d1, d2, d3] }
  | _ => none }
def fnExactInsertJobRow : OpenClaim := { program := "yteeeclaooefjfaa", sum := "876fd3710b34e63403d2d8eeda2101fc6e1366023cc68d28e5cde666d2895aac", func := "loop.example/g01103/laws.FnExactInsertJob", spec := "fnExactInsertJob", apart := false }
def FnExactInsertJobSaid : Prop := fnExactInsertJobRow.holds Try.pinned (OpenSpec.ofChange fnExactInsertJobSpec)

/-- ITS FALSE NEIGHBOUR: 'it returns false'. Refute it at one input. -/
def fnExactInsertJobWrong : ChangeSpec := { name := "fnExactInsertJob", fn := fun _ => fun
  | [d1, d2, d3] => { results := [.lit (.bool false)], args := [d1, d2, d3] }
  | _ => none }
def FnExactInsertJobWrongFalsely : Prop := fnExactInsertJobRow.holds Try.pinned (OpenSpec.ofChange fnExactInsertJobWrong)

/-- 'laws.FnSplitJoin': WHATEVER THE INPUT: true; the input reads as it did. -/
def fnSplitJoinSpec : ChangeSpec := { name := "fnSplitJoin", fn := fun _ => fun
  | [d] => { results := [.lit (.bool true)], args := [d] }
  | _ => none }
def fnSplitJoinRow : OpenClaim := { program := "yteeeclaooefjfaa", sum := "876fd3710b34e63403d2d8eeda2101fc6e1366023cc68d28e5cde666d2895aac", func := "loop.example/g01103/laws.FnSplitJoin", spec := "fnSplitJoin", apart := false }
def FnSplitJoinSaid : Prop := fnSplitJoinRow.holds Try.pinned (OpenSpec.ofChange fnSplitJoinSpec)

/-- ITS FALSE NEIGHBOUR: 'it returns false'. Refute it at one input. -/
def fnSplitJoinWrong : ChangeSpec := { name := "fnSplitJoin", fn := fun _ => fun
  | [d] => { results := [.lit (.bool false)], args := [d] }
  | _ => none }
def FnSplitJoinWrongFalsely : Prop := fnSplitJoinRow.holds Try.pinned (OpenSpec.ofChange fnSplitJoinWrong)

/-- 'laws.FnExactAreScenarios': WHATEVER THE INPUT: true; the input reads as it did. -/
def fnExactAreScenariosSpec : ChangeSpec := { name := "fnExactAreScenarios", fn := fun _ => fun
  | [d] => { results := [.lit (.bool true)], args := [d] }
  | _ => none }
def fnExactAreScenariosRow : OpenClaim := { program := "yteeeclaooefjfaa", sum := "876fd3710b34e63403d2d8eeda2101fc6e1366023cc68d28e5cde666d2895aac", func := "loop.example/g01103/laws.FnExactAreScenarios", spec := "fnExactAreScenarios", apart := false }
def FnExactAreScenariosSaid : Prop := fnExactAreScenariosRow.holds Try.pinned (OpenSpec.ofChange fnExactAreScenariosSpec)

/-- ITS FALSE NEIGHBOUR: 'it returns false'. Refute it at one input. -/
def fnExactAreScenariosWrong : ChangeSpec := { name := "fnExactAreScenarios", fn := fun _ => fun
  | [d] => { results := [.lit (.bool false)], args := [d] }
  | _ => none }
def FnExactAreScenariosWrongFalsely : Prop := fnExactAreScenariosRow.holds Try.pinned (OpenSpec.ofChange fnExactAreScenariosWrong)

/- THE SECOND FORM. 'bulk': how many values and letters a reading holds, each counted each time it is reached (what is shared counts as often as it is met; a slice's spare places count too). A statement '..UptoSaid' is the law's where the arguments, and the package variables that the reading takes, are together of bulk at most 1048576: NARROWER than '..Said'. Prove '..Said' where nothing that the law and all that it calls make is longer than what came in: it says more and counts as full. Else prove '..UptoSaid'. A law counts once. -/
mutual
def uptoBulk {H : Type} : DataW H → Nat
  | .lit (.string bytes) => bytes.length + 1
  | .lit _ => 1
  | .nil => 1
  | .ptr d => uptoBulk d + 1
  | .slice elems spare => uptoBulkAll elems + uptoBulkAll spare + 1
  | .agg parts => uptoBulkAll parts + 1
  | .iface _ d => uptoBulk d + 1
  | .map entries => uptoBulkEntries entries + 1
  | .held _ => 1
def uptoBulkAll {H : Type} : List (DataW H) → Nat
  | [] => 0
  | d :: r => uptoBulk d + uptoBulkAll r
def uptoBulkEntries {H : Type} : List (Lit × DataW H) → Nat
  | [] => 0
  | x :: r => uptoBulkEntry x + uptoBulkEntries r
def uptoBulkEntry {H : Type} : Lit × DataW H → Nat
  | (.string bytes, d) => bytes.length + uptoBulk d + 1
  | (_, d) => uptoBulk d + 1
 end
def uptoSmall : (H : Type) → List (DataW H) → Bool := fun _ ds => decide (uptoBulkAll ds ≤ 1048576)
def OpenSpec.upto (s : _root_.Go.ChangeSpec) : _root_.Go.OpenSpec := { _root_.Go.OpenSpec.ofChange s with cond := some uptoSmall }

/-- 'laws.FnExactIsOrder', WHERE WHAT IT READS IS OF BULK AT MOST 1048576: true; the input reads as it did. -/
def fnExactIsOrderUptoRow : OpenClaim := { program := "yteeeclaooefjfaa", sum := "876fd3710b34e63403d2d8eeda2101fc6e1366023cc68d28e5cde666d2895aac", func := "loop.example/g01103/laws.FnExactIsOrder", spec := "fnExactIsOrder", apart := false, narrowed := true }
def FnExactIsOrderUptoSaid : Prop := fnExactIsOrderUptoRow.holds Try.pinned (OpenSpec.upto fnExactIsOrderSpec)

/-- 'laws.FnExactIsValidRecord', WHERE WHAT IT READS IS OF BULK AT MOST 1048576: true; the input reads as it did. -/
def fnExactIsValidRecordUptoRow : OpenClaim := { program := "yteeeclaooefjfaa", sum := "876fd3710b34e63403d2d8eeda2101fc6e1366023cc68d28e5cde666d2895aac", func := "loop.example/g01103/laws.FnExactIsValidRecord", spec := "fnExactIsValidRecord", apart := false, narrowed := true }
def FnExactIsValidRecordUptoSaid : Prop := fnExactIsValidRecordUptoRow.holds Try.pinned (OpenSpec.upto fnExactIsValidRecordSpec)

/-- 'laws.FnExactIsShop', WHERE WHAT IT READS IS OF BULK AT MOST 1048576: true; the input reads as it did. -/
def fnExactIsShopUptoRow : OpenClaim := { program := "yteeeclaooefjfaa", sum := "876fd3710b34e63403d2d8eeda2101fc6e1366023cc68d28e5cde666d2895aac", func := "loop.example/g01103/laws.FnExactIsShop", spec := "fnExactIsShop", apart := false, narrowed := true }
def FnExactIsShopUptoSaid : Prop := fnExactIsShopUptoRow.holds Try.pinned (OpenSpec.upto fnExactIsShopSpec)

/-- 'laws.FnExactInsertJob', WHERE WHAT IT READS IS OF BULK AT MOST 1048576: true; the input reads as it did. -/
def fnExactInsertJobUptoRow : OpenClaim := { program := "yteeeclaooefjfaa", sum := "876fd3710b34e63403d2d8eeda2101fc6e1366023cc68d28e5cde666d2895aac", func := "loop.example/g01103/laws.FnExactInsertJob", spec := "fnExactInsertJob", apart := false, narrowed := true }
def FnExactInsertJobUptoSaid : Prop := fnExactInsertJobUptoRow.holds Try.pinned (OpenSpec.upto fnExactInsertJobSpec)

/-- 'laws.FnSplitJoin', WHERE WHAT IT READS IS OF BULK AT MOST 1048576: true; the input reads as it did. -/
def fnSplitJoinUptoRow : OpenClaim := { program := "yteeeclaooefjfaa", sum := "876fd3710b34e63403d2d8eeda2101fc6e1366023cc68d28e5cde666d2895aac", func := "loop.example/g01103/laws.FnSplitJoin", spec := "fnSplitJoin", apart := false, narrowed := true }
def FnSplitJoinUptoSaid : Prop := fnSplitJoinUptoRow.holds Try.pinned (OpenSpec.upto fnSplitJoinSpec)

/-- 'laws.FnExactAreScenarios', WHERE WHAT IT READS IS OF BULK AT MOST 1048576: true; the input reads as it did. -/
def fnExactAreScenariosUptoRow : OpenClaim := { program := "yteeeclaooefjfaa", sum := "876fd3710b34e63403d2d8eeda2101fc6e1366023cc68d28e5cde666d2895aac", func := "loop.example/g01103/laws.FnExactAreScenarios", spec := "fnExactAreScenarios", apart := false, narrowed := true }
def FnExactAreScenariosUptoSaid : Prop := fnExactAreScenariosUptoRow.holds Try.pinned (OpenSpec.upto fnExactAreScenariosSpec)

end Rows
end Go.Proofs.Yteeeclaooefjfaa
