/-
  No cell of these rows narrows 'for every input' (looked for: loops, veiled, ifaces, maps, wideKeys, modest, calm, conditions, laid).
  DERIVED. THE GIVEN ROWS OF THIS SEAT. 2 by the template 'for every input the law returns true; each argument reads behind the call as it read before'; 0 by the template 'total and deterministic' (their statements: YtkolecmpncaooaaTotals.lean).
  GIVEN WITH THE SEED: the statements are not yours to turn. If you find one false, say at which input.
  Laid BY PROGRAM, IN A SANDBOX (cutbox-rows.mjs): the forced cells as the released guide's own fill.sh prints them over the translation 25783a7c068e825d… (all of the seat's roots in one cut). By AI agents, Wed Nov 11 2026. No macro, syntax, notation, axiom, sorry.
-/
import Derived.Test.YtkolecmpncaooaaChecked
import GoSem.Claim
import GoSem.ClaimJoined
import GoSem.ClaimMapViews
import Derived.JoinedTies
import Derived.KernelRfl
namespace Go.Proofs.Ytkolecmpncaooaa
/- THE CELL 'sum', in the pinned program and in every row, IS THE sha256 OF THE DUMP (.gsa) THAT YtkolecmpncaooaaProg.lean LOADS. Nothing in Lean hashes anything: it is a label: what it is worth is what the hold of that sum in a sandbox is worth. -/
noncomputable def Try.pinned : Pinned := { name := "ytkolecmpncaooaa", sum := "25783a7c068e825d426c84ef70daa1acb6d67bf0d0937595e98ccc200e3e0a3c", checked := Try.checked }
namespace Rows
def none {H : Type} : Left H := { results := [], args := [] }

/-- 'laws.FnLateWeight': WHATEVER THE INPUT: true; the input reads as it did. -/
def fnLateWeightSpec : ChangeSpec := { name := "fnLateWeight", fn := fun _ => fun
  | [d] => { results := [.lit (.bool true)], args := [d] }
  | _ => none }
def fnLateWeightRow : OpenClaim := { program := "ytkolecmpncaooaa", sum := "25783a7c068e825d426c84ef70daa1acb6d67bf0d0937595e98ccc200e3e0a3c", func := "loop.example/g01103/laws.FnLateWeight", spec := "fnLateWeight", unfollowed := true, recurses := true, apart := false }
def FnLateWeightSaid : Prop := fnLateWeightRow.holds Try.pinned (OpenSpec.ofChange fnLateWeightSpec)

/-- ITS FALSE NEIGHBOUR: 'it returns false'. Refute it at one input. -/
def fnLateWeightWrong : ChangeSpec := { name := "fnLateWeight", fn := fun _ => fun
  | [d] => { results := [.lit (.bool false)], args := [d] }
  | _ => none }
def FnLateWeightWrongFalsely : Prop := fnLateWeightRow.holds Try.pinned (OpenSpec.ofChange fnLateWeightWrong)

/-- 'laws.FnLongestFirst': WHATEVER THE INPUT: true; the input reads as it did. -/
def fnLongestFirstSpec : ChangeSpec := { name := "fnLongestFirst", fn := fun _ => fun
  | [d] => { results := [.lit (.bool true)], args := [d] }
  | _ => none }
def fnLongestFirstRow : OpenClaim := { program := "ytkolecmpncaooaa", sum := "25783a7c068e825d426c84ef70daa1acb6d67bf0d0937595e98ccc200e3e0a3c", func := "loop.example/g01103/laws.FnLongestFirst", spec := "fnLongestFirst", unfollowed := true, recurses := true, apart := false }
def FnLongestFirstSaid : Prop := fnLongestFirstRow.holds Try.pinned (OpenSpec.ofChange fnLongestFirstSpec)

/-- ITS FALSE NEIGHBOUR: 'it returns false'. Refute it at one input. -/
def fnLongestFirstWrong : ChangeSpec := { name := "fnLongestFirst", fn := fun _ => fun
  | [d] => { results := [.lit (.bool false)], args := [d] }
  | _ => none }
def FnLongestFirstWrongFalsely : Prop := fnLongestFirstRow.holds Try.pinned (OpenSpec.ofChange fnLongestFirstWrong)

/- THE SECOND FORM. 'bulk': how many values and letters a reading holds, each counted each time it is reached (what is shared counts as often as it is met; a slice's spare places count too). A statement '..UptoSaid' is the law's where the arguments, and the package variables that the reading takes, are together of bulk at most 1048576: NARROWER than '..Said'. Prove '..Said' where nothing that the law and all that it calls make is longer than what came in: it says more and counts as full. Else prove '..UptoSaid'. A law counts once. -/
mutual
def uptoBulk {H : Type} : DataW H → Nat
  | .lit (.string bytes) => bytes.length + 1
  | .lit _ => 1
  | .nil => 1
  | .ptr d => uptoBulk d + 1
  | .slice elems spare => uptoBulkAll elems + uptoBulkAll spare + 1
  | .agg parts => uptoBulkAll parts + 1
  | .iface _ d => uptoBulk d + 1
  | .map entries => uptoBulkEntries entries + 1
  | .held _ => 1
def uptoBulkAll {H : Type} : List (DataW H) → Nat
  | [] => 0
  | d :: r => uptoBulk d + uptoBulkAll r
def uptoBulkEntries {H : Type} : List (Lit × DataW H) → Nat
  | [] => 0
  | x :: r => uptoBulkEntry x + uptoBulkEntries r
def uptoBulkEntry {H : Type} : Lit × DataW H → Nat
  | (.string bytes, d) => bytes.length + uptoBulk d + 1
  | (_, d) => uptoBulk d + 1
 end
def uptoSmall : (H : Type) → List (DataW H) → Bool := fun _ ds => decide (uptoBulkAll ds ≤ 1048576)
def OpenSpec.upto (s : _root_.Go.ChangeSpec) : _root_.Go.OpenSpec := { _root_.Go.OpenSpec.ofChange s with cond := some uptoSmall }

/-- 'laws.FnLateWeight', WHERE WHAT IT READS IS OF BULK AT MOST 1048576: true; the input reads as it did. -/
def fnLateWeightUptoRow : OpenClaim := { program := "ytkolecmpncaooaa", sum := "25783a7c068e825d426c84ef70daa1acb6d67bf0d0937595e98ccc200e3e0a3c", func := "loop.example/g01103/laws.FnLateWeight", spec := "fnLateWeight", unfollowed := true, recurses := true, apart := false, narrowed := true }
def FnLateWeightUptoSaid : Prop := fnLateWeightUptoRow.holds Try.pinned (OpenSpec.upto fnLateWeightSpec)

/-- 'laws.FnLongestFirst', WHERE WHAT IT READS IS OF BULK AT MOST 1048576: true; the input reads as it did. -/
def fnLongestFirstUptoRow : OpenClaim := { program := "ytkolecmpncaooaa", sum := "25783a7c068e825d426c84ef70daa1acb6d67bf0d0937595e98ccc200e3e0a3c", func := "loop.example/g01103/laws.FnLongestFirst", spec := "fnLongestFirst", unfollowed := true, recurses := true, apart := false, narrowed := true }
def FnLongestFirstUptoSaid : Prop := fnLongestFirstUptoRow.holds Try.pinned (OpenSpec.upto fnLongestFirstSpec)

end Rows
end Go.Proofs.Ytkolecmpncaooaa
