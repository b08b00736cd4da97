/-
  No cell of these rows narrows 'for every input' (looked for: loops, veiled, ifaces, maps, wideKeys, modest, calm, conditions, laid).
  DERIVED. THE GIVEN ROWS OF THIS SEAT. 6 by the template 'for every input the law returns true; each argument reads behind the call as it read before'; 0 by the template 'total and deterministic' (their statements: YtplbabjigikgjaaTotals.lean).
  GIVEN WITH THE SEED: the statements are not yours to turn. If you find one false, say at which input.
  Laid BY PROGRAM, IN A SANDBOX (cutbox-rows.mjs): the forced cells as the released guide's own fill.sh prints them over the translation 42b9ad744578c6fb… (all of the seat's roots in one cut). By AI agents, Wed Nov 11 2026. No macro, syntax, notation, axiom, sorry.
-/
import Derived.Test.YtplbabjigikgjaaChecked
import GoSem.Claim
import GoSem.ClaimJoined
import GoSem.ClaimMapViews
import Derived.JoinedTies
import Derived.KernelRfl
namespace Go.Proofs.Ytplbabjigikgjaa
/- THE CELL 'sum', in the pinned program and in every row, IS THE sha256 OF THE DUMP (.gsa) THAT YtplbabjigikgjaaProg.lean LOADS. Nothing in Lean hashes anything: it is a label: what it is worth is what the hold of that sum in a sandbox is worth. -/
noncomputable def Try.pinned : Pinned := { name := "ytplbabjigikgjaa", sum := "42b9ad744578c6fbbbe44fe8b44361e73399e5dcbe52648573cf1bec4bf83131", checked := Try.checked }
namespace Rows
def none {H : Type} : Left H := { results := [], args := [] }

/-- 'laws.FnExactLongestFirst': WHATEVER THE INPUT: true; the input reads as it did. -/
def fnExactLongestFirstSpec : ChangeSpec := { name := "fnExactLongestFirst", fn := fun _ => fun
  | [d1, d2] => { results := [.lit (.bool true)], args := [d1, d2] }
  | _ => none }
def fnExactLongestFirstRow : OpenClaim := { program := "ytplbabjigikgjaa", sum := "42b9ad744578c6fbbbe44fe8b44361e73399e5dcbe52648573cf1bec4bf83131", func := "loop.example/g01103/laws.FnExactLongestFirst", spec := "fnExactLongestFirst", unfollowed := true, recurses := true, apart := false }
def FnExactLongestFirstSaid : Prop := fnExactLongestFirstRow.holds Try.pinned (OpenSpec.ofChange fnExactLongestFirstSpec)

/-- ITS FALSE NEIGHBOUR: 'it returns false'. Refute it at one input. -/
def fnExactLongestFirstWrong : ChangeSpec := { name := "fnExactLongestFirst", fn := fun _ => fun
  | [d1, d2] => { results := [.lit (.bool false)], args := [d1, d2] }
  | _ => none }
def FnExactLongestFirstWrongFalsely : Prop := fnExactLongestFirstRow.holds Try.pinned (OpenSpec.ofChange fnExactLongestFirstWrong)

/-- 'laws.FnTails': WHATEVER THE INPUT: true; the input reads as it did. -/
def fnTailsSpec : ChangeSpec := { name := "fnTails", fn := fun _ => fun
  | [d] => { results := [.lit (.bool true)], args := [d] }
  | _ => none }
def fnTailsRow : OpenClaim := { program := "ytplbabjigikgjaa", sum := "42b9ad744578c6fbbbe44fe8b44361e73399e5dcbe52648573cf1bec4bf83131", func := "loop.example/g01103/laws.FnTails", spec := "fnTails", recurses := true, apart := false }
def FnTailsSaid : Prop := fnTailsRow.holds Try.pinned (OpenSpec.ofChange fnTailsSpec)

/-- ITS FALSE NEIGHBOUR: 'it returns false'. Refute it at one input. -/
def fnTailsWrong : ChangeSpec := { name := "fnTails", fn := fun _ => fun
  | [d] => { results := [.lit (.bool false)], args := [d] }
  | _ => none }
def FnTailsWrongFalsely : Prop := fnTailsRow.holds Try.pinned (OpenSpec.ofChange fnTailsWrong)

/-- 'laws.FnExactSupportedPoints': WHATEVER THE INPUT: true; the input reads as it did. -/
def fnExactSupportedPointsSpec : ChangeSpec := { name := "fnExactSupportedPoints", fn := fun _ => fun
  | [d1, d2, d3] => { results := [.lit (.bool true)], args := [d1, d2, d3] }
  | _ => none }
def fnExactSupportedPointsRow : OpenClaim := { program := "ytplbabjigikgjaa", sum := "42b9ad744578c6fbbbe44fe8b44361e73399e5dcbe52648573cf1bec4bf83131", func := "loop.example/g01103/laws.FnExactSupportedPoints", spec := "fnExactSupportedPoints", unfollowed := true, recurses := true, apart := false }
def FnExactSupportedPointsSaid : Prop := fnExactSupportedPointsRow.holds Try.pinned (OpenSpec.ofChange fnExactSupportedPointsSpec)

/-- ITS FALSE NEIGHBOUR: 'it returns false'. Refute it at one input. -/
def fnExactSupportedPointsWrong : ChangeSpec := { name := "fnExactSupportedPoints", fn := fun _ => fun
  | [d1, d2, d3] => { results := [.lit (.bool false)], args := [d1, d2, d3] }
  | _ => none }
def FnExactSupportedPointsWrongFalsely : Prop := fnExactSupportedPointsRow.holds Try.pinned (OpenSpec.ofChange fnExactSupportedPointsWrong)

/-- 'laws.FnTies': WHATEVER THE INPUT: true; the input reads as it did. -/
def fnTiesSpec : ChangeSpec := { name := "fnTies", fn := fun _ => fun
  | [d] => { results := [.lit (.bool true)], args := [d] }
  | _ => none }
def fnTiesRow : OpenClaim := { program := "ytplbabjigikgjaa", sum := "42b9ad744578c6fbbbe44fe8b44361e73399e5dcbe52648573cf1bec4bf83131", func := "loop.example/g01103/laws.FnTies", spec := "fnTies", unfollowed := true, recurses := true, apart := false }
def FnTiesSaid : Prop := fnTiesRow.holds Try.pinned (OpenSpec.ofChange fnTiesSpec)

/-- ITS FALSE NEIGHBOUR: 'it returns false'. Refute it at one input. -/
def fnTiesWrong : ChangeSpec := { name := "fnTies", fn := fun _ => fun
  | [d] => { results := [.lit (.bool false)], args := [d] }
  | _ => none }
def FnTiesWrongFalsely : Prop := fnTiesRow.holds Try.pinned (OpenSpec.ofChange fnTiesWrong)

/-- 'laws.FnExactWrapAround': WHATEVER THE INPUT: true; the input reads as it did. -/
def fnExactWrapAroundSpec : ChangeSpec := { name := "fnExactWrapAround", fn := fun _ => fun
  | [d1, d2] => { results := [.lit (.bool true)], args := [d1, d2] }
  | _ => none }
def fnExactWrapAroundRow : OpenClaim := { program := "ytplbabjigikgjaa", sum := "42b9ad744578c6fbbbe44fe8b44361e73399e5dcbe52648573cf1bec4bf83131", func := "loop.example/g01103/laws.FnExactWrapAround", spec := "fnExactWrapAround", recurses := true, apart := false }
def FnExactWrapAroundSaid : Prop := fnExactWrapAroundRow.holds Try.pinned (OpenSpec.ofChange fnExactWrapAroundSpec)

/-- ITS FALSE NEIGHBOUR: 'it returns false'. Refute it at one input. -/
def fnExactWrapAroundWrong : ChangeSpec := { name := "fnExactWrapAround", fn := fun _ => fun
  | [d1, d2] => { results := [.lit (.bool false)], args := [d1, d2] }
  | _ => none }
def FnExactWrapAroundWrongFalsely : Prop := fnExactWrapAroundRow.holds Try.pinned (OpenSpec.ofChange fnExactWrapAroundWrong)

/-- 'laws.FnExactLeastWorst': WHATEVER THE INPUT: true; the input reads as it did. -/
def fnExactLeastWorstSpec : ChangeSpec := { name := "fnExactLeastWorst", fn := fun _ => fun
  | [d1, d2] => { results := [.lit (.bool true)], args := [d1, d2] }
  | _ => none }
def fnExactLeastWorstRow : OpenClaim := { program := "ytplbabjigikgjaa", sum := "42b9ad744578c6fbbbe44fe8b44361e73399e5dcbe52648573cf1bec4bf83131", func := "loop.example/g01103/laws.FnExactLeastWorst", spec := "fnExactLeastWorst", unfollowed := true, recurses := true, apart := false }
def FnExactLeastWorstSaid : Prop := fnExactLeastWorstRow.holds Try.pinned (OpenSpec.ofChange fnExactLeastWorstSpec)

/-- ITS FALSE NEIGHBOUR: 'it returns false'. Refute it at one input. -/
def fnExactLeastWorstWrong : ChangeSpec := { name := "fnExactLeastWorst", fn := fun _ => fun
  | [d1, d2] => { results := [.lit (.bool false)], args := [d1, d2] }
  | _ => none }
def FnExactLeastWorstWrongFalsely : Prop := fnExactLeastWorstRow.holds Try.pinned (OpenSpec.ofChange fnExactLeastWorstWrong)

/- THE SECOND FORM. 'bulk': how many values and letters a reading holds, each counted each time it is reached (what is shared counts as often as it is met; a slice's spare places count too). A statement '..UptoSaid' is the law's where the arguments, and the package variables that the reading takes, are together of bulk at most 1048576: NARROWER than '..Said'. Prove '..Said' where nothing that the law and all that it calls make is longer than what came in: it says more and counts as full. Else prove '..UptoSaid'. A law counts once. -/
mutual
def uptoBulk {H : Type} : DataW H → Nat
  | .lit (.string bytes) => bytes.length + 1
  | .lit _ => 1
  | .nil => 1
  | .ptr d => uptoBulk d + 1
  | .slice elems spare => uptoBulkAll elems + uptoBulkAll spare + 1
  | .agg parts => uptoBulkAll parts + 1
  | .iface _ d => uptoBulk d + 1
  | .map entries => uptoBulkEntries entries + 1
  | .held _ => 1
def uptoBulkAll {H : Type} : List (DataW H) → Nat
  | [] => 0
  | d :: r => uptoBulk d + uptoBulkAll r
def uptoBulkEntries {H : Type} : List (Lit × DataW H) → Nat
  | [] => 0
  | x :: r => uptoBulkEntry x + uptoBulkEntries r
def uptoBulkEntry {H : Type} : Lit × DataW H → Nat
  | (.string bytes, d) => bytes.length + uptoBulk d + 1
  | (_, d) => uptoBulk d + 1
 end
def uptoSmall : (H : Type) → List (DataW H) → Bool := fun _ ds => decide (uptoBulkAll ds ≤ 1048576)
def OpenSpec.upto (s : _root_.Go.ChangeSpec) : _root_.Go.OpenSpec := { _root_.Go.OpenSpec.ofChange s with cond := some uptoSmall }

/-- 'laws.FnExactLongestFirst', WHERE WHAT IT READS IS OF BULK AT MOST 1048576: true; the input reads as it did. -/
def fnExactLongestFirstUptoRow : OpenClaim := { program := "ytplbabjigikgjaa", sum := "42b9ad744578c6fbbbe44fe8b44361e73399e5dcbe52648573cf1bec4bf83131", func := "loop.example/g01103/laws.FnExactLongestFirst", spec := "fnExactLongestFirst", unfollowed := true, recurses := true, apart := false, narrowed := true }
def FnExactLongestFirstUptoSaid : Prop := fnExactLongestFirstUptoRow.holds Try.pinned (OpenSpec.upto fnExactLongestFirstSpec)

/-- 'laws.FnTails', WHERE WHAT IT READS IS OF BULK AT MOST 1048576: true; the input reads as it did. -/
def fnTailsUptoRow : OpenClaim := { program := "ytplbabjigikgjaa", sum := "42b9ad744578c6fbbbe44fe8b44361e73399e5dcbe52648573cf1bec4bf83131", func := "loop.example/g01103/laws.FnTails", spec := "fnTails", recurses := true, apart := false, narrowed := true }
def FnTailsUptoSaid : Prop := fnTailsUptoRow.holds Try.pinned (OpenSpec.upto fnTailsSpec)

/-- 'laws.FnExactSupportedPoints', WHERE WHAT IT READS IS OF BULK AT MOST 1048576: true; the input reads as it did. -/
def fnExactSupportedPointsUptoRow : OpenClaim := { program := "ytplbabjigikgjaa", sum := "42b9ad744578c6fbbbe44fe8b44361e73399e5dcbe52648573cf1bec4bf83131", func := "loop.example/g01103/laws.FnExactSupportedPoints", spec := "fnExactSupportedPoints", unfollowed := true, recurses := true, apart := false, narrowed := true }
def FnExactSupportedPointsUptoSaid : Prop := fnExactSupportedPointsUptoRow.holds Try.pinned (OpenSpec.upto fnExactSupportedPointsSpec)

/-- 'laws.FnTies', WHERE WHAT IT READS IS OF BULK AT MOST 1048576: true; the input reads as it did. -/
def fnTiesUptoRow : OpenClaim := { program := "ytplbabjigikgjaa", sum := "42b9ad744578c6fbbbe44fe8b44361e73399e5dcbe52648573cf1bec4bf83131", func := "loop.example/g01103/laws.FnTies", spec := "fnTies", unfollowed := true, recurses := true, apart := false, narrowed := true }
def FnTiesUptoSaid : Prop := fnTiesUptoRow.holds Try.pinned (OpenSpec.upto fnTiesSpec)

/-- 'laws.FnExactWrapAround', WHERE WHAT IT READS IS OF BULK AT MOST 1048576: true; the input reads as it did. -/
def fnExactWrapAroundUptoRow : OpenClaim := { program := "ytplbabjigikgjaa", sum := "42b9ad744578c6fbbbe44fe8b44361e73399e5dcbe52648573cf1bec4bf83131", func := "loop.example/g01103/laws.FnExactWrapAround", spec := "fnExactWrapAround", recurses := true, apart := false, narrowed := true }
def FnExactWrapAroundUptoSaid : Prop := fnExactWrapAroundUptoRow.holds Try.pinned (OpenSpec.upto fnExactWrapAroundSpec)

/-- 'laws.FnExactLeastWorst', WHERE WHAT IT READS IS OF BULK AT MOST 1048576: true; the input reads as it did. -/
def fnExactLeastWorstUptoRow : OpenClaim := { program := "ytplbabjigikgjaa", sum := "42b9ad744578c6fbbbe44fe8b44361e73399e5dcbe52648573cf1bec4bf83131", func := "loop.example/g01103/laws.FnExactLeastWorst", spec := "fnExactLeastWorst", unfollowed := true, recurses := true, apart := false, narrowed := true }
def FnExactLeastWorstUptoSaid : Prop := fnExactLeastWorstUptoRow.holds Try.pinned (OpenSpec.upto fnExactLeastWorstSpec)

end Rows
end Go.Proofs.Ytplbabjigikgjaa
