/-
  No cell of these rows narrows 'for every input' (looked for: loops, veiled, ifaces, maps, wideKeys, modest, calm, conditions, laid).
  DERIVED. THE GIVEN ROWS OF THIS SEAT. 6 by the template 'for every input the law returns true; each argument reads behind the call as it read before'; 0 by the template 'total and deterministic' (their statements: YtafjdcjaigmnaaaTotals.lean).
  GIVEN WITH THE SEED: the statements are not yours to turn. If you find one false, say at which input.
  Laid BY PROGRAM, IN A SANDBOX (cutbox-rows.mjs): the forced cells as the released guide's own fill.sh prints them over the translation 3c6aa9c20c1f5c88… (all of the seat's roots in one cut). By AI agents, Wed Nov 11 2026. No macro, syntax, notation, axiom, sorry.
-/
import Derived.Test.YtafjdcjaigmnaaaChecked
import GoSem.Claim
import GoSem.ClaimJoined
import GoSem.ClaimMapViews
import Derived.JoinedTies
import Derived.KernelRfl
namespace Go.Proofs.Ytafjdcjaigmnaaa
/- THE CELL 'sum', in the pinned program and in every row, IS THE sha256 OF THE DUMP (.gsa) THAT YtafjdcjaigmnaaaProg.lean LOADS. Nothing in Lean hashes anything: it is a label: what it is worth is what the hold of that sum in a sandbox is worth. -/
noncomputable def Try.pinned : Pinned := { name := "ytafjdcjaigmnaaa", sum := "3c6aa9c20c1f5c88a4b71bfceedd007f5388740a42704818a9b81bcaeaaf056b", checked := Try.checked }
namespace Rows
def none {H : Type} : Left H := { results := [], args := [] }

/-- 'laws.FnExactBackwardOrder': WHATEVER THE INPUT: true; the input reads as it did. -/
def fnExactBackwardOrderSpec : ChangeSpec := { name := "fnExactBackwardOrder", fn := fun _ => fun
  | [d1, d2] => { results := [.lit (.bool true)], args := [d1, d2] }
  | _ => none }
def fnExactBackwardOrderRow : OpenClaim := { program := "ytafjdcjaigmnaaa", sum := "3c6aa9c20c1f5c88a4b71bfceedd007f5388740a42704818a9b81bcaeaaf056b", func := "loop.example/g01103/laws.FnExactBackwardOrder", spec := "fnExactBackwardOrder", apart := false }
def FnExactBackwardOrderSaid : Prop := fnExactBackwardOrderRow.holds Try.pinned (OpenSpec.ofChange fnExactBackwardOrderSpec)

/-- ITS FALSE NEIGHBOUR: 'it returns false'. Refute it at one input. -/
def fnExactBackwardOrderWrong : ChangeSpec := { name := "fnExactBackwardOrder", fn := fun _ => fun
  | [d1, d2] => { results := [.lit (.bool false)], args := [d1, d2] }
  | _ => none }
def FnExactBackwardOrderWrongFalsely : Prop := fnExactBackwardOrderRow.holds Try.pinned (OpenSpec.ofChange fnExactBackwardOrderWrong)

/-- 'laws.FnExactIsBalanced': WHATEVER THE INPUT: true; the input reads as it did. -/
def fnExactIsBalancedSpec : ChangeSpec := { name := "fnExactIsBalanced", fn := fun _ => fun
  | [d1, d2] => { results := [.lit (.bool true)], args := [d1, d2] }
  | _ => none }
def fnExactIsBalancedRow : OpenClaim := { program := "ytafjdcjaigmnaaa", sum := "3c6aa9c20c1f5c88a4b71bfceedd007f5388740a42704818a9b81bcaeaaf056b", func := "loop.example/g01103/laws.FnExactIsBalanced", spec := "fnExactIsBalanced", unfollowed := true, recurses := true, apart := false }
def FnExactIsBalancedSaid : Prop := fnExactIsBalancedRow.holds Try.pinned (OpenSpec.ofChange fnExactIsBalancedSpec)

/-- ITS FALSE NEIGHBOUR: 'it returns false'. Refute it at one input. -/
def fnExactIsBalancedWrong : ChangeSpec := { name := "fnExactIsBalanced", fn := fun _ => fun
  | [d1, d2] => { results := [.lit (.bool false)], args := [d1, d2] }
  | _ => none }
def FnExactIsBalancedWrongFalsely : Prop := fnExactIsBalancedRow.holds Try.pinned (OpenSpec.ofChange fnExactIsBalancedWrong)

/-- 'laws.FnExactBestFlow': WHATEVER THE INPUT: true; the input reads as it did. -/
def fnExactBestFlowSpec : ChangeSpec := { name := "fnExactBestFlow", fn := fun _ => fun
  | [d] => { results := [.lit (.bool true)], args := [d] }
  | _ => none }
def fnExactBestFlowRow : OpenClaim := { program := "ytafjdcjaigmnaaa", sum := "3c6aa9c20c1f5c88a4b71bfceedd007f5388740a42704818a9b81bcaeaaf056b", func := "loop.example/g01103/laws.FnExactBestFlow", spec := "fnExactBestFlow", unfollowed := true, recurses := true, apart := false }
def FnExactBestFlowSaid : Prop := fnExactBestFlowRow.holds Try.pinned (OpenSpec.ofChange fnExactBestFlowSpec)

/-- ITS FALSE NEIGHBOUR: 'it returns false'. Refute it at one input. -/
def fnExactBestFlowWrong : ChangeSpec := { name := "fnExactBestFlow", fn := fun _ => fun
  | [d] => { results := [.lit (.bool false)], args := [d] }
  | _ => none }
def FnExactBestFlowWrongFalsely : Prop := fnExactBestFlowRow.holds Try.pinned (OpenSpec.ofChange fnExactBestFlowWrong)

/-- 'laws.FnExactUnitGreedy': WHATEVER THE INPUT: true; the input reads as it did. -/
def fnExactUnitGreedySpec : ChangeSpec := { name := "fnExactUnitGreedy", fn := fun _ => fun
  | [d] => { results := [.lit (.bool true)], args := [d] }
  | _ => none }
def fnExactUnitGreedyRow : OpenClaim := { program := "ytafjdcjaigmnaaa", sum := "3c6aa9c20c1f5c88a4b71bfceedd007f5388740a42704818a9b81bcaeaaf056b", func := "loop.example/g01103/laws.FnExactUnitGreedy", spec := "fnExactUnitGreedy", unfollowed := true, recurses := true, apart := false }
def FnExactUnitGreedySaid : Prop := fnExactUnitGreedyRow.holds Try.pinned (OpenSpec.ofChange fnExactUnitGreedySpec)

/-- ITS FALSE NEIGHBOUR: 'it returns false'. Refute it at one input. -/
def fnExactUnitGreedyWrong : ChangeSpec := { name := "fnExactUnitGreedy", fn := fun _ => fun
  | [d] => { results := [.lit (.bool false)], args := [d] }
  | _ => none }
def FnExactUnitGreedyWrongFalsely : Prop := fnExactUnitGreedyRow.holds Try.pinned (OpenSpec.ofChange fnExactUnitGreedyWrong)

/-- 'laws.FnExactLeastMix': WHATEVER THE INPUT: true; the input reads as it did. -/
def fnExactLeastMixSpec : ChangeSpec := { name := "fnExactLeastMix", fn := fun _ => fun
  | [d1, d2, d3, d4, d5] => { results := [.lit (.bool true)], args := [d1, d2, d3, d4, d5] }
  | _ => none }
def fnExactLeastMixRow : OpenClaim := { program := "ytafjdcjaigmnaaa", sum := "3c6aa9c20c1f5c88a4b71bfceedd007f5388740a42704818a9b81bcaeaaf056b", func := "loop.example/g01103/laws.FnExactLeastMix", spec := "fnExactLeastMix", unfollowed := true, recurses := true, apart := false }
def FnExactLeastMixSaid : Prop := fnExactLeastMixRow.holds Try.pinned (OpenSpec.ofChange fnExactLeastMixSpec)

/-- ITS FALSE NEIGHBOUR: 'it returns false'. Refute it at one input. -/
def fnExactLeastMixWrong : ChangeSpec := { name := "fnExactLeastMix", fn := fun _ => fun
  | [d1, d2, d3, d4, d5] => { results := [.lit (.bool false)], args := [d1, d2, d3, d4, d5] }
  | _ => none }
def FnExactLeastMixWrongFalsely : Prop := fnExactLeastMixRow.holds Try.pinned (OpenSpec.ofChange fnExactLeastMixWrong)

/-- 'laws.FnExactShortSet': WHATEVER THE INPUT: true; the input reads as it did. -/
def fnExactShortSetSpec : ChangeSpec := { name := "fnExactShortSet", fn := fun _ => fun
  | [d1, d2] => { results := [.lit (.bool true)], args := [d1, d2] }
  | _ => none }
def fnExactShortSetRow : OpenClaim := { program := "ytafjdcjaigmnaaa", sum := "3c6aa9c20c1f5c88a4b71bfceedd007f5388740a42704818a9b81bcaeaaf056b", func := "loop.example/g01103/laws.FnExactShortSet", spec := "fnExactShortSet", unfollowed := true, recurses := true, apart := false }
def FnExactShortSetSaid : Prop := fnExactShortSetRow.holds Try.pinned (OpenSpec.ofChange fnExactShortSetSpec)

/-- ITS FALSE NEIGHBOUR: 'it returns false'. Refute it at one input. -/
def fnExactShortSetWrong : ChangeSpec := { name := "fnExactShortSet", fn := fun _ => fun
  | [d1, d2] => { results := [.lit (.bool false)], args := [d1, d2] }
  | _ => none }
def FnExactShortSetWrongFalsely : Prop := fnExactShortSetRow.holds Try.pinned (OpenSpec.ofChange fnExactShortSetWrong)

/- THE SECOND FORM. 'bulk': how many values and letters a reading holds, each counted each time it is reached (what is shared counts as often as it is met; a slice's spare places count too). A statement '..UptoSaid' is the law's where the arguments, and the package variables that the reading takes, are together of bulk at most 1048576: NARROWER than '..Said'. Prove '..Said' where nothing that the law and all that it calls make is longer than what came in: it says more and counts as full. Else prove '..UptoSaid'. A law counts once. -/
mutual
def uptoBulk {H : Type} : DataW H → Nat
  | .lit (.string bytes) => bytes.length + 1
  | .lit _ => 1
  | .nil => 1
  | .ptr d => uptoBulk d + 1
  | .slice elems spare => uptoBulkAll elems + uptoBulkAll spare + 1
  | .agg parts => uptoBulkAll parts + 1
  | .iface _ d => uptoBulk d + 1
  | .map entries => uptoBulkEntries entries + 1
  | .held _ => 1
def uptoBulkAll {H : Type} : List (DataW H) → Nat
  | [] => 0
  | d :: r => uptoBulk d + uptoBulkAll r
def uptoBulkEntries {H : Type} : List (Lit × DataW H) → Nat
  | [] => 0
  | x :: r => uptoBulkEntry x + uptoBulkEntries r
def uptoBulkEntry {H : Type} : Lit × DataW H → Nat
  | (.string bytes, d) => bytes.length + uptoBulk d + 1
  | (_, d) => uptoBulk d + 1
 end
def uptoSmall : (H : Type) → List (DataW H) → Bool := fun _ ds => decide (uptoBulkAll ds ≤ 1048576)
def OpenSpec.upto (s : _root_.Go.ChangeSpec) : _root_.Go.OpenSpec := { _root_.Go.OpenSpec.ofChange s with cond := some uptoSmall }

/-- 'laws.FnExactBackwardOrder', WHERE WHAT IT READS IS OF BULK AT MOST 1048576: true; the input reads as it did. -/
def fnExactBackwardOrderUptoRow : OpenClaim := { program := "ytafjdcjaigmnaaa", sum := "3c6aa9c20c1f5c88a4b71bfceedd007f5388740a42704818a9b81bcaeaaf056b", func := "loop.example/g01103/laws.FnExactBackwardOrder", spec := "fnExactBackwardOrder", apart := false, narrowed := true }
def FnExactBackwardOrderUptoSaid : Prop := fnExactBackwardOrderUptoRow.holds Try.pinned (OpenSpec.upto fnExactBackwardOrderSpec)

/-- 'laws.FnExactIsBalanced', WHERE WHAT IT READS IS OF BULK AT MOST 1048576: true; the input reads as it did. -/
def fnExactIsBalancedUptoRow : OpenClaim := { program := "ytafjdcjaigmnaaa", sum := "3c6aa9c20c1f5c88a4b71bfceedd007f5388740a42704818a9b81bcaeaaf056b", func := "loop.example/g01103/laws.FnExactIsBalanced", spec := "fnExactIsBalanced", unfollowed := true, recurses := true, apart := false, narrowed := true }
def FnExactIsBalancedUptoSaid : Prop := fnExactIsBalancedUptoRow.holds Try.pinned (OpenSpec.upto fnExactIsBalancedSpec)

/-- 'laws.FnExactBestFlow', WHERE WHAT IT READS IS OF BULK AT MOST 1048576: true; the input reads as it did. -/
def fnExactBestFlowUptoRow : OpenClaim := { program := "ytafjdcjaigmnaaa", sum := "3c6aa9c20c1f5c88a4b71bfceedd007f5388740a42704818a9b81bcaeaaf056b", func := "loop.example/g01103/laws.FnExactBestFlow", spec := "fnExactBestFlow", unfollowed := true, recurses := true, apart := false, narrowed := true }
def FnExactBestFlowUptoSaid : Prop := fnExactBestFlowUptoRow.holds Try.pinned (OpenSpec.upto fnExactBestFlowSpec)

/-- 'laws.FnExactUnitGreedy', WHERE WHAT IT READS IS OF BULK AT MOST 1048576: true; the input reads as it did. -/
def fnExactUnitGreedyUptoRow : OpenClaim := { program := "ytafjdcjaigmnaaa", sum := "3c6aa9c20c1f5c88a4b71bfceedd007f5388740a42704818a9b81bcaeaaf056b", func := "loop.example/g01103/laws.FnExactUnitGreedy", spec := "fnExactUnitGreedy", unfollowed := true, recurses := true, apart := false, narrowed := true }
def FnExactUnitGreedyUptoSaid : Prop := fnExactUnitGreedyUptoRow.holds Try.pinned (OpenSpec.upto fnExactUnitGreedySpec)

/-- 'laws.FnExactLeastMix', WHERE WHAT IT READS IS OF BULK AT MOST 1048576: true; the input reads as it did. -/
def fnExactLeastMixUptoRow : OpenClaim := { program := "ytafjdcjaigmnaaa", sum := "3c6aa9c20c1f5c88a4b71bfceedd007f5388740a42704818a9b81bcaeaaf056b", func := "loop.example/g01103/laws.FnExactLeastMix", spec := "fnExactLeastMix", unfollowed := true, recurses := true, apart := false, narrowed := true }
def FnExactLeastMixUptoSaid : Prop := fnExactLeastMixUptoRow.holds Try.pinned (OpenSpec.upto fnExactLeastMixSpec)

/-- 'laws.FnExactShortSet', WHERE WHAT IT READS IS OF BULK AT MOST 1048576: true; the input reads as it did. -/
def fnExactShortSetUptoRow : OpenClaim := { program := "ytafjdcjaigmnaaa", sum := "3c6aa9c20c1f5c88a4b71bfceedd007f5388740a42704818a9b81bcaeaaf056b", func := "loop.example/g01103/laws.FnExactShortSet", spec := "fnExactShortSet", unfollowed := true, recurses := true, apart := false, narrowed := true }
def FnExactShortSetUptoSaid : Prop := fnExactShortSetUptoRow.holds Try.pinned (OpenSpec.upto fnExactShortSetSpec)

end Rows
end Go.Proofs.Ytafjdcjaigmnaaa
