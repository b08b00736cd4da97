/-
  No cell of these rows narrows 'for every input' (looked for: loops, veiled, ifaces, maps, wideKeys, modest, calm, conditions, laid).
  DERIVED. THE GIVEN ROWS OF THIS SEAT. 6 by the template 'for every input the law returns true; each argument reads behind the call as it read before'; 0 by the template 'total and deterministic' (their statements: YtbcfmegepkhlpaaTotals.lean).
  GIVEN WITH THE SEED: the statements are not yours to turn. If you find one false, say at which input.
  Laid BY PROGRAM, IN A SANDBOX (cutbox-rows.mjs): the forced cells as the released guide's own fill.sh prints them over the translation e492466cc32baf79… (all of the seat's roots in one cut). By AI agents, Wed Nov 11 2026. No macro, syntax, notation, axiom, sorry.
-/
import Derived.Test.YtbcfmegepkhlpaaChecked
import GoSem.Claim
import GoSem.ClaimJoined
import GoSem.ClaimMapViews
import Derived.JoinedTies
import Derived.KernelRfl
namespace Go.Proofs.Ytbcfmegepkhlpaa
/- THE CELL 'sum', in the pinned program and in every row, IS THE sha256 OF THE DUMP (.gsa) THAT YtbcfmegepkhlpaaProg.lean LOADS. Nothing in Lean hashes anything: it is a label: what it is worth is what the hold of that sum in a sandbox is worth. -/
noncomputable def Try.pinned : Pinned := { name := "ytbcfmegepkhlpaa", sum := "e492466cc32baf794e268bfa4e297f7ede178ce4eda55a1c9c01483ad35dfaf1", checked := Try.checked }
namespace Rows
def none {H : Type} : Left H := { results := [], args := [] }

/-- 'laws.FnExactLatenessFront': WHATEVER THE INPUT: true; the input reads as it did. -/
def fnExactLatenessFrontSpec : ChangeSpec := { name := "fnExactLatenessFront", fn := fun _ => fun
  | [d] => { results := [.lit (.bool true)], args := [d] }
  | _ => none }
def fnExactLatenessFrontRow : OpenClaim := { program := "ytbcfmegepkhlpaa", sum := "e492466cc32baf794e268bfa4e297f7ede178ce4eda55a1c9c01483ad35dfaf1", func := "loop.example/g01103/laws.FnExactLatenessFront", spec := "fnExactLatenessFront", unfollowed := true, recurses := true, apart := false }
def FnExactLatenessFrontSaid : Prop := fnExactLatenessFrontRow.holds Try.pinned (OpenSpec.ofChange fnExactLatenessFrontSpec)

/-- ITS FALSE NEIGHBOUR: 'it returns false'. Refute it at one input. -/
def fnExactLatenessFrontWrong : ChangeSpec := { name := "fnExactLatenessFront", fn := fun _ => fun
  | [d] => { results := [.lit (.bool false)], args := [d] }
  | _ => none }
def FnExactLatenessFrontWrongFalsely : Prop := fnExactLatenessFrontRow.holds Try.pinned (OpenSpec.ofChange fnExactLatenessFrontWrong)

/-- 'laws.FnExactLabelPlan': WHATEVER THE INPUT: true; the input reads as it did. -/
def fnExactLabelPlanSpec : ChangeSpec := { name := "fnExactLabelPlan", fn := fun _ => fun
  | [d1, d2] => { results := [.lit (.bool true)], args := [d1, d2] }
  | _ => none }
def fnExactLabelPlanRow : OpenClaim := { program := "ytbcfmegepkhlpaa", sum := "e492466cc32baf794e268bfa4e297f7ede178ce4eda55a1c9c01483ad35dfaf1", func := "loop.example/g01103/laws.FnExactLabelPlan", spec := "fnExactLabelPlan", unfollowed := true, recurses := true, apart := false }
def FnExactLabelPlanSaid : Prop := fnExactLabelPlanRow.holds Try.pinned (OpenSpec.ofChange fnExactLabelPlanSpec)

/-- ITS FALSE NEIGHBOUR: 'it returns false'. Refute it at one input. -/
def fnExactLabelPlanWrong : ChangeSpec := { name := "fnExactLabelPlan", fn := fun _ => fun
  | [d1, d2] => { results := [.lit (.bool false)], args := [d1, d2] }
  | _ => none }
def FnExactLabelPlanWrongFalsely : Prop := fnExactLabelPlanRow.holds Try.pinned (OpenSpec.ofChange fnExactLabelPlanWrong)

/-- 'laws.FnExactLeastRegret': WHATEVER THE INPUT: true; the input reads as it did. -/
def fnExactLeastRegretSpec : ChangeSpec := { name := "fnExactLeastRegret", fn := fun _ => fun
  | [d1, d2] => { results := [.lit (.bool true)], args := [d1, d2] }
  | _ => none }
def fnExactLeastRegretRow : OpenClaim := { program := "ytbcfmegepkhlpaa", sum := "e492466cc32baf794e268bfa4e297f7ede178ce4eda55a1c9c01483ad35dfaf1", func := "loop.example/g01103/laws.FnExactLeastRegret", spec := "fnExactLeastRegret", unfollowed := true, recurses := true, apart := false }
def FnExactLeastRegretSaid : Prop := fnExactLeastRegretRow.holds Try.pinned (OpenSpec.ofChange fnExactLeastRegretSpec)

/-- ITS FALSE NEIGHBOUR: 'it returns false'. Refute it at one input. -/
def fnExactLeastRegretWrong : ChangeSpec := { name := "fnExactLeastRegret", fn := fun _ => fun
  | [d1, d2] => { results := [.lit (.bool false)], args := [d1, d2] }
  | _ => none }
def FnExactLeastRegretWrongFalsely : Prop := fnExactLeastRegretRow.holds Try.pinned (OpenSpec.ofChange fnExactLeastRegretWrong)

/-- 'laws.FnExactTailsFirst': WHATEVER THE INPUT: true; the input reads as it did. -/
def fnExactTailsFirstSpec : ChangeSpec := { name := "fnExactTailsFirst", fn := fun _ => fun
  | [d1, d2, d3] => { results := [.lit (.bool true)], args := [d1, d2, d3] }
  | _ => none }
def fnExactTailsFirstRow : OpenClaim := { program := "ytbcfmegepkhlpaa", sum := "e492466cc32baf794e268bfa4e297f7ede178ce4eda55a1c9c01483ad35dfaf1", func := "loop.example/g01103/laws.FnExactTailsFirst", spec := "fnExactTailsFirst", unfollowed := true, recurses := true, apart := false }
def FnExactTailsFirstSaid : Prop := fnExactTailsFirstRow.holds Try.pinned (OpenSpec.ofChange fnExactTailsFirstSpec)

/-- ITS FALSE NEIGHBOUR: 'it returns false'. Refute it at one input. -/
def fnExactTailsFirstWrong : ChangeSpec := { name := "fnExactTailsFirst", fn := fun _ => fun
  | [d1, d2, d3] => { results := [.lit (.bool false)], args := [d1, d2, d3] }
  | _ => none }
def FnExactTailsFirstWrongFalsely : Prop := fnExactTailsFirstRow.holds Try.pinned (OpenSpec.ofChange fnExactTailsFirstWrong)

/-- 'laws.FnExactBestListPlan': WHATEVER THE INPUT: true; the input reads as it did. -/
def fnExactBestListPlanSpec : ChangeSpec := { name := "fnExactBestListPlan", fn := fun _ => fun
  | [d1, d2, d3] => { results := [.lit (.bool true)], args := [d1, d2, d3] }
  | _ => none }
def fnExactBestListPlanRow : OpenClaim := { program := "ytbcfmegepkhlpaa", sum := "e492466cc32baf794e268bfa4e297f7ede178ce4eda55a1c9c01483ad35dfaf1", func := "loop.example/g01103/laws.FnExactBestListPlan", spec := "fnExactBestListPlan", unfollowed := true, recurses := true, apart := false }
def FnExactBestListPlanSaid : Prop := fnExactBestListPlanRow.holds Try.pinned (OpenSpec.ofChange fnExactBestListPlanSpec)

/-- ITS FALSE NEIGHBOUR: 'it returns false'. Refute it at one input. -/
def fnExactBestListPlanWrong : ChangeSpec := { name := "fnExactBestListPlan", fn := fun _ => fun
  | [d1, d2, d3] => { results := [.lit (.bool false)], args := [d1, d2, d3] }
  | _ => none }
def FnExactBestListPlanWrongFalsely : Prop := fnExactBestListPlanRow.holds Try.pinned (OpenSpec.ofChange fnExactBestListPlanWrong)

/-- 'laws.FnShared': WHATEVER THE INPUT: true; the input reads as it did. -/
def fnSharedSpec : ChangeSpec := { name := "fnShared", fn := fun _ => fun
  | [d] => { results := [.lit (.bool true)], args := [d] }
  | _ => none }
def fnSharedRow : OpenClaim := { program := "ytbcfmegepkhlpaa", sum := "e492466cc32baf794e268bfa4e297f7ede178ce4eda55a1c9c01483ad35dfaf1", func := "loop.example/g01103/laws.FnShared", spec := "fnShared", recurses := true, apart := false }
def FnSharedSaid : Prop := fnSharedRow.holds Try.pinned (OpenSpec.ofChange fnSharedSpec)

/-- ITS FALSE NEIGHBOUR: 'it returns false'. Refute it at one input. -/
def fnSharedWrong : ChangeSpec := { name := "fnShared", fn := fun _ => fun
  | [d] => { results := [.lit (.bool false)], args := [d] }
  | _ => none }
def FnSharedWrongFalsely : Prop := fnSharedRow.holds Try.pinned (OpenSpec.ofChange fnSharedWrong)

/- THE SECOND FORM. 'bulk': how many values and letters a reading holds, each counted each time it is reached (what is shared counts as often as it is met; a slice's spare places count too). A statement '..UptoSaid' is the law's where the arguments, and the package variables that the reading takes, are together of bulk at most 1048576: NARROWER than '..Said'. Prove '..Said' where nothing that the law and all that it calls make is longer than what came in: it says more and counts as full. Else prove '..UptoSaid'. A law counts once. -/
mutual
def uptoBulk {H : Type} : DataW H → Nat
  | .lit (.string bytes) => bytes.length + 1
  | .lit _ => 1
  | .nil => 1
  | .ptr d => uptoBulk d + 1
  | .slice elems spare => uptoBulkAll elems + uptoBulkAll spare + 1
  | .agg parts => uptoBulkAll parts + 1
  | .iface _ d => uptoBulk d + 1
  | .map entries => uptoBulkEntries entries + 1
  | .held _ => 1
def uptoBulkAll {H : Type} : List (DataW H) → Nat
  | [] => 0
  | d :: r => uptoBulk d + uptoBulkAll r
def uptoBulkEntries {H : Type} : List (Lit × DataW H) → Nat
  | [] => 0
  | x :: r => uptoBulkEntry x + uptoBulkEntries r
def uptoBulkEntry {H : Type} : Lit × DataW H → Nat
  | (.string bytes, d) => bytes.length + uptoBulk d + 1
  | (_, d) => uptoBulk d + 1
 end
def uptoSmall : (H : Type) → List (DataW H) → Bool := fun _ ds => decide (uptoBulkAll ds ≤ 1048576)
def OpenSpec.upto (s : _root_.Go.ChangeSpec) : _root_.Go.OpenSpec := { _root_.Go.OpenSpec.ofChange s with cond := some uptoSmall }

/-- 'laws.FnExactLatenessFront', WHERE WHAT IT READS IS OF BULK AT MOST 1048576: true; the input reads as it did. -/
def fnExactLatenessFrontUptoRow : OpenClaim := { program := "ytbcfmegepkhlpaa", sum := "e492466cc32baf794e268bfa4e297f7ede178ce4eda55a1c9c01483ad35dfaf1", func := "loop.example/g01103/laws.FnExactLatenessFront", spec := "fnExactLatenessFront", unfollowed := true, recurses := true, apart := false, narrowed := true }
def FnExactLatenessFrontUptoSaid : Prop := fnExactLatenessFrontUptoRow.holds Try.pinned (OpenSpec.upto fnExactLatenessFrontSpec)

/-- 'laws.FnExactLabelPlan', WHERE WHAT IT READS IS OF BULK AT MOST 1048576: true; the input reads as it did. -/
def fnExactLabelPlanUptoRow : OpenClaim := { program := "ytbcfmegepkhlpaa", sum := "e492466cc32baf794e268bfa4e297f7ede178ce4eda55a1c9c01483ad35dfaf1", func := "loop.example/g01103/laws.FnExactLabelPlan", spec := "fnExactLabelPlan", unfollowed := true, recurses := true, apart := false, narrowed := true }
def FnExactLabelPlanUptoSaid : Prop := fnExactLabelPlanUptoRow.holds Try.pinned (OpenSpec.upto fnExactLabelPlanSpec)

/-- 'laws.FnExactLeastRegret', WHERE WHAT IT READS IS OF BULK AT MOST 1048576: true; the input reads as it did. -/
def fnExactLeastRegretUptoRow : OpenClaim := { program := "ytbcfmegepkhlpaa", sum := "e492466cc32baf794e268bfa4e297f7ede178ce4eda55a1c9c01483ad35dfaf1", func := "loop.example/g01103/laws.FnExactLeastRegret", spec := "fnExactLeastRegret", unfollowed := true, recurses := true, apart := false, narrowed := true }
def FnExactLeastRegretUptoSaid : Prop := fnExactLeastRegretUptoRow.holds Try.pinned (OpenSpec.upto fnExactLeastRegretSpec)

/-- 'laws.FnExactTailsFirst', WHERE WHAT IT READS IS OF BULK AT MOST 1048576: true; the input reads as it did. -/
def fnExactTailsFirstUptoRow : OpenClaim := { program := "ytbcfmegepkhlpaa", sum := "e492466cc32baf794e268bfa4e297f7ede178ce4eda55a1c9c01483ad35dfaf1", func := "loop.example/g01103/laws.FnExactTailsFirst", spec := "fnExactTailsFirst", unfollowed := true, recurses := true, apart := false, narrowed := true }
def FnExactTailsFirstUptoSaid : Prop := fnExactTailsFirstUptoRow.holds Try.pinned (OpenSpec.upto fnExactTailsFirstSpec)

/-- 'laws.FnExactBestListPlan', WHERE WHAT IT READS IS OF BULK AT MOST 1048576: true; the input reads as it did. -/
def fnExactBestListPlanUptoRow : OpenClaim := { program := "ytbcfmegepkhlpaa", sum := "e492466cc32baf794e268bfa4e297f7ede178ce4eda55a1c9c01483ad35dfaf1", func := "loop.example/g01103/laws.FnExactBestListPlan", spec := "fnExactBestListPlan", unfollowed := true, recurses := true, apart := false, narrowed := true }
def FnExactBestListPlanUptoSaid : Prop := fnExactBestListPlanUptoRow.holds Try.pinned (OpenSpec.upto fnExactBestListPlanSpec)

/-- 'laws.FnShared', WHERE WHAT IT READS IS OF BULK AT MOST 1048576: true; the input reads as it did. -/
def fnSharedUptoRow : OpenClaim := { program := "ytbcfmegepkhlpaa", sum := "e492466cc32baf794e268bfa4e297f7ede178ce4eda55a1c9c01483ad35dfaf1", func := "loop.example/g01103/laws.FnShared", spec := "fnShared", recurses := true, apart := false, narrowed := true }
def FnSharedUptoSaid : Prop := fnSharedUptoRow.holds Try.pinned (OpenSpec.upto fnSharedSpec)

end Rows
end Go.Proofs.Ytbcfmegepkhlpaa
