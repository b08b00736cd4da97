/-
  No cell of these rows narrows 'for every input' (looked for: loops, veiled, ifaces, maps, wideKeys, modest, calm, conditions, laid).
  DERIVED. THE GIVEN ROWS OF THIS SEAT. 6 by the template 'for every input the law returns true; each argument reads behind the call as it read before'; 0 by the template 'total and deterministic' (their statements: YtoeoaphejhmjbaaTotals.lean).
  GIVEN WITH THE SEED: the statements are not yours to turn. If you find one false, say at which input.
  Laid BY PROGRAM, IN A SANDBOX (cutbox-rows.mjs): the forced cells as the released guide's own fill.sh prints them over the translation 88d1fe0a13e0c414… (all of the seat's roots in one cut). By AI agents, Wed Nov 11 2026. No macro, syntax, notation, axiom, sorry.
-/
import Derived.Test.YtoeoaphejhmjbaaChecked
import GoSem.Claim
import GoSem.ClaimJoined
import GoSem.ClaimMapViews
import Derived.JoinedTies
import Derived.KernelRfl
namespace Go.Proofs.Ytoeoaphejhmjbaa
/- THE CELL 'sum', in the pinned program and in every row, IS THE sha256 OF THE DUMP (.gsa) THAT YtoeoaphejhmjbaaProg.lean LOADS. Nothing in Lean hashes anything: it is a label: what it is worth is what the hold of that sum in a sandbox is worth. -/
noncomputable def Try.pinned : Pinned := { name := "ytoeoaphejhmjbaa", sum := "88d1fe0a13e0c414d9cb2b777e4eeeeab57a58200d8bc7338941d20c3e509a73", checked := Try.checked }
namespace Rows
def none {H : Type} : Left H := { results := [], args := [] }

/-- 'laws.FnExactIsExtension': WHATEVER THE INPUT: true; the input reads as it did. -/
def fnExactIsExtensionSpec : ChangeSpec := { name := "fnExactIsExtension", fn := fun _ => fun
  | [d1, d2, d3] => { results := [.lit (.bool true)], args := [d1, d2, d3] }
  | _ => none }
def fnExactIsExtensionRow : OpenClaim := { program := "ytoeoaphejhmjbaa", sum := "88d1fe0a13e0c414d9cb2b777e4eeeeab57a58200d8bc7338941d20c3e509a73", func := "loop.example/g01103/laws.FnExactIsExtension", spec := "fnExactIsExtension", apart := false }
def FnExactIsExtensionSaid : Prop := fnExactIsExtensionRow.holds Try.pinned (OpenSpec.ofChange fnExactIsExtensionSpec)

/-- ITS FALSE NEIGHBOUR: 'it returns false'. Refute it at one input. -/
def fnExactIsExtensionWrong : ChangeSpec := { name := "fnExactIsExtension", fn := fun _ => fun
  | [d1, d2, d3] => { results := [.lit (.bool false)], args := [d1, d2, d3] }
  | _ => none }
def FnExactIsExtensionWrongFalsely : Prop := fnExactIsExtensionRow.holds Try.pinned (OpenSpec.ofChange fnExactIsExtensionWrong)

/-- 'laws.FnExactLateJobs': WHATEVER THE INPUT: true; the input reads as it did. -/
def fnExactLateJobsSpec : ChangeSpec := { name := "fnExactLateJobs", fn := fun _ => fun
  | [d1, d2] => { results := [.lit (.bool true)], args := [d1, d2] }
  | _ => none }
def fnExactLateJobsRow : OpenClaim := { program := "ytoeoaphejhmjbaa", sum := "88d1fe0a13e0c414d9cb2b777e4eeeeab57a58200d8bc7338941d20c3e509a73", func := "loop.example/g01103/laws.FnExactLateJobs", spec := "fnExactLateJobs", apart := false }
def FnExactLateJobsSaid : Prop := fnExactLateJobsRow.holds Try.pinned (OpenSpec.ofChange fnExactLateJobsSpec)

/-- ITS FALSE NEIGHBOUR: 'it returns false'. Refute it at one input. -/
def fnExactLateJobsWrong : ChangeSpec := { name := "fnExactLateJobs", fn := fun _ => fun
  | [d1, d2] => { results := [.lit (.bool false)], args := [d1, d2] }
  | _ => none }
def FnExactLateJobsWrongFalsely : Prop := fnExactLateJobsRow.holds Try.pinned (OpenSpec.ofChange fnExactLateJobsWrong)

/-- 'laws.FnExactFlowSpan': WHATEVER THE INPUT: true; the input reads as it did. -/
def fnExactFlowSpanSpec : ChangeSpec := { name := "fnExactFlowSpan", fn := fun _ => fun
  | [d1, d2] => { results := [.lit (.bool true)], args := [d1, d2] }
  | _ => none }
def fnExactFlowSpanRow : OpenClaim := { program := "ytoeoaphejhmjbaa", sum := "88d1fe0a13e0c414d9cb2b777e4eeeeab57a58200d8bc7338941d20c3e509a73", func := "loop.example/g01103/laws.FnExactFlowSpan", spec := "fnExactFlowSpan", apart := false }
def FnExactFlowSpanSaid : Prop := fnExactFlowSpanRow.holds Try.pinned (OpenSpec.ofChange fnExactFlowSpanSpec)

/-- ITS FALSE NEIGHBOUR: 'it returns false'. Refute it at one input. -/
def fnExactFlowSpanWrong : ChangeSpec := { name := "fnExactFlowSpan", fn := fun _ => fun
  | [d1, d2] => { results := [.lit (.bool false)], args := [d1, d2] }
  | _ => none }
def FnExactFlowSpanWrongFalsely : Prop := fnExactFlowSpanRow.holds Try.pinned (OpenSpec.ofChange fnExactFlowSpanWrong)

/-- 'laws.FnExactFlowEnds': WHATEVER THE INPUT: true; the input reads as it did. -/
def fnExactFlowEndsSpec : ChangeSpec := { name := "fnExactFlowEnds", fn := fun _ => fun
  | [d1, d2] => { results := [.lit (.bool true)], args := [d1, d2] }
  | _ => none }
def fnExactFlowEndsRow : OpenClaim := { program := "ytoeoaphejhmjbaa", sum := "88d1fe0a13e0c414d9cb2b777e4eeeeab57a58200d8bc7338941d20c3e509a73", func := "loop.example/g01103/laws.FnExactFlowEnds", spec := "fnExactFlowEnds", apart := false }
def FnExactFlowEndsSaid : Prop := fnExactFlowEndsRow.holds Try.pinned (OpenSpec.ofChange fnExactFlowEndsSpec)

/-- ITS FALSE NEIGHBOUR: 'it returns false'. Refute it at one input. -/
def fnExactFlowEndsWrong : ChangeSpec := { name := "fnExactFlowEnds", fn := fun _ => fun
  | [d1, d2] => { results := [.lit (.bool false)], args := [d1, d2] }
  | _ => none }
def FnExactFlowEndsWrongFalsely : Prop := fnExactFlowEndsRow.holds Try.pinned (OpenSpec.ofChange fnExactFlowEndsWrong)

/-- 'laws.FnExactIsOrderVector': WHATEVER THE INPUT: true; the input reads as it did. -/
def fnExactIsOrderVectorSpec : ChangeSpec := { name := "fnExactIsOrderVector", fn := fun _ => fun
  | [d1, d2] => { results := [.lit (.bool true)], args := [d1, d2] }
  | _ => none }
def fnExactIsOrderVectorRow : OpenClaim := { program := "ytoeoaphejhmjbaa", sum := "88d1fe0a13e0c414d9cb2b777e4eeeeab57a58200d8bc7338941d20c3e509a73", func := "loop.example/g01103/laws.FnExactIsOrderVector", spec := "fnExactIsOrderVector", unfollowed := true, recurses := true, apart := false }
def FnExactIsOrderVectorSaid : Prop := fnExactIsOrderVectorRow.holds Try.pinned (OpenSpec.ofChange fnExactIsOrderVectorSpec)

/-- ITS FALSE NEIGHBOUR: 'it returns false'. Refute it at one input. -/
def fnExactIsOrderVectorWrong : ChangeSpec := { name := "fnExactIsOrderVector", fn := fun _ => fun
  | [d1, d2] => { results := [.lit (.bool false)], args := [d1, d2] }
  | _ => none }
def FnExactIsOrderVectorWrongFalsely : Prop := fnExactIsOrderVectorRow.holds Try.pinned (OpenSpec.ofChange fnExactIsOrderVectorWrong)

/-- 'laws.FnExactOnTime': WHATEVER THE INPUT: true; the input reads as it did. -/
def fnExactOnTimeSpec : ChangeSpec := { name := "fnExactOnTime", fn := fun _ => fun
  | [d1, d2] => { results := [.lit (.bool true)], args := [d1, d2] }
  | _ => none }
def fnExactOnTimeRow : OpenClaim := { program := "ytoeoaphejhmjbaa", sum := "88d1fe0a13e0c414d9cb2b777e4eeeeab57a58200d8bc7338941d20c3e509a73", func := "loop.example/g01103/laws.FnExactOnTime", spec := "fnExactOnTime", unfollowed := true, recurses := true, apart := false }
def FnExactOnTimeSaid : Prop := fnExactOnTimeRow.holds Try.pinned (OpenSpec.ofChange fnExactOnTimeSpec)

/-- ITS FALSE NEIGHBOUR: 'it returns false'. Refute it at one input. -/
def fnExactOnTimeWrong : ChangeSpec := { name := "fnExactOnTime", fn := fun _ => fun
  | [d1, d2] => { results := [.lit (.bool false)], args := [d1, d2] }
  | _ => none }
def FnExactOnTimeWrongFalsely : Prop := fnExactOnTimeRow.holds Try.pinned (OpenSpec.ofChange fnExactOnTimeWrong)

/- THE SECOND FORM. 'bulk': how many values and letters a reading holds, each counted each time it is reached (what is shared counts as often as it is met; a slice's spare places count too). A statement '..UptoSaid' is the law's where the arguments, and the package variables that the reading takes, are together of bulk at most 1048576: NARROWER than '..Said'. Prove '..Said' where nothing that the law and all that it calls make is longer than what came in: it says more and counts as full. Else prove '..UptoSaid'. A law counts once. -/
mutual
def uptoBulk {H : Type} : DataW H → Nat
  | .lit (.string bytes) => bytes.length + 1
  | .lit _ => 1
  | .nil => 1
  | .ptr d => uptoBulk d + 1
  | .slice elems spare => uptoBulkAll elems + uptoBulkAll spare + 1
  | .agg parts => uptoBulkAll parts + 1
  | .iface _ d => uptoBulk d + 1
  | .map entries => uptoBulkEntries entries + 1
  | .held _ => 1
def uptoBulkAll {H : Type} : List (DataW H) → Nat
  | [] => 0
  | d :: r => uptoBulk d + uptoBulkAll r
def uptoBulkEntries {H : Type} : List (Lit × DataW H) → Nat
  | [] => 0
  | x :: r => uptoBulkEntry x + uptoBulkEntries r
def uptoBulkEntry {H : Type} : Lit × DataW H → Nat
  | (.string bytes, d) => bytes.length + uptoBulk d + 1
  | (_, d) => uptoBulk d + 1
 end
def uptoSmall : (H : Type) → List (DataW H) → Bool := fun _ ds => decide (uptoBulkAll ds ≤ 1048576)
def OpenSpec.upto (s : _root_.Go.ChangeSpec) : _root_.Go.OpenSpec := { _root_.Go.OpenSpec.ofChange s with cond := some uptoSmall }

/-- 'laws.FnExactIsExtension', WHERE WHAT IT READS IS OF BULK AT MOST 1048576: true; the input reads as it did. -/
def fnExactIsExtensionUptoRow : OpenClaim := { program := "ytoeoaphejhmjbaa", sum := "88d1fe0a13e0c414d9cb2b777e4eeeeab57a58200d8bc7338941d20c3e509a73", func := "loop.example/g01103/laws.FnExactIsExtension", spec := "fnExactIsExtension", apart := false, narrowed := true }
def FnExactIsExtensionUptoSaid : Prop := fnExactIsExtensionUptoRow.holds Try.pinned (OpenSpec.upto fnExactIsExtensionSpec)

/-- 'laws.FnExactLateJobs', WHERE WHAT IT READS IS OF BULK AT MOST 1048576: true; the input reads as it did. -/
def fnExactLateJobsUptoRow : OpenClaim := { program := "ytoeoaphejhmjbaa", sum := "88d1fe0a13e0c414d9cb2b777e4eeeeab57a58200d8bc7338941d20c3e509a73", func := "loop.example/g01103/laws.FnExactLateJobs", spec := "fnExactLateJobs", apart := false, narrowed := true }
def FnExactLateJobsUptoSaid : Prop := fnExactLateJobsUptoRow.holds Try.pinned (OpenSpec.upto fnExactLateJobsSpec)

/-- 'laws.FnExactFlowSpan', WHERE WHAT IT READS IS OF BULK AT MOST 1048576: true; the input reads as it did. -/
def fnExactFlowSpanUptoRow : OpenClaim := { program := "ytoeoaphejhmjbaa", sum := "88d1fe0a13e0c414d9cb2b777e4eeeeab57a58200d8bc7338941d20c3e509a73", func := "loop.example/g01103/laws.FnExactFlowSpan", spec := "fnExactFlowSpan", apart := false, narrowed := true }
def FnExactFlowSpanUptoSaid : Prop := fnExactFlowSpanUptoRow.holds Try.pinned (OpenSpec.upto fnExactFlowSpanSpec)

/-- 'laws.FnExactFlowEnds', WHERE WHAT IT READS IS OF BULK AT MOST 1048576: true; the input reads as it did. -/
def fnExactFlowEndsUptoRow : OpenClaim := { program := "ytoeoaphejhmjbaa", sum := "88d1fe0a13e0c414d9cb2b777e4eeeeab57a58200d8bc7338941d20c3e509a73", func := "loop.example/g01103/laws.FnExactFlowEnds", spec := "fnExactFlowEnds", apart := false, narrowed := true }
def FnExactFlowEndsUptoSaid : Prop := fnExactFlowEndsUptoRow.holds Try.pinned (OpenSpec.upto fnExactFlowEndsSpec)

/-- 'laws.FnExactIsOrderVector', WHERE WHAT IT READS IS OF BULK AT MOST 1048576: true; the input reads as it did. -/
def fnExactIsOrderVectorUptoRow : OpenClaim := { program := "ytoeoaphejhmjbaa", sum := "88d1fe0a13e0c414d9cb2b777e4eeeeab57a58200d8bc7338941d20c3e509a73", func := "loop.example/g01103/laws.FnExactIsOrderVector", spec := "fnExactIsOrderVector", unfollowed := true, recurses := true, apart := false, narrowed := true }
def FnExactIsOrderVectorUptoSaid : Prop := fnExactIsOrderVectorUptoRow.holds Try.pinned (OpenSpec.upto fnExactIsOrderVectorSpec)

/-- 'laws.FnExactOnTime', WHERE WHAT IT READS IS OF BULK AT MOST 1048576: true; the input reads as it did. -/
def fnExactOnTimeUptoRow : OpenClaim := { program := "ytoeoaphejhmjbaa", sum := "88d1fe0a13e0c414d9cb2b777e4eeeeab57a58200d8bc7338941d20c3e509a73", func := "loop.example/g01103/laws.FnExactOnTime", spec := "fnExactOnTime", unfollowed := true, recurses := true, apart := false, narrowed := true }
def FnExactOnTimeUptoSaid : Prop := fnExactOnTimeUptoRow.holds Try.pinned (OpenSpec.upto fnExactOnTimeSpec)

end Rows
end Go.Proofs.Ytoeoaphejhmjbaa
