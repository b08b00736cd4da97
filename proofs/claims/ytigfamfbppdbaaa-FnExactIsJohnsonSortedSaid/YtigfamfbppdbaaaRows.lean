/-
  No cell of these rows narrows 'for every input' (looked for: loops, veiled, ifaces, maps, wideKeys, modest, calm, conditions, laid).
  DERIVED. THE GIVEN ROWS OF THIS SEAT. 6 by the template 'for every input the law returns true; each argument reads behind the call as it read before'; 0 by the template 'total and deterministic' (their statements: YtigfamfbppdbaaaTotals.lean).
  GIVEN WITH THE SEED: the statements are not yours to turn. If you find one false, say at which input.
  Laid BY PROGRAM, IN A SANDBOX (cutbox-rows.mjs): the forced cells as the released guide's own fill.sh prints them over the translation 6f87baea6b6b4414… (all of the seat's roots in one cut). By AI agents, Wed Nov 11 2026. No macro, syntax, notation, axiom, sorry.
-/
import Derived.Test.YtigfamfbppdbaaaChecked
import GoSem.Claim
import GoSem.ClaimJoined
import GoSem.ClaimMapViews
import Derived.JoinedTies
import Derived.KernelRfl
namespace Go.Proofs.Ytigfamfbppdbaaa
/- THE CELL 'sum', in the pinned program and in every row, IS THE sha256 OF THE DUMP (.gsa) THAT YtigfamfbppdbaaaProg.lean LOADS. Nothing in Lean hashes anything: it is a label: what it is worth is what the hold of that sum in a sandbox is worth. -/
noncomputable def Try.pinned : Pinned := { name := "ytigfamfbppdbaaa", sum := "6f87baea6b6b441426af80f5884acdb61b0b99ca64a36b8ff71569abd56c7af0", checked := Try.checked }
namespace Rows
def none {H : Type} : Left H := { results := [], args := [] }

/-- 'laws.FnExactIsOpenSchedule': WHATEVER THE INPUT: true; the input reads as it did. -/
def fnExactIsOpenScheduleSpec : ChangeSpec := { name := "fnExactIsOpenSchedule", fn := fun _ => fun
  | [d1, d2] => { results := [.lit (.bool true)], args := [d1, d2] }
  | _ => none }
def fnExactIsOpenScheduleRow : OpenClaim := { program := "ytigfamfbppdbaaa", sum := "6f87baea6b6b441426af80f5884acdb61b0b99ca64a36b8ff71569abd56c7af0", func := "loop.example/g01103/laws.FnExactIsOpenSchedule", spec := "fnExactIsOpenSchedule", apart := false }
def FnExactIsOpenScheduleSaid : Prop := fnExactIsOpenScheduleRow.holds Try.pinned (OpenSpec.ofChange fnExactIsOpenScheduleSpec)

/-- ITS FALSE NEIGHBOUR: 'it returns false'. Refute it at one input. -/
def fnExactIsOpenScheduleWrong : ChangeSpec := { name := "fnExactIsOpenSchedule", fn := fun _ => fun
  | [d1, d2] => { results := [.lit (.bool false)], args := [d1, d2] }
  | _ => none }
def FnExactIsOpenScheduleWrongFalsely : Prop := fnExactIsOpenScheduleRow.holds Try.pinned (OpenSpec.ofChange fnExactIsOpenScheduleWrong)

/-- 'laws.FnExactIsJohnsonSorted': WHATEVER THE INPUT: true; the input reads as it did. -/
def fnExactIsJohnsonSortedSpec : ChangeSpec := { name := "fnExactIsJohnsonSorted", fn := fun _ => fun
  | [d1, d2] => { results := [.lit (.bool true)], args := [d1, d2] }
  | _ => none }
def fnExactIsJohnsonSortedRow : OpenClaim := { program := "ytigfamfbppdbaaa", sum := "6f87baea6b6b441426af80f5884acdb61b0b99ca64a36b8ff71569abd56c7af0", func := "loop.example/g01103/laws.FnExactIsJohnsonSorted", spec := "fnExactIsJohnsonSorted", apart := false }
def FnExactIsJohnsonSortedSaid : Prop := fnExactIsJohnsonSortedRow.holds Try.pinned (OpenSpec.ofChange fnExactIsJohnsonSortedSpec)

/-- ITS FALSE NEIGHBOUR: 'it returns false'. Refute it at one input. -/
def fnExactIsJohnsonSortedWrong : ChangeSpec := { name := "fnExactIsJohnsonSorted", fn := fun _ => fun
  | [d1, d2] => { results := [.lit (.bool false)], args := [d1, d2] }
  | _ => none }
def FnExactIsJohnsonSortedWrongFalsely : Prop := fnExactIsJohnsonSortedRow.holds Try.pinned (OpenSpec.ofChange fnExactIsJohnsonSortedWrong)

/-- 'laws.FnExactLatenessBound': WHATEVER THE INPUT: true; the input reads as it did. -/
def fnExactLatenessBoundSpec : ChangeSpec := { name := "fnExactLatenessBound", fn := fun _ => fun
  | [d1, d2] => { results := [.lit (.bool true)], args := [d1, d2] }
  | _ => none }
def fnExactLatenessBoundRow : OpenClaim := { program := "ytigfamfbppdbaaa", sum := "6f87baea6b6b441426af80f5884acdb61b0b99ca64a36b8ff71569abd56c7af0", func := "loop.example/g01103/laws.FnExactLatenessBound", spec := "fnExactLatenessBound", apart := false }
def FnExactLatenessBoundSaid : Prop := fnExactLatenessBoundRow.holds Try.pinned (OpenSpec.ofChange fnExactLatenessBoundSpec)

/-- ITS FALSE NEIGHBOUR: 'it returns false'. Refute it at one input. -/
def fnExactLatenessBoundWrong : ChangeSpec := { name := "fnExactLatenessBound", fn := fun _ => fun
  | [d1, d2] => { results := [.lit (.bool false)], args := [d1, d2] }
  | _ => none }
def FnExactLatenessBoundWrongFalsely : Prop := fnExactLatenessBoundRow.holds Try.pinned (OpenSpec.ofChange fnExactLatenessBoundWrong)

/-- 'laws.FnExactDemandOf': WHATEVER THE INPUT: true; the input reads as it did. -/
def fnExactDemandOfSpec : ChangeSpec := { name := "fnExactDemandOf", fn := fun _ => fun
  | [d1, d2] => { results := [.lit (.bool true)], args := [d1, d2] }
  | _ => none }
def fnExactDemandOfRow : OpenClaim := { program := "ytigfamfbppdbaaa", sum := "6f87baea6b6b441426af80f5884acdb61b0b99ca64a36b8ff71569abd56c7af0", func := "loop.example/g01103/laws.FnExactDemandOf", spec := "fnExactDemandOf", apart := false }
def FnExactDemandOfSaid : Prop := fnExactDemandOfRow.holds Try.pinned (OpenSpec.ofChange fnExactDemandOfSpec)

/-- ITS FALSE NEIGHBOUR: 'it returns false'. Refute it at one input. -/
def fnExactDemandOfWrong : ChangeSpec := { name := "fnExactDemandOf", fn := fun _ => fun
  | [d1, d2] => { results := [.lit (.bool false)], args := [d1, d2] }
  | _ => none }
def FnExactDemandOfWrongFalsely : Prop := fnExactDemandOfRow.holds Try.pinned (OpenSpec.ofChange fnExactDemandOfWrong)

/-- 'laws.FnExactShopLoad': WHATEVER THE INPUT: true; the input reads as it did. -/
def fnExactShopLoadSpec : ChangeSpec := { name := "fnExactShopLoad", fn := fun _ => fun
  | [d] => { results := [.lit (.bool true)], args := [d] }
  | _ => none }
def fnExactShopLoadRow : OpenClaim := { program := "ytigfamfbppdbaaa", sum := "6f87baea6b6b441426af80f5884acdb61b0b99ca64a36b8ff71569abd56c7af0", func := "loop.example/g01103/laws.FnExactShopLoad", spec := "fnExactShopLoad", apart := false }
def FnExactShopLoadSaid : Prop := fnExactShopLoadRow.holds Try.pinned (OpenSpec.ofChange fnExactShopLoadSpec)

/-- ITS FALSE NEIGHBOUR: 'it returns false'. Refute it at one input. -/
def fnExactShopLoadWrong : ChangeSpec := { name := "fnExactShopLoad", fn := fun _ => fun
  | [d] => { results := [.lit (.bool false)], args := [d] }
  | _ => none }
def FnExactShopLoadWrongFalsely : Prop := fnExactShopLoadRow.holds Try.pinned (OpenSpec.ofChange fnExactShopLoadWrong)

/-- 'laws.FnExactMixVectors': WHATEVER THE INPUT: true; the input reads as it did. -/
def fnExactMixVectorsSpec : ChangeSpec := { name := "fnExactMixVectors", fn := fun _ => fun
  | [d1, d2, d3, d4, d5] => { results := [.lit (.bool true)], args := [d1, d2, d3, d4, d5] }
  | _ => none }
def fnExactMixVectorsRow : OpenClaim := { program := "ytigfamfbppdbaaa", sum := "6f87baea6b6b441426af80f5884acdb61b0b99ca64a36b8ff71569abd56c7af0", func := "loop.example/g01103/laws.FnExactMixVectors", spec := "fnExactMixVectors", apart := false }
def FnExactMixVectorsSaid : Prop := fnExactMixVectorsRow.holds Try.pinned (OpenSpec.ofChange fnExactMixVectorsSpec)

/-- ITS FALSE NEIGHBOUR: 'it returns false'. Refute it at one input. -/
def fnExactMixVectorsWrong : ChangeSpec := { name := "fnExactMixVectors", fn := fun _ => fun
  | [d1, d2, d3, d4, d5] => { results := [.lit (.bool false)], args := [d1, d2, d3, d4, d5] }
  | _ => none }
def FnExactMixVectorsWrongFalsely : Prop := fnExactMixVectorsRow.holds Try.pinned (OpenSpec.ofChange fnExactMixVectorsWrong)

/- THE SECOND FORM. 'bulk': how many values and letters a reading holds, each counted each time it is reached (what is shared counts as often as it is met; a slice's spare places count too). A statement '..UptoSaid' is the law's where the arguments, and the package variables that the reading takes, are together of bulk at most 1048576: NARROWER than '..Said'. Prove '..Said' where nothing that the law and all that it calls make is longer than what came in: it says more and counts as full. Else prove '..UptoSaid'. A law counts once. -/
mutual
def uptoBulk {H : Type} : DataW H → Nat
  | .lit (.string bytes) => bytes.length + 1
  | .lit _ => 1
  | .nil => 1
  | .ptr d => uptoBulk d + 1
  | .slice elems spare => uptoBulkAll elems + uptoBulkAll spare + 1
  | .agg parts => uptoBulkAll parts + 1
  | .iface _ d => uptoBulk d + 1
  | .map entries => uptoBulkEntries entries + 1
  | .held _ => 1
def uptoBulkAll {H : Type} : List (DataW H) → Nat
  | [] => 0
  | d :: r => uptoBulk d + uptoBulkAll r
def uptoBulkEntries {H : Type} : List (Lit × DataW H) → Nat
  | [] => 0
  | x :: r => uptoBulkEntry x + uptoBulkEntries r
def uptoBulkEntry {H : Type} : Lit × DataW H → Nat
  | (.string bytes, d) => bytes.length + uptoBulk d + 1
  | (_, d) => uptoBulk d + 1
 end
def uptoSmall : (H : Type) → List (DataW H) → Bool := fun _ ds => decide (uptoBulkAll ds ≤ 1048576)
def OpenSpec.upto (s : _root_.Go.ChangeSpec) : _root_.Go.OpenSpec := { _root_.Go.OpenSpec.ofChange s with cond := some uptoSmall }

/-- 'laws.FnExactIsOpenSchedule', WHERE WHAT IT READS IS OF BULK AT MOST 1048576: true; the input reads as it did. -/
def fnExactIsOpenScheduleUptoRow : OpenClaim := { program := "ytigfamfbppdbaaa", sum := "6f87baea6b6b441426af80f5884acdb61b0b99ca64a36b8ff71569abd56c7af0", func := "loop.example/g01103/laws.FnExactIsOpenSchedule", spec := "fnExactIsOpenSchedule", apart := false, narrowed := true }
def FnExactIsOpenScheduleUptoSaid : Prop := fnExactIsOpenScheduleUptoRow.holds Try.pinned (OpenSpec.upto fnExactIsOpenScheduleSpec)

/-- 'laws.FnExactIsJohnsonSorted', WHERE WHAT IT READS IS OF BULK AT MOST 1048576: true; the input reads as it did. -/
def fnExactIsJohnsonSortedUptoRow : OpenClaim := { program := "ytigfamfbppdbaaa", sum := "6f87baea6b6b441426af80f5884acdb61b0b99ca64a36b8ff71569abd56c7af0", func := "loop.example/g01103/laws.FnExactIsJohnsonSorted", spec := "fnExactIsJohnsonSorted", apart := false, narrowed := true }
def FnExactIsJohnsonSortedUptoSaid : Prop := fnExactIsJohnsonSortedUptoRow.holds Try.pinned (OpenSpec.upto fnExactIsJohnsonSortedSpec)

/-- 'laws.FnExactLatenessBound', WHERE WHAT IT READS IS OF BULK AT MOST 1048576: true; the input reads as it did. -/
def fnExactLatenessBoundUptoRow : OpenClaim := { program := "ytigfamfbppdbaaa", sum := "6f87baea6b6b441426af80f5884acdb61b0b99ca64a36b8ff71569abd56c7af0", func := "loop.example/g01103/laws.FnExactLatenessBound", spec := "fnExactLatenessBound", apart := false, narrowed := true }
def FnExactLatenessBoundUptoSaid : Prop := fnExactLatenessBoundUptoRow.holds Try.pinned (OpenSpec.upto fnExactLatenessBoundSpec)

/-- 'laws.FnExactDemandOf', WHERE WHAT IT READS IS OF BULK AT MOST 1048576: true; the input reads as it did. -/
def fnExactDemandOfUptoRow : OpenClaim := { program := "ytigfamfbppdbaaa", sum := "6f87baea6b6b441426af80f5884acdb61b0b99ca64a36b8ff71569abd56c7af0", func := "loop.example/g01103/laws.FnExactDemandOf", spec := "fnExactDemandOf", apart := false, narrowed := true }
def FnExactDemandOfUptoSaid : Prop := fnExactDemandOfUptoRow.holds Try.pinned (OpenSpec.upto fnExactDemandOfSpec)

/-- 'laws.FnExactShopLoad', WHERE WHAT IT READS IS OF BULK AT MOST 1048576: true; the input reads as it did. -/
def fnExactShopLoadUptoRow : OpenClaim := { program := "ytigfamfbppdbaaa", sum := "6f87baea6b6b441426af80f5884acdb61b0b99ca64a36b8ff71569abd56c7af0", func := "loop.example/g01103/laws.FnExactShopLoad", spec := "fnExactShopLoad", apart := false, narrowed := true }
def FnExactShopLoadUptoSaid : Prop := fnExactShopLoadUptoRow.holds Try.pinned (OpenSpec.upto fnExactShopLoadSpec)

/-- 'laws.FnExactMixVectors', WHERE WHAT IT READS IS OF BULK AT MOST 1048576: true; the input reads as it did. -/
def fnExactMixVectorsUptoRow : OpenClaim := { program := "ytigfamfbppdbaaa", sum := "6f87baea6b6b441426af80f5884acdb61b0b99ca64a36b8ff71569abd56c7af0", func := "loop.example/g01103/laws.FnExactMixVectors", spec := "fnExactMixVectors", apart := false, narrowed := true }
def FnExactMixVectorsUptoSaid : Prop := fnExactMixVectorsUptoRow.holds Try.pinned (OpenSpec.upto fnExactMixVectorsSpec)

end Rows
end Go.Proofs.Ytigfamfbppdbaaa
