/-
  No cell of these rows narrows 'for every input' (looked for: loops, veiled, ifaces, maps, wideKeys, modest, calm, conditions, laid).
  DERIVED. THE GIVEN ROWS OF THIS SEAT. 6 by the template 'for every input the law returns true; each argument reads behind the call as it read before'; 0 by the template 'total and deterministic' (their statements: YtgelmpoaainlfaaTotals.lean).
  GIVEN WITH THE SEED: the statements are not yours to turn. If you find one false, say at which input.
  Laid BY PROGRAM, IN A SANDBOX (cutbox-rows.mjs): the forced cells as the released guide's own fill.sh prints them over the translation 7b63027afd14079c… (all of the seat's roots in one cut). By AI agents, Wed Nov 11 2026. No macro, syntax, notation, axiom, sorry.
-/
import Derived.Test.YtgelmpoaainlfaaChecked
import GoSem.Claim
import GoSem.ClaimJoined
import GoSem.ClaimMapViews
import Derived.JoinedTies
import Derived.KernelRfl
namespace Go.Proofs.Ytgelmpoaainlfaa
/- THE CELL 'sum', in the pinned program and in every row, IS THE sha256 OF THE DUMP (.gsa) THAT YtgelmpoaainlfaaProg.lean LOADS. Nothing in Lean hashes anything: it is a label: what it is worth is what the hold of that sum in a sandbox is worth. -/
noncomputable def Try.pinned : Pinned := { name := "ytgelmpoaainlfaa", sum := "7b63027afd14079cb4731b43bf1f3b585206c0d6d8a9fa41fb063a711eda90bb", checked := Try.checked }
namespace Rows
def none {H : Type} : Left H := { results := [], args := [] }

/-- 'laws.FnExactEncodeRecord': WHATEVER THE INPUT: true; the input reads as it did. -/
def fnExactEncodeRecordSpec : ChangeSpec := { name := "fnExactEncodeRecord", fn := fun _ => fun
  | [d1, d2] => { results := [.lit (.bool true)], args := [d1, d2] }
  | _ => none }
def fnExactEncodeRecordRow : OpenClaim := { program := "ytgelmpoaainlfaa", sum := "7b63027afd14079cb4731b43bf1f3b585206c0d6d8a9fa41fb063a711eda90bb", func := "loop.example/g01103/laws.FnExactEncodeRecord", spec := "fnExactEncodeRecord", recurses := true, apart := false }
def FnExactEncodeRecordSaid : Prop := fnExactEncodeRecordRow.holds Try.pinned (OpenSpec.ofChange fnExactEncodeRecordSpec)

/-- ITS FALSE NEIGHBOUR: 'it returns false'. Refute it at one input. -/
def fnExactEncodeRecordWrong : ChangeSpec := { name := "fnExactEncodeRecord", fn := fun _ => fun
  | [d1, d2] => { results := [.lit (.bool false)], args := [d1, d2] }
  | _ => none }
def FnExactEncodeRecordWrongFalsely : Prop := fnExactEncodeRecordRow.holds Try.pinned (OpenSpec.ofChange fnExactEncodeRecordWrong)

/-- 'laws.FnTailsFirst': WHATEVER THE INPUT: true; the input reads as it did. -/
def fnTailsFirstSpec : ChangeSpec := { name := "fnTailsFirst", fn := fun _ => fun
  | [d] => { results := [.lit (.bool true)], args := [d] }
  | _ => none }
def fnTailsFirstRow : OpenClaim := { program := "ytgelmpoaainlfaa", sum := "7b63027afd14079cb4731b43bf1f3b585206c0d6d8a9fa41fb063a711eda90bb", func := "loop.example/g01103/laws.FnTailsFirst", spec := "fnTailsFirst", unfollowed := true, recurses := true, apart := false }
def FnTailsFirstSaid : Prop := fnTailsFirstRow.holds Try.pinned (OpenSpec.ofChange fnTailsFirstSpec)

/-- ITS FALSE NEIGHBOUR: 'it returns false'. Refute it at one input. -/
def fnTailsFirstWrong : ChangeSpec := { name := "fnTailsFirst", fn := fun _ => fun
  | [d] => { results := [.lit (.bool false)], args := [d] }
  | _ => none }
def FnTailsFirstWrongFalsely : Prop := fnTailsFirstRow.holds Try.pinned (OpenSpec.ofChange fnTailsFirstWrong)

/-- 'laws.FnExactMiddleIsShort': WHATEVER THE INPUT: true; the input reads as it did. -/
def fnExactMiddleIsShortSpec : ChangeSpec := { name := "fnExactMiddleIsShort", fn := fun _ => fun
  | [d] => { results := [.lit (.bool true)], args := [d] }
  | _ => none }
def fnExactMiddleIsShortRow : OpenClaim := { program := "ytgelmpoaainlfaa", sum := "7b63027afd14079cb4731b43bf1f3b585206c0d6d8a9fa41fb063a711eda90bb", func := "loop.example/g01103/laws.FnExactMiddleIsShort", spec := "fnExactMiddleIsShort", apart := false }
def FnExactMiddleIsShortSaid : Prop := fnExactMiddleIsShortRow.holds Try.pinned (OpenSpec.ofChange fnExactMiddleIsShortSpec)

/-- ITS FALSE NEIGHBOUR: 'it returns false'. Refute it at one input. -/
def fnExactMiddleIsShortWrong : ChangeSpec := { name := "fnExactMiddleIsShort", fn := fun _ => fun
  | [d] => { results := [.lit (.bool false)], args := [d] }
  | _ => none }
def FnExactMiddleIsShortWrongFalsely : Prop := fnExactMiddleIsShortRow.holds Try.pinned (OpenSpec.ofChange fnExactMiddleIsShortWrong)

/-- 'laws.FnExactIsJobShop': WHATEVER THE INPUT: true; the input reads as it did. -/
def fnExactIsJobShopSpec : ChangeSpec := { name := "fnExactIsJobShop", fn := fun _ => fun
  | [d] => { results := [.lit (.bool true)], args := [d] }
  | _ => none }
def fnExactIsJobShopRow : OpenClaim := { program := "ytgelmpoaainlfaa", sum := "7b63027afd14079cb4731b43bf1f3b585206c0d6d8a9fa41fb063a711eda90bb", func := "loop.example/g01103/laws.FnExactIsJobShop", spec := "fnExactIsJobShop", apart := false }
def FnExactIsJobShopSaid : Prop := fnExactIsJobShopRow.holds Try.pinned (OpenSpec.ofChange fnExactIsJobShopSpec)

/-- ITS FALSE NEIGHBOUR: 'it returns false'. Refute it at one input. -/
def fnExactIsJobShopWrong : ChangeSpec := { name := "fnExactIsJobShop", fn := fun _ => fun
  | [d] => { results := [.lit (.bool false)], args := [d] }
  | _ => none }
def FnExactIsJobShopWrongFalsely : Prop := fnExactIsJobShopRow.holds Try.pinned (OpenSpec.ofChange fnExactIsJobShopWrong)

/-- 'laws.FnExactRatioOfSet': WHATEVER THE INPUT: true; the input reads as it did. -/
def fnExactRatioOfSetSpec : ChangeSpec := { name := "fnExactRatioOfSet", fn := fun _ => fun
  | [d1, d2] => { results := [.lit (.bool true)], args := [d1, d2] }
  | _ => none }
def fnExactRatioOfSetRow : OpenClaim := { program := "ytgelmpoaainlfaa", sum := "7b63027afd14079cb4731b43bf1f3b585206c0d6d8a9fa41fb063a711eda90bb", func := "loop.example/g01103/laws.FnExactRatioOfSet", spec := "fnExactRatioOfSet", apart := false }
def FnExactRatioOfSetSaid : Prop := fnExactRatioOfSetRow.holds Try.pinned (OpenSpec.ofChange fnExactRatioOfSetSpec)

/-- ITS FALSE NEIGHBOUR: 'it returns false'. Refute it at one input. -/
def fnExactRatioOfSetWrong : ChangeSpec := { name := "fnExactRatioOfSet", fn := fun _ => fun
  | [d1, d2] => { results := [.lit (.bool false)], args := [d1, d2] }
  | _ => none }
def FnExactRatioOfSetWrongFalsely : Prop := fnExactRatioOfSetRow.holds Try.pinned (OpenSpec.ofChange fnExactRatioOfSetWrong)

/-- 'laws.FnExactFlowBound': WHATEVER THE INPUT: true; the input reads as it did. -/
def fnExactFlowBoundSpec : ChangeSpec := { name := "fnExactFlowBound", fn := fun _ => fun
  | [d] => { results := [.lit (.bool true)], args := [d] }
  | _ => none }
def fnExactFlowBoundRow : OpenClaim := { program := "ytgelmpoaainlfaa", sum := "7b63027afd14079cb4731b43bf1f3b585206c0d6d8a9fa41fb063a711eda90bb", func := "loop.example/g01103/laws.FnExactFlowBound", spec := "fnExactFlowBound", apart := false }
def FnExactFlowBoundSaid : Prop := fnExactFlowBoundRow.holds Try.pinned (OpenSpec.ofChange fnExactFlowBoundSpec)

/-- ITS FALSE NEIGHBOUR: 'it returns false'. Refute it at one input. -/
def fnExactFlowBoundWrong : ChangeSpec := { name := "fnExactFlowBound", fn := fun _ => fun
  | [d] => { results := [.lit (.bool false)], args := [d] }
  | _ => none }
def FnExactFlowBoundWrongFalsely : Prop := fnExactFlowBoundRow.holds Try.pinned (OpenSpec.ofChange fnExactFlowBoundWrong)

/- THE SECOND FORM. 'bulk': how many values and letters a reading holds, each counted each time it is reached (what is shared counts as often as it is met; a slice's spare places count too). A statement '..UptoSaid' is the law's where the arguments, and the package variables that the reading takes, are together of bulk at most 1048576: NARROWER than '..Said'. Prove '..Said' where nothing that the law and all that it calls make is longer than what came in: it says more and counts as full. Else prove '..UptoSaid'. A law counts once. -/
mutual
def uptoBulk {H : Type} : DataW H → Nat
  | .lit (.string bytes) => bytes.length + 1
  | .lit _ => 1
  | .nil => 1
  | .ptr d => uptoBulk d + 1
  | .slice elems spare => uptoBulkAll elems + uptoBulkAll spare + 1
  | .agg parts => uptoBulkAll parts + 1
  | .iface _ d => uptoBulk d + 1
  | .map entries => uptoBulkEntries entries + 1
  | .held _ => 1
def uptoBulkAll {H : Type} : List (DataW H) → Nat
  | [] => 0
  | d :: r => uptoBulk d + uptoBulkAll r
def uptoBulkEntries {H : Type} : List (Lit × DataW H) → Nat
  | [] => 0
  | x :: r => uptoBulkEntry x + uptoBulkEntries r
def uptoBulkEntry {H : Type} : Lit × DataW H → Nat
  | (.string bytes, d) => bytes.length + uptoBulk d + 1
  | (_, d) => uptoBulk d + 1
 end
def uptoSmall : (H : Type) → List (DataW H) → Bool := fun _ ds => decide (uptoBulkAll ds ≤ 1048576)
def OpenSpec.upto (s : _root_.Go.ChangeSpec) : _root_.Go.OpenSpec := { _root_.Go.OpenSpec.ofChange s with cond := some uptoSmall }

/-- 'laws.FnExactEncodeRecord', WHERE WHAT IT READS IS OF BULK AT MOST 1048576: true; the input reads as it did. -/
def fnExactEncodeRecordUptoRow : OpenClaim := { program := "ytgelmpoaainlfaa", sum := "7b63027afd14079cb4731b43bf1f3b585206c0d6d8a9fa41fb063a711eda90bb", func := "loop.example/g01103/laws.FnExactEncodeRecord", spec := "fnExactEncodeRecord", recurses := true, apart := false, narrowed := true }
def FnExactEncodeRecordUptoSaid : Prop := fnExactEncodeRecordUptoRow.holds Try.pinned (OpenSpec.upto fnExactEncodeRecordSpec)

/-- 'laws.FnTailsFirst', WHERE WHAT IT READS IS OF BULK AT MOST 1048576: true; the input reads as it did. -/
def fnTailsFirstUptoRow : OpenClaim := { program := "ytgelmpoaainlfaa", sum := "7b63027afd14079cb4731b43bf1f3b585206c0d6d8a9fa41fb063a711eda90bb", func := "loop.example/g01103/laws.FnTailsFirst", spec := "fnTailsFirst", unfollowed := true, recurses := true, apart := false, narrowed := true }
def FnTailsFirstUptoSaid : Prop := fnTailsFirstUptoRow.holds Try.pinned (OpenSpec.upto fnTailsFirstSpec)

/-- 'laws.FnExactMiddleIsShort', WHERE WHAT IT READS IS OF BULK AT MOST 1048576: true; the input reads as it did. -/
def fnExactMiddleIsShortUptoRow : OpenClaim := { program := "ytgelmpoaainlfaa", sum := "7b63027afd14079cb4731b43bf1f3b585206c0d6d8a9fa41fb063a711eda90bb", func := "loop.example/g01103/laws.FnExactMiddleIsShort", spec := "fnExactMiddleIsShort", apart := false, narrowed := true }
def FnExactMiddleIsShortUptoSaid : Prop := fnExactMiddleIsShortUptoRow.holds Try.pinned (OpenSpec.upto fnExactMiddleIsShortSpec)

/-- 'laws.FnExactIsJobShop', WHERE WHAT IT READS IS OF BULK AT MOST 1048576: true; the input reads as it did. -/
def fnExactIsJobShopUptoRow : OpenClaim := { program := "ytgelmpoaainlfaa", sum := "7b63027afd14079cb4731b43bf1f3b585206c0d6d8a9fa41fb063a711eda90bb", func := "loop.example/g01103/laws.FnExactIsJobShop", spec := "fnExactIsJobShop", apart := false, narrowed := true }
def FnExactIsJobShopUptoSaid : Prop := fnExactIsJobShopUptoRow.holds Try.pinned (OpenSpec.upto fnExactIsJobShopSpec)

/-- 'laws.FnExactRatioOfSet', WHERE WHAT IT READS IS OF BULK AT MOST 1048576: true; the input reads as it did. -/
def fnExactRatioOfSetUptoRow : OpenClaim := { program := "ytgelmpoaainlfaa", sum := "7b63027afd14079cb4731b43bf1f3b585206c0d6d8a9fa41fb063a711eda90bb", func := "loop.example/g01103/laws.FnExactRatioOfSet", spec := "fnExactRatioOfSet", apart := false, narrowed := true }
def FnExactRatioOfSetUptoSaid : Prop := fnExactRatioOfSetUptoRow.holds Try.pinned (OpenSpec.upto fnExactRatioOfSetSpec)

/-- 'laws.FnExactFlowBound', WHERE WHAT IT READS IS OF BULK AT MOST 1048576: true; the input reads as it did. -/
def fnExactFlowBoundUptoRow : OpenClaim := { program := "ytgelmpoaainlfaa", sum := "7b63027afd14079cb4731b43bf1f3b585206c0d6d8a9fa41fb063a711eda90bb", func := "loop.example/g01103/laws.FnExactFlowBound", spec := "fnExactFlowBound", apart := false, narrowed := true }
def FnExactFlowBoundUptoSaid : Prop := fnExactFlowBoundUptoRow.holds Try.pinned (OpenSpec.upto fnExactFlowBoundSpec)

end Rows
end Go.Proofs.Ytgelmpoaainlfaa
