/-
  No cell of these rows narrows 'for every input' (looked for: loops, veiled, ifaces, maps, wideKeys, modest, calm, conditions, laid).
  DERIVED. THE GIVEN ROWS OF THIS SEAT. 6 by the template 'for every input the law returns true; each argument reads behind the call as it read before'; 0 by the template 'total and deterministic' (their statements: YtehaakoaabbiaaaTotals.lean).
  GIVEN WITH THE SEED: the statements are not yours to turn. If you find one false, say at which input.
  Laid BY PROGRAM, IN A SANDBOX (cutbox-rows.mjs): the forced cells as the released guide's own fill.sh prints them over the translation 7206aba52e261a61… (all of the seat's roots in one cut). By AI agents, Wed Nov 11 2026. No macro, syntax, notation, axiom, sorry.
-/
import Derived.Test.YtehaakoaabbiaaaChecked
import GoSem.Claim
import GoSem.ClaimJoined
import GoSem.ClaimMapViews
import Derived.JoinedTies
import Derived.KernelRfl
namespace Go.Proofs.Ytehaakoaabbiaaa
/- THE CELL 'sum', in the pinned program and in every row, IS THE sha256 OF THE DUMP (.gsa) THAT YtehaakoaabbiaaaProg.lean LOADS. Nothing in Lean hashes anything: it is a label: what it is worth is what the hold of that sum in a sandbox is worth. -/
noncomputable def Try.pinned : Pinned := { name := "ytehaakoaabbiaaa", sum := "7206aba52e261a61c44654da5804ee024afa38c96e5ca2ec840f509ed9525e1f", checked := Try.checked }
namespace Rows
def none {H : Type} : Left H := { results := [], args := [] }

/-- 'laws.FnExactIsDispatcher': WHATEVER THE INPUT: true; the input reads as it did. -/
def fnExactIsDispatcherSpec : ChangeSpec := { name := "fnExactIsDispatcher", fn := fun _ => fun
  | [d] => { results := [.lit (.bool true)], args := [d] }
  | _ => none }
def fnExactIsDispatcherRow : OpenClaim := { program := "ytehaakoaabbiaaa", sum := "7206aba52e261a61c44654da5804ee024afa38c96e5ca2ec840f509ed9525e1f", func := "loop.example/g01103/laws.FnExactIsDispatcher", spec := "fnExactIsDispatcher", apart := false }
def FnExactIsDispatcherSaid : Prop := fnExactIsDispatcherRow.holds Try.pinned (OpenSpec.ofChange fnExactIsDispatcherSpec)

/-- ITS FALSE NEIGHBOUR: 'it returns false'. Refute it at one input. -/
def fnExactIsDispatcherWrong : ChangeSpec := { name := "fnExactIsDispatcher", fn := fun _ => fun
  | [d] => { results := [.lit (.bool false)], args := [d] }
  | _ => none }
def FnExactIsDispatcherWrongFalsely : Prop := fnExactIsDispatcherRow.holds Try.pinned (OpenSpec.ofChange fnExactIsDispatcherWrong)

/-- 'laws.FnExactEndsOf': WHATEVER THE INPUT: true; the input reads as it did. -/
def fnExactEndsOfSpec : ChangeSpec := { name := "fnExactEndsOf", fn := fun _ => fun
  | [d1, d2] => { results := [.lit (.bool true)], args := [d1, d2] }
  | _ => none }
def fnExactEndsOfRow : OpenClaim := { program := "ytehaakoaabbiaaa", sum := "7206aba52e261a61c44654da5804ee024afa38c96e5ca2ec840f509ed9525e1f", func := "loop.example/g01103/laws.FnExactEndsOf", spec := "fnExactEndsOf", apart := false }
def FnExactEndsOfSaid : Prop := fnExactEndsOfRow.holds Try.pinned (OpenSpec.ofChange fnExactEndsOfSpec)

/-- ITS FALSE NEIGHBOUR: 'it returns false'. Refute it at one input. -/
def fnExactEndsOfWrong : ChangeSpec := { name := "fnExactEndsOf", fn := fun _ => fun
  | [d1, d2] => { results := [.lit (.bool false)], args := [d1, d2] }
  | _ => none }
def FnExactEndsOfWrongFalsely : Prop := fnExactEndsOfRow.holds Try.pinned (OpenSpec.ofChange fnExactEndsOfWrong)

/-- 'laws.FnExactRecoverLog': WHATEVER THE INPUT: true; the input reads as it did. -/
def fnExactRecoverLogSpec : ChangeSpec := { name := "fnExactRecoverLog", fn := fun _ => fun
  | [d] => { results := [.lit (.bool true)], args := [d] }
  | _ => none }
def fnExactRecoverLogRow : OpenClaim := { program := "ytehaakoaabbiaaa", sum := "7206aba52e261a61c44654da5804ee024afa38c96e5ca2ec840f509ed9525e1f", func := "loop.example/g01103/laws.FnExactRecoverLog", spec := "fnExactRecoverLog", recurses := true, apart := false }
def FnExactRecoverLogSaid : Prop := fnExactRecoverLogRow.holds Try.pinned (OpenSpec.ofChange fnExactRecoverLogSpec)

/-- ITS FALSE NEIGHBOUR: 'it returns false'. Refute it at one input. -/
def fnExactRecoverLogWrong : ChangeSpec := { name := "fnExactRecoverLog", fn := fun _ => fun
  | [d] => { results := [.lit (.bool false)], args := [d] }
  | _ => none }
def FnExactRecoverLogWrongFalsely : Prop := fnExactRecoverLogRow.holds Try.pinned (OpenSpec.ofChange fnExactRecoverLogWrong)

/-- 'laws.FnExactIsRuledOrder': WHATEVER THE INPUT: true; the input reads as it did. -/
def fnExactIsRuledOrderSpec : ChangeSpec := { name := "fnExactIsRuledOrder", fn := fun _ => fun
  | [d1, d2, d3] => { results := [.lit (.bool true)], args := [d1, d2, d3] }
  | _ => none }
def fnExactIsRuledOrderRow : OpenClaim := { program := "ytehaakoaabbiaaa", sum := "7206aba52e261a61c44654da5804ee024afa38c96e5ca2ec840f509ed9525e1f", func := "loop.example/g01103/laws.FnExactIsRuledOrder", spec := "fnExactIsRuledOrder", apart := false }
def FnExactIsRuledOrderSaid : Prop := fnExactIsRuledOrderRow.holds Try.pinned (OpenSpec.ofChange fnExactIsRuledOrderSpec)

/-- ITS FALSE NEIGHBOUR: 'it returns false'. Refute it at one input. -/
def fnExactIsRuledOrderWrong : ChangeSpec := { name := "fnExactIsRuledOrder", fn := fun _ => fun
  | [d1, d2, d3] => { results := [.lit (.bool false)], args := [d1, d2, d3] }
  | _ => none }
def FnExactIsRuledOrderWrongFalsely : Prop := fnExactIsRuledOrderRow.holds Try.pinned (OpenSpec.ofChange fnExactIsRuledOrderWrong)

/-- 'laws.FnExactIsValidLog': WHATEVER THE INPUT: true; the input reads as it did. -/
def fnExactIsValidLogSpec : ChangeSpec := { name := "fnExactIsValidLog", fn := fun _ => fun
  | [d] => { results := [.lit (.bool true)], args := [d] }
  | _ => none }
def fnExactIsValidLogRow : OpenClaim := { program := "ytehaakoaabbiaaa", sum := "7206aba52e261a61c44654da5804ee024afa38c96e5ca2ec840f509ed9525e1f", func := "loop.example/g01103/laws.FnExactIsValidLog", spec := "fnExactIsValidLog", recurses := true, apart := false }
def FnExactIsValidLogSaid : Prop := fnExactIsValidLogRow.holds Try.pinned (OpenSpec.ofChange fnExactIsValidLogSpec)

/-- ITS FALSE NEIGHBOUR: 'it returns false'. Refute it at one input. -/
def fnExactIsValidLogWrong : ChangeSpec := { name := "fnExactIsValidLog", fn := fun _ => fun
  | [d] => { results := [.lit (.bool false)], args := [d] }
  | _ => none }
def FnExactIsValidLogWrongFalsely : Prop := fnExactIsValidLogRow.holds Try.pinned (OpenSpec.ofChange fnExactIsValidLogWrong)

/-- 'laws.FnExactIsTimely': WHATEVER THE INPUT: true; the input reads as it did. -/
def fnExactIsTimelySpec : ChangeSpec := { name := "fnExactIsTimely", fn := fun _ => fun
  | [d1, d2] => { results := [.lit (.bool true)], args := [d1, d2] }
  | _ => none }
def fnExactIsTimelyRow : OpenClaim := { program := "ytehaakoaabbiaaa", sum := "7206aba52e261a61c44654da5804ee024afa38c96e5ca2ec840f509ed9525e1f", func := "loop.example/g01103/laws.FnExactIsTimely", spec := "fnExactIsTimely", unfollowed := true, recurses := true, apart := false }
def FnExactIsTimelySaid : Prop := fnExactIsTimelyRow.holds Try.pinned (OpenSpec.ofChange fnExactIsTimelySpec)

/-- ITS FALSE NEIGHBOUR: 'it returns false'. Refute it at one input. -/
def fnExactIsTimelyWrong : ChangeSpec := { name := "fnExactIsTimely", fn := fun _ => fun
  | [d1, d2] => { results := [.lit (.bool false)], args := [d1, d2] }
  | _ => none }
def FnExactIsTimelyWrongFalsely : Prop := fnExactIsTimelyRow.holds Try.pinned (OpenSpec.ofChange fnExactIsTimelyWrong)

/- THE SECOND FORM. 'bulk': how many values and letters a reading holds, each counted each time it is reached (what is shared counts as often as it is met; a slice's spare places count too). A statement '..UptoSaid' is the law's where the arguments, and the package variables that the reading takes, are together of bulk at most 1048576: NARROWER than '..Said'. Prove '..Said' where nothing that the law and all that it calls make is longer than what came in: it says more and counts as full. Else prove '..UptoSaid'. A law counts once. -/
mutual
def uptoBulk {H : Type} : DataW H → Nat
  | .lit (.string bytes) => bytes.length + 1
  | .lit _ => 1
  | .nil => 1
  | .ptr d => uptoBulk d + 1
  | .slice elems spare => uptoBulkAll elems + uptoBulkAll spare + 1
  | .agg parts => uptoBulkAll parts + 1
  | .iface _ d => uptoBulk d + 1
  | .map entries => uptoBulkEntries entries + 1
  | .held _ => 1
def uptoBulkAll {H : Type} : List (DataW H) → Nat
  | [] => 0
  | d :: r => uptoBulk d + uptoBulkAll r
def uptoBulkEntries {H : Type} : List (Lit × DataW H) → Nat
  | [] => 0
  | x :: r => uptoBulkEntry x + uptoBulkEntries r
def uptoBulkEntry {H : Type} : Lit × DataW H → Nat
  | (.string bytes, d) => bytes.length + uptoBulk d + 1
  | (_, d) => uptoBulk d + 1
 end
def uptoSmall : (H : Type) → List (DataW H) → Bool := fun _ ds => decide (uptoBulkAll ds ≤ 1048576)
def OpenSpec.upto (s : _root_.Go.ChangeSpec) : _root_.Go.OpenSpec := { _root_.Go.OpenSpec.ofChange s with cond := some uptoSmall }

/-- 'laws.FnExactIsDispatcher', WHERE WHAT IT READS IS OF BULK AT MOST 1048576: true; the input reads as it did. -/
def fnExactIsDispatcherUptoRow : OpenClaim := { program := "ytehaakoaabbiaaa", sum := "7206aba52e261a61c44654da5804ee024afa38c96e5ca2ec840f509ed9525e1f", func := "loop.example/g01103/laws.FnExactIsDispatcher", spec := "fnExactIsDispatcher", apart := false, narrowed := true }
def FnExactIsDispatcherUptoSaid : Prop := fnExactIsDispatcherUptoRow.holds Try.pinned (OpenSpec.upto fnExactIsDispatcherSpec)

/-- 'laws.FnExactEndsOf', WHERE WHAT IT READS IS OF BULK AT MOST 1048576: true; the input reads as it did. -/
def fnExactEndsOfUptoRow : OpenClaim := { program := "ytehaakoaabbiaaa", sum := "7206aba52e261a61c44654da5804ee024afa38c96e5ca2ec840f509ed9525e1f", func := "loop.example/g01103/laws.FnExactEndsOf", spec := "fnExactEndsOf", apart := false, narrowed := true }
def FnExactEndsOfUptoSaid : Prop := fnExactEndsOfUptoRow.holds Try.pinned (OpenSpec.upto fnExactEndsOfSpec)

/-- 'laws.FnExactRecoverLog', WHERE WHAT IT READS IS OF BULK AT MOST 1048576: true; the input reads as it did. -/
def fnExactRecoverLogUptoRow : OpenClaim := { program := "ytehaakoaabbiaaa", sum := "7206aba52e261a61c44654da5804ee024afa38c96e5ca2ec840f509ed9525e1f", func := "loop.example/g01103/laws.FnExactRecoverLog", spec := "fnExactRecoverLog", recurses := true, apart := false, narrowed := true }
def FnExactRecoverLogUptoSaid : Prop := fnExactRecoverLogUptoRow.holds Try.pinned (OpenSpec.upto fnExactRecoverLogSpec)

/-- 'laws.FnExactIsRuledOrder', WHERE WHAT IT READS IS OF BULK AT MOST 1048576: true; the input reads as it did. -/
def fnExactIsRuledOrderUptoRow : OpenClaim := { program := "ytehaakoaabbiaaa", sum := "7206aba52e261a61c44654da5804ee024afa38c96e5ca2ec840f509ed9525e1f", func := "loop.example/g01103/laws.FnExactIsRuledOrder", spec := "fnExactIsRuledOrder", apart := false, narrowed := true }
def FnExactIsRuledOrderUptoSaid : Prop := fnExactIsRuledOrderUptoRow.holds Try.pinned (OpenSpec.upto fnExactIsRuledOrderSpec)

/-- 'laws.FnExactIsValidLog', WHERE WHAT IT READS IS OF BULK AT MOST 1048576: true; the input reads as it did. -/
def fnExactIsValidLogUptoRow : OpenClaim := { program := "ytehaakoaabbiaaa", sum := "7206aba52e261a61c44654da5804ee024afa38c96e5ca2ec840f509ed9525e1f", func := "loop.example/g01103/laws.FnExactIsValidLog", spec := "fnExactIsValidLog", recurses := true, apart := false, narrowed := true }
def FnExactIsValidLogUptoSaid : Prop := fnExactIsValidLogUptoRow.holds Try.pinned (OpenSpec.upto fnExactIsValidLogSpec)

/-- 'laws.FnExactIsTimely', WHERE WHAT IT READS IS OF BULK AT MOST 1048576: true; the input reads as it did. -/
def fnExactIsTimelyUptoRow : OpenClaim := { program := "ytehaakoaabbiaaa", sum := "7206aba52e261a61c44654da5804ee024afa38c96e5ca2ec840f509ed9525e1f", func := "loop.example/g01103/laws.FnExactIsTimely", spec := "fnExactIsTimely", unfollowed := true, recurses := true, apart := false, narrowed := true }
def FnExactIsTimelyUptoSaid : Prop := fnExactIsTimelyUptoRow.holds Try.pinned (OpenSpec.upto fnExactIsTimelySpec)

end Rows
end Go.Proofs.Ytehaakoaabbiaaa
