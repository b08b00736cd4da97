-- Written by a program of this session (the kit's print, widened). Proved here: what each function answers, for the arguments that its contract names.
import Derived.Test.YtphgpffgidfmmaaProg
import Derived.Below
import Derived.Deep.Draws
import Derived.Deep.AppendLies
import Derived.Maps.AppendAt
import Derived.OwnWalk
import Derived.Laws.BytesArg
import Derived.Laws.MakeOwn
import Derived.Laws.OwnMore
import Derived.Deep.OwnRows
import Derived.Tactics
import Derived.Lib.ConvBytes
import Derived.Laws.Slices
import Derived.WalkKit
import Derived.KernelRfl
import Derived.RowKit3
import Derived.Deep.LoopGhost
import Derived.Deep.QuietTactic
import Derived.BigQuiet
import Derived.WideLaws
import Derived.Deep.DeepCutAuto
import Derived.Deep.CutBlock
import Derived.Deep.RegionHeld3
import Derived.Laws.Rows
import Derived.Lib.AppendStr
import Derived.ArgAppend
import Derived.Laws.IdiomCopy
import Derived.OrdersHeld
import Derived.Laws.BitsLemmas
import Derived.RowKit
import Derived.Laws.CopyOwn
import Derived.Deep.RegionLaw
import Derived.RangeFuncBox
import Derived.Deep.RegionHeld3
import Derived.Test.YtphgpffgidfmmaaWWords
import Derived.Test.YtphgpffgidfmmaaWLast
import Derived.Test.YtphgpffgidfmmaaWTab
import Derived.Test.YtphgpffgidfmmaaWFour
import Derived.Test.YtphgpffgidfmmaaWQPut
import Derived.Test.YtphgpffgidfmmaaWApart
import Derived.Test.YtphgpffgidfmmaaWArr
import Derived.Test.YtphgpffgidfmmaaWZeros
import Derived.Test.YtphgpffgidfmmaaWFoot
import Derived.Test.YtphgpffgidfmmaaWKept
import Derived.Test.YtphgpffgidfmmaaWShare
import Derived.Test.YtphgpffgidfmmaaWN
import Derived.Test.YtphgpffgidfmmaaWFootNe
import Derived.Test.YtphgpffgidfmmaaWAt
import Derived.Test.YtphgpffgidfmmaaWEqStruct
import Derived.Test.YtphgpffgidfmmaaWRepsOne
import Derived.Test.YtphgpffgidfmmaaWInv
import Derived.Test.YtphgpffgidfmmaaWInvWords
import Derived.Test.YtphgpffgidfmmaaWGuard
import Derived.Test.YtphgpffgidfmmaaWNEv
import Derived.Test.YtphgpffgidfmmaaWMore
namespace Go.Proofs.Ytphgpffgidfmmaa.XFnStrings
open Go.RowKit Go.Proofs.YtphgpffgidfmmaaW.PrintWords Go.Proofs.YtphgpffgidfmmaaW.PrintLast Go.Proofs.YtphgpffgidfmmaaW.PrintMore
attribute [local go_sem] max2_int min2_int max_two min_two max_three min_three max_four min_four   -- for this text's walks alone
set_option linter.unusedVariables false
set_option linter.unusedSimpArgs false



def errW : Option Int → Value
  | none => .nilIface
  | some c => .iface 0 (.int .i64 c)
theorem errW_none : errW none = .nilIface := rfl
theorem errW_some (c : Int) : errW (some c) = .iface 0 (.int .i64 c) := rfl

theorem info3 : (Try.prog.info? 3).map (fun i => (i.zero, i.size, i.bytes)) = some (some (.int .i64 0), 1, 8) := by kernel_rfl
theorem info5 : (Try.prog.info? 5).map (fun i => (i.zero, i.size, i.bytes)) = some (some (.int .u8 0), 1, 1) := by kernel_rfl
theorem info9 : (Try.prog.info? 9).map (fun i => (i.zero, i.size, i.bytes)) = some (some (.string ⟨#[]⟩), 1, 16) := by kernel_rfl
-- the values' own types

theorem z0_ {α : Type _} {a : List α} {i : Nat} {b : α} : a.toArray.setIfInBounds i b = (a.set i b).toArray := by simp
theorem z1_ {α : Type _} {a b : α} {l : List α} : (a :: l).set 0 b = b :: l := rfl
theorem z2_ {α : Type _} {a b : α} {n : Nat} {l : List α} : (a :: l).set (n + 1) b = a :: l.set n b := rfl
theorem id3_ {α β γ : Sort _} {P : α → β → γ → Prop} (a : α) (b : β) (c : γ) (h : P a b c) : P a b c := h
theorem fldS_78_0 (v0 v1 v2 : Value) (w : World) : (Instr.field 78 (.agg #[v0, v1, v2]) 0).run Try.prog w = .ok v0 w := by kernel_rfl
theorem fldS_78_1 (v0 v1 v2 : Value) (w : World) : (Instr.field 78 (.agg #[v0, v1, v2]) 1).run Try.prog w = .ok v1 w := by kernel_rfl
theorem fldS_78_2 (v0 v1 v2 : Value) (w : World) : (Instr.field 78 (.agg #[v0, v1, v2]) 2).run Try.prog w = .ok v2 w := by kernel_rfl
end Go.Proofs.Ytphgpffgidfmmaa.XFnStrings
