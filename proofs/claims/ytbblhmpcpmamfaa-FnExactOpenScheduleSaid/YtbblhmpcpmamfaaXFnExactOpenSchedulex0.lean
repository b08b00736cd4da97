-- Written by a program of this session (the kit's print, widened). Proved here: what each function answers, for the arguments that its contract names.
import Derived.Test.YtbblhmpcpmamfaaProg
import Derived.Below
import Derived.Deep.Draws
import Derived.Deep.AppendLies
import Derived.Maps.AppendAt
import Derived.OwnWalk
import Derived.Laws.BytesArg
import Derived.Laws.MakeOwn
import Derived.Laws.OwnMore
import Derived.Deep.OwnRows
import Derived.Tactics
import Derived.Lib.ConvBytes
import Derived.Laws.Slices
import Derived.WalkKit
import Derived.KernelRfl
import Derived.RowKit3
import Derived.Deep.LoopGhost
import Derived.Deep.QuietTactic
import Derived.BigQuiet
import Derived.WideLaws
import Derived.Deep.DeepCutAuto
import Derived.Deep.CutBlock
import Derived.Deep.RegionHeld3
import Derived.Laws.Rows
import Derived.Lib.AppendStr
import Derived.ArgAppend
import Derived.Laws.IdiomCopy
import Derived.OrdersHeld
import Derived.Laws.BitsLemmas
import Derived.RowKit
import Derived.Laws.CopyOwn
import Derived.Deep.RegionLaw
import Derived.RangeFuncBox
import Derived.Deep.RegionHeld3
import Derived.Test.YtbblhmpcpmamfaaWWords
import Derived.Test.YtbblhmpcpmamfaaWLast
import Derived.Test.YtbblhmpcpmamfaaWTab
import Derived.Test.YtbblhmpcpmamfaaWFour
import Derived.Test.YtbblhmpcpmamfaaWQPut
import Derived.Test.YtbblhmpcpmamfaaWApart
import Derived.Test.YtbblhmpcpmamfaaWArr
import Derived.Test.YtbblhmpcpmamfaaWZeros
import Derived.Test.YtbblhmpcpmamfaaWFoot
import Derived.Test.YtbblhmpcpmamfaaWKept
import Derived.Test.YtbblhmpcpmamfaaWShare
import Derived.Test.YtbblhmpcpmamfaaWN
import Derived.Test.YtbblhmpcpmamfaaWFootNe
import Derived.Test.YtbblhmpcpmamfaaWAt
import Derived.Test.YtbblhmpcpmamfaaWEqStruct
import Derived.Test.YtbblhmpcpmamfaaWRepsOne
import Derived.Test.YtbblhmpcpmamfaaWInv
import Derived.Test.YtbblhmpcpmamfaaWInvWords
import Derived.Test.YtbblhmpcpmamfaaWGuard
import Derived.Test.YtbblhmpcpmamfaaWNEv
import Derived.Test.YtbblhmpcpmamfaaWMore
namespace Go.Proofs.Ytbblhmpcpmamfaa.XFnExactOpenSchedule
open Go.RowKit Go.Proofs.YtbblhmpcpmamfaaW.PrintWords Go.Proofs.YtbblhmpcpmamfaaW.PrintLast Go.Proofs.YtbblhmpcpmamfaaW.PrintMore
attribute [local go_sem] max2_int min2_int max_two min_two max_three min_three max_four min_four   -- for this text's walks alone
set_option linter.unusedVariables false
set_option linter.unusedSimpArgs false



def errW : Option Int → Value
  | none => .nilIface
  | some c => .iface 0 (.int .i64 c)
theorem errW_none : errW none = .nilIface := rfl
theorem errW_some (c : Int) : errW (some c) = .iface 0 (.int .i64 c) := rfl

theorem info3 : (Try.prog.info? 3).map (fun i => (i.zero, i.size, i.bytes)) = some (some (.int .i64 0), 1, 8) := by kernel_rfl
theorem info41 : (Try.prog.info? 41).map (fun i => (i.zero, i.size, i.bytes)) = some (some (.slice none 0 0), 1, 24) := by kernel_rfl
-- the values' own types
def rd_L1 (xs : List (List Int)) (i : Int) : (List Int) := xs.getD i.toNat ([] : List Int)
theorem at_L1 {w : World} {A : Option Addr} {n : Nat} {xs : List (List Int)} (h : Kd.C (Kd.slice 3 (Kd.int .i64)) w A n xs) (i : Int) (h0 : 0 ≤ i) (h1 : i < n) : ∃ ad A0 c0, A = some ad ∧ w.cell? (ad.add i.toNat) = some (.slice A0 (rd_L1 xs i).length c0) ∧ (rd_L1 xs i).length ≤ c0 ∧ (Kd.int .i64).C w A0 (rd_L1 xs i).length (rd_L1 xs i) := by
  obtain ⟨ad, c, e, _, hK, hc0⟩ := Kd.C_get h ([] : List Int) i h0 h1
  have hc : ∀ j u, c[j]? = some u → w.cell? (ad.add (i.toNat * 1 + j)) = some u := hc0
  obtain ⟨A0, c0, rfl, l0, g0⟩ := hK
  exact ⟨ad, A0, c0, e, by have hq := hc 0 _ rfl; rwa [Nat.mul_one, Nat.add_zero] at hq, l0, g0⟩

theorem z0_ {α : Type _} {a : List α} {i : Nat} {b : α} : a.toArray.setIfInBounds i b = (a.set i b).toArray := by simp
theorem z1_ {α : Type _} {a b : α} {l : List α} : (a :: l).set 0 b = b :: l := rfl
theorem z2_ {α : Type _} {a b : α} {n : Nat} {l : List α} : (a :: l).set (n + 1) b = a :: l.set n b := rfl
theorem id3_ {α β γ : Sort _} {P : α → β → γ → Prop} (a : α) (b : β) (c : γ) (h : P a b c) : P a b c := h
theorem idxA_77_0 (a0 a1 : Int) (w : World) : (Instr.index 77 (.agg #[.int .i64 a0, .int .i64 a1]) (.int .i64 0)).run Try.prog w = .ok (.int .i64 a0) w := by kernel_rfl
theorem idxA_77_1 (a0 a1 : Int) (w : World) : (Instr.index 77 (.agg #[.int .i64 a0, .int .i64 a1]) (.int .i64 1)).run Try.prog w = .ok (.int .i64 a1) w := by kernel_rfl
theorem fldS_68_0 (v0 v1 : Value) (w : World) : (Instr.field 68 (.agg #[v0, v1]) 0).run Try.prog w = .ok v0 w := by kernel_rfl
theorem fldS_68_1 (v0 v1 : Value) (w : World) : (Instr.field 68 (.agg #[v0, v1]) 1).run Try.prog w = .ok v1 w := by kernel_rfl
theorem fldS_73_0 (v0 v1 v2 : Value) (w : World) : (Instr.field 73 (.agg #[v0, v1, v2]) 0).run Try.prog w = .ok v0 w := by kernel_rfl
theorem fldS_73_1 (v0 v1 v2 : Value) (w : World) : (Instr.field 73 (.agg #[v0, v1, v2]) 1).run Try.prog w = .ok v1 w := by kernel_rfl
theorem fldS_73_2 (v0 v1 v2 : Value) (w : World) : (Instr.field 73 (.agg #[v0, v1, v2]) 2).run Try.prog w = .ok v2 w := by kernel_rfl
end Go.Proofs.Ytbblhmpcpmamfaa.XFnExactOpenSchedule
