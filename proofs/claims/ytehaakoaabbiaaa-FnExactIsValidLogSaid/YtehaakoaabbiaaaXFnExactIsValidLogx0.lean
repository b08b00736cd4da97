-- Written by a program of this session (the kit's print, widened). Proved here: what each function answers, for the arguments that its contract names.
import Derived.Test.YtehaakoaabbiaaaProg
import Derived.Below
import Derived.Deep.Draws
import Derived.Deep.AppendLies
import Derived.Maps.AppendAt
import Derived.OwnWalk
import Derived.Laws.BytesArg
import Derived.Laws.MakeOwn
import Derived.Laws.OwnMore
import Derived.Deep.OwnRows
import Derived.Tactics
import Derived.Lib.ConvBytes
import Derived.Laws.Slices
import Derived.WalkKit
import Derived.KernelRfl
import Derived.RowKit3
import Derived.Deep.LoopGhost
import Derived.Deep.QuietTactic
import Derived.BigQuiet
import Derived.WideLaws
import Derived.Deep.DeepCutAuto
import Derived.Deep.CutBlock
import Derived.Deep.RegionHeld3
import Derived.Laws.Rows
import Derived.Lib.AppendStr
import Derived.ArgAppend
import Derived.Laws.IdiomCopy
import Derived.OrdersHeld
import Derived.Laws.BitsLemmas
import Derived.RowKit
import Derived.Laws.CopyOwn
import Derived.Deep.RegionLaw
import Derived.Test.YtehaakoaabbiaaaWWords
import Derived.Test.YtehaakoaabbiaaaWLast
import Derived.Test.YtehaakoaabbiaaaWTab
import Derived.Test.YtehaakoaabbiaaaWFour
import Derived.Test.YtehaakoaabbiaaaWQPut
import Derived.Test.YtehaakoaabbiaaaWApart
import Derived.Test.YtehaakoaabbiaaaWArr
import Derived.Test.YtehaakoaabbiaaaWZeros
import Derived.Test.YtehaakoaabbiaaaWFoot
import Derived.Test.YtehaakoaabbiaaaWKept
import Derived.Test.YtehaakoaabbiaaaWShare
import Derived.Test.YtehaakoaabbiaaaWN
import Derived.Test.YtehaakoaabbiaaaWFootNe
import Derived.Test.YtehaakoaabbiaaaWAt
import Derived.Test.YtehaakoaabbiaaaWEqStruct
import Derived.Test.YtehaakoaabbiaaaWRepsOne
import Derived.Test.YtehaakoaabbiaaaWInv
import Derived.Test.YtehaakoaabbiaaaWInvWords
import Derived.Test.YtehaakoaabbiaaaWGuard
import Derived.Test.YtehaakoaabbiaaaWNEv
import Derived.Test.YtehaakoaabbiaaaWMore
namespace Go.Proofs.Ytehaakoaabbiaaa.XFnExactIsValidLog
open Go.RowKit Go.Proofs.YtehaakoaabbiaaaW.PrintWords Go.Proofs.YtehaakoaabbiaaaW.PrintLast Go.Proofs.YtehaakoaabbiaaaW.PrintMore
attribute [local go_sem] max2_int min2_int max_two min_two max_three min_three max_four min_four   -- for this text's walks alone
set_option linter.unusedVariables false
set_option linter.unusedSimpArgs false



def errW : Option Int → Value
  | none => .nilIface
  | some c => .iface 0 (.int .i64 c)
theorem errW_none : errW none = .nilIface := rfl
theorem errW_some (c : Int) : errW (some c) = .iface 0 (.int .i64 c) := rfl

theorem info5 : (Try.prog.info? 5).map (fun i => (i.zero, i.size, i.bytes)) = some (some (.int .u8 0), 1, 1) := by kernel_rfl
theorem info9 : (Try.prog.info? 9).map (fun i => (i.zero, i.size, i.bytes)) = some (some (.string ⟨#[]⟩), 1, 16) := by kernel_rfl
theorem info91 : (Try.prog.info? 91).map (fun i => (i.zero, i.size, i.bytes)) = some (some (.agg #[(.string ⟨#[]⟩), (.string ⟨#[]⟩)]), 2, 32) := by kernel_rfl
-- the values' own types
/-! #### struct type 91 -/
structure S91 where
  f0 : ByteArray
  f1 : ByteArray
def z91 : S91 := ⟨(⟨#[]⟩ : ByteArray), (⟨#[]⟩ : ByteArray)⟩
def k91 : Kd S91 := Kd.iso (Kd.pair Kd.string Kd.string) (fun x : S91 => (x.f0, x.f1))
theorem k91_open {w : World} {x : S91} {cs : List Value} (h : k91.K w x cs) : cs = [.string x.f0, .string x.f1] := by
  obtain ⟨_, _, rfl, rfl, rfl⟩ := h
  exact rfl
theorem k91_openM {w : World} {base : Nat} {ok : Nat → Prop} {x : S91} {cs : List Value} (h : k91.M w base ok x cs) : cs = [.string x.f0, .string x.f1] := by
  obtain ⟨_, _, rfl, rfl, rfl⟩ := h
  exact rfl
theorem k91_mk (w : World) (x : S91)  : k91.K w x [.string x.f0, .string x.f1] := ⟨[.string x.f0], [.string x.f1], rfl, rfl, rfl⟩
theorem k91_mkM (w : World) (base : Nat) (ok : Nat → Prop) (x : S91)  : k91.M w base ok x [.string x.f0, .string x.f1] := ⟨[.string x.f0], [.string x.f1], rfl, rfl, rfl⟩
def rd_T91 (xs : List S91) (i : Int) : S91 := xs.getD i.toNat z91
theorem at_T91 {w : World} {A : Option Addr} {n : Nat} {xs : List S91} (h : Kd.C k91 w A n xs) (i : Int) (h0 : 0 ≤ i) (h1 : i < n) : ∃ ad , A = some ad ∧ w.cell? (ad.add (i.toNat * 2)) = some (.string (rd_T91 xs i).f0) ∧ w.cell? ⟨(ad.add (i.toNat * 2)).block, (ad.add (i.toNat * 2)).off + 1, none⟩ = some (.string (rd_T91 xs i).f1) := by
  obtain ⟨ad, c, e, _, hK, hc0⟩ := Kd.C_get h z91 i h0 h1
  have hc : ∀ j u, c[j]? = some u → w.cell? (ad.add (i.toNat * 2 + j)) = some u := hc0
  obtain rfl := k91_open hK
  exact ⟨ad, e, hc 0 _ rfl, by rw [← add_field _ _ 1 (by omega)]; exact hc 1 _ rfl⟩

theorem z0_ {α : Type _} {a : List α} {i : Nat} {b : α} : a.toArray.setIfInBounds i b = (a.set i b).toArray := by simp
theorem z1_ {α : Type _} {a b : α} {l : List α} : (a :: l).set 0 b = b :: l := rfl
theorem z2_ {α : Type _} {a b : α} {n : Nat} {l : List α} : (a :: l).set (n + 1) b = a :: l.set n b := rfl
theorem id3_ {α β γ : Sort _} {P : α → β → γ → Prop} (a : α) (b : β) (c : γ) (h : P a b c) : P a b c := h
end Go.Proofs.Ytehaakoaabbiaaa.XFnExactIsValidLog
