-- Written by a program of this session (the kit's print, widened). Proved here: what each function answers, for the arguments that its contract names.
import Derived.Test.YtbcfmegepkhlpaaProg
import Derived.Below
import Derived.Deep.Draws
import Derived.Deep.AppendLies
import Derived.Maps.AppendAt
import Derived.OwnWalk
import Derived.Laws.BytesArg
import Derived.Laws.MakeOwn
import Derived.Laws.OwnMore
import Derived.Deep.OwnRows
import Derived.Tactics
import Derived.Lib.ConvBytes
import Derived.Laws.Slices
import Derived.WalkKit
import Derived.KernelRfl
import Derived.RowKit3
import Derived.Deep.LoopGhost
import Derived.Deep.QuietTactic
import Derived.BigQuiet
import Derived.WideLaws
import Derived.Deep.DeepCutAuto
import Derived.Deep.CutBlock
import Derived.Deep.RegionHeld3
import Derived.Laws.Rows
import Derived.Lib.AppendStr
import Derived.ArgAppend
import Derived.Laws.IdiomCopy
import Derived.OrdersHeld
import Derived.Laws.BitsLemmas
import Derived.RowKit
import Derived.Laws.CopyOwn
import Derived.Deep.RegionLaw
import Derived.RangeFuncBox
import Derived.Test.YtbcfmegepkhlpaaXFnExactLatenessFrontwWords
import Derived.Test.YtbcfmegepkhlpaaXFnExactLatenessFrontwLast
import Derived.Test.YtbcfmegepkhlpaaXFnExactLatenessFrontwTab
import Derived.Test.YtbcfmegepkhlpaaXFnExactLatenessFrontwQPut
import Derived.Test.YtbcfmegepkhlpaaXFnExactLatenessFrontwApart
import Derived.Test.YtbcfmegepkhlpaaXFnExactLatenessFrontwFoot
import Derived.Test.YtbcfmegepkhlpaaXFnExactLatenessFrontwKept
import Derived.Test.YtbcfmegepkhlpaaXFnExactLatenessFrontwShare
import Derived.Test.YtbcfmegepkhlpaaXFnExactLatenessFrontwN
import Derived.Test.YtbcfmegepkhlpaaXFnExactLatenessFrontwAt
import Derived.Laws.StructEq
import Derived.Test.YtbcfmegepkhlpaaXFnExactLatenessFrontwRepsOne
import Derived.Test.YtbcfmegepkhlpaaXFnExactLatenessFrontwInv
import Derived.Test.YtbcfmegepkhlpaaXFnExactLatenessFrontwMore
namespace Go.Proofs.Ytbcfmegepkhlpaa.XFnExactLatenessFront
open Go.RowKit Go.Proofs.YtbcfmegepkhlpaaW.PrintWords Go.Proofs.YtbcfmegepkhlpaaW.PrintLast Go.Proofs.YtbcfmegepkhlpaaW.PrintMore
attribute [local go_sem] max2_int min2_int max_two min_two max_three min_three max_four min_four   -- for this text's walks alone
set_option linter.unusedVariables false
set_option linter.unusedSimpArgs false



def errW:Option Int→Value
 | none=>.nilIface
 | some c=>.iface 0 (.int .i64 c)
theorem errW_none:errW none=.nilIface:=rfl
theorem errW_some (c:Int):errW (some c)=.iface 0 (.int .i64 c):=rfl

theorem info3:(Try.prog.info? 3).map (fun i=>(i.zero,i.size,i.bytes))=some (some (.int .i64 0),1,8):=by kernel_rfl
theorem info72:(Try.prog.info? 72).map (fun i=>(i.zero,i.size,i.bytes))=some (some (.agg #[(.int .i64 0),(.int .i64 0)]),2,16):=by kernel_rfl
theorem info76:(Try.prog.info? 76).map (fun i=>(i.zero,i.size,i.bytes))=some (some (.agg #[(.int .i64 0),(.int .i64 0),(.int .i64 0),(.int .i64 0)]),4,32):=by kernel_rfl
-- the values' own types
/-! #### struct type 78 -/
structure S78 where
 f0:Int
 f1:Int
 f2:Int
 f3:Int
def z78:S78:=⟨(0:Int),(0:Int),(0:Int),(0:Int)⟩
def k78:Kd S78:=Kd.iso (Kd.pair (Kd.int .i64) (Kd.pair (Kd.int .i64) (Kd.pair (Kd.int .i64) (Kd.int .i64)))) (fun x:S78=>(x.f0,x.f1,x.f2,x.f3))
theorem k78_open {w:World} {x:S78} {cs:List Value} (h:k78.K w x cs):cs=[.int .i64 x.f0,.int .i64 x.f1,.int .i64 x.f2,.int .i64 x.f3]:=by
 obtain ⟨_,_,rfl,rfl,⟨_,_,rfl,rfl,⟨_,_,rfl,rfl,rfl⟩⟩⟩:=h
 exact rfl
theorem k78_openM {w:World} {base:Nat} {ok:Nat→Prop} {x:S78} {cs:List Value} (h:k78.M w base ok x cs):cs=[.int .i64 x.f0,.int .i64 x.f1,.int .i64 x.f2,.int .i64 x.f3]:=by
 obtain ⟨_,_,rfl,rfl,⟨_,_,rfl,rfl,⟨_,_,rfl,rfl,rfl⟩⟩⟩:=h
 exact rfl
theorem k78_mk (w:World) (x:S78)  : k78.K w x [.int .i64 x.f0,.int .i64 x.f1,.int .i64 x.f2,.int .i64 x.f3]:=⟨[.int .i64 x.f0],[.int .i64 x.f1,.int .i64 x.f2,.int .i64 x.f3],rfl,rfl,⟨[.int .i64 x.f1],[.int .i64 x.f2,.int .i64 x.f3],rfl,rfl,⟨[.int .i64 x.f2],[.int .i64 x.f3],rfl,rfl,rfl⟩⟩⟩
theorem k78_mkM (w:World) (base:Nat) (ok:Nat→Prop) (x:S78)  : k78.M w base ok x [.int .i64 x.f0,.int .i64 x.f1,.int .i64 x.f2,.int .i64 x.f3]:=⟨[.int .i64 x.f0],[.int .i64 x.f1,.int .i64 x.f2,.int .i64 x.f3],rfl,rfl,⟨[.int .i64 x.f1],[.int .i64 x.f2,.int .i64 x.f3],rfl,rfl,⟨[.int .i64 x.f2],[.int .i64 x.f3],rfl,rfl,rfl⟩⟩⟩
def rd_T78 (xs:List S78) (i:Int):S78:=xs.getD i.toNat z78
theorem at_T78 {w:World} {A:Option Addr} {n:Nat} {xs:List S78} (h:Kd.C k78 w A n xs) (i:Int) (h0:0≤i) (h1:i<n):∃ ad,A=some ad∧w.cell? (ad.add (i.toNat * 4))=some (.int .i64 (rd_T78 xs i).f0)∧w.cell? ⟨(ad.add (i.toNat * 4)).block,(ad.add (i.toNat * 4)).off + 1,none⟩=some (.int .i64 (rd_T78 xs i).f1)∧w.cell? ⟨(ad.add (i.toNat * 4)).block,(ad.add (i.toNat * 4)).off + 2,none⟩=some (.int .i64 (rd_T78 xs i).f2)∧w.cell? ⟨(ad.add (i.toNat * 4)).block,(ad.add (i.toNat * 4)).off + 3,none⟩=some (.int .i64 (rd_T78 xs i).f3):=by
 obtain ⟨ad,c,e,_,hK,hc0⟩:=Kd.C_get h z78 i h0 h1
 have hc:∀ j u,c[j]?=some u→w.cell? (ad.add (i.toNat * 4 + j))=some u:=hc0
 obtain rfl:=k78_open hK
 exact ⟨ad,e,hc 0 _ rfl,by rw [←add_field _ _ 1 (by omega)];exact hc 1 _ rfl,by rw [←add_field _ _ 2 (by omega)];exact hc 2 _ rfl,by rw [←add_field _ _ 3 (by omega)];exact hc 3 _ rfl⟩

/-! #### struct type 76 -/
structure S76 where
 f0:Int
 f1:Int
 f2:Int
 f3:Int
def z76:S76:=⟨(0:Int),(0:Int),(0:Int),(0:Int)⟩
def k76:Kd S76:=Kd.iso (Kd.pair (Kd.int .i64) (Kd.pair (Kd.int .i64) (Kd.pair (Kd.int .i64) (Kd.int .i64)))) (fun x:S76=>(x.f0,x.f1,x.f2,x.f3))
theorem k76_open {w:World} {x:S76} {cs:List Value} (h:k76.K w x cs):cs=[.int .i64 x.f0,.int .i64 x.f1,.int .i64 x.f2,.int .i64 x.f3]:=by
 obtain ⟨_,_,rfl,rfl,⟨_,_,rfl,rfl,⟨_,_,rfl,rfl,rfl⟩⟩⟩:=h
 exact rfl
theorem k76_openM {w:World} {base:Nat} {ok:Nat→Prop} {x:S76} {cs:List Value} (h:k76.M w base ok x cs):cs=[.int .i64 x.f0,.int .i64 x.f1,.int .i64 x.f2,.int .i64 x.f3]:=by
 obtain ⟨_,_,rfl,rfl,⟨_,_,rfl,rfl,⟨_,_,rfl,rfl,rfl⟩⟩⟩:=h
 exact rfl
theorem k76_mk (w:World) (x:S76)  : k76.K w x [.int .i64 x.f0,.int .i64 x.f1,.int .i64 x.f2,.int .i64 x.f3]:=⟨[.int .i64 x.f0],[.int .i64 x.f1,.int .i64 x.f2,.int .i64 x.f3],rfl,rfl,⟨[.int .i64 x.f1],[.int .i64 x.f2,.int .i64 x.f3],rfl,rfl,⟨[.int .i64 x.f2],[.int .i64 x.f3],rfl,rfl,rfl⟩⟩⟩
theorem k76_mkM (w:World) (base:Nat) (ok:Nat→Prop) (x:S76)  : k76.M w base ok x [.int .i64 x.f0,.int .i64 x.f1,.int .i64 x.f2,.int .i64 x.f3]:=⟨[.int .i64 x.f0],[.int .i64 x.f1,.int .i64 x.f2,.int .i64 x.f3],rfl,rfl,⟨[.int .i64 x.f1],[.int .i64 x.f2,.int .i64 x.f3],rfl,rfl,⟨[.int .i64 x.f2],[.int .i64 x.f3],rfl,rfl,rfl⟩⟩⟩
def rd_T76 (xs:List S76) (i:Int):S76:=xs.getD i.toNat z76
theorem at_T76 {w:World} {A:Option Addr} {n:Nat} {xs:List S76} (h:Kd.C k76 w A n xs) (i:Int) (h0:0≤i) (h1:i<n):∃ ad,A=some ad∧w.cell? (ad.add (i.toNat * 4))=some (.int .i64 (rd_T76 xs i).f0)∧w.cell? ⟨(ad.add (i.toNat * 4)).block,(ad.add (i.toNat * 4)).off + 1,none⟩=some (.int .i64 (rd_T76 xs i).f1)∧w.cell? ⟨(ad.add (i.toNat * 4)).block,(ad.add (i.toNat * 4)).off + 2,none⟩=some (.int .i64 (rd_T76 xs i).f2)∧w.cell? ⟨(ad.add (i.toNat * 4)).block,(ad.add (i.toNat * 4)).off + 3,none⟩=some (.int .i64 (rd_T76 xs i).f3):=by
 obtain ⟨ad,c,e,_,hK,hc0⟩:=Kd.C_get h z76 i h0 h1
 have hc:∀ j u,c[j]?=some u→w.cell? (ad.add (i.toNat * 4 + j))=some u:=hc0
 obtain rfl:=k76_open hK
 exact ⟨ad,e,hc 0 _ rfl,by rw [←add_field _ _ 1 (by omega)];exact hc 1 _ rfl,by rw [←add_field _ _ 2 (by omega)];exact hc 2 _ rfl,by rw [←add_field _ _ 3 (by omega)];exact hc 3 _ rfl⟩

/-! #### struct type 72 -/
structure S72 where
 f0:Int
 f1:Int
def z72:S72:=⟨(0:Int),(0:Int)⟩
def k72:Kd S72:=Kd.iso (Kd.pair (Kd.int .i64) (Kd.int .i64)) (fun x:S72=>(x.f0,x.f1))
theorem k72_open {w:World} {x:S72} {cs:List Value} (h:k72.K w x cs):cs=[.int .i64 x.f0,.int .i64 x.f1]:=by
 obtain ⟨_,_,rfl,rfl,rfl⟩:=h
 exact rfl
theorem k72_openM {w:World} {base:Nat} {ok:Nat→Prop} {x:S72} {cs:List Value} (h:k72.M w base ok x cs):cs=[.int .i64 x.f0,.int .i64 x.f1]:=by
 obtain ⟨_,_,rfl,rfl,rfl⟩:=h
 exact rfl
theorem k72_mk (w:World) (x:S72)  : k72.K w x [.int .i64 x.f0,.int .i64 x.f1]:=⟨[.int .i64 x.f0],[.int .i64 x.f1],rfl,rfl,rfl⟩
theorem k72_mkM (w:World) (base:Nat) (ok:Nat→Prop) (x:S72)  : k72.M w base ok x [.int .i64 x.f0,.int .i64 x.f1]:=⟨[.int .i64 x.f0],[.int .i64 x.f1],rfl,rfl,rfl⟩
def rd_T72 (xs:List S72) (i:Int):S72:=xs.getD i.toNat z72
theorem at_T72 {w:World} {A:Option Addr} {n:Nat} {xs:List S72} (h:Kd.C k72 w A n xs) (i:Int) (h0:0≤i) (h1:i<n):∃ ad,A=some ad∧w.cell? (ad.add (i.toNat * 2))=some (.int .i64 (rd_T72 xs i).f0)∧w.cell? ⟨(ad.add (i.toNat * 2)).block,(ad.add (i.toNat * 2)).off + 1,none⟩=some (.int .i64 (rd_T72 xs i).f1):=by
 obtain ⟨ad,c,e,_,hK,hc0⟩:=Kd.C_get h z72 i h0 h1
 have hc:∀ j u,c[j]?=some u→w.cell? (ad.add (i.toNat * 2 + j))=some u:=hc0
 obtain rfl:=k72_open hK
 exact ⟨ad,e,hc 0 _ rfl,by rw [←add_field _ _ 1 (by omega)];exact hc 1 _ rfl⟩

theorem z0_ {α:Type _} {a:List α} {i:Nat} {b:α} : a.toArray.setIfInBounds i b=(a.set i b).toArray:=by simp
theorem z1_ {α:Type _} {a b:α} {l:List α} : (a::l).set 0 b=b::l:=rfl
theorem z2_ {α:Type _} {a b:α} {n:Nat} {l:List α} : (a::l).set (n + 1) b=a::l.set n b:=rfl
theorem id3_ {α β γ:Sort _} {P:α→β→γ→Prop} (a:α) (b:β) (c:γ) (h:P a b c):P a b c:=h
theorem idxA_72_0 (a0 a1:Int) (w:World):(Instr.index 72 (.agg #[.int .i64 a0,.int .i64 a1]) (.int .i64 0)).run Try.prog w=.ok (.int .i64 a0) w:=by kernel_rfl
theorem idxA_72_1 (a0 a1:Int) (w:World):(Instr.index 72 (.agg #[.int .i64 a0,.int .i64 a1]) (.int .i64 1)).run Try.prog w=.ok (.int .i64 a1) w:=by kernel_rfl
theorem fldS_96_0 (v0 v1 v2:Value) (w:World):(Instr.field 96 (.agg #[v0,v1,v2]) 0).run Try.prog w=.ok v0 w:=by kernel_rfl
theorem fldS_96_1 (v0 v1 v2:Value) (w:World):(Instr.field 96 (.agg #[v0,v1,v2]) 1).run Try.prog w=.ok v1 w:=by kernel_rfl
theorem fldS_96_2 (v0 v1 v2:Value) (w:World):(Instr.field 96 (.agg #[v0,v1,v2]) 2).run Try.prog w=.ok v2 w:=by kernel_rfl
theorem fldS_111_0 (v0 v1 v2:Value) (w:World):(Instr.field 111 (.agg #[v0,v1,v2]) 0).run Try.prog w=.ok v0 w:=by kernel_rfl
theorem fldS_111_1 (v0 v1 v2:Value) (w:World):(Instr.field 111 (.agg #[v0,v1,v2]) 1).run Try.prog w=.ok v1 w:=by kernel_rfl
theorem fldS_111_2 (v0 v1 v2:Value) (w:World):(Instr.field 111 (.agg #[v0,v1,v2]) 2).run Try.prog w=.ok v2 w:=by kernel_rfl
end Go.Proofs.Ytbcfmegepkhlpaa.XFnExactLatenessFront
-- minified
