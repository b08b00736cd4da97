-- Written by a program of this session (the kit's print, widened). Proved here: what each function answers, for the arguments that its contract names.
import Derived.Test.YtkolecmpncaooaaProg
import Derived.Below
import Derived.Deep.Draws
import Derived.Deep.AppendLies
import Derived.Maps.AppendAt
import Derived.OwnWalk
import Derived.Laws.BytesArg
import Derived.Laws.MakeOwn
import Derived.Laws.OwnMore
import Derived.Deep.OwnRows
import Derived.Tactics
import Derived.Lib.ConvBytes
import Derived.Laws.Slices
import Derived.WalkKit
import Derived.KernelRfl
import Derived.RowKit3
import Derived.Deep.LoopGhost
import Derived.Deep.QuietTactic
import Derived.BigQuiet
import Derived.WideLaws
import Derived.Deep.DeepCutAuto
import Derived.Deep.CutBlock
import Derived.Deep.RegionHeld3
import Derived.Laws.Rows
import Derived.Lib.AppendStr
import Derived.ArgAppend
import Derived.Laws.IdiomCopy
import Derived.OrdersHeld
import Derived.Laws.BitsLemmas
import Derived.RowKit
import Derived.Laws.CopyOwn
import Derived.Deep.RegionLaw
import Derived.RangeFuncBox
import Derived.Test.YtkolecmpncaooaaXFnLateWeightwWords
import Derived.Test.YtkolecmpncaooaaXFnLateWeightwLast
import Derived.Test.YtkolecmpncaooaaXFnLateWeightwTab
import Derived.Test.YtkolecmpncaooaaXFnLateWeightwQPut
import Derived.Test.YtkolecmpncaooaaXFnLateWeightwApart
import Derived.Test.YtkolecmpncaooaaXFnLateWeightwFoot
import Derived.Test.YtkolecmpncaooaaXFnLateWeightwKept
import Derived.Test.YtkolecmpncaooaaXFnLateWeightwShare
import Derived.Test.YtkolecmpncaooaaXFnLateWeightwN
import Derived.Test.YtkolecmpncaooaaXFnLateWeightwAt
import Derived.Laws.StructEq
import Derived.Test.YtkolecmpncaooaaXFnLateWeightwRepsOne
import Derived.Test.YtkolecmpncaooaaXFnLateWeightwInv
import Derived.Test.YtkolecmpncaooaaXFnLateWeightwGuard
import Derived.Test.YtkolecmpncaooaaXFnLateWeightwMore
namespace Go.Proofs.Ytkolecmpncaooaa.XFnLateWeight
open Go.RowKit Go.Proofs.YtkolecmpncaooaaW.PrintWords Go.Proofs.YtkolecmpncaooaaW.PrintLast Go.Proofs.YtkolecmpncaooaaW.PrintMore
attribute [local go_sem] max2_int min2_int max_two min_two max_three min_three max_four min_four   -- for this text's walks alone
set_option linter.unusedVariables false
set_option linter.unusedSimpArgs false



def errW:Option Int→Value
 | none=>.nilIface
 | some c=>.iface 0 (.int .i64 c)
theorem errW_none:errW none=.nilIface:=rfl
theorem errW_some (c:Int):errW (some c)=.iface 0 (.int .i64 c):=rfl

theorem info3:(Try.prog.info? 3).map (fun i=>(i.zero,i.size,i.bytes))=some (some (.int .i64 0),1,8):=by kernel_rfl
theorem info31:(Try.prog.info? 31).map (fun i=>(i.zero,i.size,i.bytes))=some (some (.agg #[(.int .i64 0),(.int .i64 0),(.int .i64 0),(.int .i64 0)]),4,32):=by kernel_rfl
-- the values' own types
/-! #### struct type 31 -/
structure S31 where
 f0:Int
 f1:Int
 f2:Int
 f3:Int
def z31:S31:=⟨(0:Int),(0:Int),(0:Int),(0:Int)⟩
def k31:Kd S31:=Kd.iso (Kd.pair (Kd.int .i64) (Kd.pair (Kd.int .i64) (Kd.pair (Kd.int .i64) (Kd.int .i64)))) (fun x:S31=>(x.f0,x.f1,x.f2,x.f3))
theorem k31_open {w:World} {x:S31} {cs:List Value} (h:k31.K w x cs):cs=[.int .i64 x.f0,.int .i64 x.f1,.int .i64 x.f2,.int .i64 x.f3]:=by
 obtain ⟨_,_,rfl,rfl,⟨_,_,rfl,rfl,⟨_,_,rfl,rfl,rfl⟩⟩⟩:=h
 exact rfl
theorem k31_openM {w:World} {base:Nat} {ok:Nat→Prop} {x:S31} {cs:List Value} (h:k31.M w base ok x cs):cs=[.int .i64 x.f0,.int .i64 x.f1,.int .i64 x.f2,.int .i64 x.f3]:=by
 obtain ⟨_,_,rfl,rfl,⟨_,_,rfl,rfl,⟨_,_,rfl,rfl,rfl⟩⟩⟩:=h
 exact rfl
theorem k31_mk (w:World) (x:S31)  : k31.K w x [.int .i64 x.f0,.int .i64 x.f1,.int .i64 x.f2,.int .i64 x.f3]:=⟨[.int .i64 x.f0],[.int .i64 x.f1,.int .i64 x.f2,.int .i64 x.f3],rfl,rfl,⟨[.int .i64 x.f1],[.int .i64 x.f2,.int .i64 x.f3],rfl,rfl,⟨[.int .i64 x.f2],[.int .i64 x.f3],rfl,rfl,rfl⟩⟩⟩
theorem k31_mkM (w:World) (base:Nat) (ok:Nat→Prop) (x:S31)  : k31.M w base ok x [.int .i64 x.f0,.int .i64 x.f1,.int .i64 x.f2,.int .i64 x.f3]:=⟨[.int .i64 x.f0],[.int .i64 x.f1,.int .i64 x.f2,.int .i64 x.f3],rfl,rfl,⟨[.int .i64 x.f1],[.int .i64 x.f2,.int .i64 x.f3],rfl,rfl,⟨[.int .i64 x.f2],[.int .i64 x.f3],rfl,rfl,rfl⟩⟩⟩
theorem k31_mkF (W:World) (ok:Nat→Prop) (x:S31):Kd.FK k31 W ok x [.int .i64 x.f0,.int .i64 x.f1,.int .i64 x.f2,.int .i64 x.f3]:=fun W2 _=>k31_mk W2 x
def rd_T31 (xs:List S31) (i:Int):S31:=xs.getD i.toNat z31
theorem at_T31 {w:World} {A:Option Addr} {n:Nat} {xs:List S31} (h:Kd.C k31 w A n xs) (i:Int) (h0:0≤i) (h1:i<n):∃ ad,A=some ad∧w.cell? (ad.add (i.toNat * 4))=some (.int .i64 (rd_T31 xs i).f0)∧w.cell? ⟨(ad.add (i.toNat * 4)).block,(ad.add (i.toNat * 4)).off + 1,none⟩=some (.int .i64 (rd_T31 xs i).f1)∧w.cell? ⟨(ad.add (i.toNat * 4)).block,(ad.add (i.toNat * 4)).off + 2,none⟩=some (.int .i64 (rd_T31 xs i).f2)∧w.cell? ⟨(ad.add (i.toNat * 4)).block,(ad.add (i.toNat * 4)).off + 3,none⟩=some (.int .i64 (rd_T31 xs i).f3):=by
 obtain ⟨ad,c,e,_,hK,hc0⟩:=Kd.C_get h z31 i h0 h1
 have hc:∀ j u,c[j]?=some u→w.cell? (ad.add (i.toNat * 4 + j))=some u:=hc0
 obtain rfl:=k31_open hK
 exact ⟨ad,e,hc 0 _ rfl,by rw [←add_field _ _ 1 (by omega)];exact hc 1 _ rfl,by rw [←add_field _ _ 2 (by omega)];exact hc 2 _ rfl,by rw [←add_field _ _ 3 (by omega)];exact hc 3 _ rfl⟩

theorem z0_ {α:Type _} {a:List α} {i:Nat} {b:α} : a.toArray.setIfInBounds i b=(a.set i b).toArray:=by simp
theorem z1_ {α:Type _} {a b:α} {l:List α} : (a::l).set 0 b=b::l:=rfl
theorem z2_ {α:Type _} {a b:α} {n:Nat} {l:List α} : (a::l).set (n + 1) b=a::l.set n b:=rfl
theorem id3_ {α β γ:Sort _} {P:α→β→γ→Prop} (a:α) (b:β) (c:γ) (h:P a b c):P a b c:=h
theorem idxA_51_0 (a0 a1:Int) (w:World):(Instr.index 51 (.agg #[.int .i64 a0,.int .i64 a1]) (.int .i64 0)).run Try.prog w=.ok (.int .i64 a0) w:=by kernel_rfl
theorem idxA_51_1 (a0 a1:Int) (w:World):(Instr.index 51 (.agg #[.int .i64 a0,.int .i64 a1]) (.int .i64 1)).run Try.prog w=.ok (.int .i64 a1) w:=by kernel_rfl
theorem fldS_45_0 (v0 v1 v2:Value) (w:World):(Instr.field 45 (.agg #[v0,v1,v2]) 0).run Try.prog w=.ok v0 w:=by kernel_rfl
theorem fldS_45_1 (v0 v1 v2:Value) (w:World):(Instr.field 45 (.agg #[v0,v1,v2]) 1).run Try.prog w=.ok v1 w:=by kernel_rfl
theorem fldS_45_2 (v0 v1 v2:Value) (w:World):(Instr.field 45 (.agg #[v0,v1,v2]) 2).run Try.prog w=.ok v2 w:=by kernel_rfl
theorem fldS_96_0 (v0 v1 v2:Value) (w:World):(Instr.field 96 (.agg #[v0,v1,v2]) 0).run Try.prog w=.ok v0 w:=by kernel_rfl
theorem fldS_96_1 (v0 v1 v2:Value) (w:World):(Instr.field 96 (.agg #[v0,v1,v2]) 1).run Try.prog w=.ok v1 w:=by kernel_rfl
theorem fldS_96_2 (v0 v1 v2:Value) (w:World):(Instr.field 96 (.agg #[v0,v1,v2]) 2).run Try.prog w=.ok v2 w:=by kernel_rfl
theorem zb {b:Nat} {w w':World} (h:Below b w w':=by repeat (first|(with_reducible first|exact HB.out|apply below_alloc|apply pw_below_drewN|apply below_drew1)|exact HB.out)):Below b w w':=h
theorem za {p:Prop} (h:p:=by first|(with_reducible assumption)|assumption):p:=h
theorem zo {p:Prop} (h:p:=by first|rfl|(simp;done)|(simp [*];done)):p:=h
theorem zl {p:Prop} (h:p:=by (try simp only [List.map_toArray,List.map_cons,List.map_nil]);first|done|rfl|(simp only [List.length_drop,List.length_take];rfl)):p:=h
theorem zR {α:Type} {d:Kd α} {e b:Nat} {w w':World} {ok:Nat→Prop} {v:Value} {xs:List α} (h:d.R e w b ok v xs) (hb:Below w.heap.size w w':=by repeat (first|(with_reducible exact Below.refl _ _)|(with_reducible apply below_alloc)|(with_reducible apply pw_below_drewN)|(with_reducible apply below_drew1))):d.R e w' b ok v xs:=Kd.R_below h hb
theorem zC {α:Type} {d:Kd α} {A:Option Addr} {n:Nat} {w w':World} {xs:List α} (h:d.C w A n xs) (hb:Below w.heap.size w w':=by repeat (first|(with_reducible exact Below.refl _ _)|(with_reducible apply below_alloc)|(with_reducible apply pw_below_drewN)|(with_reducible apply below_drew1))):d.C w' A n xs:=Kd.C_below h hb
theorem zz0 {p:Prop} (h:p:=by first|rfl|(simp [errW_none,errW_some] <;> rfl)|(simp [*,errW_none,errW_some] <;> rfl)):p:=h
theorem zz1 {p:Prop} (h:p:=by repeat (first|(with_reducible first|exact HK.out|apply KeepBut.set_|apply keep_drewN|apply keep_drew|apply keep_alloc)|exact HK.out)):p:=h
theorem zz2 {p:Prop} (h:p:=by repeat (first|(with_reducible first|exact HI0.out|apply IsS45.alloc|apply IsS45.drewN|apply IsS45.drew|apply IsS45.set_1|apply IsS45.set_2)|exact HI0.out)):p:=h
theorem zz3 {p:Prop} (h:p:=by repeat (first|(with_reducible first|exact HB.out|apply below_alloc|apply pw_below_drewN|apply below_drew1|refine below_set ?_ (IsS45.ge HI0.out))|exact HB.out)):p:=h
theorem zz4 {p:Prop} (h:p:=by repeat (first|(with_reducible first|exact HB.out|apply below_alloc|apply pw_below_drewN|apply below_drew1|refine below_set ?_ GE494.out|refine below_set ?_ GE495.out)|exact HB.out)):p:=h
theorem zz5 {p:Prop} (h:p:=by repeat (first|exact Drawn0.refl _|apply Drawn0.step)):p:=h
theorem zz6 {p:Prop} (h:p:=by (with_reducible repeat (first|refine blk_drewN ?_ _|refine blk_drew ?_|refine blk_alloc ?_ _));exact BK135.out):p:=h
theorem zz7 {p:Prop} (h:p:=by first|rfl|(simp;done)|(simp [*];done)):p:=h
theorem zz8 {p:Prop} (h:p:=by (with_reducible repeat (first|refine blk_drewN ?_ _|refine blk_drew ?_|refine blk_alloc ?_ _));exact BK494.out):p:=h
theorem zz9 {p:Prop} (h:p:=by repeat (first|(with_reducible first|exact HK.out|apply KeepBut.set_|apply keep_drewN|apply keep_drew|apply keep_alloc|refine keep_far ?_ GW115.out _)|exact HK.out)):p:=h
theorem zz10 {p:Prop} (h:p:=by repeat (first|(with_reducible first|exact HK.out|apply KeepBut.set_|apply keep_drewN|apply keep_drew|apply keep_alloc|refine keep_far ?_ GW135.out _|refine keep_far ?_ GW136.out _)|exact HK.out)):p:=h
theorem zz11 {p:Prop} (h:p:=by (with_reducible repeat (first|refine blk_drewN ?_ _|refine blk_drew ?_|refine blk_alloc ?_ _));exact BK115.out):p:=h
theorem zz12 {p:Prop} (h:p:=by repeat (first|(with_reducible first|exact HI0.out|apply IsS45.alloc|apply IsS45.drewN|apply IsS45.drew|apply IsS45.set_1|apply IsS45.set_2|refine IsS45.far ?_ NB0_135.out _|refine IsS45.far ?_ NB0_136.out _)|exact HI0.out)):p:=h
theorem zz13 {p:Prop} (h:p:=by repeat (first|(with_reducible first|exact HB.out|apply below_alloc|apply pw_below_drewN|apply below_drew1|refine below_set ?_ (IsS45.ge HI0.out)|refine below_set ?_ GE135.out|refine below_set ?_ GE136.out)|exact HB.out)):p:=h
theorem zz14 {p:Prop} (h:p:=by (with_reducible repeat (first|refine blk_drewN ?_ _|refine blk_drew ?_|refine blk_alloc ?_ _));exact BK495.out):p:=h
theorem zz15 {p:Prop} (h:p:=by repeat (first|(with_reducible first|exact HI0.out|apply IsS45.alloc|apply IsS45.drewN|apply IsS45.drew|apply IsS45.set_1|apply IsS45.set_2|refine IsS45.far ?_ NB0_115.out _)|exact HI0.out)):p:=h
theorem zz16 {p:Prop} (h:p:=by repeat (first|(with_reducible first|exact HB.out|apply below_alloc|apply pw_below_drewN|apply below_drew1|refine below_set ?_ (IsS45.ge HI0.out)|refine below_set ?_ GE115.out)|exact HB.out)):p:=h
theorem zz17 {p:Prop} (h:p:=by repeat (first|(with_reducible first|exact HK.out|apply KeepBut.set_|apply keep_drewN|apply keep_drew|apply keep_alloc|refine keep_far ?_ GW135.out _)|exact HK.out)):p:=h
theorem zz18 {p:Prop} (h:p:=by (with_reducible repeat (first|refine blk_drewN ?_ _|refine blk_drew ?_|refine blk_alloc ?_ _));exact BK136.out):p:=h
theorem zz19 {p:Prop} (h:p:=by repeat (first|(with_reducible first|exact HB.out|apply below_alloc|apply pw_below_drewN|apply below_drew1|refine below_set ?_ GE433.out)|exact HB.out)):p:=h
theorem zz20 {p:Prop} (h:p:=by repeat (first|(with_reducible exact HR358.out)|(with_reducible refine Kd.C_alloc ?_ _)|(with_reducible refine Kd.C_drewN ?_ _)|(with_reducible refine Kd.C_drew ?_)|exact HR358.out)):p:=h
theorem zz21 {p:Prop} (h:p:=by simp only [putAll,Act.put,List.setIfInBounds_toArray,List.set_cons_zero,List.set_cons_succ]):p:=h
theorem zz22 {p:Prop} (h:p:=by repeat (first|(with_reducible exact HR334.out)|(with_reducible refine Kd.C_alloc ?_ _)|(with_reducible refine Kd.C_drewN ?_ _)|(with_reducible refine Kd.C_drew ?_)|exact HR334.out)):p:=h
theorem zz23 {p:Prop} (h:p:=by repeat (first|(with_reducible first|exact HK.out|apply Kept.alloc|apply Kept.drewN|apply Kept.drew)|exact HK.out)):p:=h
theorem zz24 {p:Prop} (h:p:=by (with_reducible repeat (first|apply Kd.V_alloc|apply Kd.V_drewN|apply Kd.V_drew));exact HO_495000.out):p:=h
theorem zz25 {p:Prop} (h:p:=by repeat (first|(with_reducible first|exact HB.out|apply below_alloc|apply pw_below_drewN|apply below_drew1|refine below_set ?_ GE463.out)|exact HB.out)):p:=h
theorem zz26 {p:Prop} (h:p:=by repeat (first|(with_reducible first|exact HB.out|apply below_alloc|apply pw_below_drewN|apply below_drew1|refine below_set ?_ GE515.out)|exact HB.out)):p:=h
theorem zz27 {p:Prop} (h:p:=by repeat (first|(with_reducible first|exact HB.out|apply below_alloc|apply pw_below_drewN|apply below_drew1|refine below_set ?_ GE494.out)|exact HB.out)):p:=h
theorem zz28 {p:Prop} (h:p:=by repeat (first|(with_reducible exact HR372.out)|(with_reducible refine Kd.C_alloc ?_ _)|(with_reducible refine Kd.C_drewN ?_ _)|(with_reducible refine Kd.C_drew ?_)|exact HR372.out)):p:=h
theorem zz29 {p:Prop} (h:p:=by repeat (first|(with_reducible exact HR348.out)|(with_reducible refine Kd.C_alloc ?_ _)|(with_reducible refine Kd.C_drewN ?_ _)|(with_reducible refine Kd.C_drew ?_)|exact HR348.out)):p:=h
theorem zz30 {p:Prop} (h:p:=by (with_reducible repeat (first|apply Kd.V_alloc|apply Kd.V_drewN|apply Kd.V_drew));exact HO3_0.out):p:=h
theorem zz31 {p:Prop} (h:p:=by repeat (first|(with_reducible first|exact HB.out|apply below_alloc|apply pw_below_drewN|apply below_drew1|refine below_set ?_ GE257.out)|exact HB.out)):p:=h
theorem zz32 {p:Prop} (h:p:=by repeat (first|(with_reducible first|exact HI0.out|apply IsS45.alloc|apply IsS45.drewN|apply IsS45.drew|apply IsS45.set_1|apply IsS45.set_2|refine IsS45.far ?_ NB0_135.out _)|exact HI0.out)):p:=h
theorem zz33 {p:Prop} (h:p:=by repeat (first|(with_reducible first|exact HB.out|apply below_alloc|apply pw_below_drewN|apply below_drew1|refine below_set ?_ (IsS45.ge HI0.out)|refine below_set ?_ GE135.out)|exact HB.out)):p:=h
theorem zz34 {p:Prop} (h:p:=by repeat (first|(with_reducible first|exact HB.out|apply below_alloc|apply pw_below_drewN|apply below_drew1|refine below_set ?_ (IsS45.ge HI246.out))|exact HB.out)):p:=h
theorem zz35 {p:Prop} (h:p:=by (with_reducible repeat (first|refine blk_drewN ?_ _|refine blk_drew ?_|refine blk_alloc ?_ _));exact BK266.out):p:=h
theorem zz36 {p:Prop} (h:p:=by repeat (first|(with_reducible first|exact HB.out|apply below_alloc|apply pw_below_drewN|apply below_drew1|refine below_set ?_ GE266.out|refine below_set ?_ GE267.out)|exact HB.out)):p:=h
theorem zz37 {p:Prop} (h:p:=by repeat (first|(with_reducible first|exact HB.out|apply below_alloc|apply pw_below_drewN|apply below_drew1|refine below_set ?_ GE302.out)|exact HB.out)):p:=h
theorem zz38 {p:Prop} (h:p:=by repeat (first|(with_reducible first|exact HI0.out|apply IsS45.alloc|apply IsS45.drewN|apply IsS45.drew|apply IsS45.set_1|apply IsS45.set_2|refine IsS45.far ?_ NB0_115.out _|refine IsS45.far ?_ NB0_131.out _)|exact HI0.out)):p:=h
theorem zz39 {p:Prop} (h:p:=by repeat (first|(with_reducible first|exact HB.out|apply below_alloc|apply pw_below_drewN|apply below_drew1|refine below_set ?_ (IsS45.ge HI0.out)|refine below_set ?_ GE115.out|refine below_set ?_ GE131.out)|exact HB.out)):p:=h
theorem zz40 {p:Prop} (h:p:=by repeat (first|(with_reducible first|exact HK.out|apply KeepBut.set_|apply keep_drewN|apply keep_drew|apply keep_alloc|refine keep_far ?_ GW115.out _|refine keep_far ?_ GW131.out _)|exact HK.out)):p:=h
theorem zz41 {p:Prop} (h:p:=by repeat (first|(with_reducible first|exact HB.out|apply below_alloc|apply pw_below_drewN|apply below_drew1|refine below_set ?_ GE401.out)|exact HB.out)):p:=h
theorem zz42 {p:Prop} (h:p:=by repeat (first|(with_reducible first|exact HB.out|apply below_alloc|apply pw_below_drewN|apply below_drew1|refine below_set ?_ GE435.out)|exact HB.out)):p:=h
theorem zz43 {p:Prop} (h:p:=by (with_reducible repeat (first|apply Kd.V_alloc|apply Kd.V_drewN|apply Kd.V_drew));exact Kd.V_mono HO3_0.out (fun _ hk=>⟨hk.1.1,⟨hk.1.2,hk.2⟩⟩)):p:=h
theorem zz44 {p:Prop} (h:p:=by (with_reducible repeat (first|refine blk_drewN ?_ _|refine blk_drew ?_|refine blk_alloc ?_ _));exact BK515.out):p:=h
theorem zz45 {p:Prop} (h:p:=by (with_reducible repeat (first|apply Kd.V_alloc|apply Kd.V_drewN|apply Kd.V_drew));exact HO526.out):p:=h
theorem zz46 {p:Prop} (h:p:=by repeat (first|(with_reducible first|exact HB.out|apply below_alloc|apply pw_below_drewN|apply below_drew1|refine below_set ?_ GE266.out)|exact HB.out)):p:=h
theorem zz47 {p:Prop} (h:p:=by first|exact Kd.R_nil _ _ _ _ _|exact Kd.N_nil _ _ _ _ _|exact Kd.V_nil _ _ _ _ _|exact Kd.Q_nil _ _ _ _ _|exact Kd.S_nil _ _ _ _ _):p:=h
theorem zz48 {p:Prop} (h:p:=by (with_reducible repeat (first|refine blk_drewN ?_ _|refine blk_drew ?_|refine blk_alloc ?_ _));refine blk_far ?_ NB266_267.out _;(with_reducible repeat (first|refine blk_drewN ?_ _|refine blk_drew ?_|refine blk_alloc ?_ _));exact BK266.out):p:=h
theorem zk2 {w:World} {g:Nat} {t:TypeId} {a b:Value} (h:w.heap[g]?=some (.cells #[a,b] t (0,0))):w.cell? ⟨g,0,none⟩=some a∧w.cell? ⟨g,1,none⟩=some b∧w.frozen? ⟨g,0,none⟩=false∧w.frozen? ⟨g,1,none⟩=false:=⟨(blk_cell h 0).trans rfl,(blk_cell h 1).trans rfl,blk_frozen h 0,blk_frozen h 1⟩
theorem zk3 {w:World} {g:Nat} {t:TypeId} {a b c:Value} (h:w.heap[g]?=some (.cells #[a,b,c] t (0,0))):w.cell? ⟨g,0,none⟩=some a∧w.cell? ⟨g,1,none⟩=some b∧w.cell? ⟨g,2,none⟩=some c∧w.frozen? ⟨g,0,none⟩=false∧w.frozen? ⟨g,1,none⟩=false∧w.frozen? ⟨g,2,none⟩=false:=⟨(blk_cell h 0).trans rfl,(blk_cell h 1).trans rfl,(blk_cell h 2).trans rfl,blk_frozen h 0,blk_frozen h 1,blk_frozen h 2⟩
theorem zk4 {w:World} {g:Nat} {t:TypeId} {a b c d:Value} (h:w.heap[g]?=some (.cells #[a,b,c,d] t (0,0))):w.cell? ⟨g,0,none⟩=some a∧w.cell? ⟨g,1,none⟩=some b∧w.cell? ⟨g,2,none⟩=some c∧w.cell? ⟨g,3,none⟩=some d∧w.frozen? ⟨g,0,none⟩=false∧w.frozen? ⟨g,1,none⟩=false∧w.frozen? ⟨g,2,none⟩=false∧w.frozen? ⟨g,3,none⟩=false:=⟨(blk_cell h 0).trans rfl,(blk_cell h 1).trans rfl,(blk_cell h 2).trans rfl,(blk_cell h 3).trans rfl,blk_frozen h 0,blk_frozen h 1,blk_frozen h 2,blk_frozen h 3⟩
theorem zh_ {b:Nat} {w w':World} {a:Addr} {v:Value} (hB:Aside0 (Below b w w')) (h:w.cell? a=some v) (hb:b=w.heap.size:=by rfl):w'.cell? a=some v:=by subst hb;exact (hB.out.cell (World.block_lt_of_cell? w _ h)).trans h
theorem pu_ {P:Program} {ops:Array Oper} {Q:Exit→Act→World→Prop} {md:Region.Mode} {S:World→Prop} {ds:List Nat} {oi:Oper} {v:Value} {fuel:Nat} {l:Array Bool} {a a':Act} {w:World} (i n:Nat) (h:wpAnyLast P md ops Q S ds fuel (l.setIfInBounds i true) a' w) (hi:ops[i]?=some oi:=by exact rfl) (hN:oi.dst=some n:=by exact rfl) (hc:anyB md ops l (l.setIfInBounds i true) i=true:=by first|exact any_of HT_.out (by kernel_rfl)|kernel_rfl) (hQ:∀ c a w,Q (.panic c) (a.put oi.dst v) w→Q (.panic c) a w:=by exact fun _ _ _ h=>h) (hy:Yields P ops oi v a:=by exact Or.inl ⟨by rfl,by intro w';go_simp;with_reducible rfl⟩) (ha:a.put (some n) v=a':=by simp only [Act.put,List.setIfInBounds_toArray,List.set_cons_zero,List.set_cons_succ,i64_w,i32_w];rfl):wpAnyLast P md ops Q S ds (fuel + 1) l a w:=pure_ (l.setIfInBounds i true) hi hN hc hQ hy ha h
theorem tk_ {P:Program} {ops:Array Oper} {Q:Exit→Act→World→Prop} {md:Region.Mode} {S:World→Prop} {ds:List Nat} {oi:Oper} {v:Value} {fuel:Nat} {l:Array Bool} {a a':Act} {w:World} (i n:Nat) (hS:S w) (h:wpAnyLast P md ops Q S ds fuel (l.setIfInBounds i true) a' w) (hi:ops[i]?=some oi:=by exact rfl) (hN:oi.dst=some n:=by exact rfl) (hc:takeB md ops ds l (l.setIfInBounds i true) i=true:=by first|exact take_ofW HT_.out HW_.out (by kernel_rfl)|exact take_of HT_.out (by kernel_rfl)|kernel_rfl) (hQ:∀ c a w,Q (.panic c) (a.put oi.dst v) w→Q (.panic c) a w:=by exact fun _ _ _ h=>h) (hy:YieldsIf P ops S oi v a:=by exact Or.inl ⟨by rfl,by intro w' hs_;(repeat (obtain ⟨s_,hs_⟩:=hs_));go_simp;with_reducible rfl⟩) (ha:a.put (some n) v=a':=by simp only [Act.put,List.setIfInBounds_toArray,List.set_cons_zero,List.set_cons_succ,i64_w,i32_w];rfl):wpAnyLast P md ops Q S ds (fuel + 1) l a w:=take_ (l.setIfInBounds i true) hi hN hc hQ hy hS ha h
theorem pv_ {P:Program} {ops:Array Oper} {Q:Exit→Act→World→Prop} {md:Region.Mode} {S:World→Prop} {ds:List Nat} {oi:Oper} {fuel:Nat} {l:Array Bool} {a a':Act} {w:World} (i n:Nat) (h:wpAnyLast P md ops Q S ds fuel (l.setIfInBounds i true) a' w) (hi:ops[i]?=some oi:=by exact rfl) (hN:oi.dst=some n:=by exact rfl) (hc:anyB md ops l (l.setIfInBounds i true) i=true:=by first|exact any_of HT_.out (by kernel_rfl)|kernel_rfl) (hQ:∀ c a w,Q (.panic c) (a.put oi.dst undef) w→Q (.panic c) a w:=by exact fun _ _ _ h=>h) (hy:Yields P ops oi undef a:=by exact Or.inr ⟨by rfl,rfl⟩) (ha:a.put (some n) undef=a':=by simp only [Act.put,List.setIfInBounds_toArray,List.set_cons_zero,List.set_cons_succ,i64_w,i32_w];rfl):wpAnyLast P md ops Q S ds (fuel + 1) l a w:=pure_ (l.setIfInBounds i true) hi hN hc hQ hy ha h
theorem zb1 {w W w2:World} (k:Below W.heap.size W w2) (h:Below w.heap.size w W:=by repeat (first|(with_reducible first|exact HB.out|apply below_alloc|apply pw_below_drewN|apply below_drew1)|exact HB.out)):Aside0 (Below w.heap.size w w2):=⟨below_step h k⟩
theorem zRb {α:Type} {d:Kd α} {e b:Nat} {w w' w2:World} {ok:Nat→Prop} {v:Value} {xs:List α} (h:Aside0 (d.R e w b ok v xs)) (k:Below w'.heap.size w' w2) (hb:Below w.heap.size w w':=by repeat (first|(with_reducible exact Below.refl _ _)|(with_reducible apply below_alloc)|(with_reducible apply pw_below_drewN)|(with_reducible apply below_drew1))):Aside0 (d.R e w2 b ok v xs):=⟨Kd.R_below (Kd.R_below h.out hb) k⟩
theorem zgo {P:Program} {ops:Array Oper} {Q:Exit→Act→World→Prop} {rest:List Oper} {oi:Oper} {a:Act} {w:World} (n:Nat) {f:FuncId} {fn:Func} {as_:Array Operand} {ts:Array TypeId} (hf:P.funcs[f]?=some fn) (args:Array Value) (h:Calls P f args w fun e w'=>∃ v,e=.returned v∧wpList P ops Q rest (a.put (some n) v) w') (hd:oi.dst=some n:=by exact rfl) (hg:oi.guard=none:=by exact rfl) (hname:(fn.name == "runtime.NumGoroutine")=false:=by kernel_rfl) (hb:fn.body.isSome=true:=by exact rfl) (hop:oi.op=.call {callee:=.value (.func f),args:=as_,argTypes:=ts}:=by exact rfl) (hargs:as_.map a.eval=args:=by exact zl):wpList P ops Q (oi::rest) a w:=goesL_ (some n) hd hg hf hname hb args hop hargs h
end Go.Proofs.Ytkolecmpncaooaa.XFnLateWeight
-- minified
