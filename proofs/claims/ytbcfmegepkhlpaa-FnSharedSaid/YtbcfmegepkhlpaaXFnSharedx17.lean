-- Written by a program of this session (the kit's print, widened). Proved here: what each function answers, for the arguments that its contract names.
import Derived.Test.YtbcfmegepkhlpaaXFnSharedx0
import Derived.Test.YtbcfmegepkhlpaaXFnSharedx5
import Derived.Test.YtbcfmegepkhlpaaXFnSharedx12
import Derived.Test.YtbcfmegepkhlpaaXFnSharedx16
namespace Go.Proofs.Ytbcfmegepkhlpaa.XFnShared
open Go.RowKit Go.Proofs.YtbcfmegepkhlpaaW.PrintWords Go.Proofs.YtbcfmegepkhlpaaW.PrintLast Go.Proofs.YtbcfmegepkhlpaaW.PrintMore
attribute [local go_sem] max2_int min2_int max_two min_two max_three min_three max_four min_four   -- for this text's walks alone
attribute [local go_sem] idxA_72_0 idxA_72_1 fldS_96_0 fldS_96_1 fldS_96_2 fldS_111_0 fldS_111_1 fldS_111_2
set_option linter.unusedVariables false
set_option linter.unusedSimpArgs false

/-! ### spec_IsShared: function 41 -/
def spec_IsShared.f (k:Nat) (l0:List (S76)) (a1:Int) (l2:List (List (S116))):Option (Bool × Bool):=(spec_l7Good.f k l0 a1 (([]:List (S72)))).bind fun t535=>(if t535=true then (if (l2.length:Int)=a1 then ((spec_l7Shared.f k l0 l2).bind fun t536=>(some (t536,true))) else (some (false,true))) else (some (false,false)))
theorem spec_IsShared.mono:∀ a0 a1 a2 k,LeO (spec_IsShared.f k a0 a1 a2) (spec_IsShared.f (k + 1) a0 a1 a2):=by
 intro a0 a1 a2 k
 unfold spec_IsShared.f
 repeat' first|(with_reducible first|exact spec_l7Good.mono _ _ _ _|exact spec_l7Shared.mono _ _ _|exact LeO.refl _|exact LeO.none _|refine LeO.ite ?_ ?_|refine LeO.bind ?_ (fun _=>?_))|exact spec_l7Good.mono _ _ _ _|exact spec_l7Shared.mono _ _ _|exact LeO.none _|refine LeO.ite ?_ ?_|refine LeO.bind ?_ (fun _=>?_)
set_option maxHeartbeats 8000000 in
set_option maxRecDepth 100000 in
theorem spec_IsShared.calls (k:Nat) (A0:Option Addr) (c0:Nat) (l0:List (S76)) (a1:Int) (A2:Option Addr) (c2:Nat) (l2:List (List (S116))) (r1:Bool) (r2:Bool) (w:World) (hr0:Kd.C k76 w A0 l0.length l0) (hc0:l0.length≤c0) (hr2:Kd.C (Kd.slice 116 k116) w A2 l2.length l2) (hc2:l2.length≤c2) (h:spec_IsShared.f k l0 a1 l2=some (r1,r2)) :
  Calls Try.prog 41 #[.slice A0 l0.length c0,.int .i64 a1,.slice A2 l2.length c2] w fun e w'=>e=.returned (.tuple #[.bool r1,.bool r2])∧Below w.heap.size w w':=by
 have HR0:=Aside0.mk hr0
 have HC0:=Aside0.mk hc0
 clear hr0 hc0
 have HR2:=Aside0.mk hr2
 have HC2:=Aside0.mk hc2
 clear hr2 hc2
 have HB:=Aside0.mk (Below.refl w.heap.size w)
 have H:((spec_l7Good.f k l0 a1 (([]:List (S72)))).bind fun t535=>(if t535=true then (if (l2.length:Int)=a1 then ((spec_l7Shared.f k l0 l2).bind fun t536=>(some (t536,true))) else (some (false,true))) else (some (false,false))))=some (r1,r2):=h
 clear h
 obtain ⟨y532,hy532⟩:∃ y_:List (S72),y_=(([]:List (S72))):=⟨_,rfl⟩
 replace H:((spec_l7Good.f k l0 a1 y532).bind fun t535=>(if t535=true then (if (l2.length:Int)=a1 then ((spec_l7Shared.f k l0 l2).bind fun t536=>(some (t536,true))) else (some (false,true))) else (some (false,false))))=some (r1,r2):=by first|(rw [hy532];with_reducible exact H)|(have H2_:=(Option.bind_some _ _).symm.trans H;rw [hy532];with_reducible exact H2_)|(have H2_:=(Option.bind_some _ _).symm.trans H;with_reducible exact H2_)|with_reducible exact H|(rw [hy532];exact H)|exact H
 have Ny532:=Aside0.mk hy532
 clear hy532
 replace H:=Option.bind_eq_some_iff.mp H
 obtain ⟨t535,A40,H⟩:=H
 try dsimp only at H
 have A4:=Aside0.mk A40
 clear A40
 by_cases c5:t535=true
 rotate_left
 ·replace c5:=Bool.eq_false_iff.mpr c5
  subst c5
  rw [if_neg (show ¬ (false=true) by decide)] at H
  simp only [Option.some.injEq,Prod.mk.injEq] at H
  obtain ⟨rfl,rfl⟩:=H
  go_enter Try.func41,Try.ntmps41
  go_wp2_with (first|((with_reducible refine gate_dst (N:=10) rfl ?_);refine Kd.R_lit k72 _ 72 ?hg (N:=10) ?hd (xs:=([]:List (S72))) (inner:=[]) (ok:=fun _=>True) (okp:=fun _=>True) ?hr ?hp (fun _ hk=>hk) trivial (Below.refl _ _) (Nat.le_refl _) (by simp) ?_;(case hd=>rfl);(case hg=>rfl);(case hr=>first|(go_simp;done)|(go_simp;rfl));(case hp=>exact (Reps.none _ _));intro v533 w17 ho18 hb hg_ hnew_;clear hg_ hnew_;(first|rw [←Ny532.out] at ho18|(simp only [Int.reduceToNat] at ho18;rw [←Ny532.out] at ho18));have HO534:=Aside0.mk (Kd.R_lower ho18 (below_size zb));replace HB:=zb1 hb;clear hb ho18;obtain ⟨Ao19,co19,eo19⟩:=Kd.R_slice HO534.out;subst eo19)|((with_reducible refine gate_callee (f:=76) rfl ?_);refine zgo 11 Try.func76 #[.slice A0 l0.length c0,.int .i64 a1,.slice Ao19 y532.length co19] ?_;(with_reducible refine (spec_l7Good.calls k _ _ l0 a1 _ _ y532 false _ ?side1 ?side2 ?side3 ?side4 A4.out).mono ?_);(case side1=>exact zC (Kd.C_below HR0.out HB.out));(case side2=>exact HC0.out);(case side3=>exact zC ((Kd.R_reads' HO534.out).2.2));(case side4=>exact (Kd.R_reads' HO534.out).2.1);rintro e w20 ⟨rfl,hb⟩;refine ⟨_,rfl,?_⟩;replace HO534:=zRb HO534 hb;replace HB:=zb1 hb;(try clear hb)))
  go_ret2
  exact ⟨zz1,zb⟩
 subst c5
 rw [if_pos rfl] at H
 by_cases c6:(l2.length:Int)=a1
 rotate_left
 ·rw [if_neg c6] at H
  have c6b0:((l2.length:Int) == a1)=false:=beq_eq_false_iff_ne.mpr c6
  have c6b1:((l2.length:Int) != a1)=true:=bne_iff_ne.mpr c6
  simp only [Option.some.injEq,Prod.mk.injEq] at H
  obtain ⟨rfl,rfl⟩:=H
  go_enter Try.func41,Try.ntmps41
  go_wp2_with (first|((with_reducible refine gate_dst (N:=10) rfl ?_);refine Kd.R_lit k72 _ 72 ?hg (N:=10) ?hd (xs:=([]:List (S72))) (inner:=[]) (ok:=fun _=>True) (okp:=fun _=>True) ?hr ?hp (fun _ hk=>hk) trivial (Below.refl _ _) (Nat.le_refl _) (by simp) ?_;(case hd=>rfl);(case hg=>rfl);(case hr=>first|(go_simp;done)|(go_simp;rfl));(case hp=>exact (Reps.none _ _));intro v533 w13 ho14 hb hg_ hnew_;clear hg_ hnew_;(first|rw [←Ny532.out] at ho14|(simp only [Int.reduceToNat] at ho14;rw [←Ny532.out] at ho14));have HO534:=Aside0.mk (Kd.R_lower ho14 (below_size zb));replace HB:=zb1 hb;clear hb ho14;obtain ⟨Ao15,co15,eo15⟩:=Kd.R_slice HO534.out;subst eo15)|((with_reducible refine gate_callee (f:=76) rfl ?_);refine zgo 11 Try.func76 #[.slice A0 l0.length c0,.int .i64 a1,.slice Ao15 y532.length co15] ?_;(with_reducible refine (spec_l7Good.calls k _ _ l0 a1 _ _ y532 true _ ?side1 ?side2 ?side3 ?side4 A4.out).mono ?_);(case side1=>exact zC (Kd.C_below HR0.out HB.out));(case side2=>exact HC0.out);(case side3=>exact zC ((Kd.R_reads' HO534.out).2.2));(case side4=>exact (Kd.R_reads' HO534.out).2.1);rintro e w16 ⟨rfl,hb⟩;refine ⟨_,rfl,?_⟩;replace HO534:=zRb HO534 hb;replace HB:=zb1 hb;(try clear hb)))
  go_ret2
  exact ⟨zz1,zb⟩
 rw [if_pos c6] at H
 have c6b0:((l2.length:Int) == a1)=true:=beq_iff_eq.mpr c6
 have c6b1:((l2.length:Int) != a1)=false:=bne_eq_false_iff_eq.mpr c6
 clear c6
 replace H:=Option.bind_eq_some_iff.mp H
 obtain ⟨t536,A70,H⟩:=H
 try dsimp only at H
 have A7:=Aside0.mk A70
 clear A70
 simp only [Option.some.injEq,Prod.mk.injEq] at H
 obtain ⟨rfl,rfl⟩:=H
 go_enter Try.func41,Try.ntmps41
 go_wp2_with (first|((with_reducible refine gate_dst (N:=10) rfl ?_);refine Kd.R_lit k72 _ 72 ?hg (N:=10) ?hd (xs:=([]:List (S72))) (inner:=[]) (ok:=fun _=>True) (okp:=fun _=>True) ?hr ?hp (fun _ hk=>hk) trivial (Below.refl _ _) (Nat.le_refl _) (by simp) ?_;(case hd=>rfl);(case hg=>rfl);(case hr=>first|(go_simp;done)|(go_simp;rfl));(case hp=>exact (Reps.none _ _));intro v533 w8 ho9 hb hg_ hnew_;clear hg_ hnew_;(first|rw [←Ny532.out] at ho9|(simp only [Int.reduceToNat] at ho9;rw [←Ny532.out] at ho9));have HO534:=Aside0.mk (Kd.R_lower ho9 (below_size zb));replace HB:=zb1 hb;clear hb ho9;obtain ⟨Ao10,co10,eo10⟩:=Kd.R_slice HO534.out;subst eo10)|((with_reducible refine gate_callee (f:=76) rfl ?_);refine zgo 11 Try.func76 #[.slice A0 l0.length c0,.int .i64 a1,.slice Ao10 y532.length co10] ?_;(with_reducible refine (spec_l7Good.calls k _ _ l0 a1 _ _ y532 true _ ?side1 ?side2 ?side3 ?side4 A4.out).mono ?_);(case side1=>exact zC (Kd.C_below HR0.out HB.out));(case side2=>exact HC0.out);(case side3=>exact zC ((Kd.R_reads' HO534.out).2.2));(case side4=>exact (Kd.R_reads' HO534.out).2.1);rintro e w11 ⟨rfl,hb⟩;refine ⟨_,rfl,?_⟩;replace HO534:=zRb HO534 hb;replace HB:=zb1 hb;(try clear hb))|(go_at_call 89;(with_reducible refine (spec_l7Shared.calls k _ _ l0 _ _ l2 t536 _ ?side1 ?side2 ?side3 ?side4 A7.out).mono ?_);(case side1=>exact zC (Kd.C_below HR0.out HB.out));(case side2=>exact HC0.out);(case side3=>exact zC (Kd.C_below HR2.out HB.out));(case side4=>exact HC2.out);rintro e w12 ⟨rfl,hb⟩;replace HO534:=zRb HO534 hb;replace HB:=zb1 hb;(try clear hb)))
 go_ret2
 exact ⟨zz1,zb⟩

/-! ### impl_tailsOf: function 79 -/
mutual
def impl_tailsOf.l0:Nat→List (S76)→List (List Bool)→List Int→Int→Int→Option (List Int)
 | 0,_,_,_,_,_=>none
 | k + 1,x0,x5,x6,x18,x19=>if x19<x18 then (impl_tailsOf.l1 k x0 x5 x6 x18 x19 x0 (x0.length:Int) 0) else (some x6)
def impl_tailsOf.l1:Nat→List (S76)→List (List Bool)→List Int→Int→Int→List (S76)→Int→Int→Option (List Int)
 | 0,_,_,_,_,_,_,_,_=>none
 | k + 1,x0,x5,x6,x18,x19,x21,x22,x23=>if x23<x22 then (if 0≤x23 then (if x23<(x21.length:Int) then (if x23<(x6.length:Int) then (impl_tailsOf.l2 k x0 x5 (x6.set (x23:Int).toNat (mx (rd x6 x23) ((rd_T76 x21 x23).f0))) x23 x18 x19 x21 x22 x23 (x0.length:Int) 0 ((rd_T76 x21 x23).f0) ((rd_T76 x21 x23).f1) ((rd_T76 x21 x23).f2) ((rd_T76 x21 x23).f3)) else (none)) else (none)) else (none)) else (impl_tailsOf.l0 k x0 x5 x6 x18 (wrap64 (x19 + 1)))
def impl_tailsOf.l2:Nat→List (S76)→List (List Bool)→List Int→Int→Int→Int→List (S76)→Int→Int→Int→Int→Int→Int→Int→Int→Option (List Int)
 | 0,_,_,_,_,_,_,_,_,_,_,_,_,_,_,_=>none
 | k + 1,x0,x5,x6,x7,x18,x19,x21,x22,x23,x39,x40,x545000,x545001,x545002,x545003=>if x40<x39 then (if 0≤x7 then (if x7<(x5.length:Int) then (if 0≤x40 then (if x40<((rd_L4 x5 x7).length:Int) then (if rdOf false (rd_L4 x5 x7) x40=true then (if x7<(x6.length:Int) then (if x40<(x6.length:Int) then (impl_tailsOf.l2 k x0 x5 (x6.set (x7:Int).toNat (mx (rd x6 x7) (wrap64 (x545000 + (rd x6 x40))))) x7 x18 x19 x21 x22 x23 x39 (wrap64 (x40 + 1)) x545000 x545001 x545002 x545003) else (none)) else (none)) else (impl_tailsOf.l2 k x0 x5 x6 x7 x18 x19 x21 x22 x23 x39 (wrap64 (x40 + 1)) x545000 x545001 x545002 x545003)) else (none)) else (none)) else (none)) else (none)) else (impl_tailsOf.l1 k x0 x5 x6 x18 x19 x21 x22 (wrap64 (x23 + 1)))
end
def impl_tailsOf.f (k:Nat) (l0:List (S76)) (l1:List (S72)):Option (List Int):=(impl_closure.f k (l0.length:Int) l1).bind fun t537=>(if 0≤(l0.length:Int) then (if ((l0.length:Int):Int).toNat≤35184372088832 then (impl_tailsOf.l0 k l0 t537 (List.replicate ((l0.length:Int):Int).toNat 0) (l0.length:Int) 0) else (none)) else (none))
theorem impl_tailsOf.mono_l:∀ k,(∀ y0 y1 y2 y3 y4,LeO (impl_tailsOf.l0 k y0 y1 y2 y3 y4) (impl_tailsOf.l0 (k + 1) y0 y1 y2 y3 y4))∧(∀ y0 y1 y2 y3 y4 y5 y6 y7,LeO (impl_tailsOf.l1 k y0 y1 y2 y3 y4 y5 y6 y7) (impl_tailsOf.l1 (k + 1) y0 y1 y2 y3 y4 y5 y6 y7))∧(∀ y0 y1 y2 y3 y4 y5 y6 y7 y8 y9 y10 y11 y12 y13 y14,LeO (impl_tailsOf.l2 k y0 y1 y2 y3 y4 y5 y6 y7 y8 y9 y10 y11 y12 y13 y14) (impl_tailsOf.l2 (k + 1) y0 y1 y2 y3 y4 y5 y6 y7 y8 y9 y10 y11 y12 y13 y14))
 | 0=>⟨fun _ _ _ _ _ r h=>by simp [impl_tailsOf.l0] at h,fun _ _ _ _ _ _ _ _ r h=>by simp [impl_tailsOf.l1] at h,fun _ _ _ _ _ _ _ _ _ _ _ _ _ _ _ r h=>by simp [impl_tailsOf.l2] at h⟩
 | k + 1=>by
  obtain ⟨ih0,ih1,ih2⟩:=impl_tailsOf.mono_l k
  refine ⟨?_,?_,?_⟩ <;> intros <;> first|unfold impl_tailsOf.l0|unfold impl_tailsOf.l1|unfold impl_tailsOf.l2
  all_goals repeat' first|(with_reducible first|apply ih0|apply ih1|apply ih2|exact impl_closure.mono _ _ _|exact LeO.refl _|exact LeO.none _|refine LeO.ite ?_ ?_|refine LeO.bind ?_ (fun _=>?_))|apply ih0|apply ih1|apply ih2|exact impl_closure.mono _ _ _|exact LeO.none _|refine LeO.ite ?_ ?_|refine LeO.bind ?_ (fun _=>?_)
theorem impl_tailsOf.mono:∀ a0 a1 k,LeO (impl_tailsOf.f k a0 a1) (impl_tailsOf.f (k + 1) a0 a1):=by
 intro a0 a1 k
 obtain ⟨ih0,ih1,ih2⟩:=impl_tailsOf.mono_l k
 unfold impl_tailsOf.f
 repeat' first|(with_reducible first|apply ih0|apply ih1|apply ih2|exact impl_closure.mono _ _ _|exact LeO.refl _|exact LeO.none _|refine LeO.ite ?_ ?_|refine LeO.bind ?_ (fun _=>?_))|apply ih0|apply ih1|apply ih2|exact impl_closure.mono _ _ _|exact LeO.none _|refine LeO.ite ?_ ?_|refine LeO.bind ?_ (fun _=>?_)
def impl_tailsOf.T8:Bool × List (List Nat × List Nat):=(true,[([],[]),([],[]),([],[]),([],[]),([2,3],[2,3]),([4],[4]),([],[]),([6],[6]),([5,7],[5,7]),([0,1,0,1,2,3,4,5,6,7,8],[0,1]),([9,8,0,1,2,3,4,5,6,7,8],[8,9])])
def impl_tailsOf.B8:List Nat:=[0,0,0,0,12,28,0,64,252,511,1023]
theorem impl_tailsOf.tab8:rtab .any (opsOf Try.f79 8)=impl_tailsOf.T8:=by kernel_rfl
theorem impl_tailsOf.bits8:waitsOk impl_tailsOf.T8.2 impl_tailsOf.B8=true:=by kernel_rfl
def impl_tailsOf.T13:Bool × List (List Nat × List Nat):=(true,[([],[]),([],[]),([],[]),([],[]),([2,3],[2,3]),([4],[4]),([],[]),([6],[6]),([],[]),([],[]),([8,9],[8,9]),([10],[10]),([7,11],[7,11]),([5,12],[5,12]),([0,1,0,1,2,3,4,5,6,7,8,9,10,11,12,13],[0,1]),([14,13,0,1,2,3,4,5,6,7,8,9,10,11,12,13],[13,14])])
def impl_tailsOf.B13:List Nat:=[0,0,0,0,12,28,0,64,0,0,768,1792,4032,8188,16383,32767]
theorem impl_tailsOf.tab13:rtab .any (opsOf Try.f79 13)=impl_tailsOf.T13:=by kernel_rfl
theorem impl_tailsOf.bits13:waitsOk impl_tailsOf.T13.2 impl_tailsOf.B13=true:=by kernel_rfl
set_option maxHeartbeats 8000000 in
set_option maxRecDepth 100000 in
theorem impl_tailsOf.calls (k:Nat) (A0:Option Addr) (c0:Nat) (l0:List (S76)) (A1:Option Addr) (c1:Nat) (l1:List (S72)) (r:List Int) (w:World) (hr0:Kd.C k76 w A0 l0.length l0) (hc0:l0.length≤c0) (hr1:Kd.C k72 w A1 l1.length l1) (hc1:l1.length≤c1) (h:impl_tailsOf.f k l0 l1=some r) :
  Calls Try.prog 79 #[.slice A0 l0.length c0,.slice A1 l1.length c1] w fun e w'=>∃ v0_:Value,e=.returned (v0_)∧Kd.R (Kd.int .i64) 3 w' w.heap.size (fun _=>True) v0_ r∧Below w.heap.size w w':=by
 have hu76:=Try.underlying76
 have HR0:=Aside0.mk hr0
 have HC0:=Aside0.mk hc0
 clear hr0 hc0
 have HR1:=Aside0.mk hr1
 have HC1:=Aside0.mk hc1
 clear hr1 hc1
 have HB:=Aside0.mk (Below.refl w.heap.size w)
 have H:((impl_closure.f k (l0.length:Int) l1).bind fun t537=>(if 0≤(l0.length:Int) then (if ((l0.length:Int):Int).toNat≤35184372088832 then (impl_tailsOf.l0 k l0 t537 (List.replicate ((l0.length:Int):Int).toNat 0) (l0.length:Int) 0) else (none)) else (none)))=some r:=h
 clear h
 replace H:=Option.bind_eq_some_iff.mp H
 obtain ⟨t537,A30,H⟩:=H
 try dsimp only at H
 have A3:=Aside0.mk A30
 clear A30
 by_cases c4:0≤(l0.length:Int)
 rotate_left
 ·rw [if_neg c4] at H
  exact absurd H (by simp)
 rw [if_pos c4] at H
 have c4b0:=eq_true c4
 have c4b1:=decide_eq_true c4
 clear c4
 by_cases c5:((l0.length:Int):Int).toNat≤35184372088832
 rotate_left
 ·rw [if_neg c5] at H
  exact absurd H (by simp)
 rw [if_pos c5] at H
 have c5b0:=eq_true c5
 have c5b1:=decide_eq_true c5
 clear c5
 obtain ⟨y540,hy540⟩:∃ y_:List Int,y_=(List.replicate ((l0.length:Int):Int).toNat 0):=⟨_,rfl⟩
 replace H:(impl_tailsOf.l0 k l0 t537 y540 (l0.length:Int) 0)=some r:=by first|(rw [hy540];with_reducible exact H)|(have H2_:=(Option.bind_some _ _).symm.trans H;rw [hy540];with_reducible exact H2_)|(have H2_:=(Option.bind_some _ _).symm.trans H;with_reducible exact H2_)|with_reducible exact H|(rw [hy540];exact H)|exact H
 have Ny540:=Aside0.mk hy540
 clear hy540
 have H':=Aside0.mk H
 clear H
 go_enter Try.func79,Try.ntmps79
 go_wp2_with (first|((with_reducible refine gate_callee (f:=115) rfl ?_);refine zgo 13 Try.func115 #[.int .i64 (l0.length:Int),.slice A1 l1.length c1] ?_;(with_reducible refine (impl_closure.calls k (l0.length:Int) _ _ l1 t537 _ ?side1 ?side2 A3.out).mono ?_);(case side1=>exact zC HR1.out);(case side2=>exact HC1.out);rintro e w6 ⟨v538,rfl,ho0,hb⟩;refine ⟨_,rfl,?_⟩;have HO539:=Aside0.mk (Kd.S_lower ho0 (below_size zb));replace HB:=zb1 hb;(try clear hb);(try clear ho0))|((with_reducible refine gate_dst (N:=16) rfl ?_);refine Kd.R_make (Kd.int .i64) _ 3 rfl (N:=16) rfl 43 _ _ rfl (l0.length:Int) rfl rfl Try.underlying43 (.int .i64 0) 8 info3 rfl (by decide) (by omega) 0 (ok:=fun _=>True) (okp:=fun _=>True) rfl (fun _ hk=>hk) trivial (of_decide_eq_true za) (Nat.le_trans (Nat.mul_le_mul_right _ (of_decide_eq_true za:(l0.length:Int).toNat≤35184372088832)) (by omega)) (Below.refl _ _) (Nat.le_refl _) ?_;intro v541 w7 ho8 hb hg_ hnew_;clear hg_ hnew_;(first|rw [←Ny540.out] at ho8|(simp only [Int.reduceToNat] at ho8;rw [←Ny540.out] at ho8));replace HO539:=zSb HO539 hb;have HO542:=Aside0.mk (Kd.R_lower ho8 (below_size zb));replace HB:=zb1 hb;clear hb ho8))
 go_loopg [19] k (fun kq v19 w'=>∃ (x6_1:List Int) (x19_1:Int),v19=.int .i64 x19_1∧Aside0 (impl_tailsOf.l0 kq l0 t537 x6_1 (l0.length:Int) x19_1=some r)∧Aside0 (kq≤k)∧Aside0 (Kd.S (Kd.slice 4 Kd.bool) 127 w' w.heap.size (fun _=>True) v538 t537)∧Aside0 (Kd.R (Kd.int .i64) 3 w' w.heap.size (fun _=>True) v541 x6_1)∧Aside0 (Below w.heap.size w w'))
 case atStart=>exact ⟨(y540),(0),zo,H',⟨Nat.le_refl _⟩,⟨zS HO539.out⟩,⟨zR HO542.out⟩,⟨zb⟩⟩
 case round=>
  clear H'
  obtain ⟨x6_1,x19_1,rfl,HA,HK1,HO_5,HO_6,HB⟩:=hrel
  cases gk with
  | zero=>exact absurd HA.out (by simp [impl_tailsOf.l0])
  | succ k1=>
   have H:=HA.out
   clear HA
   simp only [impl_tailsOf.l0] at H
   by_cases c9:x19_1<(l0.length:Int)
   rotate_left
   ·rw [if_neg c9] at H
    have c9b0:=decide_eq_false c9
    clear c9
    obtain rfl:=Option.some.inj H
    go_wp2
    go_ret
    exact ⟨_,zz1,zR HO_6.out,zb⟩
   rw [if_pos c9] at H
   have c9b0:=decide_eq_true c9
   clear c9
   have H':=Aside0.mk H
   clear H
   go_wp2
   go_loopg [23] k1 (fun kq v23 w'=>∃ (x6_2:List Int) (x23_2:Int),v23=.int .i64 x23_2∧Aside0 (impl_tailsOf.l1 kq l0 t537 x6_2 (l0.length:Int) x19_1 l0 (l0.length:Int) x23_2=some r)∧Aside0 (kq≤k1)∧Aside0 (Kd.S (Kd.slice 4 Kd.bool) 127 w' w.heap.size (fun _=>True) v538 t537)∧Aside0 (Kd.R (Kd.int .i64) 3 w' w.heap.size (fun _=>True) v541 x6_2)∧Aside0 (Below w.heap.size w w'))
   case atStart=>exact ⟨(x6_1),(0),zo,H',⟨Nat.le_refl _⟩,⟨zS HO_5.out⟩,⟨zR HO_6.out⟩,⟨zb⟩⟩
   case round=>
    clear H'
    obtain ⟨x6_2,x23_2,rfl,HA,HK2,HO_5,HO_6,HB⟩:=hrel
    cases gk with
    | zero=>exact absurd HA.out (by simp [impl_tailsOf.l1])
    | succ k2=>
     have H:=HA.out
     clear HA
     simp only [impl_tailsOf.l1] at H
     by_cases c10:x23_2<(l0.length:Int)
     rotate_left
     ·rw [if_neg c10] at H
      have c10b0:=decide_eq_false c10
      clear c10
      have H':=Aside0.mk H
      clear H
      go_wp2
      go_roundg k2
      case measure=>have:=HK1.out;have:=HK2.out;omega
      case rel=>exact ⟨(x6_2),(wrap64 (x19_1 + 1)),zo,H',⟨zz9⟩,⟨zS HO_5.out⟩,⟨zR HO_6.out⟩,⟨zb⟩⟩
     rw [if_pos c10] at H
     have c10b0:=decide_eq_true c10
     clear c10
     by_cases c11:0≤x23_2
     rotate_left
     ·rw [if_neg c11] at H
      exact absurd H (by simp)
     rw [if_pos c11] at H
     have c11b0:=decide_eq_true c11
     clear c11
     by_cases c12:x23_2<(l0.length:Int)
     rotate_left
     ·rw [if_neg c12] at H
      exact absurd H (by simp)
     rw [if_pos c12] at H
     have c12b0:=decide_eq_true c12
     clear c12
     by_cases c13:x23_2<(x6_2.length:Int)
     rotate_left
     ·rw [if_neg c13] at H
      exact absurd H (by simp)
     rw [if_pos c13] at H
     have c13b0:=decide_eq_true c13
     clear c13
     obtain ⟨ji14,hji14⟩:∃ j_:Int,(mx (rd x6_2 x23_2) ((rd_T76 l0 x23_2).f0))=j_:=⟨_,rfl⟩
     replace H:(impl_tailsOf.l2 k2 l0 t537 (x6_2.set (x23_2:Int).toNat (ji14)) x23_2 (l0.length:Int) x19_1 l0 (l0.length:Int) x23_2 (l0.length:Int) 0 ((rd_T76 l0 x23_2).f0) ((rd_T76 l0 x23_2).f1) ((rd_T76 l0 x23_2).f2) ((rd_T76 l0 x23_2).f3))=some r:=by first|(rw [hji14] at H;exact H)|(simp only [hji14] at H ⊢;exact H)
     have hji14_:(if (rd x6_2 x23_2)<((rd_T76 l0 x23_2).f0) then ((rd_T76 l0 x23_2).f0) else (rd x6_2 x23_2))=ji14:=hji14
     obtain ⟨y546,hy546⟩:∃ y_:List Int,y_=(x6_2.set (x23_2:Int).toNat (ji14)):=⟨_,rfl⟩
     replace H:(impl_tailsOf.l2 k2 l0 t537 y546 x23_2 (l0.length:Int) x19_1 l0 (l0.length:Int) x23_2 (l0.length:Int) 0 ((rd_T76 l0 x23_2).f0) ((rd_T76 l0 x23_2).f1) ((rd_T76 l0 x23_2).f2) ((rd_T76 l0 x23_2).f3))=some r:=by first|(rw [hy546];with_reducible exact H)|(have H2_:=(Option.bind_some _ _).symm.trans H;rw [hy546];with_reducible exact H2_)|(have H2_:=(Option.bind_some _ _).symm.trans H;with_reducible exact H2_)|with_reducible exact H|(rw [hy546];exact H)|exact H
     have Ny546:=Aside0.mk hy546
     clear hy546
     have H':=Aside0.mk H
     clear H
     have p543:0≤(x23_2:Int):=of_decide_eq_true za
     have q543:x23_2<(l0.length:Int):=of_decide_eq_true za
     obtain ⟨ad543,e543,hx543_0,hx543_1,hx543_2,hx543_3⟩:=at_T76 HR0.out x23_2 p543 q543
     cases e543
     replace hx543_0:=zh_ HB hx543_0
     replace hx543_1:=zh_ HB hx543_1
     replace hx543_2:=zh_ HB hx543_2
     replace hx543_3:=zh_ HB hx543_3
     replace p543:=eq_true p543
     replace q543:=eq_true q543
     try go_wp2_with (first|((with_reducible refine gate_dst (N:=8) rfl ?_);refine box_event ?hg (N:=8) ?hd (cs:=#[.int .i64 0,.int .i64 0,.int .i64 0,.int .i64 0]) (t:=76) ?hr ?_;(case hd=>rfl);(case hg=>rfl);(case hr=>first|(go_simp;done)|(go_simp;rfl));intro gb544 hg w16 hbox hb;have n0_:=zSb HO_5 hb;have n1_:=zRb HO_6 hb;have n2_:=zb1 hb;have n3_:=Aside0.mk (hbox);have n4_:=Aside0.mk ((by rw [hg];exact (below_size zb):w.heap.size≤gb544));have n5_:=Aside0.mk ((by rw [hg];exact (below_size zb):w.heap.size≤gb544));clear HO_5;clear HO_6;clear HB;have HO_5:=n0_;have HO_6:=n1_;have HB:=n2_;have BK544:=n3_;have GW544:=n4_;have GE544:=n5_;clear n0_ n1_ n2_ n3_ n4_ n5_;clear hb hbox hg;obtain ⟨hcz17_0,hcz17_1,hcz17_2,hcz17_3,hfz17_0,hfz17_1,hfz17_2,hfz17_3⟩:=zk4 BK544.out))
     have n0_:Aside0 (Kd.S (Kd.slice 4 Kd.bool) 127 ((((w16.setCell ⟨gb544,0,none⟩ (.int .i64 ((rd_T76 l0 x23_2).f0))).setCell ⟨gb544,1,none⟩ (.int .i64 ((rd_T76 l0 x23_2).f1))).setCell ⟨gb544,2,none⟩ (.int .i64 ((rd_T76 l0 x23_2).f2))).setCell ⟨gb544,3,none⟩ (.int .i64 ((rd_T76 l0 x23_2).f3))) w.heap.size (fun _=>True) v538 t537):=⟨by (with_reducible repeat (first|apply Kd.S_alloc|apply Kd.S_drewN|apply Kd.S_drew));exact Kd.S_mono (Kd.S_far (p:=⟨gb544,3,none⟩) (Kd.S_far (p:=⟨gb544,2,none⟩) (Kd.S_far (p:=⟨gb544,1,none⟩) (Kd.S_far (p:=⟨gb544,0,none⟩) (Kd.S_types HO_5.out BK544.out (by decide)) (fun _ hk=>hk.2) (.int .i64 ((rd_T76 l0 x23_2).f0))) (fun _ hk=>hk.2) (.int .i64 ((rd_T76 l0 x23_2).f1))) (fun _ hk=>hk.2) (.int .i64 ((rd_T76 l0 x23_2).f2))) (fun _ hk=>hk.2) (.int .i64 ((rd_T76 l0 x23_2).f3))) (fun _ hk=>trivial)⟩
     have n1_:Aside0 (Kd.R (Kd.int .i64) 3 ((((w16.setCell ⟨gb544,0,none⟩ (.int .i64 ((rd_T76 l0 x23_2).f0))).setCell ⟨gb544,1,none⟩ (.int .i64 ((rd_T76 l0 x23_2).f1))).setCell ⟨gb544,2,none⟩ (.int .i64 ((rd_T76 l0 x23_2).f2))).setCell ⟨gb544,3,none⟩ (.int .i64 ((rd_T76 l0 x23_2).f3))) w.heap.size (fun _=>True) v541 x6_2):=⟨by (with_reducible repeat (first|apply Kd.R_alloc|apply Kd.R_drewN|apply Kd.R_drew));exact Kd.R_mono (Kd.R_far (p:=⟨gb544,3,none⟩) (Kd.R_far (p:=⟨gb544,2,none⟩) (Kd.R_far (p:=⟨gb544,1,none⟩) (Kd.R_far (p:=⟨gb544,0,none⟩) (Kd.R_types HO_6.out BK544.out (by decide)) (fun _ hk=>hk.2) (.int .i64 ((rd_T76 l0 x23_2).f0))) (fun _ hk=>hk.2) (.int .i64 ((rd_T76 l0 x23_2).f1))) (fun _ hk=>hk.2) (.int .i64 ((rd_T76 l0 x23_2).f2))) (fun _ hk=>hk.2) (.int .i64 ((rd_T76 l0 x23_2).f3))) (fun _ hk=>trivial)⟩
     have n2_:Aside0 (((((w16.setCell ⟨gb544,0,none⟩ (.int .i64 ((rd_T76 l0 x23_2).f0))).setCell ⟨gb544,1,none⟩ (.int .i64 ((rd_T76 l0 x23_2).f1))).setCell ⟨gb544,2,none⟩ (.int .i64 ((rd_T76 l0 x23_2).f2))).setCell ⟨gb544,3,none⟩ (.int .i64 ((rd_T76 l0 x23_2).f3))).heap[gb544]?=some (.cells #[.int .i64 ((rd_T76 l0 x23_2).f0),.int .i64 ((rd_T76 l0 x23_2).f1),.int .i64 ((rd_T76 l0 x23_2).f2),.int .i64 ((rd_T76 l0 x23_2).f3)] 76 (0,0))):=⟨by (with_reducible repeat (first|refine blk_drewN ?_ _|refine blk_drew ?_|refine blk_alloc ?_ _));refine blk_put (cs:=#[.int .i64 ((rd_T76 l0 x23_2).f0),.int .i64 ((rd_T76 l0 x23_2).f1),.int .i64 ((rd_T76 l0 x23_2).f2),.int .i64 0]) ?_ 3 _ rfl;(with_reducible repeat (first|refine blk_drewN ?_ _|refine blk_drew ?_|refine blk_alloc ?_ _));refine blk_put (cs:=#[.int .i64 ((rd_T76 l0 x23_2).f0),.int .i64 ((rd_T76 l0 x23_2).f1),.int .i64 0,.int .i64 0]) ?_ 2 _ rfl;(with_reducible repeat (first|refine blk_drewN ?_ _|refine blk_drew ?_|refine blk_alloc ?_ _));refine blk_put (cs:=#[.int .i64 ((rd_T76 l0 x23_2).f0),.int .i64 0,.int .i64 0,.int .i64 0]) ?_ 1 _ rfl;(with_reducible repeat (first|refine blk_drewN ?_ _|refine blk_drew ?_|refine blk_alloc ?_ _));refine blk_put (cs:=#[.int .i64 0,.int .i64 0,.int .i64 0,.int .i64 0]) ?_ 0 _ rfl;(with_reducible repeat (first|refine blk_drewN ?_ _|refine blk_drew ?_|refine blk_alloc ?_ _));exact BK544.out⟩
     have n3_:Aside0 (Below w.heap.size w ((((w16.setCell ⟨gb544,0,none⟩ (.int .i64 ((rd_T76 l0 x23_2).f0))).setCell ⟨gb544,1,none⟩ (.int .i64 ((rd_T76 l0 x23_2).f1))).setCell ⟨gb544,2,none⟩ (.int .i64 ((rd_T76 l0 x23_2).f2))).setCell ⟨gb544,3,none⟩ (.int .i64 ((rd_T76 l0 x23_2).f3)))):=⟨zz56⟩
     (try simp only [show ∀ (W_:World) (n_:Nat) (a_:Addr) (v_:Value),(W_.drewN n_).setCell a_ v_=(W_.setCell a_ v_).drewN n_ from fun _ _ _ _=>rfl])
     generalize ((((w16.setCell ⟨gb544,0,none⟩ (.int .i64 ((rd_T76 l0 x23_2).f0))).setCell ⟨gb544,1,none⟩ (.int .i64 ((rd_T76 l0 x23_2).f1))).setCell ⟨gb544,2,none⟩ (.int .i64 ((rd_T76 l0 x23_2).f2))).setCell ⟨gb544,3,none⟩ (.int .i64 ((rd_T76 l0 x23_2).f3)))=w18 at n0_ n1_ n2_ n3_ ⊢
     have HO_5:=n0_
     have HO_6:=n1_
     have BK544:=n2_
     have HB:=n3_
     clear n0_ n1_ n2_ n3_
     replace HO_5:=Aside0.mk (Kd.S_drew HO_5.out)
     replace HO_6:=Aside0.mk (Kd.R_drew HO_6.out)
     replace BK544:=Aside0.mk (blk_drew BK544.out)
     replace HB:=Aside0.mk (below_drew1 HB.out)
     obtain ⟨Ao20,co20,eo20⟩:=Kd.R_slice HO_6.out
     (first|subst eo20|(injection eo20 with f1_ f2_ f3_;have f4_:=f1_.symm;have f5_:=f3_.symm;clear f1_ f2_ f3_;subst f4_;subst f5_))
     have p545:0≤(x23_2:Int):=of_decide_eq_true za
     have q545:x23_2<(x6_2.length:Int):=of_decide_eq_true za
     obtain ⟨ad545,e545,hx545_0⟩:=Kd.at_int (Kd.R_reads' HO_6.out).2.2 x23_2 p545 q545
     cases e545
     replace p545:=eq_true p545
     replace q545:=eq_true q545
     have p15:0≤(x23_2:Int):=of_decide_eq_true za
     have q15:(x23_2:Int)<((x6_2.length:Int):Int):=of_decide_eq_true za
     obtain ⟨go15,co15,eo15,gb15,gl15,cl15,HG15⟩:=Kd.R_form HO_6.out (by omega)
     (first|cases eo15|(injection eo15 with ea_ en_ ec_;(first|subst ea_|(injection ea_ with ea_;subst ea_));subst ec_;clear en_))
     have GB15:=Aside0.mk gb15
     have GG15:=Aside0.mk HG15
     clear gb15 gl15 HG15
     (first|simp only [add_plain] at hx545_0|skip)
     obtain ⟨hx15_0,hf15_0⟩:=Kd.R_celln 0 HO_6.out (x23_2:Int) p15 q15
     replace p15:=eq_true p15
     replace q15:=eq_true q15
     have HP21:=Kd.R_putn HO_6.out (x23_2:Int) ji14
     rw [←Ny546.out] at HP21
     have HQ21:=Aside0.mk HP21
     clear HP21
     refine start_ (n:=11) (S:=fun w'=>w'.cell? ⟨gb544,0,none⟩=some (.int .i64 ((rd_T76 l0 x23_2).f0))∧w'.cell? ⟨gb544,1,none⟩=some (.int .i64 ((rd_T76 l0 x23_2).f1))∧w'.cell? ⟨gb544,2,none⟩=some (.int .i64 ((rd_T76 l0 x23_2).f2))∧w'.cell? ⟨gb544,3,none⟩=some (.int .i64 ((rd_T76 l0 x23_2).f3))∧w'.cell? ⟨go15,(x23_2).toNat,none⟩=some (.int .i64 (rd x6_2 x23_2))) (ds:=[10]) #[false,false,false,false,false,false,false,false,false,false,false] (by kernel_rfl) rfl rfl ⟨(blk_cell BK544.out 0).trans rfl,(blk_cell BK544.out 1).trans rfl,(blk_cell BK544.out 2).trans rfl,(blk_cell BK544.out 3).trans rfl,hx545_0⟩ (fun hHeld=>?_);refine with_tabW impl_tailsOf.tab8 impl_tailsOf.bits8 (fun HT_ HW_=>?_)
     generalize w18.drew=w19 at HO_5 HO_6 BK544 HB GG15 HQ21 hf15_0 hx15_0 hx545_0 hHeld ⊢
     refine pu_ 0 28 ?_
     refine pu_ 1 29 ?_
     refine pu_ 2 30 ?_
     refine pu_ 3 31 ?_
     refine pu_ 4 32 ?_
     refine pu_ 6 34 ?_
     refine tk_ 5 33 hHeld ?_
     refine tk_ 7 35 hHeld ?_
     refine pu_ 8 36 ?_
     refine pu_ 9 37 ?_
     refine last_ (i:=10) (N:=none) #[true,true,true,true,true,true,true,true,true,true,true] rfl rfl (one_of HT_.out (by kernel_rfl)) (by decide) (fun K hK=>?_)
     refine skip_ (w1:=?_) (by rfl) rfl ?_ ?_
     rotate_left
     ·go_simp
      rfl
     refine hK.out _ _ ?_
     clear hK K
     refine done_ (done_of HT_.out (by kernel_rfl)) ?_
     try go_wp2
     go_loopg [40] k2 (fun kq v40 w'=>∃ (x6_3:List Int) (x40_3:Int),v40=.int .i64 x40_3∧Aside0 (impl_tailsOf.l2 kq l0 t537 x6_3 x23_2 (l0.length:Int) x19_1 l0 (l0.length:Int) x23_2 (l0.length:Int) x40_3 ((rd_T76 l0 x23_2).f0) ((rd_T76 l0 x23_2).f1) ((rd_T76 l0 x23_2).f2) ((rd_T76 l0 x23_2).f3)=some r)∧Aside0 (kq≤k2)∧Aside0 (Kd.S (Kd.slice 4 Kd.bool) 127 w' w.heap.size (fun _=>True) v538 t537)∧Aside0 (Kd.R (Kd.int .i64) 3 w' w.heap.size (fun _=>True) (.slice (some ⟨go15,0,none⟩) x6_2.length co20) x6_3)∧Aside0 (w'.heap[gb544]?=some (.cells #[.int .i64 ((rd_T76 l0 x23_2).f0),.int .i64 ((rd_T76 l0 x23_2).f1),.int .i64 ((rd_T76 l0 x23_2).f2),.int .i64 ((rd_T76 l0 x23_2).f3)] 76 (0,0)))∧Aside0 (Below w.heap.size w w'))
     case atStart=>exact ⟨(y546),(0),zo,H',⟨Nat.le_refl _⟩,⟨by (with_reducible repeat (first|apply Kd.S_alloc|apply Kd.S_drewN|apply Kd.S_drew));exact Kd.S_mono (Kd.S_far (p:=⟨go15,(x23_2:Int).toNat,none⟩) (Kd.S_types HO_5.out GG15.out (by decide)) (fun _ hk=>hk.2) (.int .i64 ji14)) (fun _ hk=>trivial)⟩,⟨by (with_reducible repeat (first|apply Kd.R_alloc|apply Kd.R_drewN|apply Kd.R_drew));exact HQ21.out⟩,⟨by (with_reducible repeat (first|refine blk_drewN ?_ _|refine blk_drew ?_|refine blk_alloc ?_ _));refine blk_far ?_ (by have h_:=Kd.R_ne HO_6.out BK544.out (by decide);intro e_;exact h_ (by rw [e_];rfl)) _;(with_reducible repeat (first|refine blk_drewN ?_ _|refine blk_drew ?_|refine blk_alloc ?_ _));exact BK544.out⟩,⟨by repeat (first|(with_reducible first|exact HB.out|apply below_alloc|apply pw_below_drewN|apply below_drew1|refine below_set ?_ GB15.out|refine below_set ?_ GE544.out)|exact HB.out)⟩⟩
     case round=>
      clear H'
      obtain ⟨x6_3,x40_3,rfl,HA,HK3,HO_5,HO_6,BK544,HB⟩:=hrel
      have hl6_3:=(Kd.R_reads' HO_6.out).1
      rw [hl6_3] at HO_6
      (try simp only [hl6_3])
      (try simp only [hl6_3] at BK544)
      (try simp only [hl6_3] at HO_5)
      cases gk with
      | zero=>exact absurd HA.out (by simp [impl_tailsOf.l2])
      | succ k3=>
       have H:=HA.out
       clear HA
       simp only [impl_tailsOf.l2] at H
       by_cases c22:x40_3<(l0.length:Int)
       rotate_left
       ·rw [if_neg c22] at H
        have c22b0:=decide_eq_false c22
        clear c22
        have H':=Aside0.mk H
        clear H
        go_wp2
        (try simp only [←hl6_3])
        go_roundg k3
        case measure=>have:=HK1.out;have:=HK2.out;have:=HK3.out;omega
        case rel=>exact ⟨(x6_3),(wrap64 (x23_2 + 1)),zo,H',⟨by have:=HK1.out;have:=HK2.out;have:=HK3.out;omega⟩,⟨by (try simp only [hl6_3]);(with_reducible repeat (first|apply Kd.S_alloc|apply Kd.S_drewN|apply Kd.S_drew));exact HO_5.out⟩,⟨by (try simp only [hl6_3]);(with_reducible repeat (first|apply Kd.R_alloc|apply Kd.R_drewN|apply Kd.R_drew));exact HO_6.out⟩,⟨zz56⟩⟩
       rw [if_pos c22] at H
       have c22b0:=decide_eq_true c22
       clear c22
       by_cases c23:0≤x23_2
       rotate_left
       ·rw [if_neg c23] at H
        exact absurd H (by simp)
       rw [if_pos c23] at H
       have c23b0:=decide_eq_true c23
       clear c23
       by_cases c24:x23_2<(t537.length:Int)
       rotate_left
       ·rw [if_neg c24] at H
        exact absurd H (by simp)
       rw [if_pos c24] at H
       have c24b0:=decide_eq_true c24
       clear c24
       by_cases c25:0≤x40_3
       rotate_left
       ·rw [if_neg c25] at H
        exact absurd H (by simp)
       rw [if_pos c25] at H
       have c25b0:=decide_eq_true c25
       clear c25
       by_cases c26:x40_3<((rd_L4 t537 x23_2).length:Int)
       rotate_left
       ·rw [if_neg c26] at H
        exact absurd H (by simp)
       rw [if_pos c26] at H
       have c26b0:=decide_eq_true c26
       clear c26
       obtain ⟨bq27,hbq27⟩:∃ b_:Bool,b_=(rdOf false (rd_L4 t537 x23_2) x40_3):=⟨_,rfl⟩
       replace H:(if bq27=true then (if x23_2<(x6_3.length:Int) then (if x40_3<(x6_3.length:Int) then (impl_tailsOf.l2 k3 l0 t537 (x6_3.set (x23_2:Int).toNat (mx (rd x6_3 x23_2) (wrap64 (((rd_T76 l0 x23_2).f0) + (rd x6_3 x40_3))))) x23_2 (l0.length:Int) x19_1 l0 (l0.length:Int) x23_2 (l0.length:Int) (wrap64 (x40_3 + 1)) ((rd_T76 l0 x23_2).f0) ((rd_T76 l0 x23_2).f1) ((rd_T76 l0 x23_2).f2) ((rd_T76 l0 x23_2).f3)) else (none)) else (none)) else (impl_tailsOf.l2 k3 l0 t537 x6_3 x23_2 (l0.length:Int) x19_1 l0 (l0.length:Int) x23_2 (l0.length:Int) (wrap64 (x40_3 + 1)) ((rd_T76 l0 x23_2).f0) ((rd_T76 l0 x23_2).f1) ((rd_T76 l0 x23_2).f2) ((rd_T76 l0 x23_2).f3)))=some r:=by rw [←hbq27] at H;exact H
       have Nbq27:=Aside0.mk hbq27
       clear hbq27
       by_cases c28:bq27=true
       rotate_left
       ·replace c28:=Bool.eq_false_iff.mpr c28
        subst c28
        rw [if_neg (show ¬ (false=true) by decide)] at H
        have H':=Aside0.mk H
        clear H
        obtain ⟨Ao36,co36,eo36⟩:=Kd.S_slice HO_5.out
        subst eo36
        have p547:0≤(x23_2:Int):=of_decide_eq_true za
        have q547:x23_2<(t537.length:Int):=of_decide_eq_true za
        obtain ⟨ad547,A547_0,c547_0,e547,hx547_0,hl547_0,hi547_0⟩:=at_L4 (Kd.S_reads' HO_5.out).2.2 x23_2 p547 q547
        cases e547
        obtain ⟨ce547,hce547,hMe547,hcc547⟩:=Kd.S_get HO_5.out [] x23_2 p547 (by first|exact q547|exact of_decide_eq_true za|(have e_:=(Kd.S_reads' HO_5.out).1;omega))
        obtain ⟨ve547_0,rfl,ge547_0⟩:=hMe547
        have hv547_0:=hcc547 0 _ rfl
        rw [Nat.add_zero,show ((Kd.slice 4 Kd.bool)).sz=1 from rfl,Nat.mul_one] at hv547_0
        replace hv547_0:=Option.some.inj (hv547_0.symm.trans hx547_0)
        rw [hv547_0] at ge547_0
        have HL547_0:=Aside0.mk (show Kd.R Kd.bool 4 _ _ _ _ (rd_L4 t537 x23_2) from ge547_0)
        clear hv547_0 ge547_0
        clear hcc547 hce547
        have HR547_0:=Aside0.mk hi547_0
        have HC547_0:=Aside0.mk hl547_0
        clear hi547_0 hl547_0
        replace p547:=eq_true p547
        replace q547:=eq_true q547
        have p548:0≤(x40_3:Int):=of_decide_eq_true za
        have q548:x40_3<((rd_L4 t537 x23_2).length:Int):=of_decide_eq_true za
        obtain ⟨ad548,e548,hx548_0⟩:=Kd.at_bool (by repeat (first|(with_reducible exact HR547_0.out)|(with_reducible refine Kd.C_alloc ?_ _)|(with_reducible refine Kd.C_drewN ?_ _)|(with_reducible refine Kd.C_drew ?_)|exact HR547_0.out)) x40_3 p548 q548
        (try rw [←Nbq27.out] at hx548_0)
        cases e548
        replace p548:=eq_true p548
        replace q548:=eq_true q548
        go_wp2
        (try simp only [←hl6_3])
        go_roundg k3
        case measure=>have:=HK1.out;have:=HK2.out;have:=HK3.out;omega
        case rel=>exact ⟨(x6_3),(wrap64 (x40_3 + 1)),zo,H',⟨by have:=HK1.out;have:=HK2.out;have:=HK3.out;omega⟩,⟨by (try simp only [hl6_3]);(with_reducible repeat (first|apply Kd.S_alloc|apply Kd.S_drewN|apply Kd.S_drew));exact HO_5.out⟩,⟨by (try simp only [hl6_3]);(with_reducible repeat (first|apply Kd.R_alloc|apply Kd.R_drewN|apply Kd.R_drew));exact HO_6.out⟩,⟨by (try simp only [hl6_3]);(with_reducible repeat (first|refine blk_drewN ?_ _|refine blk_drew ?_|refine blk_alloc ?_ _));exact BK544.out⟩,⟨zz56⟩⟩
       subst c28
       rw [if_pos rfl] at H
       by_cases c29:x23_2<(x6_3.length:Int)
       rotate_left
       ·rw [if_neg c29] at H
        exact absurd H (by simp)
       rw [if_pos c29] at H
       have c29b0:=decide_eq_true c29
       clear c29
       by_cases c30:x40_3<(x6_3.length:Int)
       rotate_left
       ·rw [if_neg c30] at H
        exact absurd H (by simp)
       rw [if_pos c30] at H
       have c30b0:=decide_eq_true c30
       clear c30
       obtain ⟨ji31,hji31⟩:∃ j_:Int,(mx (rd x6_3 x23_2) (wrap64 (((rd_T76 l0 x23_2).f0) + (rd x6_3 x40_3))))=j_:=⟨_,rfl⟩
       replace H:(impl_tailsOf.l2 k3 l0 t537 (x6_3.set (x23_2:Int).toNat (ji31)) x23_2 (l0.length:Int) x19_1 l0 (l0.length:Int) x23_2 (l0.length:Int) (wrap64 (x40_3 + 1)) ((rd_T76 l0 x23_2).f0) ((rd_T76 l0 x23_2).f1) ((rd_T76 l0 x23_2).f2) ((rd_T76 l0 x23_2).f3))=some r:=by first|(rw [hji31] at H;exact H)|(simp only [hji31] at H ⊢;exact H)
       have hji31_:(if (rd x6_3 x23_2)<(wrap64 (((rd_T76 l0 x23_2).f0) + (rd x6_3 x40_3))) then (wrap64 (((rd_T76 l0 x23_2).f0) + (rd x6_3 x40_3))) else (rd x6_3 x23_2))=ji31:=hji31
       obtain ⟨y551,hy551⟩:∃ y_:List Int,y_=(x6_3.set (x23_2:Int).toNat (ji31)):=⟨_,rfl⟩
       replace H:(impl_tailsOf.l2 k3 l0 t537 y551 x23_2 (l0.length:Int) x19_1 l0 (l0.length:Int) x23_2 (l0.length:Int) (wrap64 (x40_3 + 1)) ((rd_T76 l0 x23_2).f0) ((rd_T76 l0 x23_2).f1) ((rd_T76 l0 x23_2).f2) ((rd_T76 l0 x23_2).f3))=some r:=by first|(rw [hy551];with_reducible exact H)|(have H2_:=(Option.bind_some _ _).symm.trans H;rw [hy551];with_reducible exact H2_)|(have H2_:=(Option.bind_some _ _).symm.trans H;with_reducible exact H2_)|with_reducible exact H|(rw [hy551];exact H)|exact H
       have Ny551:=Aside0.mk hy551
       clear hy551
       have H':=Aside0.mk H
       clear H
       obtain ⟨Ao33,co33,eo33⟩:=Kd.S_slice HO_5.out
       subst eo33
       have p547:0≤(x23_2:Int):=of_decide_eq_true za
       have q547:x23_2<(t537.length:Int):=of_decide_eq_true za
       obtain ⟨ad547,A547_0,c547_0,e547,hx547_0,hl547_0,hi547_0⟩:=at_L4 (Kd.S_reads' HO_5.out).2.2 x23_2 p547 q547
       cases e547
       obtain ⟨ce547,hce547,hMe547,hcc547⟩:=Kd.S_get HO_5.out [] x23_2 p547 (by first|exact q547|exact of_decide_eq_true za|(have e_:=(Kd.S_reads' HO_5.out).1;omega))
       obtain ⟨ve547_0,rfl,ge547_0⟩:=hMe547
       have hv547_0:=hcc547 0 _ rfl
       rw [Nat.add_zero,show ((Kd.slice 4 Kd.bool)).sz=1 from rfl,Nat.mul_one] at hv547_0
       replace hv547_0:=Option.some.inj (hv547_0.symm.trans hx547_0)
       rw [hv547_0] at ge547_0
       have HL547_0:=Aside0.mk (show Kd.R Kd.bool 4 _ _ _ _ (rd_L4 t537 x23_2) from ge547_0)
       clear hv547_0 ge547_0
       clear hcc547 hce547
       have HR547_0:=Aside0.mk hi547_0
       have HC547_0:=Aside0.mk hl547_0
       clear hi547_0 hl547_0
       replace p547:=eq_true p547
       replace q547:=eq_true q547
       have p548:0≤(x40_3:Int):=of_decide_eq_true za
       have q548:x40_3<((rd_L4 t537 x23_2).length:Int):=of_decide_eq_true za
       obtain ⟨ad548,e548,hx548_0⟩:=Kd.at_bool (by repeat (first|(with_reducible exact HR547_0.out)|(with_reducible refine Kd.C_alloc ?_ _)|(with_reducible refine Kd.C_drewN ?_ _)|(with_reducible refine Kd.C_drew ?_)|exact HR547_0.out)) x40_3 p548 q548
       (try rw [←Nbq27.out] at hx548_0)
       cases e548
       replace p548:=eq_true p548
       replace q548:=eq_true q548
       try go_wp2
       replace HO_5:=Aside0.mk (Kd.S_drew HO_5.out)
       replace HO_6:=Aside0.mk (Kd.R_drew HO_6.out)
       replace HL547_0:=Aside0.mk (Kd.R_drew HL547_0.out)
       replace BK544:=Aside0.mk (blk_drew BK544.out)
       replace HR547_0:=Aside0.mk (Kd.C_drew HR547_0.out)
       replace HB:=Aside0.mk (below_drew1 HB.out)
       have p549:0≤(x23_2:Int):=of_decide_eq_true za
       have q549:x23_2<(x6_3.length:Int):=of_decide_eq_true za
       obtain ⟨ad549,e549,hx549_0⟩:=Kd.at_int (Kd.R_reads' HO_6.out).2.2 x23_2 p549 q549
       obtain rfl:(⟨go15,0,none⟩:Addr)=ad549:=(by injection e549)
       (first|simp only [add_plain] at hx549_0|simp only [add_at] at hx549_0|simp only [Addr.add,Nat.zero_add] at hx549_0|skip)
       replace p549:=eq_true p549
       replace q549:=eq_true q549
       have p550:0≤(x40_3:Int):=of_decide_eq_true za
       have q550:x40_3<(x6_3.length:Int):=of_decide_eq_true za
       obtain ⟨ad550,e550,hx550_0⟩:=Kd.at_int (Kd.R_reads' HO_6.out).2.2 x40_3 p550 q550
       obtain rfl:(⟨go15,0,none⟩:Addr)=ad550:=(by injection e550)
       (first|simp only [add_plain] at hx550_0|simp only [add_at] at hx550_0|simp only [Addr.add,Nat.zero_add] at hx550_0|skip)
       replace p550:=eq_true p550
       replace q550:=eq_true q550
       have p32:0≤(x23_2:Int):=of_decide_eq_true za
       have q32:(x23_2:Int)<((x6_3.length:Int):Int):=of_decide_eq_true za
       obtain ⟨hx32_0,hf32_0⟩:=Kd.R_celln 0 HO_6.out (x23_2:Int) p32 q32
       replace p32:=eq_true p32
       replace q32:=eq_true q32
       have HP35:=Kd.R_putn HO_6.out (x23_2:Int) ji31
       rw [←Ny551.out] at HP35
       have HQ35:=Aside0.mk HP35
       clear HP35
       refine start_ (n:=16) (S:=fun w'=>w'.cell? ⟨gb544,0,none⟩=some (.int .i64 ((rd_T76 l0 x23_2).f0))∧w'.cell? ⟨gb544,1,none⟩=some (.int .i64 ((rd_T76 l0 x23_2).f1))∧w'.cell? ⟨gb544,2,none⟩=some (.int .i64 ((rd_T76 l0 x23_2).f2))∧w'.cell? ⟨gb544,3,none⟩=some (.int .i64 ((rd_T76 l0 x23_2).f3))∧w'.cell? ⟨go15,(x23_2).toNat,none⟩=some (.int .i64 (rd x6_3 x23_2))∧w'.cell? ⟨go15,(x40_3).toNat,none⟩=some (.int .i64 (rd x6_3 x40_3))) (ds:=[15]) #[false,false,false,false,false,false,false,false,false,false,false,false,false,false,false,false] (by kernel_rfl) rfl rfl ⟨(blk_cell BK544.out 0).trans rfl,(blk_cell BK544.out 1).trans rfl,(blk_cell BK544.out 2).trans rfl,(blk_cell BK544.out 3).trans rfl,hx549_0,hx550_0⟩ (fun hHeld=>?_);refine with_tabW impl_tailsOf.tab13 impl_tailsOf.bits13 (fun HT_ HW_=>?_)
       generalize wr.drew=w34 at HO_5 HO_6 HL547_0 BK544 HR547_0 HB HQ35 hf32_0 hx32_0 hx549_0 hx550_0 hHeld ⊢
       refine pu_ 0 50 ?_
       refine pu_ 1 51 ?_
       refine pu_ 2 52 ?_
       refine pu_ 3 53 ?_
       refine pu_ 4 54 ?_
       refine pu_ 6 56 ?_
       refine pu_ 8 58 ?_
       refine pu_ 9 59 ?_
       refine pu_ 10 60 ?_
       refine tk_ 5 55 hHeld ?_
       refine tk_ 7 57 hHeld ?_
       refine tk_ 11 61 hHeld ?_
       refine pu_ 12 62 ?_
       refine pu_ 13 63 ?_
       refine pu_ 14 64 ?_
       refine last_ (i:=15) (N:=none) #[true,true,true,true,true,true,true,true,true,true,true,true,true,true,true,true] rfl rfl (one_of HT_.out (by kernel_rfl)) (by decide) (fun K hK=>?_)
       refine skip_ (w1:=?_) (by rfl) rfl ?_ ?_
       rotate_left
       ·go_simp
        rfl
       refine hK.out _ _ ?_
       clear hK K
       refine done_ (done_of HT_.out (by kernel_rfl)) ?_
       try go_wp2
       (try simp only [←hl6_3])
       go_roundg k3
       case measure=>have:=HK1.out;have:=HK2.out;have:=HK3.out;omega
       case rel=>exact ⟨(y551),(wrap64 (x40_3 + 1)),zo,H',⟨by have:=HK1.out;have:=HK2.out;have:=HK3.out;omega⟩,⟨by (try simp only [hl6_3]);(with_reducible repeat (first|apply Kd.S_alloc|apply Kd.S_drewN|apply Kd.S_drew));exact Kd.S_mono (Kd.S_far (p:=⟨go15,(x23_2:Int).toNat,none⟩) (Kd.S_types HO_5.out (Kd.R_typed HO_6.out _ rfl).choose_spec (by decide)) (fun _ hk=>hk.2) (.int .i64 ji31)) (fun _ hk=>trivial)⟩,⟨by (try simp only [hl6_3]);(with_reducible repeat (first|apply Kd.R_alloc|apply Kd.R_drewN|apply Kd.R_drew));exact HQ35.out⟩,⟨by (try simp only [hl6_3]);(with_reducible repeat (first|refine blk_drewN ?_ _|refine blk_drew ?_|refine blk_alloc ?_ _));refine blk_far ?_ (by have h_:=Kd.R_ne HO_6.out BK544.out (by decide);intro e_;exact h_ (by rw [e_];rfl)) _;(with_reducible repeat (first|refine blk_drewN ?_ _|refine blk_drew ?_|refine blk_alloc ?_ _));exact BK544.out⟩,⟨by repeat (first|(with_reducible first|exact HB.out|apply below_alloc|apply pw_below_drewN|apply below_drew1|refine below_set ?_ GB15.out|refine below_set ?_ GE544.out)|exact HB.out)⟩⟩

end Go.Proofs.Ytbcfmegepkhlpaa.XFnShared
-- minified
