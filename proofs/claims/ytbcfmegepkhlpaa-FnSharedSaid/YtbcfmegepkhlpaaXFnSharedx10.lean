-- Written by a program of this session (the kit's print, widened). Proved here: what each function answers, for the arguments that its contract names.
import Derived.Test.YtbcfmegepkhlpaaXFnSharedx0
import Derived.Test.YtbcfmegepkhlpaaXFnSharedx6
import Derived.Test.YtbcfmegepkhlpaaXFnSharedx7
import Derived.Test.YtbcfmegepkhlpaaXFnSharedx9
namespace Go.Proofs.Ytbcfmegepkhlpaa.XFnShared
open Go.RowKit Go.Proofs.YtbcfmegepkhlpaaW.PrintWords Go.Proofs.YtbcfmegepkhlpaaW.PrintLast Go.Proofs.YtbcfmegepkhlpaaW.PrintMore
attribute [local go_sem] max2_int min2_int max_two min_two max_three min_three max_four min_four   -- for this text's walks alone
attribute [local go_sem] idxA_72_0 idxA_72_1 fldS_96_0 fldS_96_1 fldS_96_2 fldS_111_0 fldS_111_1 fldS_111_2
set_option linter.unusedVariables false
set_option linter.unusedSimpArgs false

/-! ### spec_DrawIsShared: function 39 -/
def spec_DrawIsShared.f (k:Nat) (l0:List Int):Option ((List (S76)) × Int × (List (List (S116)))):=(spec_l1Cur_work7.f k l0 0 0).bind fun bt368=>((spec_l1Cur_machines.f l0 bt368.2.1 bt368.2.2).bind fun bt373=>((spec_WrapAround.f k bt368.1 bt373.1).bind fun bt376=>(if bt376.2=true then ((spec_l1Cur_pick.f l0 bt373.2.1 bt373.2.2 (bt376.1.length:Int)).bind fun bt386=>((spec_l1Cur_pick.f l0 bt386.2.1 bt386.2.2 8).bind fun bt389=>(if bt389.1=0 then (if bt376.1.length<5864062014805 then (some (bt368.1,bt373.1,(bt376.1++[(([]:List (S116)))]))) else (none)) else (if bt389.1=1 then (if 0≤bt386.1 then (if bt386.1<(bt376.1.length:Int) then (if ((rd_L7 bt376.1 bt386.1).length:Int)>0 then (if 0<((rd_L7 bt376.1 bt386.1).length:Int) then ((spec_l1Cur_pick.f l0 bt389.2.1 bt389.2.2 3).bind fun bt402=>(some (bt368.1,bt373.1,(bt376.1.set (bt386.1:Int).toNat ((rd_L7 bt376.1 bt386.1).set (0:Int).toNat (⟨(rd_T116 (rd_L7 bt376.1 bt386.1) 0).f0,wrap64 ((wrap64 (((rd_T116 (rd_L7 bt376.1 bt386.1) 0).f1) + bt402.1)) - 1),(rd_T116 (rd_L7 bt376.1 bt386.1) 0).f2⟩:S116)))))) else (none)) else (some (bt368.1,bt373.1,bt376.1))) else (none)) else (none)) else (if bt389.1=2 then (if 0≤bt386.1 then (if bt386.1<(bt376.1.length:Int) then (if ((rd_L7 bt376.1 bt386.1).length:Int)>0 then (if 0≤(wrap64 (((rd_L7 bt376.1 bt386.1).length:Int) - 1)) then (if (wrap64 (((rd_L7 bt376.1 bt386.1).length:Int) - 1))<((rd_L7 bt376.1 bt386.1).length:Int) then ((some (bt376.1.set (bt386.1:Int).toNat ((rd_L7 bt376.1 bt386.1).set ((wrap64 (((rd_L7 bt376.1 bt386.1).length:Int) - 1)):Int).toNat (⟨(rd_T116 (rd_L7 bt376.1 bt386.1) (wrap64 (((rd_L7 bt376.1 bt386.1).length:Int) - 1))).f0,wrap64 (((rd_T116 (rd_L7 bt376.1 bt386.1) (wrap64 (((rd_L7 bt376.1 bt386.1).length:Int) - 1))).f1) + 3),(rd_T116 (rd_L7 bt376.1 bt386.1) (wrap64 (((rd_L7 bt376.1 bt386.1).length:Int) - 1))).f2⟩:S116)):List (List (S116)))).bind fun y415=>(if (wrap64 (((rd_L7 bt376.1 bt386.1).length:Int) - 1))<((rd_L7 y415 bt386.1).length:Int) then (some (bt368.1,bt373.1,(y415.set (bt386.1:Int).toNat ((rd_L7 y415 bt386.1).set ((wrap64 (((rd_L7 bt376.1 bt386.1).length:Int) - 1)):Int).toNat (⟨(rd_T116 (rd_L7 y415 bt386.1) (wrap64 (((rd_L7 bt376.1 bt386.1).length:Int) - 1))).f0,(rd_T116 (rd_L7 y415 bt386.1) (wrap64 (((rd_L7 bt376.1 bt386.1).length:Int) - 1))).f1,wrap64 (((rd_T116 (rd_L7 y415 bt386.1) (wrap64 (((rd_L7 bt376.1 bt386.1).length:Int) - 1))).f2) + 3)⟩:S116))))) else (none))) else (none)) else (none)) else (some (bt368.1,bt373.1,bt376.1))) else (none)) else (none)) else (if bt389.1=3 then (if 0≤bt386.1 then (if bt386.1<(bt376.1.length:Int) then (if ((rd_L7 bt376.1 bt386.1).length:Int)>0 then ((spec_l1Cur_pick.f l0 bt389.2.1 bt389.2.2 (wrap64 ((bt368.1.length:Int) + 2))).bind fun bt424=>(if 0<((rd_L7 bt376.1 bt386.1).length:Int) then (some (bt368.1,bt373.1,(bt376.1.set (bt386.1:Int).toNat ((rd_L7 bt376.1 bt386.1).set (0:Int).toNat (⟨wrap64 (bt424.1 - 1),(rd_T116 (rd_L7 bt376.1 bt386.1) 0).f1,(rd_T116 (rd_L7 bt376.1 bt386.1) 0).f2⟩:S116))))) else (none))) else (some (bt368.1,bt373.1,bt376.1))) else (none)) else (none)) else (some (bt368.1,bt373.1,bt376.1)))))))) else (some (bt368.1,bt373.1,(([([]:List (S116))]:List (List (S116)))))))))
theorem spec_DrawIsShared.mono:∀ a0 k,LeO (spec_DrawIsShared.f k a0) (spec_DrawIsShared.f (k + 1) a0):=by
 intro a0 k
 unfold spec_DrawIsShared.f
 repeat' first|(with_reducible first|exact spec_WrapAround.mono _ _ _|exact spec_l1Cur_work7.mono _ _ _ _|exact LeO.refl _|exact LeO.none _|refine LeO.ite ?_ ?_|refine LeO.bind ?_ (fun _=>?_))|exact spec_WrapAround.mono _ _ _|exact spec_l1Cur_work7.mono _ _ _ _|exact LeO.none _|refine LeO.ite ?_ ?_|refine LeO.bind ?_ (fun _=>?_)
def spec_DrawIsShared.T12:Bool × List (List Nat × List Nat):=(true,[([],[]),([],[]),([0,1],[0,1]),([2],[2]),([],[]),([],[]),([4,5],[4,5]),([6],[6]),([7],[7]),([8],[8]),([9],[9]),([],[]),([11],[11]),([10,12],[10,12]),([13],[13]),([3,0,1,2,3,4,5,6,7,8,9,10,11,12,13,14],[3]),([15,0,1,2,3,4,5,6,7,8,9,10,11,12,13,14],[15]),([16,14,12,0,1,2,3,4,5,6,7,8,9,10,11,12,13,14],[14,16])])
def spec_DrawIsShared.B12:List Nat:=[0,0,3,7,0,0,48,112,240,496,1008,0,2048,8176,16368,32767,65535,131071]
theorem spec_DrawIsShared.tab12:rtab .any (opsOf Try.f39 12)=spec_DrawIsShared.T12:=by kernel_rfl
theorem spec_DrawIsShared.bits12:waitsOk spec_DrawIsShared.T12.2 spec_DrawIsShared.B12=true:=by kernel_rfl
def spec_DrawIsShared.T16:Bool × List (List Nat × List Nat):=(true,[([],[]),([],[]),([0,1],[0,1]),([2],[2]),([],[]),([],[]),([],[]),([5,6],[5,6]),([7],[7]),([],[]),([8,9],[8,9]),([10],[10]),([11],[11]),([12],[12]),([3,4,0,1,2,3,4,5,6,7,8,9,10,11,12,13],[3,4]),([14,0,1,2,3,4,5,6,7,8,9,10,11,12,13],[14]),([15,13,0,1,2,3,4,5,6,7,8,9,10,11,12,13],[13,15])])
def spec_DrawIsShared.B16:List Nat:=[0,0,3,7,0,0,0,96,224,0,992,2016,4064,8160,16383,32767,65535]
theorem spec_DrawIsShared.tab16:rtab .any (opsOf Try.f39 16)=spec_DrawIsShared.T16:=by kernel_rfl
theorem spec_DrawIsShared.bits16:waitsOk spec_DrawIsShared.T16.2 spec_DrawIsShared.B16=true:=by kernel_rfl
def spec_DrawIsShared.T17:Bool × List (List Nat × List Nat):=(true,[([],[]),([],[]),([0,1],[0,1]),([2],[2]),([],[]),([],[]),([],[]),([5,6],[5,6]),([7],[7]),([],[]),([8,9],[8,9]),([10],[10]),([11],[11]),([12],[12]),([3,4,0,1,2,3,4,5,6,7,8,9,10,11,12,13],[3,4]),([14,0,1,2,3,4,5,6,7,8,9,10,11,12,13],[14]),([15,13,0,1,2,3,4,5,6,7,8,9,10,11,12,13],[13,15])])
def spec_DrawIsShared.B17:List Nat:=[0,0,3,7,0,0,0,96,224,0,992,2016,4064,8160,16383,32767,65535]
theorem spec_DrawIsShared.tab17:rtab .any (opsOf Try.f39 17)=spec_DrawIsShared.T17:=by kernel_rfl
theorem spec_DrawIsShared.bits17:waitsOk spec_DrawIsShared.T17.2 spec_DrawIsShared.B17=true:=by kernel_rfl
def spec_DrawIsShared.T20:Bool × List (List Nat × List Nat):=(true,[([],[]),([],[]),([0,1],[0,1]),([2],[2]),([],[]),([],[]),([5],[5]),([6],[6]),([4,7],[4,7]),([8],[8]),([3,0,1,2,3,4,5,6,7,8,9],[3]),([10,0,1,2,3,4,5,6,7,8,9],[10]),([11,9,8,0,1,2,3,4,5,6,7,8,9],[9,11])])
def spec_DrawIsShared.B20:List Nat:=[0,0,3,7,0,0,32,96,240,496,1023,2047,4095]
theorem spec_DrawIsShared.tab20:rtab .any (opsOf Try.f39 20)=spec_DrawIsShared.T20:=by kernel_rfl
theorem spec_DrawIsShared.bits20:waitsOk spec_DrawIsShared.T20.2 spec_DrawIsShared.B20=true:=by kernel_rfl
set_option maxHeartbeats 8000000 in
set_option maxRecDepth 100000 in
theorem spec_DrawIsShared.calls (k:Nat) (A0:Option Addr) (c0:Nat) (l0:List Int) (r1:List (S76)) (r2:Int) (r3:List (List (S116))) (w:World) (hr0:Kd.C (Kd.int .u8) w A0 l0.length l0) (hc0:l0.length≤c0) (h:spec_DrawIsShared.f k l0=some (r1,r2,r3)) :
  Calls Try.prog 39 #[.slice A0 l0.length c0] w fun e w'=>∃ v0_ v2_:Value,e=.returned (.tuple #[v0_,.int .i64 r2,v2_])∧Kd.R k76 76 w' w.heap.size (fun _=>True) v0_ r1∧Kd.S (Kd.slice 116 k116) 65 w' w.heap.size (fun _=>True) v2_ r3∧Below w.heap.size w w':=by
 have hu111:=Try.underlying111
 have HR0:=Aside0.mk hr0
 have HC0:=Aside0.mk hc0
 clear hr0 hc0
 have HB:=Aside0.mk (Below.refl w.heap.size w)
 have H:((spec_l1Cur_work7.f k l0 0 0).bind fun bt368=>((spec_l1Cur_machines.f l0 bt368.2.1 bt368.2.2).bind fun bt373=>((spec_WrapAround.f k bt368.1 bt373.1).bind fun bt376=>(if bt376.2=true then ((spec_l1Cur_pick.f l0 bt373.2.1 bt373.2.2 (bt376.1.length:Int)).bind fun bt386=>((spec_l1Cur_pick.f l0 bt386.2.1 bt386.2.2 8).bind fun bt389=>(if bt389.1=0 then (if bt376.1.length<5864062014805 then (some (bt368.1,bt373.1,(bt376.1++[(([]:List (S116)))]))) else (none)) else (if bt389.1=1 then (if 0≤bt386.1 then (if bt386.1<(bt376.1.length:Int) then (if ((rd_L7 bt376.1 bt386.1).length:Int)>0 then (if 0<((rd_L7 bt376.1 bt386.1).length:Int) then ((spec_l1Cur_pick.f l0 bt389.2.1 bt389.2.2 3).bind fun bt402=>(some (bt368.1,bt373.1,(bt376.1.set (bt386.1:Int).toNat ((rd_L7 bt376.1 bt386.1).set (0:Int).toNat (⟨(rd_T116 (rd_L7 bt376.1 bt386.1) 0).f0,wrap64 ((wrap64 (((rd_T116 (rd_L7 bt376.1 bt386.1) 0).f1) + bt402.1)) - 1),(rd_T116 (rd_L7 bt376.1 bt386.1) 0).f2⟩:S116)))))) else (none)) else (some (bt368.1,bt373.1,bt376.1))) else (none)) else (none)) else (if bt389.1=2 then (if 0≤bt386.1 then (if bt386.1<(bt376.1.length:Int) then (if ((rd_L7 bt376.1 bt386.1).length:Int)>0 then (if 0≤(wrap64 (((rd_L7 bt376.1 bt386.1).length:Int) - 1)) then (if (wrap64 (((rd_L7 bt376.1 bt386.1).length:Int) - 1))<((rd_L7 bt376.1 bt386.1).length:Int) then ((some (bt376.1.set (bt386.1:Int).toNat ((rd_L7 bt376.1 bt386.1).set ((wrap64 (((rd_L7 bt376.1 bt386.1).length:Int) - 1)):Int).toNat (⟨(rd_T116 (rd_L7 bt376.1 bt386.1) (wrap64 (((rd_L7 bt376.1 bt386.1).length:Int) - 1))).f0,wrap64 (((rd_T116 (rd_L7 bt376.1 bt386.1) (wrap64 (((rd_L7 bt376.1 bt386.1).length:Int) - 1))).f1) + 3),(rd_T116 (rd_L7 bt376.1 bt386.1) (wrap64 (((rd_L7 bt376.1 bt386.1).length:Int) - 1))).f2⟩:S116)):List (List (S116)))).bind fun y415=>(if (wrap64 (((rd_L7 bt376.1 bt386.1).length:Int) - 1))<((rd_L7 y415 bt386.1).length:Int) then (some (bt368.1,bt373.1,(y415.set (bt386.1:Int).toNat ((rd_L7 y415 bt386.1).set ((wrap64 (((rd_L7 bt376.1 bt386.1).length:Int) - 1)):Int).toNat (⟨(rd_T116 (rd_L7 y415 bt386.1) (wrap64 (((rd_L7 bt376.1 bt386.1).length:Int) - 1))).f0,(rd_T116 (rd_L7 y415 bt386.1) (wrap64 (((rd_L7 bt376.1 bt386.1).length:Int) - 1))).f1,wrap64 (((rd_T116 (rd_L7 y415 bt386.1) (wrap64 (((rd_L7 bt376.1 bt386.1).length:Int) - 1))).f2) + 3)⟩:S116))))) else (none))) else (none)) else (none)) else (some (bt368.1,bt373.1,bt376.1))) else (none)) else (none)) else (if bt389.1=3 then (if 0≤bt386.1 then (if bt386.1<(bt376.1.length:Int) then (if ((rd_L7 bt376.1 bt386.1).length:Int)>0 then ((spec_l1Cur_pick.f l0 bt389.2.1 bt389.2.2 (wrap64 ((bt368.1.length:Int) + 2))).bind fun bt424=>(if 0<((rd_L7 bt376.1 bt386.1).length:Int) then (some (bt368.1,bt373.1,(bt376.1.set (bt386.1:Int).toNat ((rd_L7 bt376.1 bt386.1).set (0:Int).toNat (⟨wrap64 (bt424.1 - 1),(rd_T116 (rd_L7 bt376.1 bt386.1) 0).f1,(rd_T116 (rd_L7 bt376.1 bt386.1) 0).f2⟩:S116))))) else (none))) else (some (bt368.1,bt373.1,bt376.1))) else (none)) else (none)) else (some (bt368.1,bt373.1,bt376.1)))))))) else (some (bt368.1,bt373.1,(([([]:List (S116))]:List (List (S116))))))))))=some (r1,r2,r3):=h
 clear h
 replace H:=Option.bind_eq_some_iff.mp H
 obtain ⟨⟨t368,t371,t372⟩,A20,H⟩:=H
 try dsimp only at H
 have A2:=Aside0.mk A20
 clear A20
 replace H:=Option.bind_eq_some_iff.mp H
 obtain ⟨⟨t373,t374,t375⟩,A30,H⟩:=H
 try dsimp only at H
 have A3:=Aside0.mk A30
 clear A30
 replace H:=Option.bind_eq_some_iff.mp H
 obtain ⟨⟨t376,t377⟩,A40,H⟩:=H
 try dsimp only at H
 have A4:=Aside0.mk A40
 clear A40
 by_cases c5:t377=true
 rotate_left
 ·replace c5:=Bool.eq_false_iff.mpr c5
  subst c5
  rw [if_neg (show ¬ (false=true) by decide)] at H
  obtain ⟨y380,hy380⟩:∃ y_:List (S116),y_=(([]:List (S116))):=⟨_,rfl⟩
  replace H:(some (t368,t373,(([([]:List (S116))]:List (List (S116))))))=some (r1,r2,r3):=by first|(rw [hy380];with_reducible exact H)|(have H2_:=(Option.bind_some _ _).symm.trans H;rw [hy380];with_reducible exact H2_)|(have H2_:=(Option.bind_some _ _).symm.trans H;with_reducible exact H2_)|with_reducible exact H|(rw [hy380];exact H)|exact H
  have Ny380:=Aside0.mk hy380
  clear hy380
  obtain ⟨y383,hy383⟩:∃ y_:List (List (S116)),y_=(([([]:List (S116))]:List (List (S116)))):=⟨_,rfl⟩
  replace H:(some (t368,t373,y383))=some (r1,r2,r3):=by first|(rw [hy383];with_reducible exact H)|(have H2_:=(Option.bind_some _ _).symm.trans H;rw [hy383];with_reducible exact H2_)|(have H2_:=(Option.bind_some _ _).symm.trans H;with_reducible exact H2_)|with_reducible exact H|(rw [hy383];exact H)|exact H
  have Ny383:=Aside0.mk hy383
  clear hy383
  simp only [Option.some.injEq,Prod.mk.injEq] at H
  obtain ⟨rfl,rfl,rfl⟩:=H
  go_enter Try.func39,Try.ntmps39
  go_wp2_with (first|((with_reducible refine gate_dst (N:=14) rfl ?_);refine box_event ?hg (N:=14) ?hd (cs:=#[.slice A0 l0.length c0,.int .i64 0,.int .u64 0]) (t:=111) ?hr ?_;(case hd=>rfl);(case hg=>rfl);(case hr=>first|(go_simp;done)|(go_simp;rfl));intro gb367 hg w117 hbox hb;have n0_:=zb1 hb;have n1_:=Aside0.mk ((by rw [hg];exact (below_size zb):w.heap.size≤gb367));have n2_:=Aside0.mk ((by rw [hg];exact (below_size zb):w.heap.size≤gb367));have n3_:=Aside0.mk ((show IsS111 w _ gb367 l0 0 0 from ⟨_,_,hbox,(by rw [hg];exact (below_size zb):w.heap.size≤gb367),HR0.out⟩));clear HB;have HB:=n0_;have GW367:=n1_;have GE367:=n2_;have HI367:=n3_;clear n0_ n1_ n2_ n3_;clear hb hbox hg)|((with_reducible refine gate_callee (f:=85) rfl ?_);refine zgo 16 Try.func85 #[.pointer (some ⟨gb367,0,none⟩)] ?_;(with_reducible refine (spec_l1Cur_work7.calls k gb367 l0 0 0 t368 t371 t372 w _ ?side1 ?side2 A2.out).mono ?_);(case side1=>exact zz5);(case side2=>exact zz4);rintro e w118 ⟨v369,rfl,ho0,hi,hb,hk⟩;refine ⟨_,rfl,?_⟩;have HO370:=Aside0.mk (Kd.R_lower ho0 (below_size zz4));replace HB:=Aside0.mk (hb);replace HI367:=Aside0.mk (hi);(try clear hb);(try clear hk);(try clear hi);(try clear ho0))|((with_reducible refine gate_callee (f:=86) rfl ?_);refine zgo 18 Try.func86 #[.pointer (some ⟨gb367,0,none⟩)] ?_;(with_reducible refine (spec_l1Cur_machines.calls gb367 l0 t371 t372 t373 t374 t375 w _ ?side1 ?side2 A3.out).mono ?_);(case side1=>exact zz5);(case side2=>exact zz4);rintro e w119 ⟨rfl,hi,hb,hk⟩;refine ⟨_,rfl,?_⟩;replace HO370:=Aside0.mk (Kd.R_mono (Kd.R_keep (IsS111.apart (show IsS111 w _ gb367 l0 t371 t372 from by repeat (first|(with_reducible first|exact HI367.out|apply IsS111.alloc|apply IsS111.drewN|apply IsS111.drew|apply IsS111.set_1|apply IsS111.set_2)|exact HI367.out)) (zR HO370.out) (by decide)) hk (fun _ h=>h.2)) (fun _ h=>h.1));replace HB:=Aside0.mk (hb);replace HI367:=Aside0.mk (hi);(try clear hb);(try clear hk);(try clear hi);obtain ⟨Ao120,co120,eo120⟩:=Kd.R_slice HO370.out;subst eo120)|((with_reducible refine gate_callee (f:=43) rfl ?_);refine zgo 22 Try.func43 #[.slice Ao120 t368.length co120,.int .i64 t373] ?_;(with_reducible refine (spec_WrapAround.calls k _ _ t368 t373 t376 false _ ?side1 ?side2 A4.out).mono ?_);(case side1=>exact zC ((Kd.R_reads' HO370.out).2.2));(case side2=>exact (Kd.R_reads' HO370.out).2.1);rintro e w121 ⟨v378,rfl,ho0,hb⟩;refine ⟨_,rfl,?_⟩;have n0_:=zRb HO370 hb;have n1_:=Aside0.mk (Kd.S_lower ho0 (below_size zz4));have n2_:=Aside0.mk (IsS111.below zz5 hb);have n3_:=Aside0.mk (below_step zz4 hb);clear HO370;clear HI367;clear HB;have HO370:=n0_;have HO379:=n1_;have HI367:=n2_;have HB:=n3_;clear n0_ n1_ n2_ n3_;(try clear hb);(try clear ho0))|((with_reducible refine gate_dst (N:=29) rfl ?_);refine Kd.R_lit k116 _ 116 ?hg (N:=29) ?hd (xs:=([]:List (S116))) (inner:=[]) (ok:=fun _=>True) (okp:=fun _=>True) ?hr ?hp (fun _ hk=>hk) trivial (Below.refl _ _) (Nat.le_refl _) (by simp) ?_;(case hd=>rfl);(case hg=>rfl);(case hr=>first|(go_simp;done)|(go_simp;rfl));(case hp=>exact (Reps.none _ _));intro v381 w122 ho123 hb hg_ hnew_;clear hg_ hnew_;(first|rw [←Ny380.out] at ho123|(simp only [Int.reduceToNat] at ho123;rw [←Ny380.out] at ho123));have n0_:=zRb HO370 hb;have n1_:=Aside0.mk (Kd.S_elder' (zS HO379.out) (Kd.R_base ho123) hb);have n2_:=Aside0.mk (Kd.R_lower ho123 (below_size zz4));have n3_:=Aside0.mk (IsS111.below zz5 hb);have n4_:=Aside0.mk (below_step zz4 hb);clear HO370;clear HO379;clear HI367;clear HB;have HO370:=n0_;have HO379:=n1_;have HO382:=n2_;have HI367:=n3_;have HB:=n4_;clear n0_ n1_ n2_ n3_ n4_;clear hb ho123)|((with_reducible refine gate_dst (N:=30) rfl ?_);obtain ⟨Az_,cz_,ez_⟩:=Kd.R_slice HO382.out;subst ez_;refine Kd.S_lits (Kd.slice 116 k116) w.heap.size 65 ?hg (N:=30) ?hd (xs:=[y380]) (inner:=[.slice Az_ y380.length cz_]) (ok:=fun _=>True) (fun j_ _=>j_=0) ?hr rfl ?hp (fun _ _ _ h1_ h2_=>h1_.trans h2_.symm) (fun _ _ _=>trivial) trivial (Below.refl _ _) ?hs (by simp) ?_;(case hd=>rfl);(case hg=>rfl);(case hr=>first|(go_simp;done)|(go_simp;rfl));(case hp=>(intro j_ x_ hx_;rcases j_ with _|j_;(have hx2_:=Option.some.inj hx_;subst hx2_;exact ⟨_,rfl,Kd.R_mono HO382.out (fun _ _=>rfl)⟩);(simp at hx_)));(case hs=>exact below_size zz4);intro v384 w124 ho125 hb0_ hg_ hnew_;have hb:=(⟨hg_.os,hg_.tape,hg_.output,hg_.size,fun k_ hk_=>hg_.block k_ hk_ (by simp)⟩:Below _ _ w124);clear hb0_ hg_ hnew_;rw [show ([y380]:List (List S116))=y383 from by rw [Ny383.out,Ny380.out]] at ho125;have n0_:=zRb HO370 hb;have n3_:=Aside0.mk ho125;have n4_:=Aside0.mk (IsS111.below zz5 hb);have n5_:=Aside0.mk (below_step zz4 hb);clear HO370 HO379 HO382 HI367 HB;have HO370:=n0_;have HO385:=n3_;have HI367:=n4_;have HB:=n5_;clear n0_ n3_ n4_ n5_;clear hb ho125))
  go_ret3
  exact ⟨_,_,zz1,zR HO370.out,zS (Kd.S_mono HO385.out (fun _ hk=>trivial)),zz4⟩
 subst c5
 rw [if_pos rfl] at H
 replace H:=Option.bind_eq_some_iff.mp H
 obtain ⟨⟨t386,t387,t388⟩,A60,H⟩:=H
 try dsimp only at H
 have A6:=Aside0.mk A60
 clear A60
 replace H:=Option.bind_eq_some_iff.mp H
 obtain ⟨⟨t389,t390,t391⟩,A70,H⟩:=H
 try dsimp only at H
 have A7:=Aside0.mk A70
 clear A70
 by_cases c8:t389=0
 ·rw [if_pos c8] at H
  have c8b0:(t389 == 0)=true:=beq_iff_eq.mpr c8
  have c8b1:(t389 != 0)=false:=bne_eq_false_iff_eq.mpr c8
  clear c8
  obtain ⟨y392,hy392⟩:∃ y_:List (S116),y_=(([]:List (S116))):=⟨_,rfl⟩
  replace H:(if t376.length<5864062014805 then (some (t368,t373,(t376++[y392]))) else (none))=some (r1,r2,r3):=by first|(rw [hy392];with_reducible exact H)|(have H2_:=(Option.bind_some _ _).symm.trans H;rw [hy392];with_reducible exact H2_)|(have H2_:=(Option.bind_some _ _).symm.trans H;with_reducible exact H2_)|with_reducible exact H|(rw [hy392];exact H)|exact H
  have Ny392:=Aside0.mk hy392
  clear hy392
  by_cases c9:t376.length<5864062014805
  rotate_left
  ·rw [if_neg c9] at H
   exact absurd H (by simp)
  rw [if_pos c9] at H
  have LMc9:=Aside0.mk c9
  clear c9
  obtain ⟨y395,hy395⟩:∃ y_:List (List (S116)),y_=(t376++[y392]):=⟨_,rfl⟩
  replace H:(some (t368,t373,y395))=some (r1,r2,r3):=by first|(rw [hy395];with_reducible exact H)|(have H2_:=(Option.bind_some _ _).symm.trans H;rw [hy395];with_reducible exact H2_)|(have H2_:=(Option.bind_some _ _).symm.trans H;with_reducible exact H2_)|with_reducible exact H|(rw [hy395];exact H)|exact H
  have Ny395:=Aside0.mk hy395
  clear hy395
  simp only [Option.some.injEq,Prod.mk.injEq] at H
  obtain ⟨rfl,rfl,rfl⟩:=H
  go_enter Try.func39,Try.ntmps39
  go_wp2_with (first|((with_reducible refine gate_dst (N:=14) rfl ?_);refine box_event ?hg (N:=14) ?hd (cs:=#[.slice A0 l0.length c0,.int .i64 0,.int .u64 0]) (t:=111) ?hr ?_;(case hd=>rfl);(case hg=>rfl);(case hr=>first|(go_simp;done)|(go_simp;rfl));intro gb367 hg w10 hbox hb;have n0_:=zb1 hb;have n1_:=Aside0.mk ((by rw [hg];exact (below_size zb):w.heap.size≤gb367));have n2_:=Aside0.mk ((by rw [hg];exact (below_size zb):w.heap.size≤gb367));have n3_:=Aside0.mk ((show IsS111 w _ gb367 l0 0 0 from ⟨_,_,hbox,(by rw [hg];exact (below_size zb):w.heap.size≤gb367),HR0.out⟩));clear HB;have HB:=n0_;have GW367:=n1_;have GE367:=n2_;have HI367:=n3_;clear n0_ n1_ n2_ n3_;clear hb hbox hg)|((with_reducible refine gate_callee (f:=85) rfl ?_);refine zgo 16 Try.func85 #[.pointer (some ⟨gb367,0,none⟩)] ?_;(with_reducible refine (spec_l1Cur_work7.calls k gb367 l0 0 0 t368 t371 t372 w _ ?side1 ?side2 A2.out).mono ?_);(case side1=>exact zz5);(case side2=>exact zz4);rintro e w11 ⟨v369,rfl,ho0,hi,hb,hk⟩;refine ⟨_,rfl,?_⟩;have HO370:=Aside0.mk (Kd.R_lower ho0 (below_size zz4));replace HB:=Aside0.mk (hb);replace HI367:=Aside0.mk (hi);(try clear hb);(try clear hk);(try clear hi);(try clear ho0))|((with_reducible refine gate_callee (f:=86) rfl ?_);refine zgo 18 Try.func86 #[.pointer (some ⟨gb367,0,none⟩)] ?_;(with_reducible refine (spec_l1Cur_machines.calls gb367 l0 t371 t372 t373 t374 t375 w _ ?side1 ?side2 A3.out).mono ?_);(case side1=>exact zz5);(case side2=>exact zz4);rintro e w12 ⟨rfl,hi,hb,hk⟩;refine ⟨_,rfl,?_⟩;replace HO370:=Aside0.mk (Kd.R_mono (Kd.R_keep (IsS111.apart (show IsS111 w _ gb367 l0 t371 t372 from by repeat (first|(with_reducible first|exact HI367.out|apply IsS111.alloc|apply IsS111.drewN|apply IsS111.drew|apply IsS111.set_1|apply IsS111.set_2)|exact HI367.out)) (zR HO370.out) (by decide)) hk (fun _ h=>h.2)) (fun _ h=>h.1));replace HB:=Aside0.mk (hb);replace HI367:=Aside0.mk (hi);(try clear hb);(try clear hk);(try clear hi);obtain ⟨Ao13,co13,eo13⟩:=Kd.R_slice HO370.out;subst eo13)|((with_reducible refine gate_callee (f:=43) rfl ?_);refine zgo 22 Try.func43 #[.slice Ao13 t368.length co13,.int .i64 t373] ?_;(with_reducible refine (spec_WrapAround.calls k _ _ t368 t373 t376 true _ ?side1 ?side2 A4.out).mono ?_);(case side1=>exact zC ((Kd.R_reads' HO370.out).2.2));(case side2=>exact (Kd.R_reads' HO370.out).2.1);rintro e w14 ⟨v378,rfl,ho0,hb⟩;refine ⟨_,rfl,?_⟩;have n0_:=zRb HO370 hb;have n1_:=Aside0.mk (Kd.S_lower ho0 (below_size zz4));have n2_:=Aside0.mk (IsS111.below zz5 hb);have n3_:=Aside0.mk (below_step zz4 hb);clear HO370;clear HI367;clear HB;have HO370:=n0_;have HO379:=n1_;have HI367:=n2_;have HB:=n3_;clear n0_ n1_ n2_ n3_;(try clear hb);(try clear ho0);obtain ⟨Ao15,co15,eo15⟩:=Kd.S_slice HO379.out;subst eo15)|((with_reducible refine gate_callee (f:=87) rfl ?_);refine zgo 34 Try.func87 #[.pointer (some ⟨gb367,0,none⟩),.int .i64 (t376.length:Int)] ?_;(with_reducible refine (spec_l1Cur_pick.calls gb367 l0 t374 t375 (t376.length:Int) t386 t387 t388 w _ ?side1 ?side2 A6.out).mono ?_);(case side1=>exact zz5);(case side2=>exact zz4);rintro e w16 ⟨rfl,hi,hb,hk⟩;refine ⟨_,rfl,?_⟩;replace HO370:=Aside0.mk (Kd.R_mono (Kd.R_keep (IsS111.apart (show IsS111 w _ gb367 l0 t374 t375 from by repeat (first|(with_reducible first|exact HI367.out|apply IsS111.alloc|apply IsS111.drewN|apply IsS111.drew|apply IsS111.set_1|apply IsS111.set_2)|exact HI367.out)) (zR HO370.out) (by decide)) hk (fun _ h=>h.2)) (fun _ h=>h.1));replace HO379:=Aside0.mk (Kd.S_mono (Kd.S_keep (IsS111.apartS (show IsS111 w _ gb367 l0 t374 t375 from by repeat (first|(with_reducible first|exact HI367.out|apply IsS111.alloc|apply IsS111.drewN|apply IsS111.drew|apply IsS111.set_1|apply IsS111.set_2)|exact HI367.out)) (zS HO379.out) (by decide)) hk (fun _ h=>h.2)) (fun _ h=>h.1));replace HB:=Aside0.mk (hb);replace HI367:=Aside0.mk (hi);(try clear hb);(try clear hk);(try clear hi))|((with_reducible refine gate_callee (f:=87) rfl ?_);refine zgo 36 Try.func87 #[.pointer (some ⟨gb367,0,none⟩),.int .i64 8] ?_;(with_reducible refine (spec_l1Cur_pick.calls gb367 l0 t387 t388 8 t389 t390 t391 w _ ?side1 ?side2 A7.out).mono ?_);(case side1=>exact zz5);(case side2=>exact zz4);rintro e w17 ⟨rfl,hi,hb,hk⟩;refine ⟨_,rfl,?_⟩;replace HO370:=Aside0.mk (Kd.R_mono (Kd.R_keep (IsS111.apart (show IsS111 w _ gb367 l0 t387 t388 from by repeat (first|(with_reducible first|exact HI367.out|apply IsS111.alloc|apply IsS111.drewN|apply IsS111.drew|apply IsS111.set_1|apply IsS111.set_2)|exact HI367.out)) (zR HO370.out) (by decide)) hk (fun _ h=>h.2)) (fun _ h=>h.1));replace HO379:=Aside0.mk (Kd.S_mono (Kd.S_keep (IsS111.apartS (show IsS111 w _ gb367 l0 t387 t388 from by repeat (first|(with_reducible first|exact HI367.out|apply IsS111.alloc|apply IsS111.drewN|apply IsS111.drew|apply IsS111.set_1|apply IsS111.set_2)|exact HI367.out)) (zS HO379.out) (by decide)) hk (fun _ h=>h.2)) (fun _ h=>h.1));replace HB:=Aside0.mk (hb);replace HI367:=Aside0.mk (hi);(try clear hb);(try clear hk);(try clear hi))|((with_reducible refine gate_dst (N:=40) rfl ?_);refine Kd.R_lit k116 _ 116 ?hg (N:=40) ?hd (xs:=([]:List (S116))) (inner:=[]) (ok:=fun _=>True) (okp:=fun _=>True) ?hr ?hp (fun _ hk=>hk) trivial (Below.refl _ _) (Nat.le_refl _) (by simp) ?_;(case hd=>rfl);(case hg=>rfl);(case hr=>first|(go_simp;done)|(go_simp;rfl));(case hp=>exact (Reps.none _ _));intro v393 w18 ho19 hb hg_ hnew_;clear hg_ hnew_;(first|rw [←Ny392.out] at ho19|(simp only [Int.reduceToNat] at ho19;rw [←Ny392.out] at ho19));have n0_:=zRb HO370 hb;have n1_:=Aside0.mk (Kd.S_elder' (zS HO379.out) (Kd.R_base ho19) hb);have n2_:=Aside0.mk (Kd.R_lower ho19 (below_size zz4));have n3_:=Aside0.mk (IsS111.below zz5 hb);have n4_:=Aside0.mk (below_step zz4 hb);clear HO370;clear HO379;clear HI367;clear HB;have HO370:=n0_;have HO379:=n1_;have HO394:=n2_;have HI367:=n3_;have HB:=n4_;clear n0_ n1_ n2_ n3_ n4_;clear hb ho19;obtain ⟨Ao21,co21,eo21⟩:=Kd.R_slice HO394.out;subst eo21)|((with_reducible refine gate_builtin (b:=.append) (xs:=#[.tmp 39,.tmp 41]) rfl ?_);at_builtin;refine Kd.S_append (Kd.slice 116 k116) (w0:=w) w.heap.size rfl (.tmp 39) (.tmp 41) 57 65 (.slice none 0 0) 24 rfl Try.underlying57 info65 rfl (by decide) (by omega) (.slice Ao15 t376.length co15) t376 y392 [.slice Ao21 y392.length co21] (fun _=>True) (fun k_=>some k_=(.slice Ao21 y392.length co21:Value).ownBlock) rfl rfl ?aP (fun k_ hk_=>((Kd.R_mono (ok':=fun k_=>((fun _=>True)) k_∧some k_≠(.slice Ao15 t376.length co15:Value).ownBlock) (Kd.R_apart' (HO394.out) (Kd.S_typed HO379.out) (by decide)) (fun k_ hk=>⟨trivial,hk.2⟩))).1 k_ hk_.symm) ?aF ?aO ?aB ?aS ?aL ?_;(case aP=>exact Kd.M_row (Kd.R_mono (Kd.R_tight rfl (Kd.R_mono (ok':=fun k_=>((fun _=>True)) k_∧some k_≠(.slice Ao15 t376.length co15:Value).ownBlock) (Kd.R_apart' (HO394.out) (Kd.S_typed HO379.out) (by decide)) (fun k_ hk=>⟨trivial,hk.2⟩))) (fun _ h_=>h_)));(case aB=>exact zz4);(case aF=>exact (fun _ _=>trivial));(case aO=>exact (zS (Kd.S_mono HO379.out (fun k_ hk=>⟨trivial,fun e_=>hk.2 e_⟩))));(case aS=>exact (below_size zz4));(case aL=>have:=LMc9.out;omega);intro v396 w20 ho hb hg hat;rw [←Ny395.out] at ho;replace HI367:=Aside0.mk (IsS111.grown zz5 hg (IsS111.own_neS HI367.out HO379.out (by decide)));replace HO370:=Aside0.mk (Kd.R_over' (zR HO370.out) (Kd.S_typed (zS HO379.out)) (by decide) hg);replace HB:=Aside0.mk (hb);have HO397:=Aside0.mk (ho);clear HO379 HO394;clear ho hb hg hat))
  go_ret3
  exact ⟨_,_,zz1,zR HO370.out,zS HO397.out,zz4⟩
 rw [if_neg c8] at H
 have c8b0:(t389 == 0)=false:=beq_eq_false_iff_ne.mpr c8
 have c8b1:(t389 != 0)=true:=bne_iff_ne.mpr c8
 by_cases c22:t389=1
 ·rw [if_pos c22] at H
  have c22b0:(t389 == 1)=true:=beq_iff_eq.mpr c22
  have c22b1:(t389 != 1)=false:=bne_eq_false_iff_eq.mpr c22
  clear c22
  by_cases c23:0≤t386
  rotate_left
  ·rw [if_neg c23] at H
   exact absurd H (by simp)
  rw [if_pos c23] at H
  have c23b0:=decide_eq_true c23
  clear c23
  by_cases c24:t386<(t376.length:Int)
  rotate_left
  ·rw [if_neg c24] at H
   exact absurd H (by simp)
  rw [if_pos c24] at H
  have c24b0:=decide_eq_true c24
  clear c24
  by_cases c25:((rd_L7 t376 t386).length:Int)>0
  rotate_left
  ·rw [if_neg c25] at H
   have c25b0:=decide_eq_false c25
   have c25b1:decide (0<(rd_L7 t376 t386).length)=false:=decide_eq_false (by omega)
   clear c25
   simp only [Option.some.injEq,Prod.mk.injEq] at H
   obtain ⟨rfl,rfl,rfl⟩:=H
   go_enter Try.func39,Try.ntmps39
   go_wp2_with (first|((with_reducible refine gate_dst (N:=14) rfl ?_);refine box_event ?hg (N:=14) ?hd (cs:=#[.slice A0 l0.length c0,.int .i64 0,.int .u64 0]) (t:=111) ?hr ?_;(case hd=>rfl);(case hg=>rfl);(case hr=>first|(go_simp;done)|(go_simp;rfl));intro gb367 hg w41 hbox hb;have n0_:=zb1 hb;have n1_:=Aside0.mk ((by rw [hg];exact (below_size zb):w.heap.size≤gb367));have n2_:=Aside0.mk ((by rw [hg];exact (below_size zb):w.heap.size≤gb367));have n3_:=Aside0.mk ((show IsS111 w _ gb367 l0 0 0 from ⟨_,_,hbox,(by rw [hg];exact (below_size zb):w.heap.size≤gb367),HR0.out⟩));clear HB;have HB:=n0_;have GW367:=n1_;have GE367:=n2_;have HI367:=n3_;clear n0_ n1_ n2_ n3_;clear hb hbox hg)|((with_reducible refine gate_callee (f:=85) rfl ?_);refine zgo 16 Try.func85 #[.pointer (some ⟨gb367,0,none⟩)] ?_;(with_reducible refine (spec_l1Cur_work7.calls k gb367 l0 0 0 t368 t371 t372 w _ ?side1 ?side2 A2.out).mono ?_);(case side1=>exact zz5);(case side2=>exact zz4);rintro e w42 ⟨v369,rfl,ho0,hi,hb,hk⟩;refine ⟨_,rfl,?_⟩;have HO370:=Aside0.mk (Kd.R_lower ho0 (below_size zz4));replace HB:=Aside0.mk (hb);replace HI367:=Aside0.mk (hi);(try clear hb);(try clear hk);(try clear hi);(try clear ho0))|((with_reducible refine gate_callee (f:=86) rfl ?_);refine zgo 18 Try.func86 #[.pointer (some ⟨gb367,0,none⟩)] ?_;(with_reducible refine (spec_l1Cur_machines.calls gb367 l0 t371 t372 t373 t374 t375 w _ ?side1 ?side2 A3.out).mono ?_);(case side1=>exact zz5);(case side2=>exact zz4);rintro e w43 ⟨rfl,hi,hb,hk⟩;refine ⟨_,rfl,?_⟩;replace HO370:=Aside0.mk (Kd.R_mono (Kd.R_keep (IsS111.apart (show IsS111 w _ gb367 l0 t371 t372 from by repeat (first|(with_reducible first|exact HI367.out|apply IsS111.alloc|apply IsS111.drewN|apply IsS111.drew|apply IsS111.set_1|apply IsS111.set_2)|exact HI367.out)) (zR HO370.out) (by decide)) hk (fun _ h=>h.2)) (fun _ h=>h.1));replace HB:=Aside0.mk (hb);replace HI367:=Aside0.mk (hi);(try clear hb);(try clear hk);(try clear hi);obtain ⟨Ao44,co44,eo44⟩:=Kd.R_slice HO370.out;subst eo44)|((with_reducible refine gate_callee (f:=43) rfl ?_);refine zgo 22 Try.func43 #[.slice Ao44 t368.length co44,.int .i64 t373] ?_;(with_reducible refine (spec_WrapAround.calls k _ _ t368 t373 t376 true _ ?side1 ?side2 A4.out).mono ?_);(case side1=>exact zC ((Kd.R_reads' HO370.out).2.2));(case side2=>exact (Kd.R_reads' HO370.out).2.1);rintro e w45 ⟨v378,rfl,ho0,hb⟩;refine ⟨_,rfl,?_⟩;have n0_:=zRb HO370 hb;have n1_:=Aside0.mk (Kd.S_lower ho0 (below_size zz4));have n2_:=Aside0.mk (IsS111.below zz5 hb);have n3_:=Aside0.mk (below_step zz4 hb);clear HO370;clear HI367;clear HB;have HO370:=n0_;have HO379:=n1_;have HI367:=n2_;have HB:=n3_;clear n0_ n1_ n2_ n3_;(try clear hb);(try clear ho0);obtain ⟨Ao46,co46,eo46⟩:=Kd.S_slice HO379.out;subst eo46)|((with_reducible refine gate_callee (f:=87) rfl ?_);refine zgo 34 Try.func87 #[.pointer (some ⟨gb367,0,none⟩),.int .i64 (t376.length:Int)] ?_;(with_reducible refine (spec_l1Cur_pick.calls gb367 l0 t374 t375 (t376.length:Int) t386 t387 t388 w _ ?side1 ?side2 A6.out).mono ?_);(case side1=>exact zz5);(case side2=>exact zz4);rintro e w47 ⟨rfl,hi,hb,hk⟩;refine ⟨_,rfl,?_⟩;replace HO370:=Aside0.mk (Kd.R_mono (Kd.R_keep (IsS111.apart (show IsS111 w _ gb367 l0 t374 t375 from by repeat (first|(with_reducible first|exact HI367.out|apply IsS111.alloc|apply IsS111.drewN|apply IsS111.drew|apply IsS111.set_1|apply IsS111.set_2)|exact HI367.out)) (zR HO370.out) (by decide)) hk (fun _ h=>h.2)) (fun _ h=>h.1));replace HO379:=Aside0.mk (Kd.S_mono (Kd.S_keep (IsS111.apartS (show IsS111 w _ gb367 l0 t374 t375 from by repeat (first|(with_reducible first|exact HI367.out|apply IsS111.alloc|apply IsS111.drewN|apply IsS111.drew|apply IsS111.set_1|apply IsS111.set_2)|exact HI367.out)) (zS HO379.out) (by decide)) hk (fun _ h=>h.2)) (fun _ h=>h.1));replace HB:=Aside0.mk (hb);replace HI367:=Aside0.mk (hi);(try clear hb);(try clear hk);(try clear hi))|((with_reducible refine gate_callee (f:=87) rfl ?_);refine zgo 36 Try.func87 #[.pointer (some ⟨gb367,0,none⟩),.int .i64 8] ?_;(with_reducible refine (spec_l1Cur_pick.calls gb367 l0 t387 t388 8 t389 t390 t391 w _ ?side1 ?side2 A7.out).mono ?_);(case side1=>exact zz5);(case side2=>exact zz4);rintro e w48 ⟨rfl,hi,hb,hk⟩;refine ⟨_,rfl,?_⟩;replace HO370:=Aside0.mk (Kd.R_mono (Kd.R_keep (IsS111.apart (show IsS111 w _ gb367 l0 t387 t388 from by repeat (first|(with_reducible first|exact HI367.out|apply IsS111.alloc|apply IsS111.drewN|apply IsS111.drew|apply IsS111.set_1|apply IsS111.set_2)|exact HI367.out)) (zR HO370.out) (by decide)) hk (fun _ h=>h.2)) (fun _ h=>h.1));replace HO379:=Aside0.mk (Kd.S_mono (Kd.S_keep (IsS111.apartS (show IsS111 w _ gb367 l0 t387 t388 from by repeat (first|(with_reducible first|exact HI367.out|apply IsS111.alloc|apply IsS111.drewN|apply IsS111.drew|apply IsS111.set_1|apply IsS111.set_2)|exact HI367.out)) (zS HO379.out) (by decide)) hk (fun _ h=>h.2)) (fun _ h=>h.1));replace HB:=Aside0.mk (hb);replace HI367:=Aside0.mk (hi);(try clear hb);(try clear hk);(try clear hi);have p398:0≤(t386:Int):=of_decide_eq_true za;have q398:t386<(t376.length:Int):=of_decide_eq_true za;obtain ⟨ad398,A398_0,c398_0,e398,hx398_0,hl398_0,hi398_0⟩:=at_L7 (Kd.S_reads' HO379.out).2.2 t386 p398 q398;cases e398;obtain ⟨ce398,hce398,hMe398,hcc398⟩:=Kd.S_get HO379.out [] t386 p398 (by first|exact q398|exact of_decide_eq_true za|(have e_:=(Kd.S_reads' HO379.out).1;omega));obtain ⟨ve398_0,rfl,ge398_0⟩:=hMe398;have hv398_0:=hcc398 0 _ rfl;rw [Nat.add_zero,show ((Kd.slice 116 k116)).sz=1 from rfl,Nat.mul_one] at hv398_0;replace hv398_0:=Option.some.inj (hv398_0.symm.trans hx398_0);rw [hv398_0] at ge398_0;have HL398_0:=Aside0.mk (show Kd.R k116 116 _ _ _ _ (rd_L7 t376 t386) from ge398_0);clear hv398_0 ge398_0;have HX398_0:=Aside0.mk hx398_0;clear hcc398 hce398;have HR398_0:=Aside0.mk hi398_0;have HC398_0:=Aside0.mk hl398_0;clear hi398_0 hl398_0;replace p398:=eq_true p398;replace q398:=eq_true q398))
   go_ret3
   exact ⟨_,_,zz1,zR HO370.out,zS HO379.out,zz4⟩
  rw [if_pos c25] at H
  have c25b0:=decide_eq_true c25
  have c25b1:decide (0<(rd_L7 t376 t386).length)=true:=decide_eq_true (by omega)
  clear c25
  by_cases c26:0<((rd_L7 t376 t386).length:Int)
  rotate_left
  ·rw [if_neg c26] at H
   exact absurd H (by simp)
  rw [if_pos c26] at H
  have c26b0:=decide_eq_true c26
  have c26b1:decide (0<(rd_L7 t376 t386).length)=true:=decide_eq_true (by omega)
  clear c26
  replace H:=Option.bind_eq_some_iff.mp H
  obtain ⟨⟨t402,t403,t404⟩,A270,H⟩:=H
  try dsimp only at H
  have A27:=Aside0.mk A270
  clear A270
  obtain ⟨y405,hy405⟩:∃ y_:List (S116),y_=((rd_L7 t376 t386).set (0:Int).toNat (⟨(rd_T116 (rd_L7 t376 t386) 0).f0,wrap64 ((wrap64 (((rd_T116 (rd_L7 t376 t386) 0).f1) + t402)) - 1),(rd_T116 (rd_L7 t376 t386) 0).f2⟩:S116)):=⟨_,rfl⟩
  replace H:(some (t368,t373,(t376.set (t386:Int).toNat y405)))=some (r1,r2,r3):=by first|(rw [hy405];with_reducible exact H)|(have H2_:=(Option.bind_some _ _).symm.trans H;rw [hy405];with_reducible exact H2_)|(have H2_:=(Option.bind_some _ _).symm.trans H;with_reducible exact H2_)|with_reducible exact H|(rw [hy405];exact H)|exact H
  have Ny405:=Aside0.mk hy405
  clear hy405
  obtain ⟨y407,hy407⟩:∃ y_:List (List (S116)),y_=(t376.set (t386:Int).toNat y405):=⟨_,rfl⟩
  replace H:(some (t368,t373,y407))=some (r1,r2,r3):=by first|(rw [hy407];with_reducible exact H)|(have H2_:=(Option.bind_some _ _).symm.trans H;rw [hy407];with_reducible exact H2_)|(have H2_:=(Option.bind_some _ _).symm.trans H;with_reducible exact H2_)|with_reducible exact H|(rw [hy407];exact H)|exact H
  have Ny407:=Aside0.mk hy407
  clear hy407
  simp only [Option.some.injEq,Prod.mk.injEq] at H
  obtain ⟨rfl,rfl,rfl⟩:=H
  go_enter Try.func39,Try.ntmps39
  try go_wp2_with (first|((with_reducible refine gate_dst (N:=14) rfl ?_);refine box_event ?hg (N:=14) ?hd (cs:=#[.slice A0 l0.length c0,.int .i64 0,.int .u64 0]) (t:=111) ?hr ?_;(case hd=>rfl);(case hg=>rfl);(case hr=>first|(go_simp;done)|(go_simp;rfl));intro gb367 hg w29 hbox hb;have n0_:=zb1 hb;have n1_:=Aside0.mk ((by rw [hg];exact (below_size zb):w.heap.size≤gb367));have n2_:=Aside0.mk ((by rw [hg];exact (below_size zb):w.heap.size≤gb367));have n3_:=Aside0.mk ((show IsS111 w _ gb367 l0 0 0 from ⟨_,_,hbox,(by rw [hg];exact (below_size zb):w.heap.size≤gb367),HR0.out⟩));clear HB;have HB:=n0_;have GW367:=n1_;have GE367:=n2_;have HI367:=n3_;clear n0_ n1_ n2_ n3_;clear hb hbox hg)|((with_reducible refine gate_callee (f:=85) rfl ?_);refine zgo 16 Try.func85 #[.pointer (some ⟨gb367,0,none⟩)] ?_;(with_reducible refine (spec_l1Cur_work7.calls k gb367 l0 0 0 t368 t371 t372 w _ ?side1 ?side2 A2.out).mono ?_);(case side1=>exact zz5);(case side2=>exact zz4);rintro e w30 ⟨v369,rfl,ho0,hi,hb,hk⟩;refine ⟨_,rfl,?_⟩;have HO370:=Aside0.mk (Kd.R_lower ho0 (below_size zz4));replace HB:=Aside0.mk (hb);replace HI367:=Aside0.mk (hi);(try clear hb);(try clear hk);(try clear hi);(try clear ho0))|((with_reducible refine gate_callee (f:=86) rfl ?_);refine zgo 18 Try.func86 #[.pointer (some ⟨gb367,0,none⟩)] ?_;(with_reducible refine (spec_l1Cur_machines.calls gb367 l0 t371 t372 t373 t374 t375 w _ ?side1 ?side2 A3.out).mono ?_);(case side1=>exact zz5);(case side2=>exact zz4);rintro e w31 ⟨rfl,hi,hb,hk⟩;refine ⟨_,rfl,?_⟩;replace HO370:=Aside0.mk (Kd.R_mono (Kd.R_keep (IsS111.apart (show IsS111 w _ gb367 l0 t371 t372 from by repeat (first|(with_reducible first|exact HI367.out|apply IsS111.alloc|apply IsS111.drewN|apply IsS111.drew|apply IsS111.set_1|apply IsS111.set_2)|exact HI367.out)) (zR HO370.out) (by decide)) hk (fun _ h=>h.2)) (fun _ h=>h.1));replace HB:=Aside0.mk (hb);replace HI367:=Aside0.mk (hi);(try clear hb);(try clear hk);(try clear hi);obtain ⟨Ao32,co32,eo32⟩:=Kd.R_slice HO370.out;subst eo32)|((with_reducible refine gate_callee (f:=43) rfl ?_);refine zgo 22 Try.func43 #[.slice Ao32 t368.length co32,.int .i64 t373] ?_;(with_reducible refine (spec_WrapAround.calls k _ _ t368 t373 t376 true _ ?side1 ?side2 A4.out).mono ?_);(case side1=>exact zC ((Kd.R_reads' HO370.out).2.2));(case side2=>exact (Kd.R_reads' HO370.out).2.1);rintro e w33 ⟨v378,rfl,ho0,hb⟩;refine ⟨_,rfl,?_⟩;have n0_:=zRb HO370 hb;have n1_:=Aside0.mk (Kd.S_lower ho0 (below_size zz4));have n2_:=Aside0.mk (IsS111.below zz5 hb);have n3_:=Aside0.mk (below_step zz4 hb);clear HO370;clear HI367;clear HB;have HO370:=n0_;have HO379:=n1_;have HI367:=n2_;have HB:=n3_;clear n0_ n1_ n2_ n3_;(try clear hb);(try clear ho0);obtain ⟨Ao34,co34,eo34⟩:=Kd.S_slice HO379.out;subst eo34)|((with_reducible refine gate_callee (f:=87) rfl ?_);refine zgo 34 Try.func87 #[.pointer (some ⟨gb367,0,none⟩),.int .i64 (t376.length:Int)] ?_;(with_reducible refine (spec_l1Cur_pick.calls gb367 l0 t374 t375 (t376.length:Int) t386 t387 t388 w _ ?side1 ?side2 A6.out).mono ?_);(case side1=>exact zz5);(case side2=>exact zz4);rintro e w35 ⟨rfl,hi,hb,hk⟩;refine ⟨_,rfl,?_⟩;replace HO370:=Aside0.mk (Kd.R_mono (Kd.R_keep (IsS111.apart (show IsS111 w _ gb367 l0 t374 t375 from by repeat (first|(with_reducible first|exact HI367.out|apply IsS111.alloc|apply IsS111.drewN|apply IsS111.drew|apply IsS111.set_1|apply IsS111.set_2)|exact HI367.out)) (zR HO370.out) (by decide)) hk (fun _ h=>h.2)) (fun _ h=>h.1));replace HO379:=Aside0.mk (Kd.S_mono (Kd.S_keep (IsS111.apartS (show IsS111 w _ gb367 l0 t374 t375 from by repeat (first|(with_reducible first|exact HI367.out|apply IsS111.alloc|apply IsS111.drewN|apply IsS111.drew|apply IsS111.set_1|apply IsS111.set_2)|exact HI367.out)) (zS HO379.out) (by decide)) hk (fun _ h=>h.2)) (fun _ h=>h.1));replace HB:=Aside0.mk (hb);replace HI367:=Aside0.mk (hi);(try clear hb);(try clear hk);(try clear hi))|((with_reducible refine gate_callee (f:=87) rfl ?_);refine zgo 36 Try.func87 #[.pointer (some ⟨gb367,0,none⟩),.int .i64 8] ?_;(with_reducible refine (spec_l1Cur_pick.calls gb367 l0 t387 t388 8 t389 t390 t391 w _ ?side1 ?side2 A7.out).mono ?_);(case side1=>exact zz5);(case side2=>exact zz4);rintro e w36 ⟨rfl,hi,hb,hk⟩;refine ⟨_,rfl,?_⟩;replace HO370:=Aside0.mk (Kd.R_mono (Kd.R_keep (IsS111.apart (show IsS111 w _ gb367 l0 t387 t388 from by repeat (first|(with_reducible first|exact HI367.out|apply IsS111.alloc|apply IsS111.drewN|apply IsS111.drew|apply IsS111.set_1|apply IsS111.set_2)|exact HI367.out)) (zR HO370.out) (by decide)) hk (fun _ h=>h.2)) (fun _ h=>h.1));replace HO379:=Aside0.mk (Kd.S_mono (Kd.S_keep (IsS111.apartS (show IsS111 w _ gb367 l0 t387 t388 from by repeat (first|(with_reducible first|exact HI367.out|apply IsS111.alloc|apply IsS111.drewN|apply IsS111.drew|apply IsS111.set_1|apply IsS111.set_2)|exact HI367.out)) (zS HO379.out) (by decide)) hk (fun _ h=>h.2)) (fun _ h=>h.1));replace HB:=Aside0.mk (hb);replace HI367:=Aside0.mk (hi);(try clear hb);(try clear hk);(try clear hi);have p398:0≤(t386:Int):=of_decide_eq_true za;have q398:t386<(t376.length:Int):=of_decide_eq_true za;obtain ⟨ad398,A398_0,c398_0,e398,hx398_0,hl398_0,hi398_0⟩:=at_L7 (Kd.S_reads' HO379.out).2.2 t386 p398 q398;cases e398;obtain ⟨ce398,hce398,hMe398,hcc398⟩:=Kd.S_get HO379.out [] t386 p398 (by first|exact q398|exact of_decide_eq_true za|(have e_:=(Kd.S_reads' HO379.out).1;omega));obtain ⟨ve398_0,rfl,ge398_0⟩:=hMe398;have hv398_0:=hcc398 0 _ rfl;rw [Nat.add_zero,show ((Kd.slice 116 k116)).sz=1 from rfl,Nat.mul_one] at hv398_0;replace hv398_0:=Option.some.inj (hv398_0.symm.trans hx398_0);rw [hv398_0] at ge398_0;have HL398_0:=Aside0.mk (show Kd.R k116 116 _ _ _ _ (rd_L7 t376 t386) from ge398_0);clear hv398_0 ge398_0;have HX398_0:=Aside0.mk hx398_0;clear hcc398 hce398;have HR398_0:=Aside0.mk hi398_0;have HC398_0:=Aside0.mk hl398_0;clear hi398_0 hl398_0;replace p398:=eq_true p398;replace q398:=eq_true q398))
  replace HO370:=Aside0.mk (Kd.R_drew HO370.out)
  replace HO379:=Aside0.mk (Kd.S_drew HO379.out)
  replace HL398_0:=Aside0.mk (Kd.R_drew HL398_0.out)
  replace HR398_0:=Aside0.mk (Kd.C_drew HR398_0.out)
  replace HI367:=Aside0.mk (IsS111.drew HI367.out)
  replace HB:=Aside0.mk (below_drew1 HB.out)
  have p399:0≤(t386:Int):=of_decide_eq_true za
  have q399:t386<(t376.length:Int):=of_decide_eq_true za
  obtain ⟨ad399,A399_0,c399_0,e399,hx399_0,hl399_0,hi399_0⟩:=at_L7 (Kd.S_reads' HO379.out).2.2 t386 p399 q399
  obtain rfl:ad398=ad399:=(by injection e399)
  obtain ⟨ce399,hce399,hMe399,hcc399⟩:=Kd.S_get HO379.out [] t386 p399 (by first|exact q399|exact of_decide_eq_true za|(have e_:=(Kd.S_reads' HO379.out).1;omega))
  obtain ⟨ve399_0,rfl,ge399_0⟩:=hMe399
  have hv399_0:=hcc399 0 _ rfl
  rw [Nat.add_zero,show ((Kd.slice 116 k116)).sz=1 from rfl,Nat.mul_one] at hv399_0
  replace hv399_0:=Option.some.inj (hv399_0.symm.trans hx399_0)
  rw [hv399_0] at ge399_0
  have HL399_0:=Aside0.mk (show Kd.R k116 116 _ _ _ _ (rd_L7 t376 t386) from ge399_0)
  clear hv399_0 ge399_0
  have HX399_0:=Aside0.mk hx399_0
  clear hcc399 hce399
  have HR399_0:=Aside0.mk hi399_0
  have HC399_0:=Aside0.mk hl399_0
  clear hi399_0 hl399_0
  replace p399:=eq_true p399
  replace q399:=eq_true q399
  have p400:0≤(t386:Int):=of_decide_eq_true za
  have q400:t386<(t376.length:Int):=of_decide_eq_true za
  obtain ⟨ad400,A400_0,c400_0,e400,hx400_0,hl400_0,hi400_0⟩:=at_L7 (Kd.S_reads' HO379.out).2.2 t386 p400 q400
  obtain rfl:ad398=ad400:=(by injection e400)
  obtain ⟨ce400,hce400,hMe400,hcc400⟩:=Kd.S_get HO379.out [] t386 p400 (by first|exact q400|exact of_decide_eq_true za|(have e_:=(Kd.S_reads' HO379.out).1;omega))
  obtain ⟨ve400_0,rfl,ge400_0⟩:=hMe400
  have hv400_0:=hcc400 0 _ rfl
  rw [Nat.add_zero,show ((Kd.slice 116 k116)).sz=1 from rfl,Nat.mul_one] at hv400_0
  replace hv400_0:=Option.some.inj (hv400_0.symm.trans hx400_0)
  rw [hv400_0] at ge400_0
  have HL400_0:=Aside0.mk (show Kd.R k116 116 _ _ _ _ (rd_L7 t376 t386) from ge400_0)
  clear hv400_0 ge400_0
  have HX400_0:=Aside0.mk hx400_0
  clear hcc400 hce400
  have HR400_0:=Aside0.mk hi400_0
  have HC400_0:=Aside0.mk hl400_0
  clear hi400_0 hl400_0
  replace p400:=eq_true p400
  replace q400:=eq_true q400
  have ea_:=Option.some.inj (hx399_0.symm.trans hx400_0)
  injection ea_ with ea_ en_ ec_
  subst ea_
  subst ec_
  clear en_
  have p401:0≤(0:Int):=(by omega)
  have q401:0<((rd_L7 t376 t386).length:Int):=of_decide_eq_true za
  obtain ⟨ad401,e401,hx401_0,hx401_1,hx401_2⟩:=at_T116 (by repeat (first|(with_reducible exact HR400_0.out)|(with_reducible refine Kd.C_alloc ?_ _)|(with_reducible refine Kd.C_drewN ?_ _)|(with_reducible refine Kd.C_drew ?_)|exact HR400_0.out)) 0 p401 q401
  cases e401
  have qi401:(0<(rd_L7 t376 t386).length)=True:=eq_true (by omega)
  (try rw [show ((0:Int)).toNat=0 from rfl] at hx401_0)
  (try rw [show 0 * 3=0 from rfl] at hx401_0)
  (try rw [Addr.add_zero'] at hx401_0)
  (try rw [show ((0:Int)).toNat=0 from rfl] at hx401_1)
  (try rw [show 0 * 3=0 from rfl] at hx401_1)
  (try rw [Addr.add_zero'] at hx401_1)
  (try rw [show ((0:Int)).toNat=0 from rfl] at hx401_2)
  (try rw [show 0 * 3=0 from rfl] at hx401_2)
  (try rw [Addr.add_zero'] at hx401_2)
  replace p401:=eq_true p401
  replace q401:=eq_true q401
  refine start_ (n:=18) (S:=fun w'=>w'.cell? (ad398.add (t386).toNat)=some (.slice (some ad401) (rd_L7 t376 t386).length c399_0)∧w'.cell? (ad398.add (t386).toNat)=some (.slice (some ad401) (rd_L7 t376 t386).length c399_0)∧w'.cell? ad401=some (.int .i64 ((rd_T116 (rd_L7 t376 t386) 0).f0))∧w'.cell? ⟨ad401.block,ad401.off + 1,none⟩=some (.int .i64 ((rd_T116 (rd_L7 t376 t386) 0).f1))∧w'.cell? ⟨ad401.block,ad401.off + 2,none⟩=some (.int .i64 ((rd_T116 (rd_L7 t376 t386) 0).f2))) (ds:=[17]) #[false,false,false,false,false,false,false,false,false,false,false,false,false,false,false,false,false,false] (by kernel_rfl) rfl rfl ⟨hx399_0,hx400_0,hx401_0,hx401_1,hx401_2⟩ (fun hHeld=>?_);refine with_tabW spec_DrawIsShared.tab12 spec_DrawIsShared.bits12 (fun HT_ HW_=>?_)
  generalize w36.drew=w37 at HO370 HO379 HL398_0 HR398_0 HI367 HB HL399_0 HL400_0 HR399_0 HR400_0 HX399_0 HX400_0 hx399_0 hx400_0 hx401_0 hx401_1 hx401_2 hHeld ⊢
  refine pu_ 0 51 ?_
  refine pu_ 1 52 ?_
  refine pu_ 2 53 ?_
  refine pu_ 4 55 ?_
  refine pu_ 5 56 ?_
  refine pu_ 6 57 ?_
  refine pu_ 11 62 ?_
  refine tk_ 3 54 hHeld ?_
  refine tk_ 7 58 hHeld ?_
  refine pu_ 8 59 ?_
  refine pu_ 9 60 ?_
  refine tk_ 10 61 hHeld ?_
  refine one_ (i:=12) (N:=some 63) #[true,true,true,true,true,true,true,true,true,true,true,true,true,false,false,false,false,false] rfl rfl (one_of HT_.out (by kernel_rfl)) (by decide) (fun K hK=>?_)
  refine goes_ Try.func87 (by kernel_rfl) rfl #[.pointer (some ⟨gb367,0,none⟩),.int .i64 3] (by rfl) rfl rfl zl ?_
  with_reducible refine (spec_l1Cur_pick.calls gb367 l0 t390 t391 3 t402 t403 t404 w _ ?side1 ?side2 A27.out).mono ?_
  (case side1=>exact zz5)
  (case side2=>exact zz4)
  rintro e w38 ⟨rfl,hi,hb,hk⟩
  have HS0_:=keep_cell hk (hHeld.1) zz49
  have HS1_:=keep_cell hk (hHeld.2.1) zz49
  have HS2_:=keep_cell hk (hHeld.2.2.1) zz50
  have HS3_:=keep_cell hk (hHeld.2.2.2.1) zz50
  have HS4_:=keep_cell hk (hHeld.2.2.2.2) zz50
  refine ⟨_,rfl,?_⟩
  have n0_:=Aside0.mk (Kd.R_mono (Kd.R_keep (IsS111.apart (show IsS111 w _ gb367 l0 t390 t391 from by repeat (first|(with_reducible first|exact HI367.out|apply IsS111.alloc|apply IsS111.drewN|apply IsS111.drew|apply IsS111.set_1|apply IsS111.set_2)|exact HI367.out)) (zR HO370.out) (by decide)) hk (fun _ h=>h.2)) (fun _ h=>h.1))
  have n1_:=Aside0.mk (Kd.S_mono (Kd.S_keep (IsS111.apartS (show IsS111 w _ gb367 l0 t390 t391 from by repeat (first|(with_reducible first|exact HI367.out|apply IsS111.alloc|apply IsS111.drewN|apply IsS111.drew|apply IsS111.set_1|apply IsS111.set_2)|exact HI367.out)) (zS HO379.out) (by decide)) hk (fun _ h=>h.2)) (fun _ h=>h.1))
  have n2_:=Aside0.mk (Kd.R_mono (Kd.R_keep (IsS111.apart (show IsS111 w _ gb367 l0 t390 t391 from by repeat (first|(with_reducible first|exact HI367.out|apply IsS111.alloc|apply IsS111.drewN|apply IsS111.drew|apply IsS111.set_1|apply IsS111.set_2)|exact HI367.out)) (zR HL398_0.out) (by decide)) hk (fun _ h=>h.2)) (fun _ h=>h.1))
  have n3_:=Aside0.mk (Kd.R_mono (Kd.R_keep (IsS111.apart (show IsS111 w _ gb367 l0 t390 t391 from by repeat (first|(with_reducible first|exact HI367.out|apply IsS111.alloc|apply IsS111.drewN|apply IsS111.drew|apply IsS111.set_1|apply IsS111.set_2)|exact HI367.out)) (zR HL399_0.out) (by decide)) hk (fun _ h=>h.2)) (fun _ h=>h.1))
  have n4_:=Aside0.mk (keep_cell hk HX399_0.out zz51)
  have n5_:=Aside0.mk (Kd.R_mono (Kd.R_keep (IsS111.apart (show IsS111 w _ gb367 l0 t390 t391 from by repeat (first|(with_reducible first|exact HI367.out|apply IsS111.alloc|apply IsS111.drewN|apply IsS111.drew|apply IsS111.set_1|apply IsS111.set_2)|exact HI367.out)) (zR HL400_0.out) (by decide)) hk (fun _ h=>h.2)) (fun _ h=>h.1))
  have n6_:=Aside0.mk (keep_cell hk HX400_0.out zz51)
  have n7_:=Aside0.mk (hb)
  have n8_:=Aside0.mk (hi)
  clear HO370
  clear HO379
  clear HL398_0
  clear HL399_0
  clear HX399_0
  clear HL400_0
  clear HX400_0
  clear HB
  clear HI367
  have HO370:=n0_
  have HO379:=n1_
  have HL398_0:=n2_
  have HL399_0:=n3_
  have HX399_0:=n4_
  have HL400_0:=n5_
  have HX400_0:=n6_
  have HB:=n7_
  have HI367:=n8_
  clear n0_ n1_ n2_ n3_ n4_ n5_ n6_ n7_ n8_
  have p28:0≤(0:Int):=(by omega)
  have q28:(0:Int)<(((rd_L7 t376 t386).length:Int):Int):=of_decide_eq_true za
  have qi28:(0<(rd_L7 t376 t386).length)=True:=eq_true (by omega)
  obtain ⟨go28,co28,eo28,gb28,gl28,cl28,HG28⟩:=Kd.R_form HL399_0.out (by omega)
  (first|cases eo28|(injection eo28 with ea_ en_ ec_;(first|subst ea_|(injection ea_ with ea_;subst ea_));subst ec_;clear en_))
  have GB28:=Aside0.mk gb28
  have GG28:=Aside0.mk HG28
  clear gb28 gl28 HG28
  (first|simp only [add_plain] at hx401_0|skip)
  (first|simp only [add_plain] at hx401_1|skip)
  (first|simp only [add_plain] at hx401_2|skip)
  obtain ⟨ce28,hcl28,hM28,hcc28,hfr28⟩:=Kd.R_elem HL399_0.out z116 (0:Int) p28 q28
  obtain rfl:=k116_openM hM28
  have hx28_0:World.cell? _ ⟨go28,(0:Int).toNat * 3,none⟩=some (.int .i64 ((rd_T116 (rd_L7 t376 t386) 0).f0)):=hcc28 0 _ rfl
  have hx28_1:World.cell? _ ⟨go28,(0:Int).toNat * 3 + 1,none⟩=some (.int .i64 ((rd_T116 (rd_L7 t376 t386) 0).f1)):=hcc28 1 _ rfl
  have hx28_2:World.cell? _ ⟨go28,(0:Int).toNat * 3 + 2,none⟩=some (.int .i64 ((rd_T116 (rd_L7 t376 t386) 0).f2)):=hcc28 2 _ rfl
  have hf28_0:World.frozen? _ ⟨go28,(0:Int).toNat * 3,none⟩=false:=hfr28 0
  have hf28_1:World.frozen? _ ⟨go28,(0:Int).toNat * 3 + 1,none⟩=false:=hfr28 1
  have hf28_2:World.frozen? _ ⟨go28,(0:Int).toNat * 3 + 2,none⟩=false:=hfr28 2
  (clear hcl28 hcc28 hfr28;(try clear hM28))
  (try rw [show ((0:Int)).toNat=0 from rfl] at hx28_0)
  (try simp only [Nat.reduceMul,Nat.zero_mul,Nat.zero_add,Nat.reduceAdd] at hx28_0)
  (try rw [show ((0:Int)).toNat=0 from rfl] at hf28_0)
  (try simp only [Nat.reduceMul,Nat.zero_mul,Nat.zero_add,Nat.reduceAdd] at hf28_0)
  (try rw [show ((0:Int)).toNat=0 from rfl] at hx28_1)
  (try simp only [Nat.reduceMul,Nat.zero_mul,Nat.zero_add,Nat.reduceAdd] at hx28_1)
  (try rw [show ((0:Int)).toNat=0 from rfl] at hf28_1)
  (try simp only [Nat.reduceMul,Nat.zero_mul,Nat.zero_add,Nat.reduceAdd] at hf28_1)
  (try rw [show ((0:Int)).toNat=0 from rfl] at hx28_2)
  (try simp only [Nat.reduceMul,Nat.zero_mul,Nat.zero_add,Nat.reduceAdd] at hx28_2)
  (try rw [show ((0:Int)).toNat=0 from rfl] at hf28_2)
  (try simp only [Nat.reduceMul,Nat.zero_mul,Nat.zero_add,Nat.reduceAdd] at hf28_2)
  replace p28:=eq_true p28
  replace q28:=eq_true q28
  have hq39:(t386:Int)<(t376.length:Int):=(by have h_:(t386:Int)<((t376.length:Int):Int):=of_decide_eq_true za;first|exact h_|(have e_:=(Kd.S_reads' HO379.out).1;omega)|simpa only [List.length_set,List.length_set] using h_)
  obtain ⟨oki39,ce39,hcl39,hM39,hcc39,hok39,hbk39⟩:=Kd.S_borrow HO379.out [] (t386:Int) (of_decide_eq_true za) (by first|exact hq39|exact of_decide_eq_true za)
  obtain ⟨ve39_0,rfl,ge39_0⟩:=hM39
  have hv39:=hcc39 0 _ rfl
  rw [Nat.add_zero,show ((Kd.slice 116 k116)).sz=1 from rfl,Nat.mul_one] at hv39
  replace hv39:=Option.some.inj (hv39.symm.trans HX399_0.out)
  subst hv39
  clear hcc39 hcl39
  replace ge39_0:=(show Kd.R k116 116 _ _ _ _ (rd_L7 t376 t386) from ge39_0)
  obtain ⟨cf39,hcl39,hN39,hcc39,hfr39⟩:=Kd.R_elem ge39_0 z116 (0:Int) (by omega) (by have h_:(0:Int)<(((rd_L7 t376 t386).length:Int):Int):=of_decide_eq_true za;first|exact h_|(have e_:=(Kd.R_reads' HR399_0.out).1;omega)|simpa using h_)
  obtain rfl:=k116_openM hN39
  have HP39:=Kd.R_seg ge39_0 (0:Int) (by omega) (by have h_:(0:Int)<(((rd_L7 t376 t386).length:Int):Int):=of_decide_eq_true za;first|exact h_|(have e_:=(Kd.R_reads' HR399_0.out).1;omega)|simpa using h_) (seg:=[.int .i64 (wrap64 ((wrap64 (((rd_T116 (rd_L7 t376 t386) 0).f1) + t402)) - 1))]) (j:=1) hcl39 hcc39 (show 2≤3 from by decide) (x':=(⟨(rd_T116 (rd_L7 t376 t386) 0).f0,wrap64 ((wrap64 (((rd_T116 (rd_L7 t376 t386) 0).f1) + t402)) - 1),(rd_T116 (rd_L7 t376 t386) 0).f2⟩:S116)) (k116_mkM _ _ _ (⟨(rd_T116 (rd_L7 t376 t386) 0).f0,wrap64 ((wrap64 (((rd_T116 (rd_L7 t376 t386) 0).f1) + t402)) - 1),(rd_T116 (rd_L7 t376 t386) 0).f2⟩:S116)) (fun _ hk=>hk)
  clear hcl39 hcc39 hfr39 hN39
  have HN367_go28:=Aside0.mk (show gb367≠go28 from by have h_:=IsS111.own_ne HI367.out HL399_0.out (by decide);intro e_;exact h_ (by rw [e_];rfl))
  rw [←Ny405.out] at HP39
  have HS39:=hbk39 HP39.2 (fun k_ e_=>by injection e_ with e_;subst e_;exact ge39_0.1 _ rfl) (x':=y405) (Kd.M_row HP39.1)
  rw [←Ny407.out] at HS39
  have HQ39:=Aside0.mk HS39
  clear HP39 HS39 hbk39 hok39
  refine hK.out _ _ ⟨HS0_,HS1_,HS2_,HS3_,HS4_⟩ (fun hHeld=>?_)
  clear hK K
  refine norm_ (a':=?_) ?_ ?_
  rotate_left
  ·show Act.put _ (some 63) _=_
   simp only [Act.put,List.setIfInBounds_toArray,List.set_cons_zero,List.set_cons_succ,i64_w,i32_w]
   rfl
  refine pu_ 13 64 ?_
  refine pu_ 14 65 ?_
  refine pu_ 15 66 ?_
  refine pu_ 16 67 ?_
  refine last_ (i:=17) (N:=none) #[true,true,true,true,true,true,true,true,true,true,true,true,true,true,true,true,true,true] rfl rfl (one_of HT_.out (by kernel_rfl)) (by decide) (fun K hK=>?_)
  refine skip_ (w1:=?_) (by rfl) rfl ?_ ?_
  rotate_left
  ·go_simp
   rfl
  refine hK.out _ _ ?_
  clear hK K
  refine done_ (done_of HT_.out (by kernel_rfl)) ?_
  try go_wp2
  go_ret3
  exact ⟨_,_,zz1,by (with_reducible repeat (first|apply Kd.R_alloc|apply Kd.R_drewN|apply Kd.R_drew));exact Kd.R_mono (Kd.R_far (p:=⟨go28,1,none⟩) (Kd.R_types HO370.out GG28.out (by decide)) (fun _ hk=>hk.2) (.int .i64 (wrap64 ((wrap64 (((rd_T116 (rd_L7 t376 t386) 0).f1) + t402)) - 1)))) (fun _ hk=>trivial),by (with_reducible repeat (first|apply Kd.S_alloc|apply Kd.S_drewN|apply Kd.S_drew));exact HQ39.out,by repeat (first|(with_reducible first|exact HB.out|apply below_alloc|apply pw_below_drewN|apply below_drew1|refine below_set ?_ GB28.out|refine below_set ?_ (IsS111.ge HI367.out))|exact HB.out)⟩
 rw [if_neg c22] at H
 have c22b0:(t389 == 1)=false:=beq_eq_false_iff_ne.mpr c22
 have c22b1:(t389 != 1)=true:=bne_iff_ne.mpr c22
 by_cases c49:t389=2
 rotate_left
 ·rw [if_neg c49] at H
  have c49b0:(t389 == 2)=false:=beq_eq_false_iff_ne.mpr c49
  have c49b1:(t389 != 2)=true:=bne_iff_ne.mpr c49
  by_cases c82:t389=3
  rotate_left
  ·rw [if_neg c82] at H
   have c82b0:(t389 == 3)=false:=beq_eq_false_iff_ne.mpr c82
   have c82b1:(t389 != 3)=true:=bne_iff_ne.mpr c82
   simp only [Option.some.injEq,Prod.mk.injEq] at H
   obtain ⟨rfl,rfl,rfl⟩:=H
   go_enter Try.func39,Try.ntmps39
   go_wp2_with (first|((with_reducible refine gate_dst (N:=14) rfl ?_);refine box_event ?hg (N:=14) ?hd (cs:=#[.slice A0 l0.length c0,.int .i64 0,.int .u64 0]) (t:=111) ?hr ?_;(case hd=>rfl);(case hg=>rfl);(case hr=>first|(go_simp;done)|(go_simp;rfl));intro gb367 hg w109 hbox hb;have n0_:=zb1 hb;have n1_:=Aside0.mk ((by rw [hg];exact (below_size zb):w.heap.size≤gb367));have n2_:=Aside0.mk ((by rw [hg];exact (below_size zb):w.heap.size≤gb367));have n3_:=Aside0.mk ((show IsS111 w _ gb367 l0 0 0 from ⟨_,_,hbox,(by rw [hg];exact (below_size zb):w.heap.size≤gb367),HR0.out⟩));clear HB;have HB:=n0_;have GW367:=n1_;have GE367:=n2_;have HI367:=n3_;clear n0_ n1_ n2_ n3_;clear hb hbox hg)|((with_reducible refine gate_callee (f:=85) rfl ?_);refine zgo 16 Try.func85 #[.pointer (some ⟨gb367,0,none⟩)] ?_;(with_reducible refine (spec_l1Cur_work7.calls k gb367 l0 0 0 t368 t371 t372 w _ ?side1 ?side2 A2.out).mono ?_);(case side1=>exact zz5);(case side2=>exact zz4);rintro e w110 ⟨v369,rfl,ho0,hi,hb,hk⟩;refine ⟨_,rfl,?_⟩;have HO370:=Aside0.mk (Kd.R_lower ho0 (below_size zz4));replace HB:=Aside0.mk (hb);replace HI367:=Aside0.mk (hi);(try clear hb);(try clear hk);(try clear hi);(try clear ho0))|((with_reducible refine gate_callee (f:=86) rfl ?_);refine zgo 18 Try.func86 #[.pointer (some ⟨gb367,0,none⟩)] ?_;(with_reducible refine (spec_l1Cur_machines.calls gb367 l0 t371 t372 t373 t374 t375 w _ ?side1 ?side2 A3.out).mono ?_);(case side1=>exact zz5);(case side2=>exact zz4);rintro e w111 ⟨rfl,hi,hb,hk⟩;refine ⟨_,rfl,?_⟩;replace HO370:=Aside0.mk (Kd.R_mono (Kd.R_keep (IsS111.apart (show IsS111 w _ gb367 l0 t371 t372 from by repeat (first|(with_reducible first|exact HI367.out|apply IsS111.alloc|apply IsS111.drewN|apply IsS111.drew|apply IsS111.set_1|apply IsS111.set_2)|exact HI367.out)) (zR HO370.out) (by decide)) hk (fun _ h=>h.2)) (fun _ h=>h.1));replace HB:=Aside0.mk (hb);replace HI367:=Aside0.mk (hi);(try clear hb);(try clear hk);(try clear hi);obtain ⟨Ao112,co112,eo112⟩:=Kd.R_slice HO370.out;subst eo112)|((with_reducible refine gate_callee (f:=43) rfl ?_);refine zgo 22 Try.func43 #[.slice Ao112 t368.length co112,.int .i64 t373] ?_;(with_reducible refine (spec_WrapAround.calls k _ _ t368 t373 t376 true _ ?side1 ?side2 A4.out).mono ?_);(case side1=>exact zC ((Kd.R_reads' HO370.out).2.2));(case side2=>exact (Kd.R_reads' HO370.out).2.1);rintro e w113 ⟨v378,rfl,ho0,hb⟩;refine ⟨_,rfl,?_⟩;have n0_:=zRb HO370 hb;have n1_:=Aside0.mk (Kd.S_lower ho0 (below_size zz4));have n2_:=Aside0.mk (IsS111.below zz5 hb);have n3_:=Aside0.mk (below_step zz4 hb);clear HO370;clear HI367;clear HB;have HO370:=n0_;have HO379:=n1_;have HI367:=n2_;have HB:=n3_;clear n0_ n1_ n2_ n3_;(try clear hb);(try clear ho0);obtain ⟨Ao114,co114,eo114⟩:=Kd.S_slice HO379.out;subst eo114)|((with_reducible refine gate_callee (f:=87) rfl ?_);refine zgo 34 Try.func87 #[.pointer (some ⟨gb367,0,none⟩),.int .i64 (t376.length:Int)] ?_;(with_reducible refine (spec_l1Cur_pick.calls gb367 l0 t374 t375 (t376.length:Int) t386 t387 t388 w _ ?side1 ?side2 A6.out).mono ?_);(case side1=>exact zz5);(case side2=>exact zz4);rintro e w115 ⟨rfl,hi,hb,hk⟩;refine ⟨_,rfl,?_⟩;replace HO370:=Aside0.mk (Kd.R_mono (Kd.R_keep (IsS111.apart (show IsS111 w _ gb367 l0 t374 t375 from by repeat (first|(with_reducible first|exact HI367.out|apply IsS111.alloc|apply IsS111.drewN|apply IsS111.drew|apply IsS111.set_1|apply IsS111.set_2)|exact HI367.out)) (zR HO370.out) (by decide)) hk (fun _ h=>h.2)) (fun _ h=>h.1));replace HO379:=Aside0.mk (Kd.S_mono (Kd.S_keep (IsS111.apartS (show IsS111 w _ gb367 l0 t374 t375 from by repeat (first|(with_reducible first|exact HI367.out|apply IsS111.alloc|apply IsS111.drewN|apply IsS111.drew|apply IsS111.set_1|apply IsS111.set_2)|exact HI367.out)) (zS HO379.out) (by decide)) hk (fun _ h=>h.2)) (fun _ h=>h.1));replace HB:=Aside0.mk (hb);replace HI367:=Aside0.mk (hi);(try clear hb);(try clear hk);(try clear hi))|((with_reducible refine gate_callee (f:=87) rfl ?_);refine zgo 36 Try.func87 #[.pointer (some ⟨gb367,0,none⟩),.int .i64 8] ?_;(with_reducible refine (spec_l1Cur_pick.calls gb367 l0 t387 t388 8 t389 t390 t391 w _ ?side1 ?side2 A7.out).mono ?_);(case side1=>exact zz5);(case side2=>exact zz4);rintro e w116 ⟨rfl,hi,hb,hk⟩;refine ⟨_,rfl,?_⟩;replace HO370:=Aside0.mk (Kd.R_mono (Kd.R_keep (IsS111.apart (show IsS111 w _ gb367 l0 t387 t388 from by repeat (first|(with_reducible first|exact HI367.out|apply IsS111.alloc|apply IsS111.drewN|apply IsS111.drew|apply IsS111.set_1|apply IsS111.set_2)|exact HI367.out)) (zR HO370.out) (by decide)) hk (fun _ h=>h.2)) (fun _ h=>h.1));replace HO379:=Aside0.mk (Kd.S_mono (Kd.S_keep (IsS111.apartS (show IsS111 w _ gb367 l0 t387 t388 from by repeat (first|(with_reducible first|exact HI367.out|apply IsS111.alloc|apply IsS111.drewN|apply IsS111.drew|apply IsS111.set_1|apply IsS111.set_2)|exact HI367.out)) (zS HO379.out) (by decide)) hk (fun _ h=>h.2)) (fun _ h=>h.1));replace HB:=Aside0.mk (hb);replace HI367:=Aside0.mk (hi);(try clear hb);(try clear hk);(try clear hi)))
   go_ret3
   exact ⟨_,_,zz1,zR HO370.out,zS HO379.out,zz4⟩
  rw [if_pos c82] at H
  have c82b0:(t389 == 3)=true:=beq_iff_eq.mpr c82
  have c82b1:(t389 != 3)=false:=bne_eq_false_iff_eq.mpr c82
  clear c82
  by_cases c83:0≤t386
  rotate_left
  ·rw [if_neg c83] at H
   exact absurd H (by simp)
  rw [if_pos c83] at H
  have c83b0:=decide_eq_true c83
  clear c83
  by_cases c84:t386<(t376.length:Int)
  rotate_left
  ·rw [if_neg c84] at H
   exact absurd H (by simp)
  rw [if_pos c84] at H
  have c84b0:=decide_eq_true c84
  clear c84
  by_cases c85:((rd_L7 t376 t386).length:Int)>0
  rotate_left
  ·rw [if_neg c85] at H
   have c85b0:=decide_eq_false c85
   have c85b1:decide (0<(rd_L7 t376 t386).length)=false:=decide_eq_false (by omega)
   clear c85
   simp only [Option.some.injEq,Prod.mk.injEq] at H
   obtain ⟨rfl,rfl,rfl⟩:=H
   go_enter Try.func39,Try.ntmps39
   go_wp2_with (first|((with_reducible refine gate_dst (N:=14) rfl ?_);refine box_event ?hg (N:=14) ?hd (cs:=#[.slice A0 l0.length c0,.int .i64 0,.int .u64 0]) (t:=111) ?hr ?_;(case hd=>rfl);(case hg=>rfl);(case hr=>first|(go_simp;done)|(go_simp;rfl));intro gb367 hg w101 hbox hb;have n0_:=zb1 hb;have n1_:=Aside0.mk ((by rw [hg];exact (below_size zb):w.heap.size≤gb367));have n2_:=Aside0.mk ((by rw [hg];exact (below_size zb):w.heap.size≤gb367));have n3_:=Aside0.mk ((show IsS111 w _ gb367 l0 0 0 from ⟨_,_,hbox,(by rw [hg];exact (below_size zb):w.heap.size≤gb367),HR0.out⟩));clear HB;have HB:=n0_;have GW367:=n1_;have GE367:=n2_;have HI367:=n3_;clear n0_ n1_ n2_ n3_;clear hb hbox hg)|((with_reducible refine gate_callee (f:=85) rfl ?_);refine zgo 16 Try.func85 #[.pointer (some ⟨gb367,0,none⟩)] ?_;(with_reducible refine (spec_l1Cur_work7.calls k gb367 l0 0 0 t368 t371 t372 w _ ?side1 ?side2 A2.out).mono ?_);(case side1=>exact zz5);(case side2=>exact zz4);rintro e w102 ⟨v369,rfl,ho0,hi,hb,hk⟩;refine ⟨_,rfl,?_⟩;have HO370:=Aside0.mk (Kd.R_lower ho0 (below_size zz4));replace HB:=Aside0.mk (hb);replace HI367:=Aside0.mk (hi);(try clear hb);(try clear hk);(try clear hi);(try clear ho0))|((with_reducible refine gate_callee (f:=86) rfl ?_);refine zgo 18 Try.func86 #[.pointer (some ⟨gb367,0,none⟩)] ?_;(with_reducible refine (spec_l1Cur_machines.calls gb367 l0 t371 t372 t373 t374 t375 w _ ?side1 ?side2 A3.out).mono ?_);(case side1=>exact zz5);(case side2=>exact zz4);rintro e w103 ⟨rfl,hi,hb,hk⟩;refine ⟨_,rfl,?_⟩;replace HO370:=Aside0.mk (Kd.R_mono (Kd.R_keep (IsS111.apart (show IsS111 w _ gb367 l0 t371 t372 from by repeat (first|(with_reducible first|exact HI367.out|apply IsS111.alloc|apply IsS111.drewN|apply IsS111.drew|apply IsS111.set_1|apply IsS111.set_2)|exact HI367.out)) (zR HO370.out) (by decide)) hk (fun _ h=>h.2)) (fun _ h=>h.1));replace HB:=Aside0.mk (hb);replace HI367:=Aside0.mk (hi);(try clear hb);(try clear hk);(try clear hi);obtain ⟨Ao104,co104,eo104⟩:=Kd.R_slice HO370.out;subst eo104)|((with_reducible refine gate_callee (f:=43) rfl ?_);refine zgo 22 Try.func43 #[.slice Ao104 t368.length co104,.int .i64 t373] ?_;(with_reducible refine (spec_WrapAround.calls k _ _ t368 t373 t376 true _ ?side1 ?side2 A4.out).mono ?_);(case side1=>exact zC ((Kd.R_reads' HO370.out).2.2));(case side2=>exact (Kd.R_reads' HO370.out).2.1);rintro e w105 ⟨v378,rfl,ho0,hb⟩;refine ⟨_,rfl,?_⟩;have n0_:=zRb HO370 hb;have n1_:=Aside0.mk (Kd.S_lower ho0 (below_size zz4));have n2_:=Aside0.mk (IsS111.below zz5 hb);have n3_:=Aside0.mk (below_step zz4 hb);clear HO370;clear HI367;clear HB;have HO370:=n0_;have HO379:=n1_;have HI367:=n2_;have HB:=n3_;clear n0_ n1_ n2_ n3_;(try clear hb);(try clear ho0);obtain ⟨Ao106,co106,eo106⟩:=Kd.S_slice HO379.out;subst eo106)|((with_reducible refine gate_callee (f:=87) rfl ?_);refine zgo 34 Try.func87 #[.pointer (some ⟨gb367,0,none⟩),.int .i64 (t376.length:Int)] ?_;(with_reducible refine (spec_l1Cur_pick.calls gb367 l0 t374 t375 (t376.length:Int) t386 t387 t388 w _ ?side1 ?side2 A6.out).mono ?_);(case side1=>exact zz5);(case side2=>exact zz4);rintro e w107 ⟨rfl,hi,hb,hk⟩;refine ⟨_,rfl,?_⟩;replace HO370:=Aside0.mk (Kd.R_mono (Kd.R_keep (IsS111.apart (show IsS111 w _ gb367 l0 t374 t375 from by repeat (first|(with_reducible first|exact HI367.out|apply IsS111.alloc|apply IsS111.drewN|apply IsS111.drew|apply IsS111.set_1|apply IsS111.set_2)|exact HI367.out)) (zR HO370.out) (by decide)) hk (fun _ h=>h.2)) (fun _ h=>h.1));replace HO379:=Aside0.mk (Kd.S_mono (Kd.S_keep (IsS111.apartS (show IsS111 w _ gb367 l0 t374 t375 from by repeat (first|(with_reducible first|exact HI367.out|apply IsS111.alloc|apply IsS111.drewN|apply IsS111.drew|apply IsS111.set_1|apply IsS111.set_2)|exact HI367.out)) (zS HO379.out) (by decide)) hk (fun _ h=>h.2)) (fun _ h=>h.1));replace HB:=Aside0.mk (hb);replace HI367:=Aside0.mk (hi);(try clear hb);(try clear hk);(try clear hi))|((with_reducible refine gate_callee (f:=87) rfl ?_);refine zgo 36 Try.func87 #[.pointer (some ⟨gb367,0,none⟩),.int .i64 8] ?_;(with_reducible refine (spec_l1Cur_pick.calls gb367 l0 t387 t388 8 t389 t390 t391 w _ ?side1 ?side2 A7.out).mono ?_);(case side1=>exact zz5);(case side2=>exact zz4);rintro e w108 ⟨rfl,hi,hb,hk⟩;refine ⟨_,rfl,?_⟩;replace HO370:=Aside0.mk (Kd.R_mono (Kd.R_keep (IsS111.apart (show IsS111 w _ gb367 l0 t387 t388 from by repeat (first|(with_reducible first|exact HI367.out|apply IsS111.alloc|apply IsS111.drewN|apply IsS111.drew|apply IsS111.set_1|apply IsS111.set_2)|exact HI367.out)) (zR HO370.out) (by decide)) hk (fun _ h=>h.2)) (fun _ h=>h.1));replace HO379:=Aside0.mk (Kd.S_mono (Kd.S_keep (IsS111.apartS (show IsS111 w _ gb367 l0 t387 t388 from by repeat (first|(with_reducible first|exact HI367.out|apply IsS111.alloc|apply IsS111.drewN|apply IsS111.drew|apply IsS111.set_1|apply IsS111.set_2)|exact HI367.out)) (zS HO379.out) (by decide)) hk (fun _ h=>h.2)) (fun _ h=>h.1));replace HB:=Aside0.mk (hb);replace HI367:=Aside0.mk (hi);(try clear hb);(try clear hk);(try clear hi);have p422:0≤(t386:Int):=of_decide_eq_true za;have q422:t386<(t376.length:Int):=of_decide_eq_true za;obtain ⟨ad422,A422_0,c422_0,e422,hx422_0,hl422_0,hi422_0⟩:=at_L7 (Kd.S_reads' HO379.out).2.2 t386 p422 q422;cases e422;obtain ⟨ce422,hce422,hMe422,hcc422⟩:=Kd.S_get HO379.out [] t386 p422 (by first|exact q422|exact of_decide_eq_true za|(have e_:=(Kd.S_reads' HO379.out).1;omega));obtain ⟨ve422_0,rfl,ge422_0⟩:=hMe422;have hv422_0:=hcc422 0 _ rfl;rw [Nat.add_zero,show ((Kd.slice 116 k116)).sz=1 from rfl,Nat.mul_one] at hv422_0;replace hv422_0:=Option.some.inj (hv422_0.symm.trans hx422_0);rw [hv422_0] at ge422_0;have HL422_0:=Aside0.mk (show Kd.R k116 116 _ _ _ _ (rd_L7 t376 t386) from ge422_0);clear hv422_0 ge422_0;have HX422_0:=Aside0.mk hx422_0;clear hcc422 hce422;have HR422_0:=Aside0.mk hi422_0;have HC422_0:=Aside0.mk hl422_0;clear hi422_0 hl422_0;replace p422:=eq_true p422;replace q422:=eq_true q422))
   go_ret3
   exact ⟨_,_,zz1,zR HO370.out,zS HO379.out,zz4⟩
  rw [if_pos c85] at H
  have c85b0:=decide_eq_true c85
  have c85b1:decide (0<(rd_L7 t376 t386).length)=true:=decide_eq_true (by omega)
  clear c85
  replace H:=Option.bind_eq_some_iff.mp H
  obtain ⟨⟨t424,t425,t426⟩,A860,H⟩:=H
  try dsimp only at H
  have A86:=Aside0.mk A860
  clear A860
  by_cases c87:0<((rd_L7 t376 t386).length:Int)
  rotate_left
  ·rw [if_neg c87] at H
   exact absurd H (by simp)
  rw [if_pos c87] at H
  have c87b0:=decide_eq_true c87
  have c87b1:decide (0<(rd_L7 t376 t386).length)=true:=decide_eq_true (by omega)
  clear c87
  obtain ⟨y427,hy427⟩:∃ y_:List (S116),y_=((rd_L7 t376 t386).set (0:Int).toNat (⟨wrap64 (t424 - 1),(rd_T116 (rd_L7 t376 t386) 0).f1,(rd_T116 (rd_L7 t376 t386) 0).f2⟩:S116)):=⟨_,rfl⟩
  replace H:(some (t368,t373,(t376.set (t386:Int).toNat y427)))=some (r1,r2,r3):=by first|(rw [hy427];with_reducible exact H)|(have H2_:=(Option.bind_some _ _).symm.trans H;rw [hy427];with_reducible exact H2_)|(have H2_:=(Option.bind_some _ _).symm.trans H;with_reducible exact H2_)|with_reducible exact H|(rw [hy427];exact H)|exact H
  have Ny427:=Aside0.mk hy427
  clear hy427
  obtain ⟨y429,hy429⟩:∃ y_:List (List (S116)),y_=(t376.set (t386:Int).toNat y427):=⟨_,rfl⟩
  replace H:(some (t368,t373,y429))=some (r1,r2,r3):=by first|(rw [hy429];with_reducible exact H)|(have H2_:=(Option.bind_some _ _).symm.trans H;rw [hy429];with_reducible exact H2_)|(have H2_:=(Option.bind_some _ _).symm.trans H;with_reducible exact H2_)|with_reducible exact H|(rw [hy429];exact H)|exact H
  have Ny429:=Aside0.mk hy429
  clear hy429
  simp only [Option.some.injEq,Prod.mk.injEq] at H
  obtain ⟨rfl,rfl,rfl⟩:=H
  go_enter Try.func39,Try.ntmps39
  try go_wp2_with (first|((with_reducible refine gate_dst (N:=14) rfl ?_);refine box_event ?hg (N:=14) ?hd (cs:=#[.slice A0 l0.length c0,.int .i64 0,.int .u64 0]) (t:=111) ?hr ?_;(case hd=>rfl);(case hg=>rfl);(case hr=>first|(go_simp;done)|(go_simp;rfl));intro gb367 hg w89 hbox hb;have n0_:=zb1 hb;have n1_:=Aside0.mk ((by rw [hg];exact (below_size zb):w.heap.size≤gb367));have n2_:=Aside0.mk ((by rw [hg];exact (below_size zb):w.heap.size≤gb367));have n3_:=Aside0.mk ((show IsS111 w _ gb367 l0 0 0 from ⟨_,_,hbox,(by rw [hg];exact (below_size zb):w.heap.size≤gb367),HR0.out⟩));clear HB;have HB:=n0_;have GW367:=n1_;have GE367:=n2_;have HI367:=n3_;clear n0_ n1_ n2_ n3_;clear hb hbox hg)|((with_reducible refine gate_callee (f:=85) rfl ?_);refine zgo 16 Try.func85 #[.pointer (some ⟨gb367,0,none⟩)] ?_;(with_reducible refine (spec_l1Cur_work7.calls k gb367 l0 0 0 t368 t371 t372 w _ ?side1 ?side2 A2.out).mono ?_);(case side1=>exact zz5);(case side2=>exact zz4);rintro e w90 ⟨v369,rfl,ho0,hi,hb,hk⟩;refine ⟨_,rfl,?_⟩;have HO370:=Aside0.mk (Kd.R_lower ho0 (below_size zz4));replace HB:=Aside0.mk (hb);replace HI367:=Aside0.mk (hi);(try clear hb);(try clear hk);(try clear hi);(try clear ho0))|((with_reducible refine gate_callee (f:=86) rfl ?_);refine zgo 18 Try.func86 #[.pointer (some ⟨gb367,0,none⟩)] ?_;(with_reducible refine (spec_l1Cur_machines.calls gb367 l0 t371 t372 t373 t374 t375 w _ ?side1 ?side2 A3.out).mono ?_);(case side1=>exact zz5);(case side2=>exact zz4);rintro e w91 ⟨rfl,hi,hb,hk⟩;refine ⟨_,rfl,?_⟩;replace HO370:=Aside0.mk (Kd.R_mono (Kd.R_keep (IsS111.apart (show IsS111 w _ gb367 l0 t371 t372 from by repeat (first|(with_reducible first|exact HI367.out|apply IsS111.alloc|apply IsS111.drewN|apply IsS111.drew|apply IsS111.set_1|apply IsS111.set_2)|exact HI367.out)) (zR HO370.out) (by decide)) hk (fun _ h=>h.2)) (fun _ h=>h.1));replace HB:=Aside0.mk (hb);replace HI367:=Aside0.mk (hi);(try clear hb);(try clear hk);(try clear hi);obtain ⟨Ao92,co92,eo92⟩:=Kd.R_slice HO370.out;subst eo92)|((with_reducible refine gate_callee (f:=43) rfl ?_);refine zgo 22 Try.func43 #[.slice Ao92 t368.length co92,.int .i64 t373] ?_;(with_reducible refine (spec_WrapAround.calls k _ _ t368 t373 t376 true _ ?side1 ?side2 A4.out).mono ?_);(case side1=>exact zC ((Kd.R_reads' HO370.out).2.2));(case side2=>exact (Kd.R_reads' HO370.out).2.1);rintro e w93 ⟨v378,rfl,ho0,hb⟩;refine ⟨_,rfl,?_⟩;have n0_:=zRb HO370 hb;have n1_:=Aside0.mk (Kd.S_lower ho0 (below_size zz4));have n2_:=Aside0.mk (IsS111.below zz5 hb);have n3_:=Aside0.mk (below_step zz4 hb);clear HO370;clear HI367;clear HB;have HO370:=n0_;have HO379:=n1_;have HI367:=n2_;have HB:=n3_;clear n0_ n1_ n2_ n3_;(try clear hb);(try clear ho0);obtain ⟨Ao94,co94,eo94⟩:=Kd.S_slice HO379.out;subst eo94)|((with_reducible refine gate_callee (f:=87) rfl ?_);refine zgo 34 Try.func87 #[.pointer (some ⟨gb367,0,none⟩),.int .i64 (t376.length:Int)] ?_;(with_reducible refine (spec_l1Cur_pick.calls gb367 l0 t374 t375 (t376.length:Int) t386 t387 t388 w _ ?side1 ?side2 A6.out).mono ?_);(case side1=>exact zz5);(case side2=>exact zz4);rintro e w95 ⟨rfl,hi,hb,hk⟩;refine ⟨_,rfl,?_⟩;replace HO370:=Aside0.mk (Kd.R_mono (Kd.R_keep (IsS111.apart (show IsS111 w _ gb367 l0 t374 t375 from by repeat (first|(with_reducible first|exact HI367.out|apply IsS111.alloc|apply IsS111.drewN|apply IsS111.drew|apply IsS111.set_1|apply IsS111.set_2)|exact HI367.out)) (zR HO370.out) (by decide)) hk (fun _ h=>h.2)) (fun _ h=>h.1));replace HO379:=Aside0.mk (Kd.S_mono (Kd.S_keep (IsS111.apartS (show IsS111 w _ gb367 l0 t374 t375 from by repeat (first|(with_reducible first|exact HI367.out|apply IsS111.alloc|apply IsS111.drewN|apply IsS111.drew|apply IsS111.set_1|apply IsS111.set_2)|exact HI367.out)) (zS HO379.out) (by decide)) hk (fun _ h=>h.2)) (fun _ h=>h.1));replace HB:=Aside0.mk (hb);replace HI367:=Aside0.mk (hi);(try clear hb);(try clear hk);(try clear hi))|((with_reducible refine gate_callee (f:=87) rfl ?_);refine zgo 36 Try.func87 #[.pointer (some ⟨gb367,0,none⟩),.int .i64 8] ?_;(with_reducible refine (spec_l1Cur_pick.calls gb367 l0 t387 t388 8 t389 t390 t391 w _ ?side1 ?side2 A7.out).mono ?_);(case side1=>exact zz5);(case side2=>exact zz4);rintro e w96 ⟨rfl,hi,hb,hk⟩;refine ⟨_,rfl,?_⟩;replace HO370:=Aside0.mk (Kd.R_mono (Kd.R_keep (IsS111.apart (show IsS111 w _ gb367 l0 t387 t388 from by repeat (first|(with_reducible first|exact HI367.out|apply IsS111.alloc|apply IsS111.drewN|apply IsS111.drew|apply IsS111.set_1|apply IsS111.set_2)|exact HI367.out)) (zR HO370.out) (by decide)) hk (fun _ h=>h.2)) (fun _ h=>h.1));replace HO379:=Aside0.mk (Kd.S_mono (Kd.S_keep (IsS111.apartS (show IsS111 w _ gb367 l0 t387 t388 from by repeat (first|(with_reducible first|exact HI367.out|apply IsS111.alloc|apply IsS111.drewN|apply IsS111.drew|apply IsS111.set_1|apply IsS111.set_2)|exact HI367.out)) (zS HO379.out) (by decide)) hk (fun _ h=>h.2)) (fun _ h=>h.1));replace HB:=Aside0.mk (hb);replace HI367:=Aside0.mk (hi);(try clear hb);(try clear hk);(try clear hi);have p422:0≤(t386:Int):=of_decide_eq_true za;have q422:t386<(t376.length:Int):=of_decide_eq_true za;obtain ⟨ad422,A422_0,c422_0,e422,hx422_0,hl422_0,hi422_0⟩:=at_L7 (Kd.S_reads' HO379.out).2.2 t386 p422 q422;cases e422;obtain ⟨ce422,hce422,hMe422,hcc422⟩:=Kd.S_get HO379.out [] t386 p422 (by first|exact q422|exact of_decide_eq_true za|(have e_:=(Kd.S_reads' HO379.out).1;omega));obtain ⟨ve422_0,rfl,ge422_0⟩:=hMe422;have hv422_0:=hcc422 0 _ rfl;rw [Nat.add_zero,show ((Kd.slice 116 k116)).sz=1 from rfl,Nat.mul_one] at hv422_0;replace hv422_0:=Option.some.inj (hv422_0.symm.trans hx422_0);rw [hv422_0] at ge422_0;have HL422_0:=Aside0.mk (show Kd.R k116 116 _ _ _ _ (rd_L7 t376 t386) from ge422_0);clear hv422_0 ge422_0;have HX422_0:=Aside0.mk hx422_0;clear hcc422 hce422;have HR422_0:=Aside0.mk hi422_0;have HC422_0:=Aside0.mk hl422_0;clear hi422_0 hl422_0;replace p422:=eq_true p422;replace q422:=eq_true q422))
  replace HO370:=Aside0.mk (Kd.R_drew HO370.out)
  replace HO379:=Aside0.mk (Kd.S_drew HO379.out)
  replace HL422_0:=Aside0.mk (Kd.R_drew HL422_0.out)
  replace HR422_0:=Aside0.mk (Kd.C_drew HR422_0.out)
  replace HI367:=Aside0.mk (IsS111.drew HI367.out)
  replace HB:=Aside0.mk (below_drew1 HB.out)
  have p423:0≤(t386:Int):=of_decide_eq_true za
  have q423:t386<(t376.length:Int):=of_decide_eq_true za
  obtain ⟨ad423,A423_0,c423_0,e423,hx423_0,hl423_0,hi423_0⟩:=at_L7 (Kd.S_reads' HO379.out).2.2 t386 p423 q423
  obtain rfl:ad422=ad423:=(by injection e423)
  obtain ⟨ce423,hce423,hMe423,hcc423⟩:=Kd.S_get HO379.out [] t386 p423 (by first|exact q423|exact of_decide_eq_true za|(have e_:=(Kd.S_reads' HO379.out).1;omega))
  obtain ⟨ve423_0,rfl,ge423_0⟩:=hMe423
  have hv423_0:=hcc423 0 _ rfl
  rw [Nat.add_zero,show ((Kd.slice 116 k116)).sz=1 from rfl,Nat.mul_one] at hv423_0
  replace hv423_0:=Option.some.inj (hv423_0.symm.trans hx423_0)
  rw [hv423_0] at ge423_0
  have HL423_0:=Aside0.mk (show Kd.R k116 116 _ _ _ _ (rd_L7 t376 t386) from ge423_0)
  clear hv423_0 ge423_0
  have HX423_0:=Aside0.mk hx423_0
  clear hcc423 hce423
  have HR423_0:=Aside0.mk hi423_0
  have HC423_0:=Aside0.mk hl423_0
  clear hi423_0 hl423_0
  replace p423:=eq_true p423
  replace q423:=eq_true q423
  refine start_ (n:=13) (S:=fun w'=>w'.cell? (ad422.add (t386).toNat)=some (.slice A423_0 (rd_L7 t376 t386).length c423_0)) (ds:=[12]) #[false,false,false,false,false,false,false,false,false,false,false,false,false] (by kernel_rfl) rfl rfl (hx423_0) (fun hHeld=>?_);refine with_tabW spec_DrawIsShared.tab20 spec_DrawIsShared.bits20 (fun HT_ HW_=>?_)
  generalize w96.drew=w97 at HO370 HO379 HL422_0 HR422_0 HI367 HB HL423_0 HR423_0 HX423_0 hx423_0 hHeld ⊢
  refine pu_ 0 122 ?_
  refine pu_ 1 123 ?_
  refine pu_ 2 124 ?_
  refine pu_ 4 126 ?_
  refine pu_ 5 127 ?_
  refine pu_ 6 128 ?_
  refine pu_ 7 129 ?_
  refine take_ (i:=3) (N:=some 125) (v:=?_) (a':=?_) #[true,true,true,true,true,true,true,true,false,false,false,false,false] rfl rfl (take_ofW HT_.out HW_.out (by kernel_rfl)) (fun _ _ _ h=>h) (Or.inl ⟨by rfl,?_⟩) hHeld ?_ ?_
  rotate_left
  ·intro w' s0
   go_simp
   with_reducible rfl
  rotate_left
  ·simp only [Act.put,List.setIfInBounds_toArray,List.set_cons_zero,List.set_cons_succ,i64_w,i32_w]
   rfl
  refine one_ (i:=8) (N:=some 130) #[true,true,true,true,true,true,true,true,true,false,false,false,false] rfl rfl (one_of HT_.out (by kernel_rfl)) (by decide) (fun K hK=>?_)
  refine goes_ Try.func87 (by kernel_rfl) rfl #[.pointer (some ⟨gb367,0,none⟩),.int .i64 (wrap64 ((t368.length:Int) + 2))] (by rfl) rfl rfl zl ?_
  with_reducible refine (spec_l1Cur_pick.calls gb367 l0 t390 t391 (wrap64 ((t368.length:Int) + 2)) t424 t425 t426 w _ ?side1 ?side2 A86.out).mono ?_
  (case side1=>exact zz5)
  (case side2=>exact zz4)
  rintro e w98 ⟨rfl,hi,hb,hk⟩
  have HS0_:=keep_cell hk (hHeld) zz49
  refine ⟨_,rfl,?_⟩
  have n0_:=Aside0.mk (Kd.R_mono (Kd.R_keep (IsS111.apart (show IsS111 w _ gb367 l0 t390 t391 from by repeat (first|(with_reducible first|exact HI367.out|apply IsS111.alloc|apply IsS111.drewN|apply IsS111.drew|apply IsS111.set_1|apply IsS111.set_2)|exact HI367.out)) (zR HO370.out) (by decide)) hk (fun _ h=>h.2)) (fun _ h=>h.1))
  have n1_:=Aside0.mk (Kd.S_mono (Kd.S_keep (IsS111.apartS (show IsS111 w _ gb367 l0 t390 t391 from by repeat (first|(with_reducible first|exact HI367.out|apply IsS111.alloc|apply IsS111.drewN|apply IsS111.drew|apply IsS111.set_1|apply IsS111.set_2)|exact HI367.out)) (zS HO379.out) (by decide)) hk (fun _ h=>h.2)) (fun _ h=>h.1))
  have n2_:=Aside0.mk (Kd.R_mono (Kd.R_keep (IsS111.apart (show IsS111 w _ gb367 l0 t390 t391 from by repeat (first|(with_reducible first|exact HI367.out|apply IsS111.alloc|apply IsS111.drewN|apply IsS111.drew|apply IsS111.set_1|apply IsS111.set_2)|exact HI367.out)) (zR HL422_0.out) (by decide)) hk (fun _ h=>h.2)) (fun _ h=>h.1))
  have n3_:=Aside0.mk (Kd.R_mono (Kd.R_keep (IsS111.apart (show IsS111 w _ gb367 l0 t390 t391 from by repeat (first|(with_reducible first|exact HI367.out|apply IsS111.alloc|apply IsS111.drewN|apply IsS111.drew|apply IsS111.set_1|apply IsS111.set_2)|exact HI367.out)) (zR HL423_0.out) (by decide)) hk (fun _ h=>h.2)) (fun _ h=>h.1))
  have n4_:=Aside0.mk (keep_cell hk HX423_0.out zz51)
  have n5_:=Aside0.mk (hb)
  have n6_:=Aside0.mk (hi)
  clear HO370
  clear HO379
  clear HL422_0
  clear HL423_0
  clear HX423_0
  clear HB
  clear HI367
  have HO370:=n0_
  have HO379:=n1_
  have HL422_0:=n2_
  have HL423_0:=n3_
  have HX423_0:=n4_
  have HB:=n5_
  have HI367:=n6_
  clear n0_ n1_ n2_ n3_ n4_ n5_ n6_
  have p88:0≤(0:Int):=(by omega)
  have q88:(0:Int)<(((rd_L7 t376 t386).length:Int):Int):=of_decide_eq_true za
  have qi88:(0<(rd_L7 t376 t386).length)=True:=eq_true (by omega)
  obtain ⟨go88,co88,eo88,gb88,gl88,cl88,HG88⟩:=Kd.R_form HL423_0.out (by omega)
  (first|cases eo88|(injection eo88 with ea_ en_ ec_;(first|subst ea_|(injection ea_ with ea_;subst ea_));subst ec_;clear en_))
  have GB88:=Aside0.mk gb88
  have GG88:=Aside0.mk HG88
  clear gb88 gl88 HG88
  obtain ⟨ce88,hcl88,hM88,hcc88,hfr88⟩:=Kd.R_elem HL423_0.out z116 (0:Int) p88 q88
  obtain rfl:=k116_openM hM88
  have hx88_0:World.cell? _ ⟨go88,(0:Int).toNat * 3,none⟩=some (.int .i64 ((rd_T116 (rd_L7 t376 t386) 0).f0)):=hcc88 0 _ rfl
  have hx88_1:World.cell? _ ⟨go88,(0:Int).toNat * 3 + 1,none⟩=some (.int .i64 ((rd_T116 (rd_L7 t376 t386) 0).f1)):=hcc88 1 _ rfl
  have hx88_2:World.cell? _ ⟨go88,(0:Int).toNat * 3 + 2,none⟩=some (.int .i64 ((rd_T116 (rd_L7 t376 t386) 0).f2)):=hcc88 2 _ rfl
  have hf88_0:World.frozen? _ ⟨go88,(0:Int).toNat * 3,none⟩=false:=hfr88 0
  have hf88_1:World.frozen? _ ⟨go88,(0:Int).toNat * 3 + 1,none⟩=false:=hfr88 1
  have hf88_2:World.frozen? _ ⟨go88,(0:Int).toNat * 3 + 2,none⟩=false:=hfr88 2
  (clear hcl88 hcc88 hfr88;(try clear hM88))
  (try rw [show ((0:Int)).toNat=0 from rfl] at hx88_0)
  (try simp only [Nat.reduceMul,Nat.zero_mul,Nat.zero_add,Nat.reduceAdd] at hx88_0)
  (try rw [show ((0:Int)).toNat=0 from rfl] at hf88_0)
  (try simp only [Nat.reduceMul,Nat.zero_mul,Nat.zero_add,Nat.reduceAdd] at hf88_0)
  (try rw [show ((0:Int)).toNat=0 from rfl] at hx88_1)
  (try simp only [Nat.reduceMul,Nat.zero_mul,Nat.zero_add,Nat.reduceAdd] at hx88_1)
  (try rw [show ((0:Int)).toNat=0 from rfl] at hf88_1)
  (try simp only [Nat.reduceMul,Nat.zero_mul,Nat.zero_add,Nat.reduceAdd] at hf88_1)
  (try rw [show ((0:Int)).toNat=0 from rfl] at hx88_2)
  (try simp only [Nat.reduceMul,Nat.zero_mul,Nat.zero_add,Nat.reduceAdd] at hx88_2)
  (try rw [show ((0:Int)).toNat=0 from rfl] at hf88_2)
  (try simp only [Nat.reduceMul,Nat.zero_mul,Nat.zero_add,Nat.reduceAdd] at hf88_2)
  replace p88:=eq_true p88
  replace q88:=eq_true q88
  have hq99:(t386:Int)<(t376.length:Int):=(by have h_:(t386:Int)<((t376.length:Int):Int):=of_decide_eq_true za;first|exact h_|(have e_:=(Kd.S_reads' HO379.out).1;omega)|simpa only [List.length_set,List.length_set] using h_)
  obtain ⟨oki99,ce99,hcl99,hM99,hcc99,hok99,hbk99⟩:=Kd.S_borrow HO379.out [] (t386:Int) (of_decide_eq_true za) (by first|exact hq99|exact of_decide_eq_true za)
  obtain ⟨ve99_0,rfl,ge99_0⟩:=hM99
  have hv99:=hcc99 0 _ rfl
  rw [Nat.add_zero,show ((Kd.slice 116 k116)).sz=1 from rfl,Nat.mul_one] at hv99
  replace hv99:=Option.some.inj (hv99.symm.trans HX423_0.out)
  subst hv99
  clear hcc99 hcl99
  replace ge99_0:=(show Kd.R k116 116 _ _ _ _ (rd_L7 t376 t386) from ge99_0)
  obtain ⟨cf99,hcl99,hN99,hcc99,hfr99⟩:=Kd.R_elem ge99_0 z116 (0:Int) (by omega) (by have h_:(0:Int)<(((rd_L7 t376 t386).length:Int):Int):=of_decide_eq_true za;first|exact h_|(have e_:=(Kd.R_reads' HR423_0.out).1;omega)|simpa using h_)
  obtain rfl:=k116_openM hN99
  have HP99:=Kd.R_seg ge99_0 (0:Int) (by omega) (by have h_:(0:Int)<(((rd_L7 t376 t386).length:Int):Int):=of_decide_eq_true za;first|exact h_|(have e_:=(Kd.R_reads' HR423_0.out).1;omega)|simpa using h_) (seg:=[.int .i64 (wrap64 (t424 - 1))]) (j:=0) hcl99 hcc99 (show 1≤3 from by decide) (x':=(⟨wrap64 (t424 - 1),(rd_T116 (rd_L7 t376 t386) 0).f1,(rd_T116 (rd_L7 t376 t386) 0).f2⟩:S116)) (k116_mkM _ _ _ (⟨wrap64 (t424 - 1),(rd_T116 (rd_L7 t376 t386) 0).f1,(rd_T116 (rd_L7 t376 t386) 0).f2⟩:S116)) (fun _ hk=>hk)
  clear hcl99 hcc99 hfr99 hN99
  have HN367_go88:=Aside0.mk (show gb367≠go88 from by have h_:=IsS111.own_ne HI367.out HL423_0.out (by decide);intro e_;exact h_ (by rw [e_];rfl))
  rw [←Ny427.out] at HP99
  have HS99:=hbk99 HP99.2 (fun k_ e_=>by injection e_ with e_;subst e_;exact ge99_0.1 _ rfl) (x':=y427) (Kd.M_row HP99.1)
  rw [←Ny429.out] at HS99
  have HQ99:=Aside0.mk HS99
  clear HP99 HS99 hbk99 hok99
  refine hK.out _ _ (HS0_) (fun hHeld=>?_)
  clear hK K
  refine norm_ (a':=?_) ?_ ?_
  rotate_left
  ·show Act.put _ (some 130) _=_
   simp only [Act.put,List.setIfInBounds_toArray,List.set_cons_zero,List.set_cons_succ,i64_w,i32_w]
   rfl
  refine pu_ 9 131 ?_
  refine pu_ 10 132 ?_
  refine pu_ 11 133 ?_
  refine last_ (i:=12) (N:=none) #[true,true,true,true,true,true,true,true,true,true,true,true,true] rfl rfl (one_of HT_.out (by kernel_rfl)) (by decide) (fun K hK=>?_)
  refine skip_ (w1:=?_) (by rfl) rfl ?_ ?_
  rotate_left
  ·go_simp
   rfl
  refine hK.out _ _ ?_
  clear hK K
  refine done_ (done_of HT_.out (by kernel_rfl)) ?_
  try go_wp2
  go_ret3
  exact ⟨_,_,zz1,by (with_reducible repeat (first|apply Kd.R_alloc|apply Kd.R_drewN|apply Kd.R_drew));exact Kd.R_mono (Kd.R_far (p:=⟨go88,0,none⟩) (Kd.R_types HO370.out GG88.out (by decide)) (fun _ hk=>hk.2) (.int .i64 (wrap64 (t424 - 1)))) (fun _ hk=>trivial),by (with_reducible repeat (first|apply Kd.S_alloc|apply Kd.S_drewN|apply Kd.S_drew));exact HQ99.out,by repeat (first|(with_reducible first|exact HB.out|apply below_alloc|apply pw_below_drewN|apply below_drew1|refine below_set ?_ GB88.out|refine below_set ?_ (IsS111.ge HI367.out))|exact HB.out)⟩
 rw [if_pos c49] at H
 have c49b0:(t389 == 2)=true:=beq_iff_eq.mpr c49
 have c49b1:(t389 != 2)=false:=bne_eq_false_iff_eq.mpr c49
 clear c49
 by_cases c50:0≤t386
 rotate_left
 ·rw [if_neg c50] at H
  exact absurd H (by simp)
 rw [if_pos c50] at H
 have c50b0:=decide_eq_true c50
 clear c50
 by_cases c51:t386<(t376.length:Int)
 rotate_left
 ·rw [if_neg c51] at H
  exact absurd H (by simp)
 rw [if_pos c51] at H
 have c51b0:=decide_eq_true c51
 clear c51
 by_cases c52:((rd_L7 t376 t386).length:Int)>0
 rotate_left
 ·rw [if_neg c52] at H
  have c52b0:=decide_eq_false c52
  have c52b1:decide (0<(rd_L7 t376 t386).length)=false:=decide_eq_false (by omega)
  clear c52
  simp only [Option.some.injEq,Prod.mk.injEq] at H
  obtain ⟨rfl,rfl,rfl⟩:=H
  go_enter Try.func39,Try.ntmps39
  go_wp2_with (first|((with_reducible refine gate_dst (N:=14) rfl ?_);refine box_event ?hg (N:=14) ?hd (cs:=#[.slice A0 l0.length c0,.int .i64 0,.int .u64 0]) (t:=111) ?hr ?_;(case hd=>rfl);(case hg=>rfl);(case hr=>first|(go_simp;done)|(go_simp;rfl));intro gb367 hg w74 hbox hb;have n0_:=zb1 hb;have n1_:=Aside0.mk ((by rw [hg];exact (below_size zb):w.heap.size≤gb367));have n2_:=Aside0.mk ((by rw [hg];exact (below_size zb):w.heap.size≤gb367));have n3_:=Aside0.mk ((show IsS111 w _ gb367 l0 0 0 from ⟨_,_,hbox,(by rw [hg];exact (below_size zb):w.heap.size≤gb367),HR0.out⟩));clear HB;have HB:=n0_;have GW367:=n1_;have GE367:=n2_;have HI367:=n3_;clear n0_ n1_ n2_ n3_;clear hb hbox hg)|((with_reducible refine gate_callee (f:=85) rfl ?_);refine zgo 16 Try.func85 #[.pointer (some ⟨gb367,0,none⟩)] ?_;(with_reducible refine (spec_l1Cur_work7.calls k gb367 l0 0 0 t368 t371 t372 w _ ?side1 ?side2 A2.out).mono ?_);(case side1=>exact zz5);(case side2=>exact zz4);rintro e w75 ⟨v369,rfl,ho0,hi,hb,hk⟩;refine ⟨_,rfl,?_⟩;have HO370:=Aside0.mk (Kd.R_lower ho0 (below_size zz4));replace HB:=Aside0.mk (hb);replace HI367:=Aside0.mk (hi);(try clear hb);(try clear hk);(try clear hi);(try clear ho0))|((with_reducible refine gate_callee (f:=86) rfl ?_);refine zgo 18 Try.func86 #[.pointer (some ⟨gb367,0,none⟩)] ?_;(with_reducible refine (spec_l1Cur_machines.calls gb367 l0 t371 t372 t373 t374 t375 w _ ?side1 ?side2 A3.out).mono ?_);(case side1=>exact zz5);(case side2=>exact zz4);rintro e w76 ⟨rfl,hi,hb,hk⟩;refine ⟨_,rfl,?_⟩;replace HO370:=Aside0.mk (Kd.R_mono (Kd.R_keep (IsS111.apart (show IsS111 w _ gb367 l0 t371 t372 from by repeat (first|(with_reducible first|exact HI367.out|apply IsS111.alloc|apply IsS111.drewN|apply IsS111.drew|apply IsS111.set_1|apply IsS111.set_2)|exact HI367.out)) (zR HO370.out) (by decide)) hk (fun _ h=>h.2)) (fun _ h=>h.1));replace HB:=Aside0.mk (hb);replace HI367:=Aside0.mk (hi);(try clear hb);(try clear hk);(try clear hi);obtain ⟨Ao77,co77,eo77⟩:=Kd.R_slice HO370.out;subst eo77)|((with_reducible refine gate_callee (f:=43) rfl ?_);refine zgo 22 Try.func43 #[.slice Ao77 t368.length co77,.int .i64 t373] ?_;(with_reducible refine (spec_WrapAround.calls k _ _ t368 t373 t376 true _ ?side1 ?side2 A4.out).mono ?_);(case side1=>exact zC ((Kd.R_reads' HO370.out).2.2));(case side2=>exact (Kd.R_reads' HO370.out).2.1);rintro e w78 ⟨v378,rfl,ho0,hb⟩;refine ⟨_,rfl,?_⟩;have n0_:=zRb HO370 hb;have n1_:=Aside0.mk (Kd.S_lower ho0 (below_size zz4));have n2_:=Aside0.mk (IsS111.below zz5 hb);have n3_:=Aside0.mk (below_step zz4 hb);clear HO370;clear HI367;clear HB;have HO370:=n0_;have HO379:=n1_;have HI367:=n2_;have HB:=n3_;clear n0_ n1_ n2_ n3_;(try clear hb);(try clear ho0);obtain ⟨Ao79,co79,eo79⟩:=Kd.S_slice HO379.out;subst eo79)|((with_reducible refine gate_callee (f:=87) rfl ?_);refine zgo 34 Try.func87 #[.pointer (some ⟨gb367,0,none⟩),.int .i64 (t376.length:Int)] ?_;(with_reducible refine (spec_l1Cur_pick.calls gb367 l0 t374 t375 (t376.length:Int) t386 t387 t388 w _ ?side1 ?side2 A6.out).mono ?_);(case side1=>exact zz5);(case side2=>exact zz4);rintro e w80 ⟨rfl,hi,hb,hk⟩;refine ⟨_,rfl,?_⟩;replace HO370:=Aside0.mk (Kd.R_mono (Kd.R_keep (IsS111.apart (show IsS111 w _ gb367 l0 t374 t375 from by repeat (first|(with_reducible first|exact HI367.out|apply IsS111.alloc|apply IsS111.drewN|apply IsS111.drew|apply IsS111.set_1|apply IsS111.set_2)|exact HI367.out)) (zR HO370.out) (by decide)) hk (fun _ h=>h.2)) (fun _ h=>h.1));replace HO379:=Aside0.mk (Kd.S_mono (Kd.S_keep (IsS111.apartS (show IsS111 w _ gb367 l0 t374 t375 from by repeat (first|(with_reducible first|exact HI367.out|apply IsS111.alloc|apply IsS111.drewN|apply IsS111.drew|apply IsS111.set_1|apply IsS111.set_2)|exact HI367.out)) (zS HO379.out) (by decide)) hk (fun _ h=>h.2)) (fun _ h=>h.1));replace HB:=Aside0.mk (hb);replace HI367:=Aside0.mk (hi);(try clear hb);(try clear hk);(try clear hi))|((with_reducible refine gate_callee (f:=87) rfl ?_);refine zgo 36 Try.func87 #[.pointer (some ⟨gb367,0,none⟩),.int .i64 8] ?_;(with_reducible refine (spec_l1Cur_pick.calls gb367 l0 t387 t388 8 t389 t390 t391 w _ ?side1 ?side2 A7.out).mono ?_);(case side1=>exact zz5);(case side2=>exact zz4);rintro e w81 ⟨rfl,hi,hb,hk⟩;refine ⟨_,rfl,?_⟩;replace HO370:=Aside0.mk (Kd.R_mono (Kd.R_keep (IsS111.apart (show IsS111 w _ gb367 l0 t387 t388 from by repeat (first|(with_reducible first|exact HI367.out|apply IsS111.alloc|apply IsS111.drewN|apply IsS111.drew|apply IsS111.set_1|apply IsS111.set_2)|exact HI367.out)) (zR HO370.out) (by decide)) hk (fun _ h=>h.2)) (fun _ h=>h.1));replace HO379:=Aside0.mk (Kd.S_mono (Kd.S_keep (IsS111.apartS (show IsS111 w _ gb367 l0 t387 t388 from by repeat (first|(with_reducible first|exact HI367.out|apply IsS111.alloc|apply IsS111.drewN|apply IsS111.drew|apply IsS111.set_1|apply IsS111.set_2)|exact HI367.out)) (zS HO379.out) (by decide)) hk (fun _ h=>h.2)) (fun _ h=>h.1));replace HB:=Aside0.mk (hb);replace HI367:=Aside0.mk (hi);(try clear hb);(try clear hk);(try clear hi);have p408:0≤(t386:Int):=of_decide_eq_true za;have q408:t386<(t376.length:Int):=of_decide_eq_true za;obtain ⟨ad408,A408_0,c408_0,e408,hx408_0,hl408_0,hi408_0⟩:=at_L7 (Kd.S_reads' HO379.out).2.2 t386 p408 q408;cases e408;obtain ⟨ce408,hce408,hMe408,hcc408⟩:=Kd.S_get HO379.out [] t386 p408 (by first|exact q408|exact of_decide_eq_true za|(have e_:=(Kd.S_reads' HO379.out).1;omega));obtain ⟨ve408_0,rfl,ge408_0⟩:=hMe408;have hv408_0:=hcc408 0 _ rfl;rw [Nat.add_zero,show ((Kd.slice 116 k116)).sz=1 from rfl,Nat.mul_one] at hv408_0;replace hv408_0:=Option.some.inj (hv408_0.symm.trans hx408_0);rw [hv408_0] at ge408_0;have HL408_0:=Aside0.mk (show Kd.R k116 116 _ _ _ _ (rd_L7 t376 t386) from ge408_0);clear hv408_0 ge408_0;have HX408_0:=Aside0.mk hx408_0;clear hcc408 hce408;have HR408_0:=Aside0.mk hi408_0;have HC408_0:=Aside0.mk hl408_0;clear hi408_0 hl408_0;replace p408:=eq_true p408;replace q408:=eq_true q408))
  go_ret3
  exact ⟨_,_,zz1,zR HO370.out,zS HO379.out,zz4⟩
 rw [if_pos c52] at H
 have c52b0:=decide_eq_true c52
 have c52b1:decide (0<(rd_L7 t376 t386).length)=true:=decide_eq_true (by omega)
 clear c52
 obtain ⟨ji53,hji53⟩:∃ j_:Int,(wrap64 (((rd_L7 t376 t386).length:Int) - 1))=j_:=⟨_,rfl⟩
 replace H:(if 0≤(ji53) then (if (ji53)<((rd_L7 t376 t386).length:Int) then ((some (t376.set (t386:Int).toNat ((rd_L7 t376 t386).set ((ji53):Int).toNat (⟨(rd_T116 (rd_L7 t376 t386) (ji53)).f0,wrap64 (((rd_T116 (rd_L7 t376 t386) (ji53)).f1) + 3),(rd_T116 (rd_L7 t376 t386) (ji53)).f2⟩:S116)):List (List (S116)))).bind fun y415=>(if (ji53)<((rd_L7 y415 t386).length:Int) then (some (t368,t373,(y415.set (t386:Int).toNat ((rd_L7 y415 t386).set ((ji53):Int).toNat (⟨(rd_T116 (rd_L7 y415 t386) (ji53)).f0,(rd_T116 (rd_L7 y415 t386) (ji53)).f1,wrap64 (((rd_T116 (rd_L7 y415 t386) (ji53)).f2) + 3)⟩:S116))))) else (none))) else (none)) else (none))=some (r1,r2,r3):=by first|(rw [hji53] at H;exact H)|(simp only [hji53] at H ⊢;exact H)
 (try rw [hji53] at A2)
 (try rw [hji53] at A3)
 (try rw [hji53] at A4)
 (try rw [hji53] at A6)
 (try rw [hji53] at A7)
 have hji53w:(IntKind.i64.wrap (((rd_L7 t376 t386).length:Int) - 1))=ji53:=(i64_w _).trans hji53
 by_cases c54:0≤(ji53)
 rotate_left
 ·rw [if_neg c54] at H
  exact absurd H (by simp)
 rw [if_pos c54] at H
 have c54b0:=decide_eq_true c54
 clear c54
 by_cases c55:(ji53)<((rd_L7 t376 t386).length:Int)
 rotate_left
 ·rw [if_neg c55] at H
  exact absurd H (by simp)
 rw [if_pos c55] at H
 have c55b0:=decide_eq_true c55
 clear c55
 obtain ⟨y413,hy413⟩:∃ y_:List (S116),y_=((rd_L7 t376 t386).set ((ji53):Int).toNat (⟨(rd_T116 (rd_L7 t376 t386) (ji53)).f0,wrap64 (((rd_T116 (rd_L7 t376 t386) (ji53)).f1) + 3),(rd_T116 (rd_L7 t376 t386) (ji53)).f2⟩:S116)):=⟨_,rfl⟩
 replace H:((some (t376.set (t386:Int).toNat y413:List (List (S116)))).bind fun y415=>(if (ji53)<((rd_L7 y415 t386).length:Int) then (some (t368,t373,(y415.set (t386:Int).toNat ((rd_L7 y415 t386).set ((ji53):Int).toNat (⟨(rd_T116 (rd_L7 y415 t386) (ji53)).f0,(rd_T116 (rd_L7 y415 t386) (ji53)).f1,wrap64 (((rd_T116 (rd_L7 y415 t386) (ji53)).f2) + 3)⟩:S116))))) else (none)))=some (r1,r2,r3):=by first|(rw [hy413];with_reducible exact H)|(have H2_:=(Option.bind_some _ _).symm.trans H;rw [hy413];with_reducible exact H2_)|(have H2_:=(Option.bind_some _ _).symm.trans H;with_reducible exact H2_)|with_reducible exact H|(rw [hy413];exact H)|exact H
 have Ny413:=Aside0.mk hy413
 clear hy413
 obtain ⟨y415,hy415⟩:∃ y_:List (List (S116)),y_=(t376.set (t386:Int).toNat y413):=⟨_,rfl⟩
 replace H:(if (ji53)<((rd_L7 y415 t386).length:Int) then (some (t368,t373,(y415.set (t386:Int).toNat ((rd_L7 y415 t386).set ((ji53):Int).toNat (⟨(rd_T116 (rd_L7 y415 t386) (ji53)).f0,(rd_T116 (rd_L7 y415 t386) (ji53)).f1,wrap64 (((rd_T116 (rd_L7 y415 t386) (ji53)).f2) + 3)⟩:S116))))) else (none))=some (r1,r2,r3):=by first|(rw [hy415];with_reducible exact H)|(have H2_:=(Option.bind_some _ _).symm.trans H;rw [hy415];with_reducible exact H2_)|(have H2_:=(Option.bind_some _ _).symm.trans H;with_reducible exact H2_)|with_reducible exact H|(rw [hy415];exact H)|exact H
 have Ny415:=Aside0.mk hy415
 clear hy415
 by_cases c57:(ji53)<((rd_L7 y415 t386).length:Int)
 rotate_left
 ·rw [if_neg c57] at H
  exact absurd H (by simp)
 rw [if_pos c57] at H
 have c57b0:=decide_eq_true c57
 clear c57
 obtain ⟨y419,hy419⟩:∃ y_:List (S116),y_=((rd_L7 y415 t386).set ((ji53):Int).toNat (⟨(rd_T116 (rd_L7 y415 t386) (ji53)).f0,(rd_T116 (rd_L7 y415 t386) (ji53)).f1,wrap64 (((rd_T116 (rd_L7 y415 t386) (ji53)).f2) + 3)⟩:S116)):=⟨_,rfl⟩
 replace H:(some (t368,t373,(y415.set (t386:Int).toNat y419)))=some (r1,r2,r3):=by first|(rw [hy419];with_reducible exact H)|(have H2_:=(Option.bind_some _ _).symm.trans H;rw [hy419];with_reducible exact H2_)|(have H2_:=(Option.bind_some _ _).symm.trans H;with_reducible exact H2_)|with_reducible exact H|(rw [hy419];exact H)|exact H
 have Ny419:=Aside0.mk hy419
 clear hy419
 obtain ⟨y421,hy421⟩:∃ y_:List (List (S116)),y_=(y415.set (t386:Int).toNat y419):=⟨_,rfl⟩
 replace H:(some (t368,t373,y421))=some (r1,r2,r3):=by first|(rw [hy421];with_reducible exact H)|(have H2_:=(Option.bind_some _ _).symm.trans H;rw [hy421];with_reducible exact H2_)|(have H2_:=(Option.bind_some _ _).symm.trans H;with_reducible exact H2_)|with_reducible exact H|(rw [hy421];exact H)|exact H
 have Ny421:=Aside0.mk hy421
 clear hy421
 simp only [Option.some.injEq,Prod.mk.injEq] at H
 obtain ⟨rfl,rfl,rfl⟩:=H
 go_enter Try.func39,Try.ntmps39
 try go_wp2_with (first|((with_reducible refine gate_dst (N:=14) rfl ?_);refine box_event ?hg (N:=14) ?hd (cs:=#[.slice A0 l0.length c0,.int .i64 0,.int .u64 0]) (t:=111) ?hr ?_;(case hd=>rfl);(case hg=>rfl);(case hr=>first|(go_simp;done)|(go_simp;rfl));intro gb367 hg w59 hbox hb;have n0_:=zb1 hb;have n1_:=Aside0.mk ((by rw [hg];exact (below_size zb):w.heap.size≤gb367));have n2_:=Aside0.mk ((by rw [hg];exact (below_size zb):w.heap.size≤gb367));have n3_:=Aside0.mk ((show IsS111 w _ gb367 l0 0 0 from ⟨_,_,hbox,(by rw [hg];exact (below_size zb):w.heap.size≤gb367),HR0.out⟩));clear HB;have HB:=n0_;have GW367:=n1_;have GE367:=n2_;have HI367:=n3_;clear n0_ n1_ n2_ n3_;clear hb hbox hg)|((with_reducible refine gate_callee (f:=85) rfl ?_);refine zgo 16 Try.func85 #[.pointer (some ⟨gb367,0,none⟩)] ?_;(with_reducible refine (spec_l1Cur_work7.calls k gb367 l0 0 0 t368 t371 t372 w _ ?side1 ?side2 A2.out).mono ?_);(case side1=>exact zz5);(case side2=>exact zz4);rintro e w60 ⟨v369,rfl,ho0,hi,hb,hk⟩;refine ⟨_,rfl,?_⟩;have HO370:=Aside0.mk (Kd.R_lower ho0 (below_size zz4));replace HB:=Aside0.mk (hb);replace HI367:=Aside0.mk (hi);(try clear hb);(try clear hk);(try clear hi);(try clear ho0))|((with_reducible refine gate_callee (f:=86) rfl ?_);refine zgo 18 Try.func86 #[.pointer (some ⟨gb367,0,none⟩)] ?_;(with_reducible refine (spec_l1Cur_machines.calls gb367 l0 t371 t372 t373 t374 t375 w _ ?side1 ?side2 A3.out).mono ?_);(case side1=>exact zz5);(case side2=>exact zz4);rintro e w61 ⟨rfl,hi,hb,hk⟩;refine ⟨_,rfl,?_⟩;replace HO370:=Aside0.mk (Kd.R_mono (Kd.R_keep (IsS111.apart (show IsS111 w _ gb367 l0 t371 t372 from by repeat (first|(with_reducible first|exact HI367.out|apply IsS111.alloc|apply IsS111.drewN|apply IsS111.drew|apply IsS111.set_1|apply IsS111.set_2)|exact HI367.out)) (zR HO370.out) (by decide)) hk (fun _ h=>h.2)) (fun _ h=>h.1));replace HB:=Aside0.mk (hb);replace HI367:=Aside0.mk (hi);(try clear hb);(try clear hk);(try clear hi);obtain ⟨Ao62,co62,eo62⟩:=Kd.R_slice HO370.out;subst eo62)|((with_reducible refine gate_callee (f:=43) rfl ?_);refine zgo 22 Try.func43 #[.slice Ao62 t368.length co62,.int .i64 t373] ?_;(with_reducible refine (spec_WrapAround.calls k _ _ t368 t373 t376 true _ ?side1 ?side2 A4.out).mono ?_);(case side1=>exact zC ((Kd.R_reads' HO370.out).2.2));(case side2=>exact (Kd.R_reads' HO370.out).2.1);rintro e w63 ⟨v378,rfl,ho0,hb⟩;refine ⟨_,rfl,?_⟩;have n0_:=zRb HO370 hb;have n1_:=Aside0.mk (Kd.S_lower ho0 (below_size zz4));have n2_:=Aside0.mk (IsS111.below zz5 hb);have n3_:=Aside0.mk (below_step zz4 hb);clear HO370;clear HI367;clear HB;have HO370:=n0_;have HO379:=n1_;have HI367:=n2_;have HB:=n3_;clear n0_ n1_ n2_ n3_;(try clear hb);(try clear ho0);obtain ⟨Ao64,co64,eo64⟩:=Kd.S_slice HO379.out;subst eo64)|((with_reducible refine gate_callee (f:=87) rfl ?_);refine zgo 34 Try.func87 #[.pointer (some ⟨gb367,0,none⟩),.int .i64 (t376.length:Int)] ?_;(with_reducible refine (spec_l1Cur_pick.calls gb367 l0 t374 t375 (t376.length:Int) t386 t387 t388 w _ ?side1 ?side2 A6.out).mono ?_);(case side1=>exact zz5);(case side2=>exact zz4);rintro e w65 ⟨rfl,hi,hb,hk⟩;refine ⟨_,rfl,?_⟩;replace HO370:=Aside0.mk (Kd.R_mono (Kd.R_keep (IsS111.apart (show IsS111 w _ gb367 l0 t374 t375 from by repeat (first|(with_reducible first|exact HI367.out|apply IsS111.alloc|apply IsS111.drewN|apply IsS111.drew|apply IsS111.set_1|apply IsS111.set_2)|exact HI367.out)) (zR HO370.out) (by decide)) hk (fun _ h=>h.2)) (fun _ h=>h.1));replace HO379:=Aside0.mk (Kd.S_mono (Kd.S_keep (IsS111.apartS (show IsS111 w _ gb367 l0 t374 t375 from by repeat (first|(with_reducible first|exact HI367.out|apply IsS111.alloc|apply IsS111.drewN|apply IsS111.drew|apply IsS111.set_1|apply IsS111.set_2)|exact HI367.out)) (zS HO379.out) (by decide)) hk (fun _ h=>h.2)) (fun _ h=>h.1));replace HB:=Aside0.mk (hb);replace HI367:=Aside0.mk (hi);(try clear hb);(try clear hk);(try clear hi))|((with_reducible refine gate_callee (f:=87) rfl ?_);refine zgo 36 Try.func87 #[.pointer (some ⟨gb367,0,none⟩),.int .i64 8] ?_;(with_reducible refine (spec_l1Cur_pick.calls gb367 l0 t387 t388 8 t389 t390 t391 w _ ?side1 ?side2 A7.out).mono ?_);(case side1=>exact zz5);(case side2=>exact zz4);rintro e w66 ⟨rfl,hi,hb,hk⟩;refine ⟨_,rfl,?_⟩;replace HO370:=Aside0.mk (Kd.R_mono (Kd.R_keep (IsS111.apart (show IsS111 w _ gb367 l0 t387 t388 from by repeat (first|(with_reducible first|exact HI367.out|apply IsS111.alloc|apply IsS111.drewN|apply IsS111.drew|apply IsS111.set_1|apply IsS111.set_2)|exact HI367.out)) (zR HO370.out) (by decide)) hk (fun _ h=>h.2)) (fun _ h=>h.1));replace HO379:=Aside0.mk (Kd.S_mono (Kd.S_keep (IsS111.apartS (show IsS111 w _ gb367 l0 t387 t388 from by repeat (first|(with_reducible first|exact HI367.out|apply IsS111.alloc|apply IsS111.drewN|apply IsS111.drew|apply IsS111.set_1|apply IsS111.set_2)|exact HI367.out)) (zS HO379.out) (by decide)) hk (fun _ h=>h.2)) (fun _ h=>h.1));replace HB:=Aside0.mk (hb);replace HI367:=Aside0.mk (hi);(try clear hb);(try clear hk);(try clear hi);have p408:0≤(t386:Int):=of_decide_eq_true za;have q408:t386<(t376.length:Int):=of_decide_eq_true za;obtain ⟨ad408,A408_0,c408_0,e408,hx408_0,hl408_0,hi408_0⟩:=at_L7 (Kd.S_reads' HO379.out).2.2 t386 p408 q408;cases e408;obtain ⟨ce408,hce408,hMe408,hcc408⟩:=Kd.S_get HO379.out [] t386 p408 (by first|exact q408|exact of_decide_eq_true za|(have e_:=(Kd.S_reads' HO379.out).1;omega));obtain ⟨ve408_0,rfl,ge408_0⟩:=hMe408;have hv408_0:=hcc408 0 _ rfl;rw [Nat.add_zero,show ((Kd.slice 116 k116)).sz=1 from rfl,Nat.mul_one] at hv408_0;replace hv408_0:=Option.some.inj (hv408_0.symm.trans hx408_0);rw [hv408_0] at ge408_0;have HL408_0:=Aside0.mk (show Kd.R k116 116 _ _ _ _ (rd_L7 t376 t386) from ge408_0);clear hv408_0 ge408_0;have HX408_0:=Aside0.mk hx408_0;clear hcc408 hce408;have HR408_0:=Aside0.mk hi408_0;have HC408_0:=Aside0.mk hl408_0;clear hi408_0 hl408_0;replace p408:=eq_true p408;replace q408:=eq_true q408;have p409:0≤(t386:Int):=of_decide_eq_true za;have q409:t386<(t376.length:Int):=of_decide_eq_true za;obtain ⟨ad409,A409_0,c409_0,e409,hx409_0,hl409_0,hi409_0⟩:=at_L7 (Kd.S_reads' HO379.out).2.2 t386 p409 q409;obtain rfl:ad408=ad409:=(by injection e409);obtain ⟨ce409,hce409,hMe409,hcc409⟩:=Kd.S_get HO379.out [] t386 p409 (by first|exact q409|exact of_decide_eq_true za|(have e_:=(Kd.S_reads' HO379.out).1;omega));obtain ⟨ve409_0,rfl,ge409_0⟩:=hMe409;have hv409_0:=hcc409 0 _ rfl;rw [Nat.add_zero,show ((Kd.slice 116 k116)).sz=1 from rfl,Nat.mul_one] at hv409_0;replace hv409_0:=Option.some.inj (hv409_0.symm.trans hx409_0);rw [hv409_0] at ge409_0;have HL409_0:=Aside0.mk (show Kd.R k116 116 _ _ _ _ (rd_L7 t376 t386) from ge409_0);clear hv409_0 ge409_0;have HX409_0:=Aside0.mk hx409_0;clear hcc409 hce409;have HR409_0:=Aside0.mk hi409_0;have HC409_0:=Aside0.mk hl409_0;clear hi409_0 hl409_0;replace p409:=eq_true p409;replace q409:=eq_true q409;have ea_:=Option.some.inj (hx408_0.symm.trans hx409_0);injection ea_ with ea_ en_ ec_;subst ea_;subst ec_;clear en_))
 replace HO370:=Aside0.mk (Kd.R_drew HO370.out)
 replace HO379:=Aside0.mk (Kd.S_drew HO379.out)
 replace HL408_0:=Aside0.mk (Kd.R_drew HL408_0.out)
 replace HL409_0:=Aside0.mk (Kd.R_drew HL409_0.out)
 replace HR408_0:=Aside0.mk (Kd.C_drew HR408_0.out)
 replace HR409_0:=Aside0.mk (Kd.C_drew HR409_0.out)
 replace HI367:=Aside0.mk (IsS111.drew HI367.out)
 replace HB:=Aside0.mk (below_drew1 HB.out)
 have p410:0≤(t386:Int):=of_decide_eq_true za
 have q410:t386<(t376.length:Int):=of_decide_eq_true za
 obtain ⟨ad410,A410_0,c410_0,e410,hx410_0,hl410_0,hi410_0⟩:=at_L7 (Kd.S_reads' HO379.out).2.2 t386 p410 q410
 obtain rfl:ad408=ad410:=(by injection e410)
 obtain ⟨ce410,hce410,hMe410,hcc410⟩:=Kd.S_get HO379.out [] t386 p410 (by first|exact q410|exact of_decide_eq_true za|(have e_:=(Kd.S_reads' HO379.out).1;omega))
 obtain ⟨ve410_0,rfl,ge410_0⟩:=hMe410
 have hv410_0:=hcc410 0 _ rfl
 rw [Nat.add_zero,show ((Kd.slice 116 k116)).sz=1 from rfl,Nat.mul_one] at hv410_0
 replace hv410_0:=Option.some.inj (hv410_0.symm.trans hx410_0)
 rw [hv410_0] at ge410_0
 have HL410_0:=Aside0.mk (show Kd.R k116 116 _ _ _ _ (rd_L7 t376 t386) from ge410_0)
 clear hv410_0 ge410_0
 have HX410_0:=Aside0.mk hx410_0
 clear hcc410 hce410
 have HR410_0:=Aside0.mk hi410_0
 have HC410_0:=Aside0.mk hl410_0
 clear hi410_0 hl410_0
 replace p410:=eq_true p410
 replace q410:=eq_true q410
 have p411:0≤(t386:Int):=of_decide_eq_true za
 have q411:t386<(t376.length:Int):=of_decide_eq_true za
 obtain ⟨ad411,A411_0,c411_0,e411,hx411_0,hl411_0,hi411_0⟩:=at_L7 (Kd.S_reads' HO379.out).2.2 t386 p411 q411
 obtain rfl:ad408=ad411:=(by injection e411)
 obtain ⟨ce411,hce411,hMe411,hcc411⟩:=Kd.S_get HO379.out [] t386 p411 (by first|exact q411|exact of_decide_eq_true za|(have e_:=(Kd.S_reads' HO379.out).1;omega))
 obtain ⟨ve411_0,rfl,ge411_0⟩:=hMe411
 have hv411_0:=hcc411 0 _ rfl
 rw [Nat.add_zero,show ((Kd.slice 116 k116)).sz=1 from rfl,Nat.mul_one] at hv411_0
 replace hv411_0:=Option.some.inj (hv411_0.symm.trans hx411_0)
 rw [hv411_0] at ge411_0
 have HL411_0:=Aside0.mk (show Kd.R k116 116 _ _ _ _ (rd_L7 t376 t386) from ge411_0)
 clear hv411_0 ge411_0
 have HX411_0:=Aside0.mk hx411_0
 clear hcc411 hce411
 have HR411_0:=Aside0.mk hi411_0
 have HC411_0:=Aside0.mk hl411_0
 clear hi411_0 hl411_0
 replace p411:=eq_true p411
 replace q411:=eq_true q411
 have ea_:=Option.some.inj (hx410_0.symm.trans hx411_0)
 injection ea_ with ea_ en_ ec_
 subst ea_
 subst ec_
 clear en_
 have p412:0≤((ji53):Int):=of_decide_eq_true za
 have q412:(ji53)<((rd_L7 t376 t386).length:Int):=of_decide_eq_true za
 obtain ⟨ad412,e412,hx412_0,hx412_1,hx412_2⟩:=at_T116 (by repeat (first|(with_reducible exact HR411_0.out)|(with_reducible refine Kd.C_alloc ?_ _)|(with_reducible refine Kd.C_drewN ?_ _)|(with_reducible refine Kd.C_drew ?_)|exact HR411_0.out)) (ji53) p412 q412
 cases e412
 replace p412:=eq_true p412
 replace q412:=eq_true q412
 have p56:0≤((ji53):Int):=of_decide_eq_true za
 have q56:((ji53):Int)<(((rd_L7 t376 t386).length:Int):Int):=of_decide_eq_true za
 obtain ⟨go56,co56,eo56,gb56,gl56,cl56,HG56⟩:=Kd.R_form HL410_0.out (by omega)
 (first|cases eo56|(injection eo56 with ea_ en_ ec_;(first|subst ea_|(injection ea_ with ea_;subst ea_));subst ec_;clear en_))
 have GB56:=Aside0.mk gb56
 have GG56:=Aside0.mk HG56
 clear gb56 gl56 HG56
 (first|simp only [add_plain] at hx412_0|skip)
 (first|simp only [add_plain] at hx412_1|skip)
 (first|simp only [add_plain] at hx412_2|skip)
 obtain ⟨ce56,hcl56,hM56,hcc56,hfr56⟩:=Kd.R_elem HL410_0.out z116 ((ji53):Int) p56 q56
 obtain rfl:=k116_openM hM56
 have hx56_0:World.cell? _ ⟨go56,((ji53):Int).toNat * 3,none⟩=some (.int .i64 ((rd_T116 (rd_L7 t376 t386) (ji53)).f0)):=hcc56 0 _ rfl
 have hx56_1:World.cell? _ ⟨go56,((ji53):Int).toNat * 3 + 1,none⟩=some (.int .i64 ((rd_T116 (rd_L7 t376 t386) (ji53)).f1)):=hcc56 1 _ rfl
 have hx56_2:World.cell? _ ⟨go56,((ji53):Int).toNat * 3 + 2,none⟩=some (.int .i64 ((rd_T116 (rd_L7 t376 t386) (ji53)).f2)):=hcc56 2 _ rfl
 have hf56_0:World.frozen? _ ⟨go56,((ji53):Int).toNat * 3,none⟩=false:=hfr56 0
 have hf56_1:World.frozen? _ ⟨go56,((ji53):Int).toNat * 3 + 1,none⟩=false:=hfr56 1
 have hf56_2:World.frozen? _ ⟨go56,((ji53):Int).toNat * 3 + 2,none⟩=false:=hfr56 2
 (clear hcl56 hcc56 hfr56;(try clear hM56))
 replace p56:=eq_true p56
 replace q56:=eq_true q56
 have hq68:(t386:Int)<(t376.length:Int):=(by have h_:(t386:Int)<((t376.length:Int):Int):=of_decide_eq_true za;first|exact h_|(have e_:=(Kd.S_reads' HO379.out).1;omega)|simpa only [List.length_set,List.length_set] using h_)
 obtain ⟨oki68,ce68,hcl68,hM68,hcc68,hok68,hbk68⟩:=Kd.S_borrow HO379.out [] (t386:Int) (of_decide_eq_true za) (by first|exact hq68|exact of_decide_eq_true za)
 obtain ⟨ve68_0,rfl,ge68_0⟩:=hM68
 have hv68:=hcc68 0 _ rfl
 rw [Nat.add_zero,show ((Kd.slice 116 k116)).sz=1 from rfl,Nat.mul_one] at hv68
 replace hv68:=Option.some.inj (hv68.symm.trans HX410_0.out)
 subst hv68
 clear hcc68 hcl68
 replace ge68_0:=(show Kd.R k116 116 _ _ _ _ (rd_L7 t376 t386) from ge68_0)
 obtain ⟨cf68,hcl68,hN68,hcc68,hfr68⟩:=Kd.R_elem ge68_0 z116 ((ji53):Int) (of_decide_eq_true za) (by have h_:((ji53):Int)<(((rd_L7 t376 t386).length:Int):Int):=of_decide_eq_true za;first|exact h_|(have e_:=(Kd.R_reads' HR410_0.out).1;omega)|simpa using h_)
 obtain rfl:=k116_openM hN68
 have HP68:=Kd.R_seg ge68_0 ((ji53):Int) (of_decide_eq_true za) (by have h_:((ji53):Int)<(((rd_L7 t376 t386).length:Int):Int):=of_decide_eq_true za;first|exact h_|(have e_:=(Kd.R_reads' HR410_0.out).1;omega)|simpa using h_) (seg:=[.int .i64 (wrap64 (((rd_T116 (rd_L7 t376 t386) (ji53)).f1) + 3))]) (j:=1) hcl68 hcc68 (show 2≤3 from by decide) (x':=(⟨(rd_T116 (rd_L7 t376 t386) (ji53)).f0,wrap64 (((rd_T116 (rd_L7 t376 t386) (ji53)).f1) + 3),(rd_T116 (rd_L7 t376 t386) (ji53)).f2⟩:S116)) (k116_mkM _ _ _ (⟨(rd_T116 (rd_L7 t376 t386) (ji53)).f0,wrap64 (((rd_T116 (rd_L7 t376 t386) (ji53)).f1) + 3),(rd_T116 (rd_L7 t376 t386) (ji53)).f2⟩:S116)) (fun _ hk=>hk)
 clear hcl68 hcc68 hfr68 hN68
 have HN367_go56:=Aside0.mk (show gb367≠go56 from by have h_:=IsS111.own_ne HI367.out HL410_0.out (by decide);intro e_;exact h_ (by rw [e_];rfl))
 rw [←Ny413.out] at HP68
 have HS68:=hbk68 HP68.2 (fun k_ e_=>by injection e_ with e_;subst e_;exact ge68_0.1 _ rfl) (x':=y413) (Kd.M_row HP68.1)
 rw [←Ny415.out] at HS68
 have HQ68:=Aside0.mk HS68
 clear HP68 HS68 hbk68 hok68
 refine start_ (n:=17) (S:=fun w'=>w'.cell? (ad408.add (t386).toNat)=some (.slice (some ⟨go56,0,none⟩) (rd_L7 t376 t386).length c410_0)∧w'.cell? (ad408.add (t386).toNat)=some (.slice (some ⟨go56,0,none⟩) (rd_L7 t376 t386).length c410_0)∧w'.cell? ⟨go56,(((ji53)).toNat * 3),none⟩=some (.int .i64 ((rd_T116 (rd_L7 t376 t386) (ji53)).f0))∧w'.cell? ⟨go56,(((ji53)).toNat * 3) + 1,none⟩=some (.int .i64 ((rd_T116 (rd_L7 t376 t386) (ji53)).f1))∧w'.cell? ⟨go56,(((ji53)).toNat * 3) + 2,none⟩=some (.int .i64 ((rd_T116 (rd_L7 t376 t386) (ji53)).f2))) (ds:=[16]) #[false,false,false,false,false,false,false,false,false,false,false,false,false,false,false,false,false] (by kernel_rfl) rfl rfl ⟨hx410_0,hx411_0,hx412_0,hx412_1,hx412_2⟩ (fun hHeld=>?_);refine with_tabW spec_DrawIsShared.tab16 spec_DrawIsShared.bits16 (fun HT_ HW_=>?_)
 generalize w66.drew=w67 at HO370 HO379 HL408_0 HL409_0 HR408_0 HR409_0 HI367 HB GG56 HL410_0 HL411_0 HQ68 HR410_0 HR411_0 HX410_0 HX411_0 hf56_0 hf56_1 hf56_2 hx410_0 hx411_0 hx412_0 hx412_1 hx412_2 hx56_0 hx56_1 hx56_2 hHeld ⊢
 refine pu_ 0 82 ?_
 refine pu_ 1 83 ?_
 refine pu_ 2 84 ?_
 refine pu_ 4 86 ?_
 refine pu_ 5 87 ?_
 refine pu_ 6 88 ?_
 refine pu_ 7 89 ?_
 refine pu_ 9 91 ?_
 refine tk_ 3 85 hHeld ?_
 refine tk_ 8 90 hHeld ?_
 refine pu_ 10 92 ?_
 refine pu_ 11 93 ?_
 refine tk_ 12 94 hHeld ?_
 refine pu_ 13 95 ?_
 refine pu_ 14 96 ?_
 refine pu_ 15 97 ?_
 refine last_ (i:=16) (N:=none) #[true,true,true,true,true,true,true,true,true,true,true,true,true,true,true,true,true] rfl rfl (one_of HT_.out (by kernel_rfl)) (by decide) (fun K hK=>?_)
 refine skip_ (w1:=?_) (by rfl) rfl ?_ ?_
 rotate_left
 ·go_simp
  rfl
 refine hK.out _ _ ?_
 clear hK K
 refine done_ (done_of HT_.out (by kernel_rfl)) ?_
 try go_wp2
 have n0_:Aside0 (Kd.R k76 76 (w67.setCell ⟨go56,((ji53):Int).toNat * 3 + 1,none⟩ (.int .i64 (wrap64 (((rd_T116 (rd_L7 t376 t386) (ji53)).f1) + 3)))) w.heap.size (fun _=>True) (.slice Ao62 t368.length co62) t368):=⟨by (with_reducible repeat (first|apply Kd.R_alloc|apply Kd.R_drewN|apply Kd.R_drew));exact Kd.R_mono (Kd.R_far (p:=⟨go56,((ji53):Int).toNat * 3 + 1,none⟩) (Kd.R_types HO370.out GG56.out (by decide)) (fun _ hk=>hk.2) (.int .i64 (wrap64 (((rd_T116 (rd_L7 t376 t386) (ji53)).f1) + 3)))) (fun _ hk=>trivial)⟩
 have n1_:Aside0 (Kd.S (Kd.slice 116 k116) 65 (w67.setCell ⟨go56,((ji53):Int).toNat * 3 + 1,none⟩ (.int .i64 (wrap64 (((rd_T116 (rd_L7 t376 t386) (ji53)).f1) + 3)))) w.heap.size (fun _=>True) (.slice (some ad408) t376.length co64) y415):=⟨by (with_reducible repeat (first|apply Kd.S_alloc|apply Kd.S_drewN|apply Kd.S_drew));exact HQ68.out⟩
 have n2_:Aside0 (IsS111 w (w67.setCell ⟨go56,((ji53):Int).toNat * 3 + 1,none⟩ (.int .i64 (wrap64 (((rd_T116 (rd_L7 t376 t386) (ji53)).f1) + 3)))) gb367 l0 t390 t391):=⟨by repeat (first|(with_reducible first|exact HI367.out|apply IsS111.alloc|apply IsS111.drewN|apply IsS111.drew|apply IsS111.set_1|apply IsS111.set_2|refine IsS111.far ?_ HN367_go56.out _)|exact HI367.out)⟩
 have n3_:Aside0 (Below w.heap.size w (w67.setCell ⟨go56,((ji53):Int).toNat * 3 + 1,none⟩ (.int .i64 (wrap64 (((rd_T116 (rd_L7 t376 t386) (ji53)).f1) + 3))))):=⟨by repeat (first|(with_reducible first|exact HB.out|apply below_alloc|apply pw_below_drewN|apply below_drew1|refine below_set ?_ GB56.out|refine below_set ?_ (IsS111.ge HI367.out))|exact HB.out)⟩
 (try simp only [show ∀ (W_:World) (n_:Nat) (a_:Addr) (v_:Value),(W_.drewN n_).setCell a_ v_=(W_.setCell a_ v_).drewN n_ from fun _ _ _ _=>rfl])
 generalize (w67.setCell ⟨go56,((ji53):Int).toNat * 3 + 1,none⟩ (.int .i64 (wrap64 (((rd_T116 (rd_L7 t376 t386) (ji53)).f1) + 3))))=w70 at n0_ n1_ n2_ n3_ ⊢
 have HO370:=n0_
 have HO379:=n1_
 have HI367:=n2_
 have HB:=n3_
 clear n0_ n1_ n2_ n3_
 replace HO370:=Aside0.mk (Kd.R_drew HO370.out)
 replace HO379:=Aside0.mk (Kd.S_drew HO379.out)
 replace HI367:=Aside0.mk (IsS111.drew HI367.out)
 replace HB:=Aside0.mk (below_drew1 HB.out)
 have p416:0≤(t386:Int):=of_decide_eq_true za
 have q416:t386<(y415.length:Int):=(by have h_:(t386:Int)<((t376.length:Int):Int):=of_decide_eq_true za;first|(have e_:=(Kd.S_reads' HO379.out).1;omega)|simpa only [Ny415.out,List.length_set] using h_)
 have ql416:((t386:Int)<((t376.length:Int):Int))=True:=eq_true (of_decide_eq_true za)
 obtain ⟨ad416,A416_0,c416_0,e416,hx416_0,hl416_0,hi416_0⟩:=at_L7 (Kd.S_reads' HO379.out).2.2 t386 p416 q416
 obtain rfl:ad408=ad416:=(by injection e416)
 obtain ⟨ce416,hce416,hMe416,hcc416⟩:=Kd.S_get HO379.out [] t386 p416 (by first|exact q416|exact of_decide_eq_true za|(have e_:=(Kd.S_reads' HO379.out).1;omega))
 obtain ⟨ve416_0,rfl,ge416_0⟩:=hMe416
 have hv416_0:=hcc416 0 _ rfl
 rw [Nat.add_zero,show ((Kd.slice 116 k116)).sz=1 from rfl,Nat.mul_one] at hv416_0
 replace hv416_0:=Option.some.inj (hv416_0.symm.trans hx416_0)
 rw [hv416_0] at ge416_0
 have HL416_0:=Aside0.mk (show Kd.R k116 116 _ _ _ _ (rd_L7 y415 t386) from ge416_0)
 clear hv416_0 ge416_0
 have HX416_0:=Aside0.mk hx416_0
 clear hcc416 hce416
 have HR416_0:=Aside0.mk hi416_0
 have HC416_0:=Aside0.mk hl416_0
 clear hi416_0 hl416_0
 replace p416:=eq_true p416
 replace q416:=eq_true q416
 have p417:0≤(t386:Int):=of_decide_eq_true za
 have q417:t386<(y415.length:Int):=(by have h_:(t386:Int)<((t376.length:Int):Int):=of_decide_eq_true za;first|(have e_:=(Kd.S_reads' HO379.out).1;omega)|simpa only [Ny415.out,List.length_set] using h_)
 have ql417:((t386:Int)<((t376.length:Int):Int))=True:=eq_true (of_decide_eq_true za)
 obtain ⟨ad417,A417_0,c417_0,e417,hx417_0,hl417_0,hi417_0⟩:=at_L7 (Kd.S_reads' HO379.out).2.2 t386 p417 q417
 obtain rfl:ad408=ad417:=(by injection e417)
 obtain ⟨ce417,hce417,hMe417,hcc417⟩:=Kd.S_get HO379.out [] t386 p417 (by first|exact q417|exact of_decide_eq_true za|(have e_:=(Kd.S_reads' HO379.out).1;omega))
 obtain ⟨ve417_0,rfl,ge417_0⟩:=hMe417
 have hv417_0:=hcc417 0 _ rfl
 rw [Nat.add_zero,show ((Kd.slice 116 k116)).sz=1 from rfl,Nat.mul_one] at hv417_0
 replace hv417_0:=Option.some.inj (hv417_0.symm.trans hx417_0)
 rw [hv417_0] at ge417_0
 have HL417_0:=Aside0.mk (show Kd.R k116 116 _ _ _ _ (rd_L7 y415 t386) from ge417_0)
 clear hv417_0 ge417_0
 have HX417_0:=Aside0.mk hx417_0
 clear hcc417 hce417
 have HR417_0:=Aside0.mk hi417_0
 have HC417_0:=Aside0.mk hl417_0
 clear hi417_0 hl417_0
 replace p417:=eq_true p417
 replace q417:=eq_true q417
 have ea_:=Option.some.inj (hx416_0.symm.trans hx417_0)
 injection ea_ with ea_ en_ ec_
 subst ea_
 subst ec_
 clear en_
 have p418:0≤((ji53):Int):=of_decide_eq_true za
 have q418:(ji53)<((rd_L7 y415 t386).length:Int):=of_decide_eq_true za
 obtain ⟨ad418,e418,hx418_0,hx418_1,hx418_2⟩:=at_T116 (by repeat (first|(with_reducible exact HR417_0.out)|(with_reducible refine Kd.C_alloc ?_ _)|(with_reducible refine Kd.C_drewN ?_ _)|(with_reducible refine Kd.C_drew ?_)|exact HR417_0.out)) (ji53) p418 q418
 cases e418
 replace p418:=eq_true p418
 replace q418:=eq_true q418
 have p58:0≤((ji53):Int):=of_decide_eq_true za
 have q58:((ji53):Int)<(((rd_L7 y415 t386).length:Int):Int):=of_decide_eq_true za
 obtain ⟨go58,co58,eo58,gb58,gl58,cl58,HG58⟩:=Kd.R_form HL416_0.out (by omega)
 (first|cases eo58|(injection eo58 with ea_ en_ ec_;(first|subst ea_|(injection ea_ with ea_;subst ea_));subst ec_;clear en_))
 have GB58:=Aside0.mk gb58
 have GG58:=Aside0.mk HG58
 clear gb58 gl58 HG58
 (first|simp only [add_plain] at hx418_0|skip)
 (first|simp only [add_plain] at hx418_1|skip)
 (first|simp only [add_plain] at hx418_2|skip)
 obtain ⟨ce58,hcl58,hM58,hcc58,hfr58⟩:=Kd.R_elem HL416_0.out z116 ((ji53):Int) p58 q58
 obtain rfl:=k116_openM hM58
 have hx58_0:World.cell? _ ⟨go58,((ji53):Int).toNat * 3,none⟩=some (.int .i64 ((rd_T116 (rd_L7 y415 t386) (ji53)).f0)):=hcc58 0 _ rfl
 have hx58_1:World.cell? _ ⟨go58,((ji53):Int).toNat * 3 + 1,none⟩=some (.int .i64 ((rd_T116 (rd_L7 y415 t386) (ji53)).f1)):=hcc58 1 _ rfl
 have hx58_2:World.cell? _ ⟨go58,((ji53):Int).toNat * 3 + 2,none⟩=some (.int .i64 ((rd_T116 (rd_L7 y415 t386) (ji53)).f2)):=hcc58 2 _ rfl
 have hf58_0:World.frozen? _ ⟨go58,((ji53):Int).toNat * 3,none⟩=false:=hfr58 0
 have hf58_1:World.frozen? _ ⟨go58,((ji53):Int).toNat * 3 + 1,none⟩=false:=hfr58 1
 have hf58_2:World.frozen? _ ⟨go58,((ji53):Int).toNat * 3 + 2,none⟩=false:=hfr58 2
 (clear hcl58 hcc58 hfr58;(try clear hM58))
 replace p58:=eq_true p58
 replace q58:=eq_true q58
 have hq72:(t386:Int)<(y415.length:Int):=(by have h_:(t386:Int)<((t376.length:Int):Int):=of_decide_eq_true za;first|exact h_|(have e_:=(Kd.S_reads' HO379.out).1;omega)|simpa only [Ny415.out,List.length_set] using h_)
 obtain ⟨oki72,ce72,hcl72,hM72,hcc72,hok72,hbk72⟩:=Kd.S_borrow HO379.out [] (t386:Int) (of_decide_eq_true za) (by first|exact hq72|exact of_decide_eq_true za)
 obtain ⟨ve72_0,rfl,ge72_0⟩:=hM72
 have hv72:=hcc72 0 _ rfl
 rw [Nat.add_zero,show ((Kd.slice 116 k116)).sz=1 from rfl,Nat.mul_one] at hv72
 replace hv72:=Option.some.inj (hv72.symm.trans HX416_0.out)
 subst hv72
 clear hcc72 hcl72
 replace ge72_0:=(show Kd.R k116 116 _ _ _ _ (rd_L7 y415 t386) from ge72_0)
 obtain ⟨cf72,hcl72,hN72,hcc72,hfr72⟩:=Kd.R_elem ge72_0 z116 ((ji53):Int) (of_decide_eq_true za) (by have h_:((ji53):Int)<(((rd_L7 y415 t386).length:Int):Int):=of_decide_eq_true za;first|exact h_|(have e_:=(Kd.R_reads' HR416_0.out).1;omega)|simpa using h_)
 obtain rfl:=k116_openM hN72
 have HP72:=Kd.R_seg ge72_0 ((ji53):Int) (of_decide_eq_true za) (by have h_:((ji53):Int)<(((rd_L7 y415 t386).length:Int):Int):=of_decide_eq_true za;first|exact h_|(have e_:=(Kd.R_reads' HR416_0.out).1;omega)|simpa using h_) (seg:=[.int .i64 (wrap64 (((rd_T116 (rd_L7 y415 t386) (ji53)).f2) + 3))]) (j:=2) hcl72 hcc72 (show 3≤3 from by decide) (x':=(⟨(rd_T116 (rd_L7 y415 t386) (ji53)).f0,(rd_T116 (rd_L7 y415 t386) (ji53)).f1,wrap64 (((rd_T116 (rd_L7 y415 t386) (ji53)).f2) + 3)⟩:S116)) (k116_mkM _ _ _ (⟨(rd_T116 (rd_L7 y415 t386) (ji53)).f0,(rd_T116 (rd_L7 y415 t386) (ji53)).f1,wrap64 (((rd_T116 (rd_L7 y415 t386) (ji53)).f2) + 3)⟩:S116)) (fun _ hk=>hk)
 clear hcl72 hcc72 hfr72 hN72
 have HN367_go58:=Aside0.mk (show gb367≠go58 from by have h_:=IsS111.own_ne HI367.out HL416_0.out (by decide);intro e_;exact h_ (by rw [e_];rfl))
 rw [←Ny419.out] at HP72
 have HS72:=hbk72 HP72.2 (fun k_ e_=>by injection e_ with e_;subst e_;exact ge72_0.1 _ rfl) (x':=y419) (Kd.M_row HP72.1)
 rw [←Ny421.out] at HS72
 have HQ72:=Aside0.mk HS72
 clear HP72 HS72 hbk72 hok72
 refine start_ (n:=17) (S:=fun w'=>w'.cell? (ad408.add (t386).toNat)=some (.slice (some ⟨go58,0,none⟩) (rd_L7 y415 t386).length c416_0)∧w'.cell? (ad408.add (t386).toNat)=some (.slice (some ⟨go58,0,none⟩) (rd_L7 y415 t386).length c416_0)∧w'.cell? ⟨go58,(((ji53)).toNat * 3),none⟩=some (.int .i64 ((rd_T116 (rd_L7 y415 t386) (ji53)).f0))∧w'.cell? ⟨go58,(((ji53)).toNat * 3) + 1,none⟩=some (.int .i64 ((rd_T116 (rd_L7 y415 t386) (ji53)).f1))∧w'.cell? ⟨go58,(((ji53)).toNat * 3) + 2,none⟩=some (.int .i64 ((rd_T116 (rd_L7 y415 t386) (ji53)).f2))) (ds:=[16]) #[false,false,false,false,false,false,false,false,false,false,false,false,false,false,false,false,false] (by kernel_rfl) rfl rfl ⟨hx416_0,hx417_0,hx418_0,hx418_1,hx418_2⟩ (fun hHeld=>?_);refine with_tabW spec_DrawIsShared.tab17 spec_DrawIsShared.bits17 (fun HT_ HW_=>?_)
 generalize w70.drew=w71 at HO370 HO379 HI367 HB GG58 HL416_0 HL417_0 HQ68 HQ72 HR416_0 HR417_0 HX416_0 HX417_0 hf58_0 hf58_1 hf58_2 hx416_0 hx417_0 hx418_0 hx418_1 hx418_2 hx58_0 hx58_1 hx58_2 hHeld ⊢
 refine pu_ 0 98 ?_
 refine pu_ 1 99 ?_
 refine pu_ 2 100 ?_
 refine pu_ 4 102 ?_
 refine pu_ 5 103 ?_
 refine pu_ 6 104 ?_
 refine pu_ 7 105 ?_
 refine pu_ 9 107 ?_
 refine tk_ 3 101 hHeld ?_
 refine tk_ 8 106 hHeld ?_
 refine pu_ 10 108 ?_
 refine pu_ 11 109 ?_
 refine tk_ 12 110 hHeld ?_
 refine pu_ 13 111 ?_
 refine pu_ 14 112 ?_
 refine pu_ 15 113 ?_
 refine last_ (i:=16) (N:=none) #[true,true,true,true,true,true,true,true,true,true,true,true,true,true,true,true,true] rfl rfl (one_of HT_.out (by kernel_rfl)) (by decide) (fun K hK=>?_)
 refine skip_ (w1:=?_) (by rfl) rfl ?_ ?_
 rotate_left
 ·go_simp
  rfl
 refine hK.out _ _ ?_
 clear hK K
 refine done_ (done_of HT_.out (by kernel_rfl)) ?_
 try go_wp2
 go_ret3
 exact ⟨_,_,by first|rfl|(simp [errW_none,errW_some] <;> rfl)|(simp only [←hji53];first|rfl|(simp [errW_none,errW_some] <;> rfl))|(simp [*,errW_none,errW_some] <;> rfl),by (with_reducible repeat (first|apply Kd.R_alloc|apply Kd.R_drewN|apply Kd.R_drew));exact Kd.R_mono (Kd.R_far (p:=⟨go58,((ji53):Int).toNat * 3 + 2,none⟩) (Kd.R_types HO370.out GG58.out (by decide)) (fun _ hk=>hk.2) (.int .i64 (wrap64 (((rd_T116 (rd_L7 y415 t386) (ji53)).f2) + 3)))) (fun _ hk=>trivial),by (with_reducible repeat (first|apply Kd.S_alloc|apply Kd.S_drewN|apply Kd.S_drew));exact HQ72.out,by repeat (first|(with_reducible first|exact HB.out|apply below_alloc|apply pw_below_drewN|apply below_drew1|refine below_set ?_ GB58.out|refine below_set ?_ (IsS111.ge HI367.out))|exact HB.out)⟩

end Go.Proofs.Ytbcfmegepkhlpaa.XFnShared
-- minified
