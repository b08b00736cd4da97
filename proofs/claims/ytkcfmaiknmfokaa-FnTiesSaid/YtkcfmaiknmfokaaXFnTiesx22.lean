-- Written by a program of this session (the kit's print, widened). Proved here: what each function answers, for the arguments that its contract names.
import Derived.Test.YtkcfmaiknmfokaaXFnTiesx0
import Derived.Test.YtkcfmaiknmfokaaXFnTiesx1
import Derived.Test.YtkcfmaiknmfokaaXFnTiesx3
import Derived.Test.YtkcfmaiknmfokaaXFnTiesx10
import Derived.Test.YtkcfmaiknmfokaaXFnTiesx15
import Derived.Test.YtkcfmaiknmfokaaXFnTiesx16
import Derived.Test.YtkcfmaiknmfokaaXFnTiesx21
namespace Go.Proofs.Ytkcfmaiknmfokaa.XFnTies
open Go.RowKit Go.Proofs.YtkcfmaiknmfokaaW.PrintWords Go.Proofs.YtkcfmaiknmfokaaW.PrintLast Go.Proofs.YtkcfmaiknmfokaaW.PrintMore
attribute [local go_sem] max2_int min2_int max_two min_two max_three min_three max_four min_four   -- for this text's walks alone
attribute [local go_sem] fldS_52_0 fldS_52_1 fldS_52_2
set_option linter.unusedVariables false
set_option linter.unusedSimpArgs false

/-! ### laws_FnTies: function 3 -/
mutual
def laws_FnTies.j0:Nat→List (S44)→Int→List (List Int)→Bool→Int→Bool→Option (Bool)
 | 0,_,_,_,_,_,_=>none
 | k + 1,x3,x4,x5,x6,x9,x71=>if x71=true then (some false) else (if x6=true then ((impl_RuledOrder.f k x3 x4).bind fun bt510=>(laws_FnTies.l0 k x3 x4 x5 x9 bt510.1 (([]:List Int)) 0)) else (some true))
def laws_FnTies.l0:Nat→List (S44)→Int→List (List Int)→Int→List Int→List Int→Int→Option (Bool)
 | 0,_,_,_,_,_,_,_=>none
 | k + 1,x3,x4,x5,x9,x13,x15,x16=>if x16<(x5.length:Int) then (if 0≤x16 then (if x15.length + (rd_L3 x5 x16).length<17592186044416 then (laws_FnTies.l1 k x3 x4 x5 x9 x13 (x15++(rd_L3 x5 x16)) x16 0) else (none)) else (none)) else ((laws_vInts.f k x15 x13).bind fun t528=>(if t528=true then (laws_FnTies.j3 k x3 x4 x9 x13 x15 (decide ((x3.length:Int)>6))) else (laws_FnTies.j3 k x3 x4 x9 x13 x15 true)))
def laws_FnTies.l1:Nat→List (S44)→Int→List (List Int)→Int→List Int→List Int→Int→Int→Option (Bool)
 | 0,_,_,_,_,_,_,_,_=>none
 | k + 1,x3,x4,x5,x9,x13,x15,x16,x17=>if 0≤x16 then (if x16<(x5.length:Int) then (if x17<((rd_L3 x5 x16).length:Int) then (if 0<((rd_L3 x5 x16).length:Int) then (if 0≤x17 then ((impl_RuleDifference.f k x3 x4 (rd (rd_L3 x5 x16) 0) (rd (rd_L3 x5 x16) x17)).bind fun bt526=>(if bt526.1=0 then (laws_FnTies.l1 k x3 x4 x5 x9 x13 x15 x16 (wrap64 (x17 + 1))) else (some false))) else (none)) else (none)) else (laws_FnTies.l0 k x3 x4 x5 x9 x13 x15 (wrap64 (x16 + 1)))) else (none)) else (none)
def laws_FnTies.j3:Nat→List (S44)→Int→Int→List Int→List Int→Bool→Option (Bool)
 | 0,_,_,_,_,_,_=>none
 | k + 1,x3,x4,x9,x13,x15,x131=>if x131=true then ((laws_vInts.f k x15 x13).bind fun t529=>(some t529)) else ((impl_CountBest.f k x3 x4).bind fun bt530=>(if bt530.2=true then (if x9≤bt530.1 then (if x4=2 then (some (x9 == bt530.1)) else (if x4=3 then (some (x9 == bt530.1)) else (some true))) else (some false)) else (some false)))
end
def laws_FnTies.f (k:Nat) (l0:List Int):Option (Bool):=(laws_vBig.f l0).bind fun t492=>(if t492=true then (some true) else ((spec_DrawTieGroups.f k l0).bind fun bt493=>((impl_TieGroups.f k bt493.1 bt493.2).bind fun bt497=>((spec_TieGroups.f k bt493.1 bt493.2).bind fun bt501=>((impl_CountRuled.f k bt493.1 bt493.2).bind fun bt505=>((spec_CountRuled.f k bt493.1 bt493.2).bind fun bt507=>(if (bt497.2 != bt501.2)=true then (laws_FnTies.j0 k bt493.1 bt493.2 bt497.1 bt497.2 bt505.1 true) else ((laws_vTable.f k bt497.1 bt501.1).bind fun t509=>(if t509=true then (if (bt505.2 != bt507.2)=true then (laws_FnTies.j0 k bt493.1 bt493.2 bt497.1 bt497.2 bt505.1 true) else (laws_FnTies.j0 k bt493.1 bt493.2 bt497.1 bt497.2 bt505.1 (bt505.1 != bt507.1))) else (laws_FnTies.j0 k bt493.1 bt493.2 bt497.1 bt497.2 bt505.1 true))))))))))
theorem laws_FnTies.mono_l:∀ k,(∀ y0 y1 y2 y3 y4 y5,LeO (laws_FnTies.j0 k y0 y1 y2 y3 y4 y5) (laws_FnTies.j0 (k + 1) y0 y1 y2 y3 y4 y5))∧(∀ y0 y1 y2 y3 y4 y5 y6,LeO (laws_FnTies.l0 k y0 y1 y2 y3 y4 y5 y6) (laws_FnTies.l0 (k + 1) y0 y1 y2 y3 y4 y5 y6))∧(∀ y0 y1 y2 y3 y4 y5 y6 y7,LeO (laws_FnTies.l1 k y0 y1 y2 y3 y4 y5 y6 y7) (laws_FnTies.l1 (k + 1) y0 y1 y2 y3 y4 y5 y6 y7))∧(∀ y0 y1 y2 y3 y4 y5,LeO (laws_FnTies.j3 k y0 y1 y2 y3 y4 y5) (laws_FnTies.j3 (k + 1) y0 y1 y2 y3 y4 y5))
 | 0=>⟨fun _ _ _ _ _ _ r h=>by simp [laws_FnTies.j0] at h,fun _ _ _ _ _ _ _ r h=>by simp [laws_FnTies.l0] at h,fun _ _ _ _ _ _ _ _ r h=>by simp [laws_FnTies.l1] at h,fun _ _ _ _ _ _ r h=>by simp [laws_FnTies.j3] at h⟩
 | k + 1=>by
  obtain ⟨ih0,ih1,ih2,ih3⟩:=laws_FnTies.mono_l k
  refine ⟨?_,?_,?_,?_⟩ <;> intros <;> first|unfold laws_FnTies.j0|unfold laws_FnTies.l0|unfold laws_FnTies.l1|unfold laws_FnTies.j3
  all_goals repeat' first|(with_reducible first|apply ih0|apply ih1|apply ih2|apply ih3|exact impl_CountBest.mono _ _ _|exact impl_CountRuled.mono _ _ _|exact impl_RuleDifference.mono _ _ _ _ _|exact impl_RuledOrder.mono _ _ _|exact impl_TieGroups.mono _ _ _|exact laws_vInts.mono _ _ _|exact laws_vTable.mono _ _ _|exact spec_CountRuled.mono _ _ _|exact spec_DrawTieGroups.mono _ _|exact spec_TieGroups.mono _ _ _|exact LeO.refl _|exact LeO.none _|refine LeO.ite ?_ ?_|refine LeO.bind ?_ (fun _=>?_))|apply ih0|apply ih1|apply ih2|apply ih3|exact impl_CountBest.mono _ _ _|exact impl_CountRuled.mono _ _ _|exact impl_RuleDifference.mono _ _ _ _ _|exact impl_RuledOrder.mono _ _ _|exact impl_TieGroups.mono _ _ _|exact laws_vInts.mono _ _ _|exact laws_vTable.mono _ _ _|exact spec_CountRuled.mono _ _ _|exact spec_DrawTieGroups.mono _ _|exact spec_TieGroups.mono _ _ _|exact LeO.none _|refine LeO.ite ?_ ?_|refine LeO.bind ?_ (fun _=>?_)
theorem laws_FnTies.mono:∀ a0 k,LeO (laws_FnTies.f k a0) (laws_FnTies.f (k + 1) a0):=by
 intro a0 k
 obtain ⟨ih0,ih1,ih2,ih3⟩:=laws_FnTies.mono_l k
 unfold laws_FnTies.f
 repeat' first|(with_reducible first|apply ih0|apply ih1|apply ih2|apply ih3|exact impl_CountBest.mono _ _ _|exact impl_CountRuled.mono _ _ _|exact impl_RuleDifference.mono _ _ _ _ _|exact impl_RuledOrder.mono _ _ _|exact impl_TieGroups.mono _ _ _|exact laws_vInts.mono _ _ _|exact laws_vTable.mono _ _ _|exact spec_CountRuled.mono _ _ _|exact spec_DrawTieGroups.mono _ _|exact spec_TieGroups.mono _ _ _|exact LeO.refl _|exact LeO.none _|refine LeO.ite ?_ ?_|refine LeO.bind ?_ (fun _=>?_))|apply ih0|apply ih1|apply ih2|apply ih3|exact impl_CountBest.mono _ _ _|exact impl_CountRuled.mono _ _ _|exact impl_RuleDifference.mono _ _ _ _ _|exact impl_RuledOrder.mono _ _ _|exact impl_TieGroups.mono _ _ _|exact laws_vInts.mono _ _ _|exact laws_vTable.mono _ _ _|exact spec_CountRuled.mono _ _ _|exact spec_DrawTieGroups.mono _ _|exact spec_TieGroups.mono _ _ _|exact LeO.none _|refine LeO.ite ?_ ?_|refine LeO.bind ?_ (fun _=>?_)
def laws_FnTies.T21:Bool × List (List Nat × List Nat):=(true,[([],[]),([],[]),([],[]),([],[]),([2,3],[2,3]),([4],[4]),([5],[5]),([6],[6]),([],[]),([],[]),([8,9],[8,9]),([10],[10]),([],[]),([11,12],[11,12]),([13],[13]),([0,1,7,14],[0,1,7,14]),([15],[15]),([16],[16]),([16],[16]),([17,15,0,1,2,3,4,5,6,7,8,9,10,11,12,13,14,15,16,17],[17]),([18,19,0,1,2,3,4,5,6,7,8,9,10,11,12,13,14,15,16,17,18,19],[18])])
def laws_FnTies.B21:List Nat:=[0,0,0,0,12,28,60,124,0,0,768,1792,0,7936,16128,32767,65535,131071,131071,262143,1048575]
theorem laws_FnTies.tab21:rtab .any (opsOf Try.f3 21)=laws_FnTies.T21:=by kernel_rfl
theorem laws_FnTies.bits21:waitsOk laws_FnTies.T21.2 laws_FnTies.B21=true:=by kernel_rfl
set_option maxHeartbeats 8000000 in
set_option maxRecDepth 100000 in
theorem laws_FnTies.calls (k:Nat) (A0:Option Addr) (c0:Nat) (l0:List Int) (r:Bool) (w:World) (hr0:Kd.C (Kd.int .u8) w A0 l0.length l0) (hc0:l0.length≤c0) (h:laws_FnTies.f k l0=some r) :
  Calls Try.prog 3 #[.slice A0 l0.length c0] w fun e w'=>e=.returned (.bool r)∧Below w.heap.size w w':=by
 have HR0:=Aside0.mk hr0
 have HC0:=Aside0.mk hc0
 clear hr0 hc0
 have HB:=Aside0.mk (Below.refl w.heap.size w)
 have H:((laws_vBig.f l0).bind fun t492=>(if t492=true then (some true) else ((spec_DrawTieGroups.f k l0).bind fun bt493=>((impl_TieGroups.f k bt493.1 bt493.2).bind fun bt497=>((spec_TieGroups.f k bt493.1 bt493.2).bind fun bt501=>((impl_CountRuled.f k bt493.1 bt493.2).bind fun bt505=>((spec_CountRuled.f k bt493.1 bt493.2).bind fun bt507=>(if (bt497.2 != bt501.2)=true then (laws_FnTies.j0 k bt493.1 bt493.2 bt497.1 bt497.2 bt505.1 true) else ((laws_vTable.f k bt497.1 bt501.1).bind fun t509=>(if t509=true then (if (bt505.2 != bt507.2)=true then (laws_FnTies.j0 k bt493.1 bt493.2 bt497.1 bt497.2 bt505.1 true) else (laws_FnTies.j0 k bt493.1 bt493.2 bt497.1 bt497.2 bt505.1 (bt505.1 != bt507.1))) else (laws_FnTies.j0 k bt493.1 bt493.2 bt497.1 bt497.2 bt505.1 true)))))))))))=some r:=h
 clear h
 replace H:=Option.bind_eq_some_iff.mp H
 obtain ⟨t492,A20,H⟩:=H
 try dsimp only at H
 have A2:=Aside0.mk A20
 clear A20
 by_cases c3:t492=true
 ·subst c3
  rw [if_pos rfl] at H
  obtain rfl:=Option.some.inj H
  go_enter Try.func3,Try.ntmps3
  go_wp2_with (first|((with_reducible refine gate_callee (f:=4) rfl ?_);refine zgo 23 Try.func4 #[.slice A0 l0.length c0] ?_;(with_reducible refine (laws_vBig.calls _ _ l0 true _ ?side1 ?side2 A2.out).mono ?_);(case side1=>exact zC HR0.out);(case side2=>exact HC0.out);rintro e w' ⟨rfl,⟨nd,rfl⟩⟩;refine ⟨_,rfl,?_⟩))
  go_ret
  exact ⟨zz1,zb⟩
 replace c3:=Bool.eq_false_iff.mpr c3
 subst c3
 rw [if_neg (show ¬ (false=true) by decide)] at H
 replace H:=Option.bind_eq_some_iff.mp H
 obtain ⟨⟨t493,t494⟩,A40,H⟩:=H
 try dsimp only at H
 have A4:=Aside0.mk A40
 clear A40
 replace H:=Option.bind_eq_some_iff.mp H
 obtain ⟨⟨t497,t498⟩,A50,H⟩:=H
 try dsimp only at H
 have A5:=Aside0.mk A50
 clear A50
 replace H:=Option.bind_eq_some_iff.mp H
 obtain ⟨⟨t501,t502⟩,A60,H⟩:=H
 try dsimp only at H
 have A6:=Aside0.mk A60
 clear A60
 replace H:=Option.bind_eq_some_iff.mp H
 obtain ⟨⟨t505,t506⟩,A70,H⟩:=H
 try dsimp only at H
 have A7:=Aside0.mk A70
 clear A70
 replace H:=Option.bind_eq_some_iff.mp H
 obtain ⟨⟨t507,t508⟩,A80,H⟩:=H
 try dsimp only at H
 have A8:=Aside0.mk A80
 clear A80
 have HC9:=Aside0.mk H
 clear H
 go_enter Try.func3,Try.ntmps3
 go_upto_region 8 with (first|((with_reducible refine gate_callee (f:=4) rfl ?_);refine zgo 23 Try.func4 #[.slice A0 l0.length c0] ?_;(with_reducible refine (laws_vBig.calls _ _ l0 false _ ?side1 ?side2 A2.out).mono ?_);(case side1=>exact zC HR0.out);(case side2=>exact HC0.out);rintro e w' ⟨rfl,⟨nd,rfl⟩⟩;refine ⟨_,rfl,?_⟩)|((with_reducible refine gate_callee (f:=5) rfl ?_);refine zgo 26 Try.func5 #[.slice A0 l0.length c0] ?_;(with_reducible refine (spec_DrawTieGroups.calls k _ _ l0 t493 t494 _ ?side1 ?side2 A4.out).mono ?_);(case side1=>exact zC HR0.out);(case side2=>exact HC0.out);rintro e w10 ⟨v495,rfl,ho0,hb⟩;refine ⟨_,rfl,?_⟩;have HO496:=Aside0.mk (Kd.R_lower ho0 (below_size zb));replace HB:=zb1 hb;(try clear hb);(try clear ho0);obtain ⟨Ao11,co11,eo11⟩:=Kd.R_slice HO496.out;subst eo11)|((with_reducible refine gate_callee (f:=6) rfl ?_);refine zgo 32 Try.func6 #[.slice Ao11 t493.length co11,.int .i64 t494] ?_;(with_reducible refine (impl_TieGroups.calls k _ _ t493 t494 t497 t498 _ ?side1 ?side2 A5.out).mono ?_);(case side1=>exact zC ((Kd.R_reads' HO496.out).2.2));(case side2=>exact (Kd.R_reads' HO496.out).2.1);rintro e w12 ⟨v499,rfl,ho0,hb⟩;refine ⟨_,rfl,?_⟩;replace HO496:=zRb HO496 hb;have HO500:=Aside0.mk (Kd.S_lower ho0 (below_size zb));replace HB:=zb1 hb;(try clear hb);(try clear ho0))|((with_reducible refine gate_callee (f:=7) rfl ?_);refine zgo 38 Try.func7 #[.slice Ao11 t493.length co11,.int .i64 t494] ?_;(with_reducible refine (spec_TieGroups.calls k _ _ t493 t494 t501 t502 _ ?side1 ?side2 A6.out).mono ?_);(case side1=>exact zC ((Kd.R_reads' HO496.out).2.2));(case side2=>exact (Kd.R_reads' HO496.out).2.1);rintro e w13 ⟨v503,rfl,ho0,hb⟩;refine ⟨_,rfl,?_⟩;have n0_:=zRb HO496 hb;have n1_:=Aside0.mk (Kd.S_elder' (zS HO500.out) (Kd.S_base ho0) hb);have n2_:=Aside0.mk (Kd.S_lower (Kd.S_new' ho0 (Kd.S_lt (zS HO500.out))) (below_size zb));have n3_:=zb1 hb;clear HO496;clear HO500;clear HB;have HO496:=n0_;have HO500:=n1_;have HO504:=n2_;have HB:=n3_;clear n0_ n1_ n2_ n3_;(try clear hb);(try clear ho0))|((with_reducible refine gate_callee (f:=8) rfl ?_);refine zgo 44 Try.func8 #[.slice Ao11 t493.length co11,.int .i64 t494] ?_;(with_reducible refine (impl_CountRuled.calls k _ _ t493 t494 t505 t506 _ ?side1 ?side2 A7.out).mono ?_);(case side1=>exact zC ((Kd.R_reads' HO496.out).2.2));(case side2=>exact (Kd.R_reads' HO496.out).2.1);rintro e w14 ⟨rfl,hb⟩;refine ⟨_,rfl,?_⟩;replace HO496:=zRb HO496 hb;replace HO500:=zSb HO500 hb;replace HO504:=zSb HO504 hb;replace HB:=zb1 hb;(try clear hb))|((with_reducible refine gate_callee (f:=9) rfl ?_);refine zgo 50 Try.func9 #[.slice Ao11 t493.length co11,.int .i64 t494] ?_;(with_reducible refine (spec_CountRuled.calls k _ _ t493 t494 t507 t508 _ ?side1 ?side2 A8.out).mono ?_);(case side1=>exact zC ((Kd.R_reads' HO496.out).2.2));(case side2=>exact (Kd.R_reads' HO496.out).2.1);rintro e w15 ⟨rfl,hb⟩;refine ⟨_,rfl,?_⟩;replace HO496:=zRb HO496 hb;replace HO500:=zSb HO500 hb;replace HO504:=zSb HO504 hb;replace HB:=zb1 hb;(try clear hb)))
 (try simp only [Act.put,List.setIfInBounds_toArray,List.set_cons_zero,List.set_cons_succ])
 go_cut [71] (fun v71 wc=>∃ (kq:Nat) (x71_8:Bool),v71=.bool x71_8∧Aside0 (laws_FnTies.j0 kq t493 t494 t497 t498 t505 x71_8=some r)∧Aside0 (kq≤k)∧Aside0 (Kd.R k44 44 wc w.heap.size (fun _=>True) (.slice Ao11 t493.length co11) t493)∧Aside0 (Kd.S (Kd.slice 3 (Kd.int .i64)) 33 wc w.heap.size (fun _=>True) v499 t497)∧Aside0 (Below w.heap.size w wc))
 case first=>
  have H:=HC9.out
  clear HC9
  by_cases c16:(t498 != t502)=true
  ·rw [if_pos c16] at H
   have c16b0:(t498 != t502)=true:=c16
   (try (have c16b1:decide (t498=t502)=false:=by simpa using c16))
   (try (have c16b2:(t498 == t502)=false:=by simpa using c16))
   (try (have c16b3:¬ (t498=t502):=by simpa using c16))
   clear c16
   (first|rw [c16b0]|(simp only [i64_w,i32_w];rw [c16b0])|skip)
   have H':=Aside0.mk H
   clear H
   go_wp2
   go_meet
   case rel=>exact ⟨_,(true),zo,H',⟨zz42⟩,⟨zR HO496.out⟩,⟨zS (Kd.S_mono HO500.out (fun _ hk=>trivial))⟩,⟨zb⟩⟩
  rw [if_neg c16] at H
  have c16b0:(t498 != t502)=false:=by simpa using c16
  (try (have c16b1:decide (t498=t502)=true:=by simpa using c16))
  (try (have c16b2:(t498 == t502)=true:=by simpa using c16))
  clear c16
  (first|rw [c16b0]|(simp only [i64_w,i32_w];rw [c16b0])|skip)
  replace H:=Option.bind_eq_some_iff.mp H
  obtain ⟨t509,A170,H⟩:=H
  try dsimp only at H
  have A17:=Aside0.mk A170
  clear A170
  by_cases c18:t509=true
  rotate_left
  ·replace c18:=Bool.eq_false_iff.mpr c18
   subst c18
   rw [if_neg (show ¬ (false=true) by decide)] at H
   have H':=Aside0.mk H
   clear H
   obtain ⟨Ao24,co24,eo24⟩:=Kd.S_slice HO500.out
   subst eo24
   obtain ⟨Ao25,co25,eo25⟩:=Kd.S_slice HO504.out
   subst eo25
   go_wp2_with (first|(go_at_call 10;(with_reducible refine (laws_vTable.calls k _ _ t497 _ _ t501 false _ ?side1 ?side2 ?side3 ?side4 A17.out).mono ?_);(case side1=>exact zC ((Kd.S_reads' HO500.out).2.2));(case side2=>exact (Kd.S_reads' HO500.out).2.1);(case side3=>exact zC ((Kd.S_reads' HO504.out).2.2));(case side4=>exact (Kd.S_reads' HO504.out).2.1);rintro e w' ⟨rfl,⟨nd,rfl⟩⟩))
   go_meet
   case rel=>exact ⟨_,(true),zo,H',⟨zz42⟩,⟨zR HO496.out⟩,⟨zS (Kd.S_mono HO500.out (fun _ hk=>trivial))⟩,⟨zb⟩⟩
  subst c18
  rw [if_pos rfl] at H
  by_cases c19:(t506 != t508)=true
  rotate_left
  ·rw [if_neg c19] at H
   have c19b0:(t506 != t508)=false:=by simpa using c19
   (try (have c19b1:decide (t506=t508)=true:=by simpa using c19))
   (try (have c19b2:(t506 == t508)=true:=by simpa using c19))
   clear c19
   have H':=Aside0.mk H
   clear H
   obtain ⟨Ao22,co22,eo22⟩:=Kd.S_slice HO500.out
   subst eo22
   obtain ⟨Ao23,co23,eo23⟩:=Kd.S_slice HO504.out
   subst eo23
   go_wp2_with (first|(go_at_call 10;(with_reducible refine (laws_vTable.calls k _ _ t497 _ _ t501 true _ ?side1 ?side2 ?side3 ?side4 A17.out).mono ?_);(case side1=>exact zC ((Kd.S_reads' HO500.out).2.2));(case side2=>exact (Kd.S_reads' HO500.out).2.1);(case side3=>exact zC ((Kd.S_reads' HO504.out).2.2));(case side4=>exact (Kd.S_reads' HO504.out).2.1);rintro e w' ⟨rfl,⟨nd,rfl⟩⟩))
   go_meet
   case rel=>exact ⟨_,((t505 != t507)),zo,H',⟨zz42⟩,⟨zR HO496.out⟩,⟨zS (Kd.S_mono HO500.out (fun _ hk=>trivial))⟩,⟨zb⟩⟩
  rw [if_pos c19] at H
  have c19b0:(t506 != t508)=true:=c19
  (try (have c19b1:decide (t506=t508)=false:=by simpa using c19))
  (try (have c19b2:(t506 == t508)=false:=by simpa using c19))
  (try (have c19b3:¬ (t506=t508):=by simpa using c19))
  clear c19
  have H':=Aside0.mk H
  clear H
  obtain ⟨Ao20,co20,eo20⟩:=Kd.S_slice HO500.out
  subst eo20
  obtain ⟨Ao21,co21,eo21⟩:=Kd.S_slice HO504.out
  subst eo21
  go_wp2_with (first|(go_at_call 10;(with_reducible refine (laws_vTable.calls k _ _ t497 _ _ t501 true _ ?side1 ?side2 ?side3 ?side4 A17.out).mono ?_);(case side1=>exact zC ((Kd.S_reads' HO500.out).2.2));(case side2=>exact (Kd.S_reads' HO500.out).2.1);(case side3=>exact zC ((Kd.S_reads' HO504.out).2.2));(case side4=>exact (Kd.S_reads' HO504.out).2.1);rintro e w' ⟨rfl,⟨nd,rfl⟩⟩))
  go_meet
  case rel=>exact ⟨_,(true),zo,H',⟨zz42⟩,⟨zR HO496.out⟩,⟨zS (Kd.S_mono HO500.out (fun _ hk=>trivial))⟩,⟨zb⟩⟩
 case rest=>
  clear HC9
  obtain ⟨kq,x71_8,rfl,HA,HJ8,HO_3,HO_5,HB⟩:=hcut
  cases kq with
  | zero=>exact absurd HA.out (by simp [laws_FnTies.j0])
  | succ kj8=>
   have H:=HA.out
   clear HA
   simp only [laws_FnTies.j0] at H
   by_cases c26:x71_8=true
   ·subst c26
    rw [if_pos rfl] at H
    obtain rfl:=Option.some.inj H
    go_wp2
    go_ret
    exact ⟨zz1,zb⟩
   replace c26:=Bool.eq_false_iff.mpr c26
   subst c26
   rw [if_neg (show ¬ (false=true) by decide)] at H
   by_cases c27:t498=true
   rotate_left
   ·replace c27:=Bool.eq_false_iff.mpr c27
    subst c27
    rw [if_neg (show ¬ (false=true) by decide)] at H
    obtain rfl:=Option.some.inj H
    go_wp2
    go_ret
    exact ⟨zz1,zb⟩
   subst c27
   rw [if_pos rfl] at H
   replace H:=Option.bind_eq_some_iff.mp H
   obtain ⟨⟨t510,t511⟩,A280,H⟩:=H
   try dsimp only at H
   have A28:=Aside0.mk A280
   clear A280
   obtain ⟨y514,hy514⟩:∃ y_:List Int,y_=(([]:List Int)):=⟨_,rfl⟩
   replace H:(laws_FnTies.l0 kj8 t493 t494 t497 t505 t510 y514 0)=some r:=by first|(rw [hy514];with_reducible exact H)|(have H2_:=(Option.bind_some _ _).symm.trans H;rw [hy514];with_reducible exact H2_)|(have H2_:=(Option.bind_some _ _).symm.trans H;with_reducible exact H2_)|with_reducible exact H|(rw [hy514];exact H)|exact H
   have Ny514:=Aside0.mk hy514
   clear hy514
   have H':=Aside0.mk H
   clear H
   go_wp2_with (first|((with_reducible refine gate_callee (f:=11) rfl ?_);refine zgo 77 Try.func11 #[.slice Ao11 t493.length co11,.int .i64 t494] ?_;(with_reducible refine (impl_RuledOrder.calls kj8 _ _ t493 t494 t510 t511 _ ?side1 ?side2 A28.out).mono ?_);(case side1=>exact zC ((Kd.R_reads' HO_3.out).2.2));(case side2=>exact (Kd.R_reads' HO_3.out).2.1);rintro e w29 ⟨v512,rfl,ho0,hb⟩;refine ⟨_,rfl,?_⟩;replace HO_3:=zRb HO_3 hb;replace HO_5:=Aside0.mk (Kd.S_elder' (zS HO_5.out) (Kd.R_base ho0) hb);have HO513:=Aside0.mk (Kd.R_lower ho0 (below_size zb));replace HB:=zb1 hb;(try clear hb);(try clear ho0))|((with_reducible refine gate_dst (N:=80) rfl ?_);(try (refine gate_guard (by rfl) ?_;dsimp only));refine Kd.R_lit (Kd.int .i64) _ 3 ?hg (N:=80) ?hd (xs:=([]:List Int)) (inner:=[]) (ok:=fun _=>True) (okp:=fun _=>True) ?hr ?hp (fun _ hk=>hk) trivial (Below.refl _ _) (Nat.le_refl _) (by simp) ?_;(case hd=>rfl);(case hg=>rfl);(case hr=>first|(go_simp;done)|(go_simp;rfl));(case hp=>exact (Reps.none _ _));intro v515 w30 ho31 hb hg_ hnew_;clear hg_ hnew_;(first|rw [←Ny514.out] at ho31|(simp only [Int.reduceToNat] at ho31;rw [←Ny514.out] at ho31));have n0_:=zRb HO_3 hb;have n1_:=Aside0.mk (Kd.S_elder' (zS HO_5.out) (Kd.R_base ho31) hb);have n2_:=Aside0.mk (Kd.R_elder' (zR HO513.out) (Kd.R_base ho31) hb);have n3_:=Aside0.mk (Kd.R_lower (Kd.R_new' ho31 (Kd.R_lt (zR HO513.out))) (below_size zb));have n4_:=zb1 hb;clear HO_3;clear HO_5;clear HO513;clear HB;have HO_3:=n0_;have HO_5:=n1_;have HO513:=n2_;have HO516:=n3_;have HB:=n4_;clear n0_ n1_ n2_ n3_ n4_;clear hb ho31))
   go_loopg [15,16] kj8 (fun kq v15 v16 w'=>∃ (x15_2:List Int) (x16_2:Int),v16=.int .i64 x16_2∧Aside0 (laws_FnTies.l0 kq t493 t494 t497 t505 t510 x15_2 x16_2=some r)∧Aside0 (kq≤kj8)∧Aside0 (Kd.R k44 44 w' w.heap.size (fun _=>True) (.slice Ao11 t493.length co11) t493)∧Aside0 (Kd.S (Kd.slice 3 (Kd.int .i64)) 33 w' w.heap.size (fun k_=>some k_≠(v512:Value).ownBlock∧some k_≠(v15:Value).ownBlock) v499 t497)∧Aside0 (Kd.R (Kd.int .i64) 3 w' w.heap.size (fun k_=>some k_≠(v15:Value).ownBlock) v512 t510)∧Aside0 (Kd.R (Kd.int .i64) 3 w' w.heap.size (fun k_=>some k_≠(v512:Value).ownBlock) v15 x15_2)∧Aside0 (Below w.heap.size w w'))
   case atStart=>exact ⟨(y514),(0),zo,H',⟨Nat.le_refl _⟩,⟨zR HO_3.out⟩,⟨zS (Kd.S_mono HO_5.out (fun _ hk=>⟨hk.1.2,hk.2⟩))⟩,⟨zR (Kd.R_mono HO513.out (fun _ hk=>hk.2))⟩,⟨zR (Kd.R_mono HO516.out (fun _ hk=>hk.2))⟩,⟨zb⟩⟩
   case round=>
    clear H'
    obtain ⟨x15_2,x16_2,rfl,HA,HK2,HO_3,HO_5,HO_13,HO_15,HB⟩:=hrel
    cases gk with
    | zero=>exact absurd HA.out (by simp [laws_FnTies.l0])
    | succ k2=>
     have H:=HA.out
     clear HA
     simp only [laws_FnTies.l0] at H
     by_cases c32:x16_2<(t497.length:Int)
     rotate_left
     ·rw [if_neg c32] at H
      have c32b0:=decide_eq_false c32
      clear c32
      have HC48:=Aside0.mk H
      clear H
      obtain ⟨Ao49,co49,eo49⟩:=Kd.S_slice HO_5.out
      subst eo49
      go_upto_region 24 with (fail)
      go_cut [131] (fun v131 wc=>∃ (kq:Nat) (x131_47:Bool),v131=.bool x131_47∧Aside0 (laws_FnTies.j3 kq t493 t494 t505 t510 x15_2 x131_47=some r)∧Aside0 (kq≤k2)∧Aside0 (Kd.R k44 44 wc w.heap.size (fun _=>True) (.slice Ao11 t493.length co11) t493)∧Aside0 (Kd.R (Kd.int .i64) 3 wc w.heap.size (fun k_=>some k_≠(u15:Value).ownBlock) v512 t510)∧Aside0 (Kd.R (Kd.int .i64) 3 wc w.heap.size (fun k_=>some k_≠(v512:Value).ownBlock) u15 x15_2)∧Aside0 (Below w.heap.size w wc))
      case first=>
       have H:=HC48.out
       clear HC48
       replace H:=Option.bind_eq_some_iff.mp H
       obtain ⟨t528,A500,H⟩:=H
       try dsimp only at H
       have A50:=Aside0.mk A500
       clear A500
       by_cases c51:t528=true
       ·subst c51
        rw [if_pos rfl] at H
        have H':=Aside0.mk H
        clear H
        obtain ⟨Ao52,co52,eo52⟩:=Kd.R_slice HO_15.out
        subst eo52
        obtain ⟨Ao53,co53,eo53⟩:=Kd.R_slice HO_13.out
        subst eo53
        go_wp2_with (first|((with_reducible refine gate_callee (f:=13) rfl ?_);refine zgo 125 Try.func13 #[.slice Ao52 x15_2.length co52,.slice Ao53 t510.length co53] ?_;(with_reducible refine (laws_vInts.calls k2 _ _ x15_2 _ _ t510 true _ ?side1 ?side2 ?side3 ?side4 A50.out).mono ?_);(case side1=>exact zC ((Kd.R_reads' HO_15.out).2.2));(case side2=>exact (Kd.R_reads' HO_15.out).2.1);(case side3=>exact zC ((Kd.R_reads' HO_13.out).2.2));(case side4=>exact (Kd.R_reads' HO_13.out).2.1);rintro e w' ⟨rfl,⟨nd,rfl⟩⟩;refine ⟨_,rfl,?_⟩))
        go_meet
        case rel=>exact ⟨_,(decide ((t493.length:Int)>6)),zo,H',⟨by have:=HJ8.out;have:=HK2.out;first|omega|exact Nat.le_refl _⟩,⟨zR HO_3.out⟩,⟨zR HO_13.out⟩,⟨zR HO_15.out⟩,⟨zb⟩⟩
       replace c51:=Bool.eq_false_iff.mpr c51
       subst c51
       rw [if_neg (show ¬ (false=true) by decide)] at H
       have H':=Aside0.mk H
       clear H
       obtain ⟨Ao54,co54,eo54⟩:=Kd.R_slice HO_15.out
       subst eo54
       obtain ⟨Ao55,co55,eo55⟩:=Kd.R_slice HO_13.out
       subst eo55
       go_wp2_with (first|((with_reducible refine gate_callee (f:=13) rfl ?_);refine zgo 125 Try.func13 #[.slice Ao54 x15_2.length co54,.slice Ao55 t510.length co55] ?_;(with_reducible refine (laws_vInts.calls k2 _ _ x15_2 _ _ t510 false _ ?side1 ?side2 ?side3 ?side4 A50.out).mono ?_);(case side1=>exact zC ((Kd.R_reads' HO_15.out).2.2));(case side2=>exact (Kd.R_reads' HO_15.out).2.1);(case side3=>exact zC ((Kd.R_reads' HO_13.out).2.2));(case side4=>exact (Kd.R_reads' HO_13.out).2.1);rintro e w' ⟨rfl,⟨nd,rfl⟩⟩;refine ⟨_,rfl,?_⟩))
       go_meet
       case rel=>exact ⟨_,(true),zo,H',⟨by have:=HJ8.out;have:=HK2.out;first|omega|exact Nat.le_refl _⟩,⟨zR HO_3.out⟩,⟨zR HO_13.out⟩,⟨zR HO_15.out⟩,⟨zb⟩⟩
      case rest=>
       clear HC48
       obtain ⟨kq,x131_47,rfl,HA,HJ47,HO_3,HO_13,HO_15,HB⟩:=hcut
       cases kq with
       | zero=>exact absurd HA.out (by simp [laws_FnTies.j3])
       | succ kj47=>
        have H:=HA.out
        clear HA
        simp only [laws_FnTies.j3] at H
        by_cases c56:x131_47=true
        ·subst c56
         rw [if_pos rfl] at H
         replace H:=Option.bind_eq_some_iff.mp H
         obtain ⟨t529,A570,H⟩:=H
         try dsimp only at H
         have A57:=Aside0.mk A570
         clear A570
         obtain rfl:=Option.some.inj H
         obtain ⟨Ao58,co58,eo58⟩:=Kd.R_slice HO_15.out
         subst eo58
         obtain ⟨Ao59,co59,eo59⟩:=Kd.R_slice HO_13.out
         subst eo59
         go_wp2_with (first|((with_reducible refine gate_callee (f:=13) rfl ?_);refine zgo 134 Try.func13 #[.slice Ao58 x15_2.length co58,.slice Ao59 t510.length co59] ?_;(with_reducible refine (laws_vInts.calls kj47 _ _ x15_2 _ _ t510 t529 _ ?side1 ?side2 ?side3 ?side4 A57.out).mono ?_);(case side1=>exact zC ((Kd.R_reads' HO_15.out).2.2));(case side2=>exact (Kd.R_reads' HO_15.out).2.1);(case side3=>exact zC ((Kd.R_reads' HO_13.out).2.2));(case side4=>exact (Kd.R_reads' HO_13.out).2.1);rintro e w' ⟨rfl,⟨nd,rfl⟩⟩;refine ⟨_,rfl,?_⟩))
         go_ret
         exact ⟨zz1,zb⟩
        replace c56:=Bool.eq_false_iff.mpr c56
        subst c56
        rw [if_neg (show ¬ (false=true) by decide)] at H
        replace H:=Option.bind_eq_some_iff.mp H
        obtain ⟨⟨t530,t531⟩,A600,H⟩:=H
        try dsimp only at H
        have A60:=Aside0.mk A600
        clear A600
        by_cases c61:t531=true
        rotate_left
        ·replace c61:=Bool.eq_false_iff.mpr c61
         subst c61
         rw [if_neg (show ¬ (false=true) by decide)] at H
         obtain rfl:=Option.some.inj H
         go_wp2_with (first|((with_reducible refine gate_callee (f:=14) rfl ?_);refine zgo 138 Try.func14 #[.slice Ao11 t493.length co11,.int .i64 t494] ?_;(with_reducible refine (impl_CountBest.calls kj47 _ _ t493 t494 t530 false _ ?side1 ?side2 A60.out).mono ?_);(case side1=>exact zC ((Kd.R_reads' HO_3.out).2.2));(case side2=>exact (Kd.R_reads' HO_3.out).2.1);rintro e w69 ⟨rfl,hb⟩;refine ⟨_,rfl,?_⟩;replace HO_3:=zRb HO_3 hb;replace HO_13:=zRb HO_13 hb;replace HO_15:=zRb HO_15 hb;replace HB:=zb1 hb;(try clear hb)))
         go_ret
         exact ⟨zz1,zb⟩
        subst c61
        rw [if_pos rfl] at H
        by_cases c62:t505≤t530
        rotate_left
        ·rw [if_neg c62] at H
         have c62b0:=decide_eq_false c62
         clear c62
         obtain rfl:=Option.some.inj H
         go_wp2_with (first|((with_reducible refine gate_callee (f:=14) rfl ?_);refine zgo 138 Try.func14 #[.slice Ao11 t493.length co11,.int .i64 t494] ?_;(with_reducible refine (impl_CountBest.calls kj47 _ _ t493 t494 t530 true _ ?side1 ?side2 A60.out).mono ?_);(case side1=>exact zC ((Kd.R_reads' HO_3.out).2.2));(case side2=>exact (Kd.R_reads' HO_3.out).2.1);rintro e w68 ⟨rfl,hb⟩;refine ⟨_,rfl,?_⟩;replace HO_3:=zRb HO_3 hb;replace HO_13:=zRb HO_13 hb;replace HO_15:=zRb HO_15 hb;replace HB:=zb1 hb;(try clear hb)))
         go_ret
         exact ⟨zz1,zb⟩
        rw [if_pos c62] at H
        have c62b0:=decide_eq_true c62
        clear c62
        by_cases c63:t494=2
        ·rw [if_pos c63] at H
         have c63b0:(t494 == 2)=true:=beq_iff_eq.mpr c63
         have c63b1:(t494 != 2)=false:=bne_eq_false_iff_eq.mpr c63
         clear c63
         obtain rfl:=Option.some.inj H
         go_wp2_with (first|((with_reducible refine gate_callee (f:=14) rfl ?_);refine zgo 138 Try.func14 #[.slice Ao11 t493.length co11,.int .i64 t494] ?_;(with_reducible refine (impl_CountBest.calls kj47 _ _ t493 t494 t530 true _ ?side1 ?side2 A60.out).mono ?_);(case side1=>exact zC ((Kd.R_reads' HO_3.out).2.2));(case side2=>exact (Kd.R_reads' HO_3.out).2.1);rintro e w64 ⟨rfl,hb⟩;refine ⟨_,rfl,?_⟩;replace HO_3:=zRb HO_3 hb;replace HO_13:=zRb HO_13 hb;replace HO_15:=zRb HO_15 hb;replace HB:=zb1 hb;(try clear hb)))
         go_ret
         exact ⟨zz1,zb⟩
        rw [if_neg c63] at H
        have c63b0:(t494 == 2)=false:=beq_eq_false_iff_ne.mpr c63
        have c63b1:(t494 != 2)=true:=bne_iff_ne.mpr c63
        by_cases c65:t494=3
        rotate_left
        ·rw [if_neg c65] at H
         have c65b0:(t494 == 3)=false:=beq_eq_false_iff_ne.mpr c65
         have c65b1:(t494 != 3)=true:=bne_iff_ne.mpr c65
         obtain rfl:=Option.some.inj H
         go_wp2_with (first|((with_reducible refine gate_callee (f:=14) rfl ?_);refine zgo 138 Try.func14 #[.slice Ao11 t493.length co11,.int .i64 t494] ?_;(with_reducible refine (impl_CountBest.calls kj47 _ _ t493 t494 t530 true _ ?side1 ?side2 A60.out).mono ?_);(case side1=>exact zC ((Kd.R_reads' HO_3.out).2.2));(case side2=>exact (Kd.R_reads' HO_3.out).2.1);rintro e w67 ⟨rfl,hb⟩;refine ⟨_,rfl,?_⟩;replace HO_3:=zRb HO_3 hb;replace HO_13:=zRb HO_13 hb;replace HO_15:=zRb HO_15 hb;replace HB:=zb1 hb;(try clear hb)))
         go_ret
         exact ⟨zz1,zb⟩
        rw [if_pos c65] at H
        have c65b0:(t494 == 3)=true:=beq_iff_eq.mpr c65
        have c65b1:(t494 != 3)=false:=bne_eq_false_iff_eq.mpr c65
        clear c65
        obtain rfl:=Option.some.inj H
        go_wp2_with (first|((with_reducible refine gate_callee (f:=14) rfl ?_);refine zgo 138 Try.func14 #[.slice Ao11 t493.length co11,.int .i64 t494] ?_;(with_reducible refine (impl_CountBest.calls kj47 _ _ t493 t494 t530 true _ ?side1 ?side2 A60.out).mono ?_);(case side1=>exact zC ((Kd.R_reads' HO_3.out).2.2));(case side2=>exact (Kd.R_reads' HO_3.out).2.1);rintro e w66 ⟨rfl,hb⟩;refine ⟨_,rfl,?_⟩;replace HO_3:=zRb HO_3 hb;replace HO_13:=zRb HO_13 hb;replace HO_15:=zRb HO_15 hb;replace HB:=zb1 hb;(try clear hb)))
        go_ret
        exact ⟨zz1,zb⟩
     rw [if_pos c32] at H
     have c32b0:=decide_eq_true c32
     clear c32
     by_cases c33:0≤x16_2
     rotate_left
     ·rw [if_neg c33] at H
      exact absurd H (by simp)
     rw [if_pos c33] at H
     have c33b0:=decide_eq_true c33
     clear c33
     by_cases c34:x15_2.length + (rd_L3 t497 x16_2).length<17592186044416
     rotate_left
     ·rw [if_neg c34] at H
      exact absurd H (by simp)
     rw [if_pos c34] at H
     have LMc34:=Aside0.mk c34
     clear c34
     obtain ⟨y518,hy518⟩:∃ y_:List Int,y_=(x15_2++(rd_L3 t497 x16_2)):=⟨_,rfl⟩
     replace H:(laws_FnTies.l1 k2 t493 t494 t497 t505 t510 y518 x16_2 0)=some r:=by first|(rw [hy518];with_reducible exact H)|(have H2_:=(Option.bind_some _ _).symm.trans H;rw [hy518];with_reducible exact H2_)|(have H2_:=(Option.bind_some _ _).symm.trans H;with_reducible exact H2_)|with_reducible exact H|(rw [hy518];exact H)|exact H
     have Ny518:=Aside0.mk hy518
     clear hy518
     have H':=Aside0.mk H
     clear H
     obtain ⟨Ao35,co35,eo35⟩:=Kd.S_slice HO_5.out
     subst eo35
     have p517:0≤(x16_2:Int):=of_decide_eq_true za
     have q517:x16_2<(t497.length:Int):=of_decide_eq_true za
     obtain ⟨ad517,A517_0,c517_0,e517,hx517_0,hl517_0,hi517_0⟩:=at_L3 (Kd.S_reads' HO_5.out).2.2 x16_2 p517 q517
     cases e517
     obtain ⟨ce517,hce517,hMe517,hcc517⟩:=Kd.S_get HO_5.out [] x16_2 p517 (by first|exact q517|exact of_decide_eq_true za|(have e_:=(Kd.S_reads' HO_5.out).1;omega))
     obtain ⟨ve517_0,rfl,ge517_0⟩:=hMe517
     have hv517_0:=hcc517 0 _ rfl
     rw [Nat.add_zero,show ((Kd.slice 3 (Kd.int .i64))).sz=1 from rfl,Nat.mul_one] at hv517_0
     replace hv517_0:=Option.some.inj (hv517_0.symm.trans hx517_0)
     rw [hv517_0] at ge517_0
     have HL517_0:=Aside0.mk (show Kd.R (Kd.int .i64) 3 _ _ _ _ (rd_L3 t497 x16_2) from ge517_0)
     clear hv517_0 ge517_0
     clear hcc517 hce517
     have HR517_0:=Aside0.mk hi517_0
     have HC517_0:=Aside0.mk hl517_0
     clear hi517_0 hl517_0
     replace p517:=eq_true p517
     replace q517:=eq_true q517
     go_wp2_with (first|((with_reducible refine gate_builtin (b:=.append) (xs:=#[.tmp 87,.tmp 91]) rfl ?_);(try (refine gate_guard (by rfl) ?_;dsimp only));at_builtin;refine Kd.R_append_rows (Kd.int .i64) (w0:=w) w.heap.size rfl (.tmp 87) (.tmp 91) 33 3 (.int .i64 0) 8 rfl Try.underlying33 info3 rfl (by decide) (by omega) u15 x15_2 (rd_L3 t497 x16_2) _ _ _ (fun k_=>some k_≠(v512:Value).ownBlock) (fun _=>False) rfl rfl ?aO ?aR (fun _ _ h=>h) (fun _ h=>h.elim) ?aF ?aB ?aS ?aL ?_;(case aR=>repeat (first|exact (by repeat (first|(with_reducible exact HR517_0.out)|(with_reducible refine Kd.C_alloc ?_ _)|(with_reducible refine Kd.C_drewN ?_ _)|(with_reducible refine Kd.C_drew ?_)|exact HR517_0.out))|(with_reducible refine Kd.C_alloc ?_ _)|(with_reducible refine Kd.C_drewN ?_ _)|(with_reducible refine Kd.C_drew ?_)));(case aB=>exact zb);(case aF=>exact (fun k_ hk=>Kd.fresh' (Kd.R_lt (zR HO_13.out)) k_ hk));(case aO=>exact (zR HO_15.out));(case aS=>exact (below_size zb));(case aL=>have:=LMc34.out;omega);intro v519 w36 ho hb hg hat;rw [←Ny518.out] at ho;replace HO_3:=Aside0.mk (Kd.R_over' (zR HO_3.out) (Kd.R_typed (zR HO_15.out)) (by decide) hg);replace HO_5:=Aside0.mk (Kd.S_after (ok:=(fun k_=>some k_≠(v512:Value).ownBlock)) (zS HO_5.out) hg hat);replace HO_13:=Aside0.mk (Kd.R_after (ok:=(fun _=>True)) (zR (Kd.R_mono HO_13.out (fun _ hk=>⟨trivial,hk⟩))) hg hat);replace HL517_0:=Aside0.mk (Kd.R_after (ok:=(fun k_=>some k_≠(.slice (some ad517) t497.length co35:Value).ownBlock∧some k_≠(v512:Value).ownBlock)) (zR (Kd.R_mono HL517_0.out (fun _ hk=>⟨⟨hk.2,hk.1.1⟩,hk.1.2⟩))) hg hat);replace HB:=Aside0.mk (hb);have HO520:=Aside0.mk (ho);clear HO_15;clear ho hb hg hat))
     go_loopg [17] k2 (fun kq v17 w'=>∃ (x17_3:Int),v17=.int .i64 x17_3∧Aside0 (laws_FnTies.l1 kq t493 t494 t497 t505 t510 y518 x16_2 x17_3=some r)∧Aside0 (kq≤k2)∧Aside0 (Kd.R k44 44 w' w.heap.size (fun _=>True) (.slice Ao11 t493.length co11) t493)∧Aside0 (Kd.S (Kd.slice 3 (Kd.int .i64)) 33 w' w.heap.size (fun k_=>some k_≠(v512:Value).ownBlock∧some k_≠(v519:Value).ownBlock) (.slice (some ad517) t497.length co35) t497)∧Aside0 (Kd.R (Kd.int .i64) 3 w' w.heap.size (fun k_=>some k_≠(v519:Value).ownBlock) v512 t510)∧Aside0 (Kd.R (Kd.int .i64) 3 w' w.heap.size (fun k_=>some k_≠(v512:Value).ownBlock) v519 y518)∧Aside0 (Below w.heap.size w w'))
     case atStart=>exact ⟨(0),zo,H',⟨Nat.le_refl _⟩,⟨zR HO_3.out⟩,⟨zS HO_5.out⟩,⟨zR (Kd.R_mono HO_13.out (fun _ hk=>hk.2))⟩,⟨zR HO520.out⟩,⟨zb⟩⟩
     case round=>
      clear H'
      obtain ⟨x17_3,rfl,HA,HK3,HO_3,HO_5,HO_13,HO_15,HB⟩:=hrel
      cases gk with
      | zero=>exact absurd HA.out (by simp [laws_FnTies.l1])
      | succ k3=>
       have H:=HA.out
       clear HA
       simp only [laws_FnTies.l1] at H
       by_cases c37:0≤x16_2
       rotate_left
       ·rw [if_neg c37] at H
        exact absurd H (by simp)
       rw [if_pos c37] at H
       have c37b0:=decide_eq_true c37
       clear c37
       by_cases c38:x16_2<(t497.length:Int)
       rotate_left
       ·rw [if_neg c38] at H
        exact absurd H (by simp)
       rw [if_pos c38] at H
       have c38b0:=decide_eq_true c38
       clear c38
       by_cases c39:x17_3<((rd_L3 t497 x16_2).length:Int)
       rotate_left
       ·rw [if_neg c39] at H
        have c39b0:=decide_eq_false c39
        clear c39
        have H':=Aside0.mk H
        clear H
        have p521:0≤(x16_2:Int):=of_decide_eq_true za
        have q521:x16_2<(t497.length:Int):=of_decide_eq_true za
        obtain ⟨ad521,A521_0,c521_0,e521,hx521_0,hl521_0,hi521_0⟩:=at_L3 (Kd.S_reads' HO_5.out).2.2 x16_2 p521 q521
        obtain rfl:ad517=ad521:=(by injection e521)
        obtain ⟨ce521,hce521,hMe521,hcc521⟩:=Kd.S_get HO_5.out [] x16_2 p521 (by first|exact q521|exact of_decide_eq_true za|(have e_:=(Kd.S_reads' HO_5.out).1;omega))
        obtain ⟨ve521_0,rfl,ge521_0⟩:=hMe521
        have hv521_0:=hcc521 0 _ rfl
        rw [Nat.add_zero,show ((Kd.slice 3 (Kd.int .i64))).sz=1 from rfl,Nat.mul_one] at hv521_0
        replace hv521_0:=Option.some.inj (hv521_0.symm.trans hx521_0)
        rw [hv521_0] at ge521_0
        have HL521_0:=Aside0.mk (show Kd.R (Kd.int .i64) 3 _ _ _ _ (rd_L3 t497 x16_2) from ge521_0)
        clear hv521_0 ge521_0
        clear hcc521 hce521
        have HR521_0:=Aside0.mk hi521_0
        have HC521_0:=Aside0.mk hl521_0
        clear hi521_0 hl521_0
        replace p521:=eq_true p521
        replace q521:=eq_true q521
        go_wp2
        go_roundg k3
        case measure=>have:=HJ8.out;have:=HK2.out;have:=HK3.out;omega
        case rel=>exact ⟨(y518),(wrap64 (x16_2 + 1)),zo,H',⟨by have:=HJ8.out;have:=HK2.out;have:=HK3.out;omega⟩,⟨zR HO_3.out⟩,⟨zS HO_5.out⟩,⟨zR HO_13.out⟩,⟨zR HO_15.out⟩,⟨zb⟩⟩
       rw [if_pos c39] at H
       have c39b0:=decide_eq_true c39
       clear c39
       by_cases c40:0<((rd_L3 t497 x16_2).length:Int)
       rotate_left
       ·rw [if_neg c40] at H
        exact absurd H (by simp)
       rw [if_pos c40] at H
       have c40b0:=decide_eq_true c40
       have c40b1:decide (0<(rd_L3 t497 x16_2).length)=true:=decide_eq_true (by omega)
       clear c40
       by_cases c41:0≤x17_3
       rotate_left
       ·rw [if_neg c41] at H
        exact absurd H (by simp)
       rw [if_pos c41] at H
       have c41b0:=decide_eq_true c41
       clear c41
       replace H:=Option.bind_eq_some_iff.mp H
       obtain ⟨⟨t526,t527⟩,A420,H⟩:=H
       try dsimp only at H
       have A42:=Aside0.mk A420
       clear A420
       by_cases c43:t526=0
       rotate_left
       ·rw [if_neg c43] at H
        have c43b0:(t526 == 0)=false:=beq_eq_false_iff_ne.mpr c43
        have c43b1:(t526 != 0)=true:=bne_iff_ne.mpr c43
        obtain rfl:=Option.some.inj H
        have p521:0≤(x16_2:Int):=of_decide_eq_true za
        have q521:x16_2<(t497.length:Int):=of_decide_eq_true za
        obtain ⟨ad521,A521_0,c521_0,e521,hx521_0,hl521_0,hi521_0⟩:=at_L3 (Kd.S_reads' HO_5.out).2.2 x16_2 p521 q521
        obtain rfl:ad517=ad521:=(by injection e521)
        obtain ⟨ce521,hce521,hMe521,hcc521⟩:=Kd.S_get HO_5.out [] x16_2 p521 (by first|exact q521|exact of_decide_eq_true za|(have e_:=(Kd.S_reads' HO_5.out).1;omega))
        obtain ⟨ve521_0,rfl,ge521_0⟩:=hMe521
        have hv521_0:=hcc521 0 _ rfl
        rw [Nat.add_zero,show ((Kd.slice 3 (Kd.int .i64))).sz=1 from rfl,Nat.mul_one] at hv521_0
        replace hv521_0:=Option.some.inj (hv521_0.symm.trans hx521_0)
        rw [hv521_0] at ge521_0
        have HL521_0:=Aside0.mk (show Kd.R (Kd.int .i64) 3 _ _ _ _ (rd_L3 t497 x16_2) from ge521_0)
        clear hv521_0 ge521_0
        clear hcc521 hce521
        have HR521_0:=Aside0.mk hi521_0
        have HC521_0:=Aside0.mk hl521_0
        clear hi521_0 hl521_0
        replace p521:=eq_true p521
        replace q521:=eq_true q521
        try go_wp2
        replace HO_3:=Aside0.mk (Kd.R_drew HO_3.out)
        replace HO_5:=Aside0.mk (Kd.S_drew HO_5.out)
        replace HO_13:=Aside0.mk (Kd.R_drew HO_13.out)
        replace HO_15:=Aside0.mk (Kd.R_drew HO_15.out)
        replace HL521_0:=Aside0.mk (Kd.R_drew HL521_0.out)
        replace HR521_0:=Aside0.mk (Kd.C_drew HR521_0.out)
        replace HB:=Aside0.mk (below_drew1 HB.out)
        have p522:0≤(x16_2:Int):=of_decide_eq_true za
        have q522:x16_2<(t497.length:Int):=of_decide_eq_true za
        obtain ⟨ad522,A522_0,c522_0,e522,hx522_0,hl522_0,hi522_0⟩:=at_L3 (Kd.S_reads' HO_5.out).2.2 x16_2 p522 q522
        obtain rfl:ad517=ad522:=(by injection e522)
        obtain ⟨ce522,hce522,hMe522,hcc522⟩:=Kd.S_get HO_5.out [] x16_2 p522 (by first|exact q522|exact of_decide_eq_true za|(have e_:=(Kd.S_reads' HO_5.out).1;omega))
        obtain ⟨ve522_0,rfl,ge522_0⟩:=hMe522
        have hv522_0:=hcc522 0 _ rfl
        rw [Nat.add_zero,show ((Kd.slice 3 (Kd.int .i64))).sz=1 from rfl,Nat.mul_one] at hv522_0
        replace hv522_0:=Option.some.inj (hv522_0.symm.trans hx522_0)
        rw [hv522_0] at ge522_0
        have HL522_0:=Aside0.mk (show Kd.R (Kd.int .i64) 3 _ _ _ _ (rd_L3 t497 x16_2) from ge522_0)
        clear hv522_0 ge522_0
        clear hcc522 hce522
        have HR522_0:=Aside0.mk hi522_0
        have HC522_0:=Aside0.mk hl522_0
        clear hi522_0 hl522_0
        replace p522:=eq_true p522
        replace q522:=eq_true q522
        have p523:0≤(0:Int):=(by omega)
        have q523:0<((rd_L3 t497 x16_2).length:Int):=of_decide_eq_true za
        obtain ⟨ad523,e523,hx523_0⟩:=Kd.at_int zz54 0 p523 q523
        cases e523
        have qi523:(0<(rd_L3 t497 x16_2).length)=True:=eq_true (by omega)
        (try rw [show ((0:Int)).toNat=0 from rfl] at hx523_0)
        (try rw [Addr.add_zero'] at hx523_0)
        replace p523:=eq_true p523
        replace q523:=eq_true q523
        have p524:0≤(x16_2:Int):=of_decide_eq_true za
        have q524:x16_2<(t497.length:Int):=of_decide_eq_true za
        obtain ⟨ad524,A524_0,c524_0,e524,hx524_0,hl524_0,hi524_0⟩:=at_L3 (Kd.S_reads' HO_5.out).2.2 x16_2 p524 q524
        obtain rfl:ad517=ad524:=(by injection e524)
        obtain ⟨ce524,hce524,hMe524,hcc524⟩:=Kd.S_get HO_5.out [] x16_2 p524 (by first|exact q524|exact of_decide_eq_true za|(have e_:=(Kd.S_reads' HO_5.out).1;omega))
        obtain ⟨ve524_0,rfl,ge524_0⟩:=hMe524
        have hv524_0:=hcc524 0 _ rfl
        rw [Nat.add_zero,show ((Kd.slice 3 (Kd.int .i64))).sz=1 from rfl,Nat.mul_one] at hv524_0
        replace hv524_0:=Option.some.inj (hv524_0.symm.trans hx524_0)
        rw [hv524_0] at ge524_0
        have HL524_0:=Aside0.mk (show Kd.R (Kd.int .i64) 3 _ _ _ _ (rd_L3 t497 x16_2) from ge524_0)
        clear hv524_0 ge524_0
        clear hcc524 hce524
        have HR524_0:=Aside0.mk hi524_0
        have HC524_0:=Aside0.mk hl524_0
        clear hi524_0 hl524_0
        replace p524:=eq_true p524
        replace q524:=eq_true q524
        have ea_:=Option.some.inj (hx522_0.symm.trans hx524_0)
        injection ea_ with ea_ en_ ec_
        subst ea_
        subst ec_
        clear en_
        have p525:0≤(x17_3:Int):=of_decide_eq_true za
        have q525:x17_3<((rd_L3 t497 x16_2).length:Int):=of_decide_eq_true za
        obtain ⟨ad525,e525,hx525_0⟩:=Kd.at_int zz55 x17_3 p525 q525
        cases e525
        replace p525:=eq_true p525
        replace q525:=eq_true q525
        refine start_ (n:=21) (S:=fun w'=>w'.cell? (ad517.add (x16_2).toNat)=some (.slice (some ad523) (rd_L3 t497 x16_2).length c522_0)∧w'.cell? ad523=some (.int .i64 (rd (rd_L3 t497 x16_2) 0))∧w'.cell? (ad517.add (x16_2).toNat)=some (.slice (some ad523) (rd_L3 t497 x16_2).length c522_0)∧w'.cell? (ad523.add (x17_3).toNat)=some (.int .i64 (rd (rd_L3 t497 x16_2) x17_3))) (ds:=[]) #[false,false,false,false,false,false,false,false,false,false,false,false,false,false,false,false,false,false,false,false,false] (by kernel_rfl) rfl rfl ⟨hx522_0,hx523_0,hx524_0,hx525_0⟩ (fun hHeld=>?_);refine with_tabW laws_FnTies.tab21 laws_FnTies.bits21 (fun HT_ HW_=>?_)
        generalize wr.drew=w46 at HO_3 HO_5 HO_13 HO_15 HL521_0 HR521_0 HB HL522_0 HL524_0 HR522_0 HR524_0 hx522_0 hx523_0 hx524_0 hx525_0 hHeld ⊢
        refine pu_ 0 103 ?_
        refine pu_ 1 104 ?_
        refine pu_ 2 105 ?_
        refine pu_ 3 106 ?_
        refine pu_ 4 107 ?_
        refine pu_ 8 111 ?_
        refine pu_ 9 112 ?_
        refine pu_ 10 113 ?_
        refine pu_ 12 115 ?_
        refine tk_ 5 108 hHeld ?_
        refine pu_ 6 109 ?_
        refine tk_ 7 110 hHeld ?_
        refine tk_ 11 114 hHeld ?_
        refine pu_ 13 116 ?_
        refine tk_ 14 117 hHeld ?_
        refine one_ (i:=15) (N:=some 118) #[true,true,true,true,true,true,true,true,true,true,true,true,true,true,true,true,false,false,false,false,false] rfl rfl (one_of HT_.out (by kernel_rfl)) (by decide) (fun K hK=>?_)
        refine goes_ Try.func12 (by kernel_rfl) rfl #[.slice Ao11 t493.length co11,.int .i64 t494,.int .i64 (rd (rd_L3 t497 x16_2) 0),.int .i64 (rd (rd_L3 t497 x16_2) x17_3)] (by rfl) rfl rfl zl ?_
        with_reducible refine (impl_RuleDifference.calls k3 _ _ t493 t494 (rd (rd_L3 t497 x16_2) 0) (rd (rd_L3 t497 x16_2) x17_3) t526 t527 _ ?side1 ?side2 A42.out).mono ?_
        (case side1=>exact zC ((Kd.R_reads' HO_3.out).2.2))
        (case side2=>exact (Kd.R_reads' HO_3.out).2.1)
        rintro e w47 ⟨rfl,hb⟩
        have HS0_:=(hb.cell (World.block_lt_of_cell? _ _ (hHeld.1))).trans (hHeld.1)
        have HS1_:=(hb.cell (World.block_lt_of_cell? _ _ (hHeld.2.1))).trans (hHeld.2.1)
        have HS2_:=(hb.cell (World.block_lt_of_cell? _ _ (hHeld.2.2.1))).trans (hHeld.2.2.1)
        have HS3_:=(hb.cell (World.block_lt_of_cell? _ _ (hHeld.2.2.2))).trans (hHeld.2.2.2)
        refine ⟨_,rfl,?_⟩
        replace HO_3:=zRb HO_3 hb
        replace HO_5:=zSb HO_5 hb
        replace HO_13:=zRb HO_13 hb
        replace HO_15:=zRb HO_15 hb
        replace HL521_0:=zRb HL521_0 hb
        replace HL522_0:=zRb HL522_0 hb
        replace HL524_0:=zRb HL524_0 hb
        replace HR521_0:=Aside0.mk (Kd.C_below (by repeat (first|(with_reducible exact HR521_0.out)|(with_reducible refine Kd.C_alloc ?_ _)|(with_reducible refine Kd.C_drewN ?_ _)|(with_reducible refine Kd.C_drew ?_)|exact HR521_0.out)) hb)
        replace HR522_0:=Aside0.mk (Kd.C_below zz54 hb)
        replace HR524_0:=Aside0.mk (Kd.C_below zz55 hb)
        replace HB:=zb1 hb
        refine hK.out _ _ ⟨HS0_,HS1_,HS2_,HS3_⟩ (fun hHeld=>?_)
        clear hK K
        refine norm_ (a':=?_) ?_ ?_
        rotate_left
        ·show Act.put _ (some 118) _=_
         simp only [Act.put,List.setIfInBounds_toArray,List.set_cons_zero,List.set_cons_succ,i64_w,i32_w]
         rfl
        refine pu_ 16 102 ?_
        refine pu_ 17 119 ?_
        refine pu_ 18 120 ?_
        refine pu_ 19 18 ?_
        refine pu_ 20 19 ?_
        refine done_ (done_of HT_.out (by kernel_rfl)) ?_
        try go_wp2
        go_ret
        exact ⟨zz1,zb⟩
       rw [if_pos c43] at H
       have c43b0:(t526 == 0)=true:=beq_iff_eq.mpr c43
       have c43b1:(t526 != 0)=false:=bne_eq_false_iff_eq.mpr c43
       clear c43
       have H':=Aside0.mk H
       clear H
       have p521:0≤(x16_2:Int):=of_decide_eq_true za
       have q521:x16_2<(t497.length:Int):=of_decide_eq_true za
       obtain ⟨ad521,A521_0,c521_0,e521,hx521_0,hl521_0,hi521_0⟩:=at_L3 (Kd.S_reads' HO_5.out).2.2 x16_2 p521 q521
       obtain rfl:ad517=ad521:=(by injection e521)
       obtain ⟨ce521,hce521,hMe521,hcc521⟩:=Kd.S_get HO_5.out [] x16_2 p521 (by first|exact q521|exact of_decide_eq_true za|(have e_:=(Kd.S_reads' HO_5.out).1;omega))
       obtain ⟨ve521_0,rfl,ge521_0⟩:=hMe521
       have hv521_0:=hcc521 0 _ rfl
       rw [Nat.add_zero,show ((Kd.slice 3 (Kd.int .i64))).sz=1 from rfl,Nat.mul_one] at hv521_0
       replace hv521_0:=Option.some.inj (hv521_0.symm.trans hx521_0)
       rw [hv521_0] at ge521_0
       have HL521_0:=Aside0.mk (show Kd.R (Kd.int .i64) 3 _ _ _ _ (rd_L3 t497 x16_2) from ge521_0)
       clear hv521_0 ge521_0
       clear hcc521 hce521
       have HR521_0:=Aside0.mk hi521_0
       have HC521_0:=Aside0.mk hl521_0
       clear hi521_0 hl521_0
       replace p521:=eq_true p521
       replace q521:=eq_true q521
       try go_wp2
       replace HO_3:=Aside0.mk (Kd.R_drew HO_3.out)
       replace HO_5:=Aside0.mk (Kd.S_drew HO_5.out)
       replace HO_13:=Aside0.mk (Kd.R_drew HO_13.out)
       replace HO_15:=Aside0.mk (Kd.R_drew HO_15.out)
       replace HL521_0:=Aside0.mk (Kd.R_drew HL521_0.out)
       replace HR521_0:=Aside0.mk (Kd.C_drew HR521_0.out)
       replace HB:=Aside0.mk (below_drew1 HB.out)
       have p522:0≤(x16_2:Int):=of_decide_eq_true za
       have q522:x16_2<(t497.length:Int):=of_decide_eq_true za
       obtain ⟨ad522,A522_0,c522_0,e522,hx522_0,hl522_0,hi522_0⟩:=at_L3 (Kd.S_reads' HO_5.out).2.2 x16_2 p522 q522
       obtain rfl:ad517=ad522:=(by injection e522)
       obtain ⟨ce522,hce522,hMe522,hcc522⟩:=Kd.S_get HO_5.out [] x16_2 p522 (by first|exact q522|exact of_decide_eq_true za|(have e_:=(Kd.S_reads' HO_5.out).1;omega))
       obtain ⟨ve522_0,rfl,ge522_0⟩:=hMe522
       have hv522_0:=hcc522 0 _ rfl
       rw [Nat.add_zero,show ((Kd.slice 3 (Kd.int .i64))).sz=1 from rfl,Nat.mul_one] at hv522_0
       replace hv522_0:=Option.some.inj (hv522_0.symm.trans hx522_0)
       rw [hv522_0] at ge522_0
       have HL522_0:=Aside0.mk (show Kd.R (Kd.int .i64) 3 _ _ _ _ (rd_L3 t497 x16_2) from ge522_0)
       clear hv522_0 ge522_0
       clear hcc522 hce522
       have HR522_0:=Aside0.mk hi522_0
       have HC522_0:=Aside0.mk hl522_0
       clear hi522_0 hl522_0
       replace p522:=eq_true p522
       replace q522:=eq_true q522
       have p523:0≤(0:Int):=(by omega)
       have q523:0<((rd_L3 t497 x16_2).length:Int):=of_decide_eq_true za
       obtain ⟨ad523,e523,hx523_0⟩:=Kd.at_int zz54 0 p523 q523
       cases e523
       have qi523:(0<(rd_L3 t497 x16_2).length)=True:=eq_true (by omega)
       (try rw [show ((0:Int)).toNat=0 from rfl] at hx523_0)
       (try rw [Addr.add_zero'] at hx523_0)
       replace p523:=eq_true p523
       replace q523:=eq_true q523
       have p524:0≤(x16_2:Int):=of_decide_eq_true za
       have q524:x16_2<(t497.length:Int):=of_decide_eq_true za
       obtain ⟨ad524,A524_0,c524_0,e524,hx524_0,hl524_0,hi524_0⟩:=at_L3 (Kd.S_reads' HO_5.out).2.2 x16_2 p524 q524
       obtain rfl:ad517=ad524:=(by injection e524)
       obtain ⟨ce524,hce524,hMe524,hcc524⟩:=Kd.S_get HO_5.out [] x16_2 p524 (by first|exact q524|exact of_decide_eq_true za|(have e_:=(Kd.S_reads' HO_5.out).1;omega))
       obtain ⟨ve524_0,rfl,ge524_0⟩:=hMe524
       have hv524_0:=hcc524 0 _ rfl
       rw [Nat.add_zero,show ((Kd.slice 3 (Kd.int .i64))).sz=1 from rfl,Nat.mul_one] at hv524_0
       replace hv524_0:=Option.some.inj (hv524_0.symm.trans hx524_0)
       rw [hv524_0] at ge524_0
       have HL524_0:=Aside0.mk (show Kd.R (Kd.int .i64) 3 _ _ _ _ (rd_L3 t497 x16_2) from ge524_0)
       clear hv524_0 ge524_0
       clear hcc524 hce524
       have HR524_0:=Aside0.mk hi524_0
       have HC524_0:=Aside0.mk hl524_0
       clear hi524_0 hl524_0
       replace p524:=eq_true p524
       replace q524:=eq_true q524
       have ea_:=Option.some.inj (hx522_0.symm.trans hx524_0)
       injection ea_ with ea_ en_ ec_
       subst ea_
       subst ec_
       clear en_
       have p525:0≤(x17_3:Int):=of_decide_eq_true za
       have q525:x17_3<((rd_L3 t497 x16_2).length:Int):=of_decide_eq_true za
       obtain ⟨ad525,e525,hx525_0⟩:=Kd.at_int zz55 x17_3 p525 q525
       cases e525
       replace p525:=eq_true p525
       replace q525:=eq_true q525
       refine start_ (n:=21) (S:=fun w'=>w'.cell? (ad517.add (x16_2).toNat)=some (.slice (some ad523) (rd_L3 t497 x16_2).length c522_0)∧w'.cell? ad523=some (.int .i64 (rd (rd_L3 t497 x16_2) 0))∧w'.cell? (ad517.add (x16_2).toNat)=some (.slice (some ad523) (rd_L3 t497 x16_2).length c522_0)∧w'.cell? (ad523.add (x17_3).toNat)=some (.int .i64 (rd (rd_L3 t497 x16_2) x17_3))) (ds:=[]) #[false,false,false,false,false,false,false,false,false,false,false,false,false,false,false,false,false,false,false,false,false] (by kernel_rfl) rfl rfl ⟨hx522_0,hx523_0,hx524_0,hx525_0⟩ (fun hHeld=>?_);refine with_tabW laws_FnTies.tab21 laws_FnTies.bits21 (fun HT_ HW_=>?_)
       generalize wr.drew=w44 at HO_3 HO_5 HO_13 HO_15 HL521_0 HR521_0 HB HL522_0 HL524_0 HR522_0 HR524_0 hx522_0 hx523_0 hx524_0 hx525_0 hHeld ⊢
       refine pu_ 0 103 ?_
       refine pu_ 1 104 ?_
       refine pu_ 2 105 ?_
       refine pu_ 3 106 ?_
       refine pu_ 4 107 ?_
       refine pu_ 8 111 ?_
       refine pu_ 9 112 ?_
       refine pu_ 10 113 ?_
       refine pu_ 12 115 ?_
       refine tk_ 5 108 hHeld ?_
       refine pu_ 6 109 ?_
       refine tk_ 7 110 hHeld ?_
       refine tk_ 11 114 hHeld ?_
       refine pu_ 13 116 ?_
       refine tk_ 14 117 hHeld ?_
       refine one_ (i:=15) (N:=some 118) #[true,true,true,true,true,true,true,true,true,true,true,true,true,true,true,true,false,false,false,false,false] rfl rfl (one_of HT_.out (by kernel_rfl)) (by decide) (fun K hK=>?_)
       refine goes_ Try.func12 (by kernel_rfl) rfl #[.slice Ao11 t493.length co11,.int .i64 t494,.int .i64 (rd (rd_L3 t497 x16_2) 0),.int .i64 (rd (rd_L3 t497 x16_2) x17_3)] (by rfl) rfl rfl zl ?_
       with_reducible refine (impl_RuleDifference.calls k3 _ _ t493 t494 (rd (rd_L3 t497 x16_2) 0) (rd (rd_L3 t497 x16_2) x17_3) t526 t527 _ ?side1 ?side2 A42.out).mono ?_
       (case side1=>exact zC ((Kd.R_reads' HO_3.out).2.2))
       (case side2=>exact (Kd.R_reads' HO_3.out).2.1)
       rintro e w45 ⟨rfl,hb⟩
       have HS0_:=(hb.cell (World.block_lt_of_cell? _ _ (hHeld.1))).trans (hHeld.1)
       have HS1_:=(hb.cell (World.block_lt_of_cell? _ _ (hHeld.2.1))).trans (hHeld.2.1)
       have HS2_:=(hb.cell (World.block_lt_of_cell? _ _ (hHeld.2.2.1))).trans (hHeld.2.2.1)
       have HS3_:=(hb.cell (World.block_lt_of_cell? _ _ (hHeld.2.2.2))).trans (hHeld.2.2.2)
       refine ⟨_,rfl,?_⟩
       replace HO_3:=zRb HO_3 hb
       replace HO_5:=zSb HO_5 hb
       replace HO_13:=zRb HO_13 hb
       replace HO_15:=zRb HO_15 hb
       replace HL521_0:=zRb HL521_0 hb
       replace HL522_0:=zRb HL522_0 hb
       replace HL524_0:=zRb HL524_0 hb
       replace HR521_0:=Aside0.mk (Kd.C_below (by repeat (first|(with_reducible exact HR521_0.out)|(with_reducible refine Kd.C_alloc ?_ _)|(with_reducible refine Kd.C_drewN ?_ _)|(with_reducible refine Kd.C_drew ?_)|exact HR521_0.out)) hb)
       replace HR522_0:=Aside0.mk (Kd.C_below zz54 hb)
       replace HR524_0:=Aside0.mk (Kd.C_below zz55 hb)
       replace HB:=zb1 hb
       refine hK.out _ _ ⟨HS0_,HS1_,HS2_,HS3_⟩ (fun hHeld=>?_)
       clear hK K
       refine norm_ (a':=?_) ?_ ?_
       rotate_left
       ·show Act.put _ (some 118) _=_
        simp only [Act.put,List.setIfInBounds_toArray,List.set_cons_zero,List.set_cons_succ,i64_w,i32_w]
        rfl
       refine pu_ 16 102 ?_
       refine pu_ 17 119 ?_
       refine pu_ 18 120 ?_
       refine pu_ 19 18 ?_
       refine pu_ 20 19 ?_
       refine done_ (done_of HT_.out (by kernel_rfl)) ?_
       try go_wp2
       go_roundg k3
       case measure=>have:=HJ8.out;have:=HK2.out;have:=HK3.out;omega
       case rel=>exact ⟨(wrap64 (x17_3 + 1)),zo,H',⟨by have:=HJ8.out;have:=HK2.out;have:=HK3.out;omega⟩,⟨zR HO_3.out⟩,⟨zS HO_5.out⟩,⟨zR HO_13.out⟩,⟨zR HO_15.out⟩,⟨zb⟩⟩

/-- THE ONE PURE STATEMENT of laws_FnTies: yours. -/
def laws_FnTies.Pure:Prop:=∀ (l0:List Int),l0.length≤maxLen→l0.length * 1≤140737488351232→(∀ x ∈ l0,(Lit.int .u8 x).wf=true)→∃ k,laws_FnTies.f k l0=some true
theorem laws_FnTies.walk (P:laws_FnTies.Pure) (a0:Option Addr) (len0 cap0:Nat) (z0:List Int) (w:World) (w0:(a0=none∧len0=0∧cap0=0∧z0=[])∨∃ x,a0=some x∧len0≤cap0∧cap0≤maxLen∧z0.length=cap0∧(∀ i,i<z0.length→w.cell? (x.add i)=some (.int .u8 (z0.getD i 0)))∧∀ n ∈ z0,(Lit.int .u8 n).wf=true) (y0:len0 * 1≤140737488351232) :
  Calls Try.prog 3 #[.slice a0 len0 cap0] w fun e w'=>e=.returned (.bool true)∧Below w.heap.size w w':=by
 obtain ⟨l0,rfl,hr0,hm0,hw0,hc0⟩:=ReadsInt.ofRowC w0
 obtain ⟨k,h⟩:=P l0 hm0 y0 hw0
 refine (laws_FnTies.calls k _ _ l0 true w (Kd.C_of_reads (d:=(0:Int)) (h1:=fun _=>rfl) hr0) hc0 h).mono ?_
 rintro e w' ⟨rfl,hd⟩
 exact ⟨rfl,hd⟩

end Go.Proofs.Ytkcfmaiknmfokaa.XFnTies
-- minified
