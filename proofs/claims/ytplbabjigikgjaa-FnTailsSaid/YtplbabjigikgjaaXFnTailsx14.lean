-- Written by a program of this session (the kit's print, widened). Proved here: what each function answers, for the arguments that its contract names.
import Derived.Test.YtplbabjigikgjaaXFnTailsx0
import Derived.Test.YtplbabjigikgjaaXFnTailsx9
import Derived.Test.YtplbabjigikgjaaXFnTailsx10
import Derived.Test.YtplbabjigikgjaaXFnTailsx11
import Derived.Test.YtplbabjigikgjaaXFnTailsx13
namespace Go.Proofs.Ytplbabjigikgjaa.XFnTails
open Go.RowKit Go.Proofs.YtplbabjigikgjaaW.PrintWords Go.Proofs.YtplbabjigikgjaaW.PrintLast Go.Proofs.YtplbabjigikgjaaW.PrintMore
attribute [local go_sem] max2_int min2_int max_two min_two max_three min_three max_four min_four   -- for this text's walks alone
attribute [local go_sem] idxA_45_0 idxA_45_1 fldS_94_0 fldS_94_1 fldS_94_2 fldS_125_0 fldS_125_1 fldS_125_2
set_option linter.unusedVariables false
set_option linter.unusedSimpArgs false

/-! ### spec_l4Good: function 108 -/
def spec_l4Good.l0:Nat→Int→List (List Bool)→Int→Option (Bool)
 | 0,_,_,_=>none
 | k + 1,x0,x5,x6=>if x6<x0 then (if 0≤x6 then (if x6<(x5.length:Int) then (if x6<((rd_L5 x5 x6).length:Int) then (if rdOf false (rd_L5 x5 x6) x6=true then (some false) else (spec_l4Good.l0 k x0 x5 (wrap64 (x6 + 1)))) else (none)) else (none)) else (none)) else (some true)
def spec_l4Good.f (k:Nat) (a0:Int) (l1:List (S45)):Option (Bool):=(spec_l4Pairs.f k a0 l1).bind fun t433=>(if t433=true then ((spec_l4Table.f k a0 l1).bind fun t434=>(spec_l4Good.l0 k a0 t434 0)) else (some false))
theorem spec_l4Good.mono_l:∀ k,(∀ y0 y1 y2,LeO (spec_l4Good.l0 k y0 y1 y2) (spec_l4Good.l0 (k + 1) y0 y1 y2))
 | 0=>fun _ _ _ r h=>by simp [spec_l4Good.l0] at h
 | k + 1=>by
  have ih0:=spec_l4Good.mono_l k
  ·intro y0 y1 y2
   unfold spec_l4Good.l0
   repeat' first
   | (with_reducible exact ih0 _ _ _)
   | (with_reducible exact spec_l4Pairs.mono _ _ _)
   | (with_reducible exact spec_l4Table.mono _ _ _)
   | (with_reducible exact LeO.refl _)
   | (with_reducible exact LeO.none _)
   | (with_reducible refine LeO.ite ?_ ?_)
   | (with_reducible refine LeO.bind ?_ (fun _=>?_))
   | exact ih0 _ _ _
   | exact spec_l4Pairs.mono _ _ _
   | exact spec_l4Table.mono _ _ _
   | exact LeO.none _
   | refine LeO.ite ?_ ?_
   | refine LeO.bind ?_ (fun _=>?_)
theorem spec_l4Good.mono:∀ a0 a1 k,LeO (spec_l4Good.f k a0 a1) (spec_l4Good.f (k + 1) a0 a1):=by
 intro a0 a1 k
 have ih0:=spec_l4Good.mono_l k
 unfold spec_l4Good.f
 repeat' first
   | (with_reducible exact ih0 _ _ _)
   | (with_reducible exact spec_l4Pairs.mono _ _ _)
   | (with_reducible exact spec_l4Table.mono _ _ _)
   | (with_reducible exact LeO.refl _)
   | (with_reducible exact LeO.none _)
   | (with_reducible refine LeO.ite ?_ ?_)
   | (with_reducible refine LeO.bind ?_ (fun _=>?_))
   | exact ih0 _ _ _
   | exact spec_l4Pairs.mono _ _ _
   | exact spec_l4Table.mono _ _ _
   | exact LeO.none _
   | refine LeO.ite ?_ ?_
   | refine LeO.bind ?_ (fun _=>?_)
set_option maxHeartbeats 8000000 in
set_option maxRecDepth 100000 in
theorem spec_l4Good.calls (k:Nat) (a0:Int) (A1:Option Addr) (c1:Nat) (l1:List (S45)) (r:Bool) (w:World) (hr1:Kd.C k45 w A1 l1.length l1) (hc1:l1.length≤c1) (h:spec_l4Good.f k a0 l1=some r) :
  Calls Try.prog 108 #[.int .i64 a0,.slice A1 l1.length c1] w fun e w'=>e=.returned (.bool r)∧Below w.heap.size w w':=by
 have HR1:=Aside0.mk hr1
 have HC1:=Aside0.mk hc1
 clear hr1 hc1
 have HB:=Aside0.mk (Below.refl w.heap.size w)
 have H:((spec_l4Pairs.f k a0 l1).bind fun t433=>(if t433=true then ((spec_l4Table.f k a0 l1).bind fun t434=>(spec_l4Good.l0 k a0 t434 0)) else (some false)))=some r:=h
 clear h
 replace H:=Option.bind_eq_some_iff.mp H
 obtain ⟨t433,A30,H⟩:=H
 try dsimp only at H
 have A3:=Aside0.mk A30
 clear A30
 by_cases c4:t433=true
 ·subst c4
  rw [if_pos rfl] at H
  replace H:=Option.bind_eq_some_iff.mp H
  obtain ⟨t434,A50,H⟩:=H
  try dsimp only at H
  have A5:=Aside0.mk A50
  clear A50
  have H':=Aside0.mk H
  clear H
  go_enter Try.func108,Try.ntmps108
  go_wp2_with (first|((with_reducible refine gate_callee (f:=149) rfl ?_);refine goesL_ (some 9) rfl rfl Try.func149 (by kernel_rfl) rfl #[.int .i64 a0,.slice A1 l1.length c1] rfl zl ?_;(with_reducible refine (spec_l4Pairs.calls k a0 _ _ l1 true _ ?side1 ?side2 A3.out).mono ?_);(case side1=>exact zC HR1.out);(case side2=>exact HC1.out);rintro e w6 ⟨rfl,hb⟩;refine ⟨_,rfl,?_⟩;replace HB:=Aside0.mk (below_step zb hb);(try clear hb))|((with_reducible refine gate_callee (f:=73) rfl ?_);refine goesL_ (some 13) rfl rfl Try.func73 (by kernel_rfl) rfl #[.int .i64 a0,.slice A1 l1.length c1] rfl zl ?_;(with_reducible refine (spec_l4Table.calls k a0 _ _ l1 t434 _ ?side1 ?side2 A5.out).mono ?_);(case side1=>exact zC (Kd.C_below HR1.out HB.out));(case side2=>exact HC1.out);rintro e w7 ⟨v435,rfl,ho0,hb⟩;refine ⟨_,rfl,?_⟩;have HO436:=Aside0.mk (Kd.S_lower ho0 (below_size zb));replace HB:=Aside0.mk (below_step zb hb);(try clear hb);(try clear ho0)))
  go_loopg [6] k (fun kq v6 w'=>∃ (x6_1:Int),v6=.int .i64 x6_1∧Aside0 (spec_l4Good.l0 kq a0 t434 x6_1=some r)∧Aside0 (kq≤k)∧Aside0 (Kd.S (Kd.slice 4 Kd.bool) 101 w' w.heap.size (fun _=>True) v435 t434)∧Aside0 (Below w.heap.size w w'))
  case atStart=>exact ⟨(0),zo,H',⟨Nat.le_refl _⟩,⟨zS HO436.out⟩,⟨zb⟩⟩
  case round=>
   clear H'
   (try clear c1);(try clear p2);(try clear c4);(try clear c7)
   obtain ⟨x6_1,rfl,HA,HK1,HO_5,HB⟩:=hrel
   cases gk with
   | zero=>exact absurd HA.out (by simp [spec_l4Good.l0])
   | succ k1=>
    have H:=HA.out
    clear HA
    simp only [spec_l4Good.l0] at H
    by_cases c8:x6_1<a0
    ·rw [if_pos c8] at H
     have c8b0:decide (x6_1<a0)=true:=decide_eq_true c8
     clear c8
     by_cases c9:0≤x6_1
     ·rw [if_pos c9] at H
      have c9b0:decide (0≤x6_1)=true:=decide_eq_true c9
      clear c9
      by_cases c10:x6_1<(t434.length:Int)
      ·rw [if_pos c10] at H
       have c10b0:decide (x6_1<(t434.length:Int))=true:=decide_eq_true c10
       clear c10
       by_cases c11:x6_1<((rd_L5 t434 x6_1).length:Int)
       ·rw [if_pos c11] at H
        have c11b0:decide (x6_1<((rd_L5 t434 x6_1).length:Int))=true:=decide_eq_true c11
        clear c11
        obtain ⟨bq12,hbq12⟩:∃ b_:Bool,b_=(rdOf false (rd_L5 t434 x6_1) x6_1):=⟨_,rfl⟩
        replace H:(if bq12=true then (some false) else (spec_l4Good.l0 k1 a0 t434 (wrap64 (x6_1 + 1))))=some r:=by rw [←hbq12] at H;exact H
        have Nbq12:=Aside0.mk hbq12
        clear hbq12
        by_cases c13:bq12=true
        ·subst c13
         rw [if_pos rfl] at H
         obtain rfl:=Option.some.inj H
         obtain ⟨Ao14,co14,eo14⟩:=Kd.S_slice HO_5.out
         subst eo14
         have p437:0≤(x6_1:Int):=of_decide_eq_true za
         have q437:x6_1<(t434.length:Int):=of_decide_eq_true za
         obtain ⟨ad437,A437_0,c437_0,e437,hx437_0,hl437_0,hi437_0⟩:=at_L5 (Kd.S_reads' HO_5.out).2.2 x6_1 p437 q437
         cases e437
         obtain ⟨ce437,hce437,hMe437,hcc437⟩:=Kd.S_get HO_5.out [] x6_1 p437 (by first|exact q437|exact of_decide_eq_true za|(have e_:=(Kd.S_reads' HO_5.out).1;omega))
         obtain ⟨ve437_0,rfl,ge437_0⟩:=hMe437
         have hv437_0:=hcc437 0 _ rfl
         rw [Nat.add_zero,show ((Kd.slice 4 Kd.bool)).sz=1 from rfl,Nat.mul_one] at hv437_0
         replace hv437_0:=Option.some.inj (hv437_0.symm.trans hx437_0)
         rw [hv437_0] at ge437_0
         have HL437_0:=Aside0.mk (show Kd.R Kd.bool 4 _ _ _ _ (rd_L5 t434 x6_1) from ge437_0)
         clear hv437_0 ge437_0
         clear hcc437 hce437
         have HR437_0:=Aside0.mk hi437_0
         have HC437_0:=Aside0.mk hl437_0
         clear hi437_0 hl437_0
         replace p437:=eq_true p437
         replace q437:=eq_true q437
         have p438:0≤(x6_1:Int):=of_decide_eq_true za
         have q438:x6_1<((rd_L5 t434 x6_1).length:Int):=of_decide_eq_true za
         obtain ⟨ad438,e438,hx438_0⟩:=Kd.at_bool (by repeat (first|(with_reducible exact HR437_0.out)|(with_reducible refine Kd.C_alloc ?_ _)|(with_reducible refine Kd.C_drewN ?_ _)|(with_reducible refine Kd.C_drew ?_)|exact HR437_0.out)) x6_1 p438 q438
         (try rw [←Nbq12.out] at hx438_0)
         cases e438
         replace p438:=eq_true p438
         replace q438:=eq_true q438
         go_wp2
         go_ret
         exact ⟨by first|rfl|(simp [errW_none,errW_some] <;> rfl)|(simp [*,errW_none,errW_some] <;> rfl),zb⟩
        ·replace c13:=Bool.eq_false_iff.mpr c13
         subst c13
         rw [if_neg (show ¬ (false=true) by decide)] at H
         have H':=Aside0.mk H
         clear H
         obtain ⟨Ao15,co15,eo15⟩:=Kd.S_slice HO_5.out
         subst eo15
         have p437:0≤(x6_1:Int):=of_decide_eq_true za
         have q437:x6_1<(t434.length:Int):=of_decide_eq_true za
         obtain ⟨ad437,A437_0,c437_0,e437,hx437_0,hl437_0,hi437_0⟩:=at_L5 (Kd.S_reads' HO_5.out).2.2 x6_1 p437 q437
         cases e437
         obtain ⟨ce437,hce437,hMe437,hcc437⟩:=Kd.S_get HO_5.out [] x6_1 p437 (by first|exact q437|exact of_decide_eq_true za|(have e_:=(Kd.S_reads' HO_5.out).1;omega))
         obtain ⟨ve437_0,rfl,ge437_0⟩:=hMe437
         have hv437_0:=hcc437 0 _ rfl
         rw [Nat.add_zero,show ((Kd.slice 4 Kd.bool)).sz=1 from rfl,Nat.mul_one] at hv437_0
         replace hv437_0:=Option.some.inj (hv437_0.symm.trans hx437_0)
         rw [hv437_0] at ge437_0
         have HL437_0:=Aside0.mk (show Kd.R Kd.bool 4 _ _ _ _ (rd_L5 t434 x6_1) from ge437_0)
         clear hv437_0 ge437_0
         clear hcc437 hce437
         have HR437_0:=Aside0.mk hi437_0
         have HC437_0:=Aside0.mk hl437_0
         clear hi437_0 hl437_0
         replace p437:=eq_true p437
         replace q437:=eq_true q437
         have p438:0≤(x6_1:Int):=of_decide_eq_true za
         have q438:x6_1<((rd_L5 t434 x6_1).length:Int):=of_decide_eq_true za
         obtain ⟨ad438,e438,hx438_0⟩:=Kd.at_bool (by repeat (first|(with_reducible exact HR437_0.out)|(with_reducible refine Kd.C_alloc ?_ _)|(with_reducible refine Kd.C_drewN ?_ _)|(with_reducible refine Kd.C_drew ?_)|exact HR437_0.out)) x6_1 p438 q438
         (try rw [←Nbq12.out] at hx438_0)
         cases e438
         replace p438:=eq_true p438
         replace q438:=eq_true q438
         go_wp2
         go_roundg k1
         case measure=>have:=HK1.out;omega
         case rel=>exact ⟨(wrap64 (x6_1 + 1)),zo,H',⟨by have:=HK1.out;omega⟩,⟨zS HO_5.out⟩,⟨zb⟩⟩
       ·rw [if_neg c11] at H
        exact absurd H (by simp)
      ·rw [if_neg c10] at H
       exact absurd H (by simp)
     ·rw [if_neg c9] at H
      exact absurd H (by simp)
    ·rw [if_neg c8] at H
     have c8b0:decide (x6_1<a0)=false:=decide_eq_false c8
     clear c8
     obtain rfl:=Option.some.inj H
     go_wp2
     go_ret
     exact ⟨by first|rfl|(simp [errW_none,errW_some] <;> rfl)|(simp [*,errW_none,errW_some] <;> rfl),zb⟩
 ·replace c4:=Bool.eq_false_iff.mpr c4
  subst c4
  rw [if_neg (show ¬ (false=true) by decide)] at H
  obtain rfl:=Option.some.inj H
  go_enter Try.func108,Try.ntmps108
  go_wp2_with (first|((with_reducible refine gate_callee (f:=149) rfl ?_);refine goesL_ (some 9) rfl rfl Try.func149 (by kernel_rfl) rfl #[.int .i64 a0,.slice A1 l1.length c1] rfl zl ?_;(with_reducible refine (spec_l4Pairs.calls k a0 _ _ l1 false _ ?side1 ?side2 A3.out).mono ?_);(case side1=>exact zC HR1.out);(case side2=>exact HC1.out);rintro e w16 ⟨rfl,hb⟩;refine ⟨_,rfl,?_⟩;replace HB:=Aside0.mk (below_step zb hb);(try clear hb)))
  go_ret
  exact ⟨by first|rfl|(simp [errW_none,errW_some] <;> rfl)|(simp [*,errW_none,errW_some] <;> rfl),zb⟩

/-! ### spec_l7Good: function 55 -/
def spec_l7Good.f (k:Nat) (l0:List (S47)) (a1:Int) (l2:List (S45)):Option (Bool):=(spec_l2Good.f k l0).bind fun t439=>(if t439=true then ((spec_l3Plain.f k l0).bind fun t440=>(if t440=true then ((spec_l1In.f a1 1 4).bind fun t441=>(if t441=true then ((spec_l4Good.f k (l0.length:Int) l2).bind fun t442=>(some t442)) else (some false))) else (some false))) else (some false))
theorem spec_l7Good.mono:∀ a0 a1 a2 k,LeO (spec_l7Good.f k a0 a1 a2) (spec_l7Good.f (k + 1) a0 a1 a2):=by
 intro a0 a1 a2 k
 unfold spec_l7Good.f
 repeat' first
   | (with_reducible exact spec_l2Good.mono _ _)
   | (with_reducible exact spec_l3Plain.mono _ _)
   | (with_reducible exact spec_l4Good.mono _ _ _)
   | (with_reducible exact LeO.refl _)
   | (with_reducible exact LeO.none _)
   | (with_reducible refine LeO.ite ?_ ?_)
   | (with_reducible refine LeO.bind ?_ (fun _=>?_))
   | exact spec_l2Good.mono _ _
   | exact spec_l3Plain.mono _ _
   | exact spec_l4Good.mono _ _ _
   | exact LeO.none _
   | refine LeO.ite ?_ ?_
   | refine LeO.bind ?_ (fun _=>?_)
set_option maxHeartbeats 8000000 in
set_option maxRecDepth 100000 in
theorem spec_l7Good.calls (k:Nat) (A0:Option Addr) (c0:Nat) (l0:List (S47)) (a1:Int) (A2:Option Addr) (c2:Nat) (l2:List (S45)) (r:Bool) (w:World) (hr0:Kd.C k47 w A0 l0.length l0) (hc0:l0.length≤c0) (hr2:Kd.C k45 w A2 l2.length l2) (hc2:l2.length≤c2) (h:spec_l7Good.f k l0 a1 l2=some r) :
  Calls Try.prog 55 #[.slice A0 l0.length c0,.int .i64 a1,.slice A2 l2.length c2] w fun e w'=>e=.returned (.bool r)∧Below w.heap.size w w':=by
 have HR0:=Aside0.mk hr0
 have HC0:=Aside0.mk hc0
 clear hr0 hc0
 have HR2:=Aside0.mk hr2
 have HC2:=Aside0.mk hc2
 clear hr2 hc2
 have HB:=Aside0.mk (Below.refl w.heap.size w)
 have H:((spec_l2Good.f k l0).bind fun t439=>(if t439=true then ((spec_l3Plain.f k l0).bind fun t440=>(if t440=true then ((spec_l1In.f a1 1 4).bind fun t441=>(if t441=true then ((spec_l4Good.f k (l0.length:Int) l2).bind fun t442=>(some t442)) else (some false))) else (some false))) else (some false)))=some r:=h
 clear h
 replace H:=Option.bind_eq_some_iff.mp H
 obtain ⟨t439,A40,H⟩:=H
 try dsimp only at H
 have A4:=Aside0.mk A40
 clear A40
 by_cases c5:t439=true
 ·subst c5
  rw [if_pos rfl] at H
  replace H:=Option.bind_eq_some_iff.mp H
  obtain ⟨t440,A60,H⟩:=H
  try dsimp only at H
  have A6:=Aside0.mk A60
  clear A60
  by_cases c7:t440=true
  ·subst c7
   rw [if_pos rfl] at H
   replace H:=Option.bind_eq_some_iff.mp H
   obtain ⟨t441,A80,H⟩:=H
   try dsimp only at H
   have A8:=Aside0.mk A80
   clear A80
   by_cases c9:t441=true
   ·subst c9
    rw [if_pos rfl] at H
    replace H:=Option.bind_eq_some_iff.mp H
    obtain ⟨t442,A100,H⟩:=H
    try dsimp only at H
    have A10:=Aside0.mk A100
    clear A100
    obtain rfl:=Option.some.inj H
    go_enter Try.func55,Try.ntmps55
    go_wp2_with (first|((with_reducible refine gate_callee (f:=77) rfl ?_);refine goesL_ (some 8) rfl rfl Try.func77 (by kernel_rfl) rfl #[.slice A0 l0.length c0] rfl zl ?_;(with_reducible refine (spec_l2Good.calls k _ _ l0 true _ ?side1 ?side2 A4.out).mono ?_);(case side1=>exact zC HR0.out);(case side2=>exact HC0.out);rintro e w11 ⟨rfl,hb⟩;refine ⟨_,rfl,?_⟩;replace HB:=Aside0.mk (below_step zb hb);(try clear hb))|(go_at_call 106;(with_reducible refine (spec_l3Plain.calls k _ _ l0 true _ ?side1 ?side2 A6.out).mono ?_);(case side1=>exact zC (Kd.C_below HR0.out HB.out));(case side2=>exact HC0.out);rintro e w' ⟨rfl,⟨nd,rfl⟩⟩)|(go_at_call 107;(with_reducible refine (spec_l1In.calls a1 1 4 true _ A8.out).mono ?_);rintro e w' ⟨rfl,⟨nd,rfl⟩⟩)|(go_at_call 108;(with_reducible refine (spec_l4Good.calls k (l0.length:Int) _ _ l2 t442 _ ?side1 ?side2 A10.out).mono ?_);(case side1=>exact zC (Kd.C_below HR2.out zb));(case side2=>exact HC2.out);rintro e w12 ⟨rfl,hb⟩;replace HB:=Aside0.mk (below_step zb hb);(try clear hb)))
    go_ret
    exact ⟨by first|rfl|(simp [errW_none,errW_some] <;> rfl)|(simp [*,errW_none,errW_some] <;> rfl),zb⟩
   ·replace c9:=Bool.eq_false_iff.mpr c9
    subst c9
    rw [if_neg (show ¬ (false=true) by decide)] at H
    obtain rfl:=Option.some.inj H
    go_enter Try.func55,Try.ntmps55
    go_wp2_with (first|((with_reducible refine gate_callee (f:=77) rfl ?_);refine goesL_ (some 8) rfl rfl Try.func77 (by kernel_rfl) rfl #[.slice A0 l0.length c0] rfl zl ?_;(with_reducible refine (spec_l2Good.calls k _ _ l0 true _ ?side1 ?side2 A4.out).mono ?_);(case side1=>exact zC HR0.out);(case side2=>exact HC0.out);rintro e w13 ⟨rfl,hb⟩;refine ⟨_,rfl,?_⟩;replace HB:=Aside0.mk (below_step zb hb);(try clear hb))|(go_at_call 106;(with_reducible refine (spec_l3Plain.calls k _ _ l0 true _ ?side1 ?side2 A6.out).mono ?_);(case side1=>exact zC (Kd.C_below HR0.out HB.out));(case side2=>exact HC0.out);rintro e w' ⟨rfl,⟨nd,rfl⟩⟩)|(go_at_call 107;(with_reducible refine (spec_l1In.calls a1 1 4 false _ A8.out).mono ?_);rintro e w' ⟨rfl,⟨nd,rfl⟩⟩))
    go_ret
    exact ⟨by first|rfl|(simp [errW_none,errW_some] <;> rfl)|(simp [*,errW_none,errW_some] <;> rfl),zb⟩
  ·replace c7:=Bool.eq_false_iff.mpr c7
   subst c7
   rw [if_neg (show ¬ (false=true) by decide)] at H
   obtain rfl:=Option.some.inj H
   go_enter Try.func55,Try.ntmps55
   go_wp2_with (first|((with_reducible refine gate_callee (f:=77) rfl ?_);refine goesL_ (some 8) rfl rfl Try.func77 (by kernel_rfl) rfl #[.slice A0 l0.length c0] rfl zl ?_;(with_reducible refine (spec_l2Good.calls k _ _ l0 true _ ?side1 ?side2 A4.out).mono ?_);(case side1=>exact zC HR0.out);(case side2=>exact HC0.out);rintro e w14 ⟨rfl,hb⟩;refine ⟨_,rfl,?_⟩;replace HB:=Aside0.mk (below_step zb hb);(try clear hb))|(go_at_call 106;(with_reducible refine (spec_l3Plain.calls k _ _ l0 false _ ?side1 ?side2 A6.out).mono ?_);(case side1=>exact zC (Kd.C_below HR0.out HB.out));(case side2=>exact HC0.out);rintro e w' ⟨rfl,⟨nd,rfl⟩⟩))
   go_ret
   exact ⟨by first|rfl|(simp [errW_none,errW_some] <;> rfl)|(simp [*,errW_none,errW_some] <;> rfl),zb⟩
 ·replace c5:=Bool.eq_false_iff.mpr c5
  subst c5
  rw [if_neg (show ¬ (false=true) by decide)] at H
  obtain rfl:=Option.some.inj H
  go_enter Try.func55,Try.ntmps55
  go_wp2_with (first|((with_reducible refine gate_callee (f:=77) rfl ?_);refine goesL_ (some 8) rfl rfl Try.func77 (by kernel_rfl) rfl #[.slice A0 l0.length c0] rfl zl ?_;(with_reducible refine (spec_l2Good.calls k _ _ l0 false _ ?side1 ?side2 A4.out).mono ?_);(case side1=>exact zC HR0.out);(case side2=>exact HC0.out);rintro e w15 ⟨rfl,hb⟩;refine ⟨_,rfl,?_⟩;replace HB:=Aside0.mk (below_step zb hb);(try clear hb)))
  go_ret
  exact ⟨by first|rfl|(simp [errW_none,errW_some] <;> rfl)|(simp [*,errW_none,errW_some] <;> rfl),zb⟩

/-! ### spec_l1Most: function 120 -/
def spec_l1Most.f (a0:Int) (a1:Int):Option (Int):=if a0>a1 then (some a0) else (some a1)
set_option maxHeartbeats 8000000 in
set_option maxRecDepth 100000 in
theorem spec_l1Most.calls (a0:Int) (a1:Int) (r:Int) (w:World) (h:spec_l1Most.f a0 a1=some r) :
  Calls Try.prog 120 #[.int .i64 a0,.int .i64 a1] w fun e w'=>e=.returned (.int .i64 r)∧Drawn0 w w':=by
 have H:(if a0>a1 then (some a0) else (some a1))=some r:=h
 clear h
 by_cases c3:a0>a1
 ·rw [if_pos c3] at H
  have c3b0:decide (a1<a0)=true:=decide_eq_true c3
  clear c3
  obtain rfl:=Option.some.inj H
  go_enter Try.func120,Try.ntmps120
  go_wp2
  go_ret
  exact ⟨by first|rfl|(simp;done)|(simp [*];done),by repeat (first|exact Drawn0.refl _|apply Drawn0.step)⟩
 ·rw [if_neg c3] at H
  have c3b0:decide (a1<a0)=false:=decide_eq_false c3
  clear c3
  obtain rfl:=Option.some.inj H
  go_enter Try.func120,Try.ntmps120
  go_wp2
  go_ret
  exact ⟨by first|rfl|(simp;done)|(simp [*];done),by repeat (first|exact Drawn0.refl _|apply Drawn0.step)⟩

/-! ### spec_l7Tail: function 119 -/
mutual
def spec_l7Tail.l0:Nat→List (S47)→List (List Bool)→Int→Int→Int→Option (Int)
 | 0,_,_,_,_,_=>none
 | k + 1,x0,x1,x2,x7,x8=>if x8<(x0.length:Int) then (if 0≤x2 then (if x2<(x1.length:Int) then (if 0≤x8 then (if x8<((rd_L5 x1 x2).length:Int) then (if rdOf false (rd_L5 x1 x2) x8=true then ((spec_l7Tail.f k x0 x1 x8).bind fun t446=>((spec_l1Most.f x7 t446).bind fun t447=>(spec_l7Tail.l0 k x0 x1 x2 t447 (wrap64 (x8 + 1))))) else (spec_l7Tail.l0 k x0 x1 x2 x7 (wrap64 (x8 + 1)))) else (none)) else (none)) else (none)) else (none)) else (if 0≤x2 then (if x2<(x0.length:Int) then (some (wrap64 (((rd_T47 x0 x2).f0) + x7))) else (none)) else (none))
def spec_l7Tail.f:Nat→List (S47)→List (List Bool)→Int→Option (Int)
 | 0,_,_,_=>none
 | k + 1,l0,l1,a2=>spec_l7Tail.l0 k l0 l1 a2 0 0
end
theorem spec_l7Tail.mono_l:∀ k,(∀ y0 y1 y2,LeO (spec_l7Tail.f k y0 y1 y2) (spec_l7Tail.f (k + 1) y0 y1 y2))∧(∀ y0 y1 y2 y3 y4,LeO (spec_l7Tail.l0 k y0 y1 y2 y3 y4) (spec_l7Tail.l0 (k + 1) y0 y1 y2 y3 y4))
 | 0=>⟨fun _ _ _ r h=>by simp [spec_l7Tail.f] at h,fun _ _ _ _ _ r h=>by simp [spec_l7Tail.l0] at h⟩
 | k + 1=>by
  obtain ⟨ih0,ih1⟩:=spec_l7Tail.mono_l k
  refine ⟨?_,?_⟩
  ·intro y0 y1 y2
   unfold spec_l7Tail.f
   repeat' first
   | (with_reducible exact ih0 _ _ _)
   | (with_reducible exact ih1 _ _ _ _ _)
   | (with_reducible exact LeO.refl _)
   | (with_reducible exact LeO.none _)
   | (with_reducible refine LeO.ite ?_ ?_)
   | (with_reducible refine LeO.bind ?_ (fun _=>?_))
   | exact ih0 _ _ _
   | exact ih1 _ _ _ _ _
   | exact LeO.none _
   | refine LeO.ite ?_ ?_
   | refine LeO.bind ?_ (fun _=>?_)
  ·intro y0 y1 y2 y3 y4
   unfold spec_l7Tail.l0
   repeat' first
   | (with_reducible exact ih0 _ _ _)
   | (with_reducible exact ih1 _ _ _ _ _)
   | (with_reducible exact LeO.refl _)
   | (with_reducible exact LeO.none _)
   | (with_reducible refine LeO.ite ?_ ?_)
   | (with_reducible refine LeO.bind ?_ (fun _=>?_))
   | exact ih0 _ _ _
   | exact ih1 _ _ _ _ _
   | exact LeO.none _
   | refine LeO.ite ?_ ?_
   | refine LeO.bind ?_ (fun _=>?_)
theorem spec_l7Tail.mono:∀ a0 a1 a2 k,LeO (spec_l7Tail.f k a0 a1 a2) (spec_l7Tail.f (k + 1) a0 a1 a2):=by
 intro a0 a1 a2 k
 obtain ⟨ih0,ih1⟩:=spec_l7Tail.mono_l k
 exact ih0 a0 a1 a2
set_option maxHeartbeats 8000000 in
set_option maxRecDepth 100000 in
theorem spec_l7Tail.calls (k:Nat):∀ (A0:Option Addr) (c0:Nat) (l0:List (S47)) (A1:Option Addr) (c1:Nat) (l1:List (List Bool)) (a2:Int) (r:Int) (w:World) (hr0:Kd.C k47 w A0 l0.length l0) (hc0:l0.length≤c0) (hr1:Kd.C (Kd.slice 4 Kd.bool) w A1 l1.length l1) (hc1:l1.length≤c1) (h:spec_l7Tail.f k l0 l1 a2=some r),
  Calls Try.prog 119 #[.slice A0 l0.length c0,.slice A1 l1.length c1,.int .i64 a2] w fun e w'=>e=.returned (.int .i64 r)∧Drawn0 w w':=by
 induction k using Nat.strongRecOn with
 | _ k ih=>
 intro A0 c0 l0 A1 c1 l1 a2 r w hr0 hc0 hr1 hc1 h
 cases k with
 | zero=>exact absurd h (by simp [spec_l7Tail.f])
 | succ k=>
 simp only [spec_l7Tail.f] at h
 have HR0:=Aside0.mk hr0
 have HC0:=Aside0.mk hc0
 clear hr0 hc0
 have HR1:=Aside0.mk hr1
 have HC1:=Aside0.mk hc1
 clear hr1 hc1
 have H:(spec_l7Tail.l0 k l0 l1 a2 0 0)=some r:=h
 clear h
 have H':=Aside0.mk H
 clear H
 go_enter Try.func119,Try.ntmps119
 go_wp2
 go_loopg [7,8] k (fun kq v7 v8 w'=>∃ (x7_1:Int) (x8_1:Int),v7=.int .i64 x7_1∧v8=.int .i64 x8_1∧Aside0 (spec_l7Tail.l0 kq l0 l1 a2 x7_1 x8_1=some r)∧Aside0 (kq≤k)∧Drawn0 w w')
 case atStart=>exact ⟨(0),(0),zo,zo,H',⟨Nat.le_refl _⟩,by repeat (first|exact Drawn0.refl _|apply Drawn0.step)⟩
 case round=>
  clear H'
  (try clear c1);(try clear p2)
  obtain ⟨x7_1,x8_1,rfl,rfl,HA,HK1,⟨m1,rfl⟩⟩:=hrel
  cases gk with
  | zero=>exact absurd HA.out (by simp [spec_l7Tail.l0])
  | succ k1=>
   have H:=HA.out
   clear HA
   simp only [spec_l7Tail.l0] at H
   by_cases c4:x8_1<(l0.length:Int)
   ·rw [if_pos c4] at H
    have c4b0:decide (x8_1<(l0.length:Int))=true:=decide_eq_true c4
    clear c4
    by_cases c5:0≤a2
    ·rw [if_pos c5] at H
     have c5b0:decide (0≤a2)=true:=decide_eq_true c5
     clear c5
     by_cases c6:a2<(l1.length:Int)
     ·rw [if_pos c6] at H
      have c6b0:decide (a2<(l1.length:Int))=true:=decide_eq_true c6
      clear c6
      by_cases c7:0≤x8_1
      ·rw [if_pos c7] at H
       have c7b0:decide (0≤x8_1)=true:=decide_eq_true c7
       clear c7
       by_cases c8:x8_1<((rd_L5 l1 a2).length:Int)
       ·rw [if_pos c8] at H
        have c8b0:decide (x8_1<((rd_L5 l1 a2).length:Int))=true:=decide_eq_true c8
        clear c8
        obtain ⟨bq9,hbq9⟩:∃ b_:Bool,b_=(rdOf false (rd_L5 l1 a2) x8_1):=⟨_,rfl⟩
        replace H:(if bq9=true then ((spec_l7Tail.f k1 l0 l1 x8_1).bind fun t446=>((spec_l1Most.f x7_1 t446).bind fun t447=>(spec_l7Tail.l0 k1 l0 l1 a2 t447 (wrap64 (x8_1 + 1))))) else (spec_l7Tail.l0 k1 l0 l1 a2 x7_1 (wrap64 (x8_1 + 1))))=some r:=by rw [←hbq9] at H;exact H
        have Nbq9:=Aside0.mk hbq9
        clear hbq9
        by_cases c10:bq9=true
        ·subst c10
         rw [if_pos rfl] at H
         replace H:=Option.bind_eq_some_iff.mp H
         obtain ⟨t446,A110,H⟩:=H
         try dsimp only at H
         have A11:=Aside0.mk A110
         clear A110
         replace H:=Option.bind_eq_some_iff.mp H
         obtain ⟨t447,A120,H⟩:=H
         try dsimp only at H
         have A12:=Aside0.mk A120
         clear A120
         have H':=Aside0.mk H
         clear H
         have p444:0≤(a2:Int):=of_decide_eq_true za
         have q444:a2<(l1.length:Int):=of_decide_eq_true za
         obtain ⟨ad444,A444_0,c444_0,e444,hx444_0,hl444_0,hi444_0⟩:=at_L5 HR1.out a2 p444 q444
         cases e444
         have HR444_0:=Aside0.mk hi444_0
         have HC444_0:=Aside0.mk hl444_0
         clear hi444_0 hl444_0
         replace p444:=eq_true p444
         replace q444:=eq_true q444
         have p445:0≤(x8_1:Int):=of_decide_eq_true za
         have q445:x8_1<((rd_L5 l1 a2).length:Int):=of_decide_eq_true za
         obtain ⟨ad445,e445,hx445_0⟩:=Kd.at_bool HR444_0.out x8_1 p445 q445
         (try rw [←Nbq9.out] at hx445_0)
         cases e445
         replace p445:=eq_true p445
         replace q445:=eq_true q445
         go_wp2_with (first|((with_reducible refine gate_callee (f:=119) rfl ?_);refine goesL_ (some 26) rfl rfl Try.func119 (by kernel_rfl) rfl #[.slice A0 l0.length c0,.slice (some ad444) l1.length c1,.int .i64 x8_1] rfl zl ?_;(with_reducible refine (ih k1 (by have:=HK1.out;omega) _ _ l0 _ _ l1 x8_1 t446 _ ?side1 ?side2 ?side3 ?side4 A11.out).mono ?_);(case side1=>exact zC HR0.out);(case side2=>exact HC0.out);(case side3=>exact zC HR1.out);(case side4=>exact HC1.out);rintro e w' ⟨rfl,⟨nd,rfl⟩⟩;refine ⟨_,rfl,?_⟩)|((with_reducible refine gate_callee (f:=120) rfl ?_);refine goesL_ (some 27) rfl rfl Try.func120 (by kernel_rfl) rfl #[.int .i64 x7_1,.int .i64 t446] rfl zl ?_;(with_reducible refine (spec_l1Most.calls x7_1 t446 t447 _ A12.out).mono ?_);rintro e w' ⟨rfl,⟨nd,rfl⟩⟩;refine ⟨_,rfl,?_⟩))
         go_roundg k1
         case measure=>have:=HK1.out;omega
         case rel=>exact ⟨(t447),(wrap64 (x8_1 + 1)),zo,zo,H',⟨by have:=HK1.out;omega⟩,by repeat (first|exact Drawn0.refl _|apply Drawn0.step)⟩
        ·replace c10:=Bool.eq_false_iff.mpr c10
         subst c10
         rw [if_neg (show ¬ (false=true) by decide)] at H
         have H':=Aside0.mk H
         clear H
         have p444:0≤(a2:Int):=of_decide_eq_true za
         have q444:a2<(l1.length:Int):=of_decide_eq_true za
         obtain ⟨ad444,A444_0,c444_0,e444,hx444_0,hl444_0,hi444_0⟩:=at_L5 HR1.out a2 p444 q444
         cases e444
         have HR444_0:=Aside0.mk hi444_0
         have HC444_0:=Aside0.mk hl444_0
         clear hi444_0 hl444_0
         replace p444:=eq_true p444
         replace q444:=eq_true q444
         have p445:0≤(x8_1:Int):=of_decide_eq_true za
         have q445:x8_1<((rd_L5 l1 a2).length:Int):=of_decide_eq_true za
         obtain ⟨ad445,e445,hx445_0⟩:=Kd.at_bool HR444_0.out x8_1 p445 q445
         (try rw [←Nbq9.out] at hx445_0)
         cases e445
         replace p445:=eq_true p445
         replace q445:=eq_true q445
         go_wp2
         go_roundg k1
         case measure=>have:=HK1.out;omega
         case rel=>exact ⟨(x7_1),(wrap64 (x8_1 + 1)),zo,zo,H',⟨by have:=HK1.out;omega⟩,by repeat (first|exact Drawn0.refl _|apply Drawn0.step)⟩
       ·rw [if_neg c8] at H
        exact absurd H (by simp)
      ·rw [if_neg c7] at H
       exact absurd H (by simp)
     ·rw [if_neg c6] at H
      exact absurd H (by simp)
    ·rw [if_neg c5] at H
     exact absurd H (by simp)
   ·rw [if_neg c4] at H
    have c4b0:decide (x8_1<(l0.length:Int))=false:=decide_eq_false c4
    clear c4
    by_cases c13:0≤a2
    ·rw [if_pos c13] at H
     have c13b0:decide (0≤a2)=true:=decide_eq_true c13
     clear c13
     by_cases c14:a2<(l0.length:Int)
     ·rw [if_pos c14] at H
      have c14b0:decide (a2<(l0.length:Int))=true:=decide_eq_true c14
      clear c14
      obtain rfl:=Option.some.inj H
      have p443:0≤(a2:Int):=of_decide_eq_true za
      have q443:a2<(l0.length:Int):=of_decide_eq_true za
      obtain ⟨ad443,e443,hx443_0,hx443_1,hx443_2,hx443_3⟩:=at_T47 HR0.out a2 p443 q443
      cases e443
      replace p443:=eq_true p443
      replace q443:=eq_true q443
      go_wp2
      go_ret
      exact ⟨by first|rfl|(simp;done)|(simp [*];done),by repeat (first|exact Drawn0.refl _|apply Drawn0.step)⟩
     ·rw [if_neg c14] at H
      exact absurd H (by simp)
    ·rw [if_neg c13] at H
     exact absurd H (by simp)

/-! ### spec_l7Tails: function 70 -/
def spec_l7Tails.l0:Nat→List (S47)→List Int→List (List Bool)→Int→Option (List Int)
 | 0,_,_,_,_=>none
 | k + 1,x0,x5,x6,x7=>if x7<(x0.length:Int) then ((spec_l7Tail.f k x0 x6 x7).bind fun t454=>(if x5.length<17592186044416 then (spec_l7Tails.l0 k x0 (x5++[t454]) x6 (wrap64 (x7 + 1))) else (none))) else (some x5)
def spec_l7Tails.f (k:Nat) (l0:List (S47)) (l1:List (S45)):Option (List Int):=(spec_l4Table.f k (l0.length:Int) l1).bind fun t451=>(spec_l7Tails.l0 k l0 (([]:List Int)) t451 0)
theorem spec_l7Tails.mono_l:∀ k,(∀ y0 y1 y2 y3,LeO (spec_l7Tails.l0 k y0 y1 y2 y3) (spec_l7Tails.l0 (k + 1) y0 y1 y2 y3))
 | 0=>fun _ _ _ _ r h=>by simp [spec_l7Tails.l0] at h
 | k + 1=>by
  have ih0:=spec_l7Tails.mono_l k
  ·intro y0 y1 y2 y3
   unfold spec_l7Tails.l0
   repeat' first
   | (with_reducible exact ih0 _ _ _ _)
   | (with_reducible exact spec_l4Table.mono _ _ _)
   | (with_reducible exact spec_l7Tail.mono _ _ _ _)
   | (with_reducible exact LeO.refl _)
   | (with_reducible exact LeO.none _)
   | (with_reducible refine LeO.ite ?_ ?_)
   | (with_reducible refine LeO.bind ?_ (fun _=>?_))
   | exact ih0 _ _ _ _
   | exact spec_l4Table.mono _ _ _
   | exact spec_l7Tail.mono _ _ _ _
   | exact LeO.none _
   | refine LeO.ite ?_ ?_
   | refine LeO.bind ?_ (fun _=>?_)
theorem spec_l7Tails.mono:∀ a0 a1 k,LeO (spec_l7Tails.f k a0 a1) (spec_l7Tails.f (k + 1) a0 a1):=by
 intro a0 a1 k
 have ih0:=spec_l7Tails.mono_l k
 unfold spec_l7Tails.f
 repeat' first
   | (with_reducible exact ih0 _ _ _ _)
   | (with_reducible exact spec_l4Table.mono _ _ _)
   | (with_reducible exact spec_l7Tail.mono _ _ _ _)
   | (with_reducible exact LeO.refl _)
   | (with_reducible exact LeO.none _)
   | (with_reducible refine LeO.ite ?_ ?_)
   | (with_reducible refine LeO.bind ?_ (fun _=>?_))
   | exact ih0 _ _ _ _
   | exact spec_l4Table.mono _ _ _
   | exact spec_l7Tail.mono _ _ _ _
   | exact LeO.none _
   | refine LeO.ite ?_ ?_
   | refine LeO.bind ?_ (fun _=>?_)
set_option maxHeartbeats 8000000 in
set_option maxRecDepth 100000 in
theorem spec_l7Tails.calls (k:Nat) (A0:Option Addr) (c0:Nat) (l0:List (S47)) (A1:Option Addr) (c1:Nat) (l1:List (S45)) (r:List Int) (w:World) (hr0:Kd.C k47 w A0 l0.length l0) (hc0:l0.length≤c0) (hr1:Kd.C k45 w A1 l1.length l1) (hc1:l1.length≤c1) (h:spec_l7Tails.f k l0 l1=some r) :
  Calls Try.prog 70 #[.slice A0 l0.length c0,.slice A1 l1.length c1] w fun e w'=>∃ v0_:Value,e=.returned (v0_)∧Kd.R (Kd.int .i64) 3 w' w.heap.size (fun _=>True) v0_ r∧Below w.heap.size w w':=by
 have HR0:=Aside0.mk hr0
 have HC0:=Aside0.mk hc0
 clear hr0 hc0
 have HR1:=Aside0.mk hr1
 have HC1:=Aside0.mk hc1
 clear hr1 hc1
 have HB:=Aside0.mk (Below.refl w.heap.size w)
 have H:((spec_l4Table.f k (l0.length:Int) l1).bind fun t451=>(spec_l7Tails.l0 k l0 (([]:List Int)) t451 0))=some r:=h
 clear h
 obtain ⟨y448,hy448⟩:∃ y_:List Int,y_=(([]:List Int)):=⟨_,rfl⟩
 replace H:((spec_l4Table.f k (l0.length:Int) l1).bind fun t451=>(spec_l7Tails.l0 k l0 y448 t451 0))=some r:=by first|(rw [hy448];with_reducible exact H)|(have H2_:=(Option.bind_some _ _).symm.trans H;rw [hy448];with_reducible exact H2_)|(have H2_:=(Option.bind_some _ _).symm.trans H;with_reducible exact H2_)|with_reducible exact H|(rw [hy448];exact H)|exact H
 have Ny448:=Aside0.mk hy448
 clear hy448
 replace H:=Option.bind_eq_some_iff.mp H
 obtain ⟨t451,A30,H⟩:=H
 try dsimp only at H
 have A3:=Aside0.mk A30
 clear A30
 have H':=Aside0.mk H
 clear H
 go_enter Try.func70,Try.ntmps70
 go_wp2_with (first|((with_reducible refine gate_dst (N:=8) rfl ?_);refine Kd.R_lit (Kd.int .i64) _ 3 ?hg (N:=8) ?hd (xs:=([]:List Int)) (inner:=[]) (ok:=fun _=>True) (okp:=fun _=>True) ?hr ?hp (fun _ hk=>hk) trivial (Below.refl _ _) (Nat.le_refl _) (by simp) ?_;(case hd=>rfl);(case hg=>rfl);(case hr=>first|(go_simp;done)|(go_simp;rfl));(case hp=>exact (Reps.none _ _));intro v449 w4 ho5 hb hg_ hnew_;clear hg_ hnew_;(first|rw [←Ny448.out] at ho5|(simp only [Int.reduceToNat] at ho5;rw [←Ny448.out] at ho5));have HO450:=Aside0.mk (Kd.R_lower ho5 (below_size zb));replace HB:=Aside0.mk (below_step zb hb);clear hb ho5)|((with_reducible refine gate_callee (f:=73) rfl ?_);refine goesL_ (some 12) rfl rfl Try.func73 (by kernel_rfl) rfl #[.int .i64 (l0.length:Int),.slice A1 l1.length c1] rfl zl ?_;(with_reducible refine (spec_l4Table.calls k (l0.length:Int) _ _ l1 t451 _ ?side1 ?side2 A3.out).mono ?_);(case side1=>exact zC (Kd.C_below HR1.out HB.out));(case side2=>exact HC1.out);rintro e w6 ⟨v452,rfl,ho0,hb⟩;refine ⟨_,rfl,?_⟩;replace HO450:=Aside0.mk (Kd.R_below (zR HO450.out) hb);have HO453:=Aside0.mk (Kd.S_lower ho0 (below_size zb));replace HB:=Aside0.mk (below_step zb hb);(try clear hb);(try clear ho0)))
 go_loopg [5,7] k (fun kq v5 v7 w'=>∃ (x5_1:List Int) (x7_1:Int),v7=.int .i64 x7_1∧Aside0 (spec_l7Tails.l0 kq l0 x5_1 t451 x7_1=some r)∧Aside0 (kq≤k)∧Aside0 (Kd.R (Kd.int .i64) 3 w' w.heap.size (fun _=>True) v5 x5_1)∧Aside0 (Kd.S (Kd.slice 4 Kd.bool) 101 w' w.heap.size (fun _=>True) v452 t451)∧Aside0 (Below w.heap.size w w'))
 case atStart=>exact ⟨(y448),(0),zo,H',⟨Nat.le_refl _⟩,⟨zR HO450.out⟩,⟨zS HO453.out⟩,⟨zb⟩⟩
 case round=>
  clear H'
  (try clear c1);(try clear p2)
  obtain ⟨x5_1,x7_1,rfl,HA,HK1,HO_5,HO_6,HB⟩:=hrel
  cases gk with
  | zero=>exact absurd HA.out (by simp [spec_l7Tails.l0])
  | succ k1=>
   have H:=HA.out
   clear HA
   simp only [spec_l7Tails.l0] at H
   by_cases c7:x7_1<(l0.length:Int)
   ·rw [if_pos c7] at H
    have c7b0:decide (x7_1<(l0.length:Int))=true:=decide_eq_true c7
    clear c7
    replace H:=Option.bind_eq_some_iff.mp H
    obtain ⟨t454,A80,H⟩:=H
    try dsimp only at H
    have A8:=Aside0.mk A80
    clear A80
    by_cases c9:x5_1.length<17592186044416
    ·rw [if_pos c9] at H
     have LMc9:=Aside0.mk c9
     clear c9
     obtain ⟨y455,hy455⟩:∃ y_:List Int,y_=(x5_1++[t454]):=⟨_,rfl⟩
     replace H:(spec_l7Tails.l0 k1 l0 y455 t451 (wrap64 (x7_1 + 1)))=some r:=by first|(rw [hy455];with_reducible exact H)|(have H2_:=(Option.bind_some _ _).symm.trans H;rw [hy455];with_reducible exact H2_)|(have H2_:=(Option.bind_some _ _).symm.trans H;with_reducible exact H2_)|with_reducible exact H|(rw [hy455];exact H)|exact H
     have Ny455:=Aside0.mk hy455
     clear hy455
     have H':=Aside0.mk H
     clear H
     obtain ⟨Ao10,co10,eo10⟩:=Kd.S_slice HO_6.out
     subst eo10
     go_wp2_with (first|((with_reducible refine gate_callee (f:=119) rfl ?_);refine goesL_ (some 23) rfl rfl Try.func119 (by kernel_rfl) rfl #[.slice A0 l0.length c0,.slice Ao10 t451.length co10,.int .i64 x7_1] rfl zl ?_;(with_reducible refine (spec_l7Tail.calls k1 _ _ l0 _ _ t451 x7_1 t454 _ ?side1 ?side2 ?side3 ?side4 A8.out).mono ?_);(case side1=>exact zC (Kd.C_below HR0.out HB.out));(case side2=>exact HC0.out);(case side3=>exact zC ((Kd.S_reads' HO_6.out).2.2));(case side4=>exact (Kd.S_reads' HO_6.out).2.1);rintro e w' ⟨rfl,⟨nd,rfl⟩⟩;refine ⟨_,rfl,?_⟩)|((with_reducible refine gate_builtin (b:=.append) (xs:=#[.tmp 19,.tmp 24]) rfl ?_);at_builtin;refine Kd.R_append (Kd.int .i64) (w0:=w) w.heap.size rfl (.tmp 19) (.tmp 24) 39 3 (.int .i64 0) 8 rfl Try.underlying39 info3 rfl (by decide) (by omega) u5 x5_1 t454 [.int .i64 t454] (fun _=>True) (fun _=>False) rfl rfl ?aP (fun _ hk=>hk.elim) ?aF ?aO ?aB ?aS ?aL ?_;(case aP=>exact rfl);(case aB=>exact zb);(case aF=>exact (fun _ _=>trivial));(case aO=>exact (zR HO_5.out));(case aS=>exact (below_size zb));(case aL=>have:=LMc9.out;omega);intro v456 w11 ho hb hg hat;rw [←Ny455.out] at ho;replace HO_6:=Aside0.mk (Kd.S_over' (zS HO_6.out) (Kd.R_typed (zR HO_5.out)) (by decide) hg);replace HB:=Aside0.mk (hb);have HO457:=Aside0.mk (ho);clear HO_5;clear ho hb hg hat))
     go_roundg k1
     case measure=>have:=HK1.out;omega
     case rel=>exact ⟨(y455),(wrap64 (x7_1 + 1)),zo,H',⟨by have:=HK1.out;omega⟩,⟨zR HO457.out⟩,⟨zS HO_6.out⟩,⟨zb⟩⟩
    ·rw [if_neg c9] at H
     exact absurd H (by simp)
   ·rw [if_neg c7] at H
    have c7b0:decide (x7_1<(l0.length:Int))=false:=decide_eq_false c7
    clear c7
    obtain rfl:=Option.some.inj H
    go_wp2
    go_ret
    exact ⟨_,by first|rfl|(simp [errW_none,errW_some] <;> rfl)|(simp [*,errW_none,errW_some] <;> rfl),zR HO_5.out,zb⟩

/-! ### spec_TailsOf: function 21 -/
def spec_TailsOf.f (k:Nat) (l0:List (S47)) (l1:List (S45)):Option (List Int × Bool):=(spec_l7Good.f k l0 1 l1).bind fun t458=>(if t458=true then ((spec_l7Tails.f k l0 l1).bind fun t459=>(some (t459,true))) else (some ((([]:List Int)),false)))
theorem spec_TailsOf.mono:∀ a0 a1 k,LeO (spec_TailsOf.f k a0 a1) (spec_TailsOf.f (k + 1) a0 a1):=by
 intro a0 a1 k
 unfold spec_TailsOf.f
 repeat' first
   | (with_reducible exact spec_l7Good.mono _ _ _ _)
   | (with_reducible exact spec_l7Tails.mono _ _ _)
   | (with_reducible exact LeO.refl _)
   | (with_reducible exact LeO.none _)
   | (with_reducible refine LeO.ite ?_ ?_)
   | (with_reducible refine LeO.bind ?_ (fun _=>?_))
   | exact spec_l7Good.mono _ _ _ _
   | exact spec_l7Tails.mono _ _ _
   | exact LeO.none _
   | refine LeO.ite ?_ ?_
   | refine LeO.bind ?_ (fun _=>?_)
set_option maxHeartbeats 8000000 in
set_option maxRecDepth 100000 in
theorem spec_TailsOf.calls (k:Nat) (A0:Option Addr) (c0:Nat) (l0:List (S47)) (A1:Option Addr) (c1:Nat) (l1:List (S45)) (r1:List Int) (r2:Bool) (w:World) (hr0:Kd.C k47 w A0 l0.length l0) (hc0:l0.length≤c0) (hr1:Kd.C k45 w A1 l1.length l1) (hc1:l1.length≤c1) (h:spec_TailsOf.f k l0 l1=some (r1,r2)) :
  Calls Try.prog 21 #[.slice A0 l0.length c0,.slice A1 l1.length c1] w fun e w'=>∃ v0_:Value,e=.returned (.tuple #[v0_,.bool r2])∧Kd.R (Kd.int .i64) 3 w' w.heap.size (fun _=>True) v0_ r1∧Below w.heap.size w w':=by
 have HR0:=Aside0.mk hr0
 have HC0:=Aside0.mk hc0
 clear hr0 hc0
 have HR1:=Aside0.mk hr1
 have HC1:=Aside0.mk hc1
 clear hr1 hc1
 have HB:=Aside0.mk (Below.refl w.heap.size w)
 have H:((spec_l7Good.f k l0 1 l1).bind fun t458=>(if t458=true then ((spec_l7Tails.f k l0 l1).bind fun t459=>(some (t459,true))) else (some ((([]:List Int)),false))))=some (r1,r2):=h
 clear h
 replace H:=Option.bind_eq_some_iff.mp H
 obtain ⟨t458,A30,H⟩:=H
 try dsimp only at H
 have A3:=Aside0.mk A30
 clear A30
 by_cases c4:t458=true
 ·subst c4
  rw [if_pos rfl] at H
  replace H:=Option.bind_eq_some_iff.mp H
  obtain ⟨t459,A50,H⟩:=H
  try dsimp only at H
  have A5:=Aside0.mk A50
  clear A50
  simp only [Option.some.injEq,Prod.mk.injEq] at H
  obtain ⟨rfl,rfl⟩:=H
  go_enter Try.func21,Try.ntmps21
  go_wp2_with (first|((with_reducible refine gate_callee (f:=55) rfl ?_);refine goesL_ (some 8) rfl rfl Try.func55 (by kernel_rfl) rfl #[.slice A0 l0.length c0,.int .i64 1,.slice A1 l1.length c1] rfl zl ?_;(with_reducible refine (spec_l7Good.calls k _ _ l0 1 _ _ l1 true _ ?side1 ?side2 ?side3 ?side4 A3.out).mono ?_);(case side1=>exact zC HR0.out);(case side2=>exact HC0.out);(case side3=>exact zC HR1.out);(case side4=>exact HC1.out);rintro e w6 ⟨rfl,hb⟩;refine ⟨_,rfl,?_⟩;replace HB:=Aside0.mk (below_step zb hb);(try clear hb))|((with_reducible refine gate_callee (f:=70) rfl ?_);refine goesL_ (some 13) rfl rfl Try.func70 (by kernel_rfl) rfl #[.slice A0 l0.length c0,.slice A1 l1.length c1] rfl zl ?_;(with_reducible refine (spec_l7Tails.calls k _ _ l0 _ _ l1 t459 _ ?side1 ?side2 ?side3 ?side4 A5.out).mono ?_);(case side1=>exact zC (Kd.C_below HR0.out HB.out));(case side2=>exact HC0.out);(case side3=>exact zC (Kd.C_below HR1.out HB.out));(case side4=>exact HC1.out);rintro e w7 ⟨v460,rfl,ho0,hb⟩;refine ⟨_,rfl,?_⟩;have HO461:=Aside0.mk (Kd.R_lower ho0 (below_size zb));replace HB:=Aside0.mk (below_step zb hb);(try clear hb);(try clear ho0)))
  go_ret2
  exact ⟨_,by first|rfl|(simp [errW_none,errW_some] <;> rfl)|(simp [*,errW_none,errW_some] <;> rfl),zR HO461.out,zb⟩
 ·replace c4:=Bool.eq_false_iff.mpr c4
  subst c4
  rw [if_neg (show ¬ (false=true) by decide)] at H
  obtain ⟨y462,hy462⟩:∃ y_:List Int,y_=(([]:List Int)):=⟨_,rfl⟩
  replace H:(some (y462,false))=some (r1,r2):=by first|(rw [hy462];with_reducible exact H)|(have H2_:=(Option.bind_some _ _).symm.trans H;rw [hy462];with_reducible exact H2_)|(have H2_:=(Option.bind_some _ _).symm.trans H;with_reducible exact H2_)|with_reducible exact H|(rw [hy462];exact H)|exact H
  have Ny462:=Aside0.mk hy462
  clear hy462
  simp only [Option.some.injEq,Prod.mk.injEq] at H
  obtain ⟨rfl,rfl⟩:=H
  go_enter Try.func21,Try.ntmps21
  go_wp2_with (first|((with_reducible refine gate_callee (f:=55) rfl ?_);refine goesL_ (some 8) rfl rfl Try.func55 (by kernel_rfl) rfl #[.slice A0 l0.length c0,.int .i64 1,.slice A1 l1.length c1] rfl zl ?_;(with_reducible refine (spec_l7Good.calls k _ _ l0 1 _ _ l1 false _ ?side1 ?side2 ?side3 ?side4 A3.out).mono ?_);(case side1=>exact zC HR0.out);(case side2=>exact HC0.out);(case side3=>exact zC HR1.out);(case side4=>exact HC1.out);rintro e w8 ⟨rfl,hb⟩;refine ⟨_,rfl,?_⟩;replace HB:=Aside0.mk (below_step zb hb);(try clear hb))|((with_reducible refine gate_dst (N:=10) rfl ?_);refine Kd.R_lit (Kd.int .i64) _ 3 ?hg (N:=10) ?hd (xs:=([]:List Int)) (inner:=[]) (ok:=fun _=>True) (okp:=fun _=>True) ?hr ?hp (fun _ hk=>hk) trivial (Below.refl _ _) (Nat.le_refl _) (by simp) ?_;(case hd=>rfl);(case hg=>rfl);(case hr=>first|(go_simp;done)|(go_simp;rfl));(case hp=>exact (Reps.none _ _));intro v463 w9 ho10 hb hg_ hnew_;clear hg_ hnew_;(first|rw [←Ny462.out] at ho10|(simp only [Int.reduceToNat] at ho10;rw [←Ny462.out] at ho10));have HO464:=Aside0.mk (Kd.R_lower ho10 (below_size zb));replace HB:=Aside0.mk (below_step zb hb);clear hb ho10))
  go_ret2
  exact ⟨_,by first|rfl|(simp [errW_none,errW_some] <;> rfl)|(simp [*,errW_none,errW_some] <;> rfl),zR HO464.out,zb⟩

/-! ### impl_greatestOf: function 72 -/
def impl_greatestOf.l0:Nat→Int→List Int→Int→Int→Option (Int)
 | 0,_,_,_,_=>none
 | k + 1,x3,x6,x7,x8=>if x8<x7 then (if 0≤x8 then (if x8<(x6.length:Int) then (impl_greatestOf.l0 k (mx x3 (rd x6 x8)) x6 x7 (wrap64 (x8 + 1))) else (none)) else (none)) else (some x3)
def impl_greatestOf.f (k:Nat) (l0:List Int):Option (Int):=impl_greatestOf.l0 k 0 l0 (l0.length:Int) 0
theorem impl_greatestOf.mono_l:∀ k,(∀ y0 y1 y2 y3,LeO (impl_greatestOf.l0 k y0 y1 y2 y3) (impl_greatestOf.l0 (k + 1) y0 y1 y2 y3))
 | 0=>fun _ _ _ _ r h=>by simp [impl_greatestOf.l0] at h
 | k + 1=>by
  have ih0:=impl_greatestOf.mono_l k
  ·intro y0 y1 y2 y3
   unfold impl_greatestOf.l0
   repeat' first
   | (with_reducible exact ih0 _ _ _ _)
   | (with_reducible exact LeO.refl _)
   | (with_reducible exact LeO.none _)
   | (with_reducible refine LeO.ite ?_ ?_)
   | (with_reducible refine LeO.bind ?_ (fun _=>?_))
   | exact ih0 _ _ _ _
   | exact LeO.none _
   | refine LeO.ite ?_ ?_
   | refine LeO.bind ?_ (fun _=>?_)
theorem impl_greatestOf.mono:∀ a0 k,LeO (impl_greatestOf.f k a0) (impl_greatestOf.f (k + 1) a0):=by
 intro a0 k
 have ih0:=impl_greatestOf.mono_l k
 unfold impl_greatestOf.f
 repeat' first
   | (with_reducible exact ih0 _ _ _ _)
   | (with_reducible exact LeO.refl _)
   | (with_reducible exact LeO.none _)
   | (with_reducible refine LeO.ite ?_ ?_)
   | (with_reducible refine LeO.bind ?_ (fun _=>?_))
   | exact ih0 _ _ _ _
   | exact LeO.none _
   | refine LeO.ite ?_ ?_
   | refine LeO.bind ?_ (fun _=>?_)
set_option maxHeartbeats 8000000 in
set_option maxRecDepth 100000 in
theorem impl_greatestOf.calls (k:Nat) (A0:Option Addr) (c0:Nat) (l0:List Int) (r:Int) (w:World) (hr0:Kd.C (Kd.int .i64) w A0 l0.length l0) (hc0:l0.length≤c0) (h:impl_greatestOf.f k l0=some r) :
  Calls Try.prog 72 #[.slice A0 l0.length c0] w fun e w'=>e=.returned (.int .i64 r)∧Below w.heap.size w w':=by
 have HR0:=Aside0.mk hr0
 have HC0:=Aside0.mk hc0
 clear hr0 hc0
 have HB:=Aside0.mk (Below.refl w.heap.size w)
 have H:(impl_greatestOf.l0 k 0 l0 (l0.length:Int) 0)=some r:=h
 clear h
 have H':=Aside0.mk H
 clear H
 go_enter Try.func72,Try.ntmps72
 go_wp2
 go_loopg [3,8] k (fun kq v3 v8 w'=>∃ (x3_1:Int) (x8_1:Int),v3=.int .i64 x3_1∧v8=.int .i64 x8_1∧Aside0 (impl_greatestOf.l0 kq x3_1 l0 (l0.length:Int) x8_1=some r)∧Aside0 (kq≤k)∧Aside0 (Below w.heap.size w w'))
 case atStart=>exact ⟨(0),(0),zo,zo,H',⟨Nat.le_refl _⟩,⟨zb⟩⟩
 case round=>
  clear H'
  obtain ⟨x3_1,x8_1,rfl,rfl,HA,HK1,HB⟩:=hrel
  cases gk with
  | zero=>exact absurd HA.out (by simp [impl_greatestOf.l0])
  | succ k1=>
   have H:=HA.out
   clear HA
   simp only [impl_greatestOf.l0] at H
   by_cases c2:x8_1<(l0.length:Int)
   ·rw [if_pos c2] at H
    have c2b0:decide (x8_1<(l0.length:Int))=true:=decide_eq_true c2
    clear c2
    by_cases c3:0≤x8_1
    ·rw [if_pos c3] at H
     have c3b0:decide (0≤x8_1)=true:=decide_eq_true c3
     clear c3
     by_cases c4:x8_1<(l0.length:Int)
     ·rw [if_pos c4] at H
      have c4b0:decide (x8_1<(l0.length:Int))=true:=decide_eq_true c4
      clear c4
      obtain ⟨ji5,hji5⟩:∃ j_:Int,(mx x3_1 (rd l0 x8_1))=j_:=⟨_,rfl⟩
      replace H:(impl_greatestOf.l0 k1 ji5 l0 (l0.length:Int) (wrap64 (x8_1 + 1)))=some r:=by first|(rw [hji5] at H;exact H)|(simp only [hji5] at H ⊢;exact H)
      have hji5_:(if x3_1<(rd l0 x8_1) then (rd l0 x8_1) else x3_1)=ji5:=hji5
      have H':=Aside0.mk H
      clear H
      have p465:0≤(x8_1:Int):=of_decide_eq_true za
      have q465:x8_1<(l0.length:Int):=of_decide_eq_true za
      obtain ⟨ad465,e465,hx465_0⟩:=Kd.at_int HR0.out x8_1 p465 q465
      cases e465
      replace hx465_0:=(HB.out.cell (World.block_lt_of_cell? w _ hx465_0)).trans hx465_0
      replace p465:=eq_true p465
      replace q465:=eq_true q465
      go_wp2
      go_roundg k1
      case measure=>have:=HK1.out;omega
      case rel=>exact ⟨(ji5),(wrap64 (x8_1 + 1)),(by first|rfl|(simp;done)|(simp only [←hji5] <;> (first|rfl|simp))|(simp [*];done)),zo,H',⟨by have:=HK1.out;omega⟩,⟨zb⟩⟩
     ·rw [if_neg c4] at H
      exact absurd H (by simp)
    ·rw [if_neg c3] at H
     exact absurd H (by simp)
   ·rw [if_neg c2] at H
    have c2b0:decide (x8_1<(l0.length:Int))=false:=decide_eq_false c2
    clear c2
    obtain rfl:=Option.some.inj H
    go_wp2
    go_ret
    exact ⟨by first|rfl|(simp [errW_none,errW_some] <;> rfl)|(simp [*,errW_none,errW_some] <;> rfl),zb⟩

end Go.Proofs.Ytplbabjigikgjaa.XFnTails
-- minified
