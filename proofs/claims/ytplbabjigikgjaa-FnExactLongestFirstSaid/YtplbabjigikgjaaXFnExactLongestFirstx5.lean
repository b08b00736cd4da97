-- Written by a program of this session (the kit's print, widened). Proved here: what each function answers, for the arguments that its contract names.
import Derived.Test.YtplbabjigikgjaaXFnExactLongestFirstx0
import Derived.Test.YtplbabjigikgjaaXFnExactLongestFirstx1
import Derived.Test.YtplbabjigikgjaaXFnExactLongestFirstx2
import Derived.Test.YtplbabjigikgjaaXFnExactLongestFirstx4
namespace Go.Proofs.Ytplbabjigikgjaa.XFnExactLongestFirst
open Go.RowKit Go.Proofs.YtplbabjigikgjaaW.PrintWords Go.Proofs.YtplbabjigikgjaaW.PrintLast Go.Proofs.YtplbabjigikgjaaW.PrintMore
attribute [local go_sem] max2_int min2_int max_two min_two max_three min_three max_four min_four   -- for this text's walks alone
attribute [local go_sem] idxA_45_0 idxA_45_1 fldS_94_0 fldS_94_1 fldS_94_2 fldS_125_0 fldS_125_1 fldS_125_2
set_option linter.unusedVariables false
set_option linter.unusedSimpArgs false

/-! ### spec_l4Good: function 108 -/
def spec_l4Good.l0:Nat→Int→List (List Bool)→Int→Option (Bool)
 | 0,_,_,_=>none
 | k + 1,x0,x5,x6=>if x6<x0 then (if 0≤x6 then (if x6<(x5.length:Int) then (if x6<((rd_L5 x5 x6).length:Int) then (if rdOf false (rd_L5 x5 x6) x6=true then (some false) else (spec_l4Good.l0 k x0 x5 (wrap64 (x6 + 1)))) else (none)) else (none)) else (none)) else (some true)
def spec_l4Good.f (k:Nat) (a0:Int) (l1:List (S45)):Option (Bool):=(spec_l4Pairs.f k a0 l1).bind fun t145=>(if t145=true then ((spec_l4Table.f k a0 l1).bind fun t146=>(spec_l4Good.l0 k a0 t146 0)) else (some false))
theorem spec_l4Good.mono_l:∀ k,(∀ y0 y1 y2,LeO (spec_l4Good.l0 k y0 y1 y2) (spec_l4Good.l0 (k + 1) y0 y1 y2))
 | 0=>fun _ _ _ r h=>by simp [spec_l4Good.l0] at h
 | k + 1=>by
  have ih0:=spec_l4Good.mono_l k
  ·intro y0 y1 y2
   unfold spec_l4Good.l0
   repeat' first
   | (with_reducible exact ih0 _ _ _)
   | (with_reducible exact spec_l4Pairs.mono _ _ _)
   | (with_reducible exact spec_l4Table.mono _ _ _)
   | (with_reducible exact LeO.refl _)
   | (with_reducible exact LeO.none _)
   | (with_reducible refine LeO.ite ?_ ?_)
   | (with_reducible refine LeO.bind ?_ (fun _=>?_))
   | exact ih0 _ _ _
   | exact spec_l4Pairs.mono _ _ _
   | exact spec_l4Table.mono _ _ _
   | exact LeO.none _
   | refine LeO.ite ?_ ?_
   | refine LeO.bind ?_ (fun _=>?_)
theorem spec_l4Good.mono:∀ a0 a1 k,LeO (spec_l4Good.f k a0 a1) (spec_l4Good.f (k + 1) a0 a1):=by
 intro a0 a1 k
 have ih0:=spec_l4Good.mono_l k
 unfold spec_l4Good.f
 repeat' first
   | (with_reducible exact ih0 _ _ _)
   | (with_reducible exact spec_l4Pairs.mono _ _ _)
   | (with_reducible exact spec_l4Table.mono _ _ _)
   | (with_reducible exact LeO.refl _)
   | (with_reducible exact LeO.none _)
   | (with_reducible refine LeO.ite ?_ ?_)
   | (with_reducible refine LeO.bind ?_ (fun _=>?_))
   | exact ih0 _ _ _
   | exact spec_l4Pairs.mono _ _ _
   | exact spec_l4Table.mono _ _ _
   | exact LeO.none _
   | refine LeO.ite ?_ ?_
   | refine LeO.bind ?_ (fun _=>?_)
set_option maxHeartbeats 8000000 in
set_option maxRecDepth 100000 in
theorem spec_l4Good.calls (k:Nat) (a0:Int) (A1:Option Addr) (c1:Nat) (l1:List (S45)) (r:Bool) (w:World) (hr1:Kd.C k45 w A1 l1.length l1) (hc1:l1.length≤c1) (h:spec_l4Good.f k a0 l1=some r) :
  Calls Try.prog 108 #[.int .i64 a0,.slice A1 l1.length c1] w fun e w'=>e=.returned (.bool r)∧Below w.heap.size w w':=by
 have HR1:=Aside0.mk hr1
 have HC1:=Aside0.mk hc1
 clear hr1 hc1
 have HB:=Aside0.mk (Below.refl w.heap.size w)
 have H:((spec_l4Pairs.f k a0 l1).bind fun t145=>(if t145=true then ((spec_l4Table.f k a0 l1).bind fun t146=>(spec_l4Good.l0 k a0 t146 0)) else (some false)))=some r:=h
 clear h
 replace H:=Option.bind_eq_some_iff.mp H
 obtain ⟨t145,A30,H⟩:=H
 replace H:(if t145=true then ((spec_l4Table.f k a0 l1).bind fun t146=>(spec_l4Good.l0 k a0 t146 0)) else (some false))=some r:=H
 have A3:=Aside0.mk A30
 clear A30
 by_cases c4:t145=true
 ·subst c4
  have H1:((spec_l4Table.f k a0 l1).bind fun t146=>(spec_l4Good.l0 k a0 t146 0))=some r:=by rw [if_pos rfl] at H;exact H
  clear H
  have H:=H1
  clear H1
  replace H:=Option.bind_eq_some_iff.mp H
  obtain ⟨t146,A50,H⟩:=H
  replace H:(spec_l4Good.l0 k a0 t146 0)=some r:=H
  have A5:=Aside0.mk A50
  clear A50
  have H':=Aside0.mk H
  clear H
  go_enter Try.func108,Try.ntmps108
  go_wp2_with (first|((with_reducible refine gate_callee (f:=149) rfl ?_);refine goesL_ (some 9) rfl rfl Try.func149 (by kernel_rfl) rfl #[.int .i64 a0,.slice A1 l1.length c1] rfl zl ?_;(with_reducible refine (spec_l4Pairs.calls k a0 _ _ l1 true _ ?side1 ?side2 A3.out).mono ?_);(case side1=>exact zC HR1.out);(case side2=>exact HC1.out);rintro e w6 ⟨rfl,hb⟩;refine ⟨_,rfl,?_⟩;have n0_:=Aside0.mk (below_step zb hb);clear HB;have HB:=n0_;clear n0_;(try clear hb);(try clear hb2);(try clear hk);(try clear hi))|((with_reducible refine gate_callee (f:=73) rfl ?_);refine goesL_ (some 13) rfl rfl Try.func73 (by kernel_rfl) rfl #[.int .i64 a0,.slice A1 l1.length c1] rfl zl ?_;(with_reducible refine (spec_l4Table.calls k a0 _ _ l1 t146 _ ?side1 ?side2 A5.out).mono ?_);(case side1=>exact zC (Kd.C_below HR1.out HB.out));(case side2=>exact HC1.out);rintro e w7 ⟨v147,rfl,ho0,hb⟩;refine ⟨_,rfl,?_⟩;have n0_:=Aside0.mk (Kd.S_lower ho0 (below_size zb));have n1_:=Aside0.mk (below_step zb hb);clear HB;have HO148:=n0_;have HB:=n1_;clear n0_ n1_;(try clear hb);(try clear hb2);(try clear hk);(try clear hi);(try clear ho0)))
  go_loopg [6] k (fun kq v6 w'=>∃ (x6_1:Int),v6=.int .i64 x6_1∧Aside0 (spec_l4Good.l0 kq a0 t146 x6_1=some r)∧Aside0 (kq≤k)∧Aside0 (Kd.S (Kd.slice 4 Kd.bool) 101 w' w.heap.size (fun _=>True) v147 t146)∧Aside0 (Below w.heap.size w w'))
  case atStart=>exact ⟨(0),zo,H',⟨Nat.le_refl _⟩,⟨zS HO148.out⟩,⟨zb⟩⟩
  case round=>
   clear H'
   (try clear c1);(try clear p2);(try clear c4);(try clear c7)
   obtain ⟨x6_1,rfl,HA,HK1,HO_5,HB⟩:=hrel
   cases gk with
   | zero=>exact absurd HA.out (by simp [spec_l4Good.l0])
   | succ k1=>
    have H:=HA.out
    clear HA
    simp only [spec_l4Good.l0] at H
    by_cases c8:x6_1<a0
    ·rw [if_pos c8] at H
     have c8b0:decide (x6_1<a0)=true:=decide_eq_true c8
     clear c8
     by_cases c9:0≤x6_1
     ·rw [if_pos c9] at H
      have c9b0:decide (0≤x6_1)=true:=decide_eq_true c9
      clear c9
      by_cases c10:x6_1<(t146.length:Int)
      ·rw [if_pos c10] at H
       have c10b0:decide (x6_1<(t146.length:Int))=true:=decide_eq_true c10
       clear c10
       by_cases c11:x6_1<((rd_L5 t146 x6_1).length:Int)
       ·rw [if_pos c11] at H
        have c11b0:decide (x6_1<((rd_L5 t146 x6_1).length:Int))=true:=decide_eq_true c11
        clear c11
        obtain ⟨bq12,hbq12⟩:∃ b_:Bool,b_=(rdOf false (rd_L5 t146 x6_1) x6_1):=⟨_,rfl⟩
        replace H:(if bq12=true then (some false) else (spec_l4Good.l0 k1 a0 t146 (wrap64 (x6_1 + 1))))=some r:=by rw [←hbq12] at H;exact H
        have Nbq12:=Aside0.mk hbq12
        clear hbq12
        by_cases c13:bq12=true
        ·subst c13
         have H1:(some false)=some r:=by rw [if_pos rfl] at H;exact H
         clear H
         have H:=H1
         clear H1
         obtain rfl:=Option.some.inj H
         obtain ⟨Ao14,co14,eo14⟩:=Kd.S_slice HO_5.out
         subst eo14
         have p149:0≤(x6_1:Int):=of_decide_eq_true za
         have q149:x6_1<(t146.length:Int):=of_decide_eq_true za
         obtain ⟨ad149,A149_0,c149_0,e149,hx149_0,hl149_0,hi149_0⟩:=at_L5 (Kd.S_reads' HO_5.out).2.2 x6_1 p149 q149
         cases e149
         obtain ⟨ce149,hce149,hMe149,hcc149⟩:=Kd.S_get HO_5.out [] x6_1 p149 (by first|exact q149|exact of_decide_eq_true za|(have e_:=(Kd.S_reads' HO_5.out).1;omega))
         obtain ⟨ve149_0,rfl,ge149_0⟩:=hMe149
         have hv149_0:=hcc149 0 _ rfl
         rw [Nat.add_zero,show ((Kd.slice 4 Kd.bool)).sz=1 from rfl,Nat.mul_one] at hv149_0
         replace hv149_0:=Option.some.inj (hv149_0.symm.trans hx149_0)
         rw [hv149_0] at ge149_0
         have HL149_0:=Aside0.mk (show Kd.R Kd.bool 4 _ _ _ _ (rd_L5 t146 x6_1) from ge149_0)
         clear hv149_0 ge149_0
         clear hcc149 hce149
         have HR149_0:=Aside0.mk hi149_0
         have HC149_0:=Aside0.mk hl149_0
         clear hi149_0 hl149_0
         replace p149:=eq_true p149
         replace q149:=eq_true q149
         have p150:0≤(x6_1:Int):=of_decide_eq_true za
         have q150:x6_1<((rd_L5 t146 x6_1).length:Int):=of_decide_eq_true za
         obtain ⟨ad150,e150,hx150_0⟩:=Kd.at_bool (by repeat (first|(with_reducible exact HR149_0.out)|(with_reducible refine Kd.C_alloc ?_ _)|(with_reducible refine Kd.C_drewN ?_ _)|(with_reducible refine Kd.C_drew ?_)|exact HR149_0.out)) x6_1 p150 q150
         (try rw [←Nbq12.out] at hx150_0)
         cases e150
         replace p150:=eq_true p150
         replace q150:=eq_true q150
         go_wp2
         go_ret
         exact ⟨by first|rfl|(simp [errW_none,errW_some] <;> rfl)|(simp [*,errW_none,errW_some] <;> rfl),zb⟩
        ·replace c13:=Bool.eq_false_iff.mpr c13
         subst c13
         have H1:(spec_l4Good.l0 k1 a0 t146 (wrap64 (x6_1 + 1)))=some r:=by rw [if_neg (show ¬ (false=true) by decide)] at H;exact H
         clear H
         have H:=H1
         clear H1
         have H':=Aside0.mk H
         clear H
         obtain ⟨Ao15,co15,eo15⟩:=Kd.S_slice HO_5.out
         subst eo15
         have p149:0≤(x6_1:Int):=of_decide_eq_true za
         have q149:x6_1<(t146.length:Int):=of_decide_eq_true za
         obtain ⟨ad149,A149_0,c149_0,e149,hx149_0,hl149_0,hi149_0⟩:=at_L5 (Kd.S_reads' HO_5.out).2.2 x6_1 p149 q149
         cases e149
         obtain ⟨ce149,hce149,hMe149,hcc149⟩:=Kd.S_get HO_5.out [] x6_1 p149 (by first|exact q149|exact of_decide_eq_true za|(have e_:=(Kd.S_reads' HO_5.out).1;omega))
         obtain ⟨ve149_0,rfl,ge149_0⟩:=hMe149
         have hv149_0:=hcc149 0 _ rfl
         rw [Nat.add_zero,show ((Kd.slice 4 Kd.bool)).sz=1 from rfl,Nat.mul_one] at hv149_0
         replace hv149_0:=Option.some.inj (hv149_0.symm.trans hx149_0)
         rw [hv149_0] at ge149_0
         have HL149_0:=Aside0.mk (show Kd.R Kd.bool 4 _ _ _ _ (rd_L5 t146 x6_1) from ge149_0)
         clear hv149_0 ge149_0
         clear hcc149 hce149
         have HR149_0:=Aside0.mk hi149_0
         have HC149_0:=Aside0.mk hl149_0
         clear hi149_0 hl149_0
         replace p149:=eq_true p149
         replace q149:=eq_true q149
         have p150:0≤(x6_1:Int):=of_decide_eq_true za
         have q150:x6_1<((rd_L5 t146 x6_1).length:Int):=of_decide_eq_true za
         obtain ⟨ad150,e150,hx150_0⟩:=Kd.at_bool (by repeat (first|(with_reducible exact HR149_0.out)|(with_reducible refine Kd.C_alloc ?_ _)|(with_reducible refine Kd.C_drewN ?_ _)|(with_reducible refine Kd.C_drew ?_)|exact HR149_0.out)) x6_1 p150 q150
         (try rw [←Nbq12.out] at hx150_0)
         cases e150
         replace p150:=eq_true p150
         replace q150:=eq_true q150
         go_wp2
         go_roundg k1
         case measure=>have:=HK1.out;omega
         case rel=>exact ⟨(wrap64 (x6_1 + 1)),zo,H',⟨by have:=HK1.out;omega⟩,⟨zS HO_5.out⟩,⟨zb⟩⟩
       ·rw [if_neg c11] at H
        exact absurd H (by simp)
      ·rw [if_neg c10] at H
       exact absurd H (by simp)
     ·rw [if_neg c9] at H
      exact absurd H (by simp)
    ·rw [if_neg c8] at H
     have c8b0:decide (x6_1<a0)=false:=decide_eq_false c8
     clear c8
     obtain rfl:=Option.some.inj H
     go_wp2
     go_ret
     exact ⟨by first|rfl|(simp [errW_none,errW_some] <;> rfl)|(simp [*,errW_none,errW_some] <;> rfl),zb⟩
 ·replace c4:=Bool.eq_false_iff.mpr c4
  subst c4
  have H1:(some false)=some r:=by rw [if_neg (show ¬ (false=true) by decide)] at H;exact H
  clear H
  have H:=H1
  clear H1
  obtain rfl:=Option.some.inj H
  go_enter Try.func108,Try.ntmps108
  go_wp2_with (first|((with_reducible refine gate_callee (f:=149) rfl ?_);refine goesL_ (some 9) rfl rfl Try.func149 (by kernel_rfl) rfl #[.int .i64 a0,.slice A1 l1.length c1] rfl zl ?_;(with_reducible refine (spec_l4Pairs.calls k a0 _ _ l1 false _ ?side1 ?side2 A3.out).mono ?_);(case side1=>exact zC HR1.out);(case side2=>exact HC1.out);rintro e w16 ⟨rfl,hb⟩;refine ⟨_,rfl,?_⟩;have n0_:=Aside0.mk (below_step zb hb);clear HB;have HB:=n0_;clear n0_;(try clear hb);(try clear hb2);(try clear hk);(try clear hi)))
  go_ret
  exact ⟨by first|rfl|(simp [errW_none,errW_some] <;> rfl)|(simp [*,errW_none,errW_some] <;> rfl),zb⟩

/-! ### spec_l7Good: function 55 -/
def spec_l7Good.f (k:Nat) (l0:List (S47)) (a1:Int) (l2:List (S45)):Option (Bool):=(spec_l2Good.f k l0).bind fun t151=>(if t151=true then ((spec_l3Plain.f k l0).bind fun t152=>(if t152=true then ((spec_l1In.f a1 1 4).bind fun t153=>(if t153=true then ((spec_l4Good.f k (l0.length:Int) l2).bind fun t154=>(some t154)) else (some false))) else (some false))) else (some false))
theorem spec_l7Good.mono:∀ a0 a1 a2 k,LeO (spec_l7Good.f k a0 a1 a2) (spec_l7Good.f (k + 1) a0 a1 a2):=by
 intro a0 a1 a2 k
 unfold spec_l7Good.f
 repeat' first
   | (with_reducible exact spec_l2Good.mono _ _)
   | (with_reducible exact spec_l3Plain.mono _ _)
   | (with_reducible exact spec_l4Good.mono _ _ _)
   | (with_reducible exact LeO.refl _)
   | (with_reducible exact LeO.none _)
   | (with_reducible refine LeO.ite ?_ ?_)
   | (with_reducible refine LeO.bind ?_ (fun _=>?_))
   | exact spec_l2Good.mono _ _
   | exact spec_l3Plain.mono _ _
   | exact spec_l4Good.mono _ _ _
   | exact LeO.none _
   | refine LeO.ite ?_ ?_
   | refine LeO.bind ?_ (fun _=>?_)
set_option maxHeartbeats 8000000 in
set_option maxRecDepth 100000 in
theorem spec_l7Good.calls (k:Nat) (A0:Option Addr) (c0:Nat) (l0:List (S47)) (a1:Int) (A2:Option Addr) (c2:Nat) (l2:List (S45)) (r:Bool) (w:World) (hr0:Kd.C k47 w A0 l0.length l0) (hc0:l0.length≤c0) (hr2:Kd.C k45 w A2 l2.length l2) (hc2:l2.length≤c2) (h:spec_l7Good.f k l0 a1 l2=some r) :
  Calls Try.prog 55 #[.slice A0 l0.length c0,.int .i64 a1,.slice A2 l2.length c2] w fun e w'=>e=.returned (.bool r)∧Below w.heap.size w w':=by
 have HR0:=Aside0.mk hr0
 have HC0:=Aside0.mk hc0
 clear hr0 hc0
 have HR2:=Aside0.mk hr2
 have HC2:=Aside0.mk hc2
 clear hr2 hc2
 have HB:=Aside0.mk (Below.refl w.heap.size w)
 have H:((spec_l2Good.f k l0).bind fun t151=>(if t151=true then ((spec_l3Plain.f k l0).bind fun t152=>(if t152=true then ((spec_l1In.f a1 1 4).bind fun t153=>(if t153=true then ((spec_l4Good.f k (l0.length:Int) l2).bind fun t154=>(some t154)) else (some false))) else (some false))) else (some false)))=some r:=h
 clear h
 replace H:=Option.bind_eq_some_iff.mp H
 obtain ⟨t151,A40,H⟩:=H
 replace H:(if t151=true then ((spec_l3Plain.f k l0).bind fun t152=>(if t152=true then ((spec_l1In.f a1 1 4).bind fun t153=>(if t153=true then ((spec_l4Good.f k (l0.length:Int) l2).bind fun t154=>(some t154)) else (some false))) else (some false))) else (some false))=some r:=H
 have A4:=Aside0.mk A40
 clear A40
 by_cases c5:t151=true
 ·subst c5
  have H1:((spec_l3Plain.f k l0).bind fun t152=>(if t152=true then ((spec_l1In.f a1 1 4).bind fun t153=>(if t153=true then ((spec_l4Good.f k (l0.length:Int) l2).bind fun t154=>(some t154)) else (some false))) else (some false)))=some r:=by rw [if_pos rfl] at H;exact H
  clear H
  have H:=H1
  clear H1
  replace H:=Option.bind_eq_some_iff.mp H
  obtain ⟨t152,A60,H⟩:=H
  replace H:(if t152=true then ((spec_l1In.f a1 1 4).bind fun t153=>(if t153=true then ((spec_l4Good.f k (l0.length:Int) l2).bind fun t154=>(some t154)) else (some false))) else (some false))=some r:=H
  have A6:=Aside0.mk A60
  clear A60
  by_cases c7:t152=true
  ·subst c7
   have H1:((spec_l1In.f a1 1 4).bind fun t153=>(if t153=true then ((spec_l4Good.f k (l0.length:Int) l2).bind fun t154=>(some t154)) else (some false)))=some r:=by rw [if_pos rfl] at H;exact H
   clear H
   have H:=H1
   clear H1
   replace H:=Option.bind_eq_some_iff.mp H
   obtain ⟨t153,A80,H⟩:=H
   replace H:(if t153=true then ((spec_l4Good.f k (l0.length:Int) l2).bind fun t154=>(some t154)) else (some false))=some r:=H
   have A8:=Aside0.mk A80
   clear A80
   by_cases c9:t153=true
   ·subst c9
    have H1:((spec_l4Good.f k (l0.length:Int) l2).bind fun t154=>(some t154))=some r:=by rw [if_pos rfl] at H;exact H
    clear H
    have H:=H1
    clear H1
    replace H:=Option.bind_eq_some_iff.mp H
    obtain ⟨t154,A100,H⟩:=H
    replace H:(some t154)=some r:=H
    have A10:=Aside0.mk A100
    clear A100
    obtain rfl:=Option.some.inj H
    go_enter Try.func55,Try.ntmps55
    go_wp2_with (first|((with_reducible refine gate_callee (f:=77) rfl ?_);refine goesL_ (some 8) rfl rfl Try.func77 (by kernel_rfl) rfl #[.slice A0 l0.length c0] rfl zl ?_;(with_reducible refine (spec_l2Good.calls k _ _ l0 true _ ?side1 ?side2 A4.out).mono ?_);(case side1=>exact zC HR0.out);(case side2=>exact HC0.out);rintro e w11 ⟨rfl,hb⟩;refine ⟨_,rfl,?_⟩;have n0_:=Aside0.mk (below_step zb hb);clear HB;have HB:=n0_;clear n0_;(try clear hb);(try clear hb2);(try clear hk);(try clear hi))|(go_at_call 106;(with_reducible refine (spec_l3Plain.calls k _ _ l0 true _ ?side1 ?side2 A6.out).mono ?_);(case side1=>exact zC (Kd.C_below HR0.out HB.out));(case side2=>exact HC0.out);rintro e w' ⟨rfl,⟨nd,rfl⟩⟩)|(go_at_call 107;(with_reducible refine (spec_l1In.calls a1 1 4 true _ A8.out).mono ?_);rintro e w' ⟨rfl,⟨nd,rfl⟩⟩)|(go_at_call 108;(with_reducible refine (spec_l4Good.calls k (l0.length:Int) _ _ l2 t154 _ ?side1 ?side2 A10.out).mono ?_);(case side1=>exact zC (Kd.C_below HR2.out zb));(case side2=>exact HC2.out);rintro e w12 ⟨rfl,hb⟩;have n0_:=Aside0.mk (below_step zb hb);clear HB;have HB:=n0_;clear n0_;(try clear hb);(try clear hb2);(try clear hk);(try clear hi)))
    go_ret
    exact ⟨by first|rfl|(simp [errW_none,errW_some] <;> rfl)|(simp [*,errW_none,errW_some] <;> rfl),zb⟩
   ·replace c9:=Bool.eq_false_iff.mpr c9
    subst c9
    have H1:(some false)=some r:=by rw [if_neg (show ¬ (false=true) by decide)] at H;exact H
    clear H
    have H:=H1
    clear H1
    obtain rfl:=Option.some.inj H
    go_enter Try.func55,Try.ntmps55
    go_wp2_with (first|((with_reducible refine gate_callee (f:=77) rfl ?_);refine goesL_ (some 8) rfl rfl Try.func77 (by kernel_rfl) rfl #[.slice A0 l0.length c0] rfl zl ?_;(with_reducible refine (spec_l2Good.calls k _ _ l0 true _ ?side1 ?side2 A4.out).mono ?_);(case side1=>exact zC HR0.out);(case side2=>exact HC0.out);rintro e w13 ⟨rfl,hb⟩;refine ⟨_,rfl,?_⟩;have n0_:=Aside0.mk (below_step zb hb);clear HB;have HB:=n0_;clear n0_;(try clear hb);(try clear hb2);(try clear hk);(try clear hi))|(go_at_call 106;(with_reducible refine (spec_l3Plain.calls k _ _ l0 true _ ?side1 ?side2 A6.out).mono ?_);(case side1=>exact zC (Kd.C_below HR0.out HB.out));(case side2=>exact HC0.out);rintro e w' ⟨rfl,⟨nd,rfl⟩⟩)|(go_at_call 107;(with_reducible refine (spec_l1In.calls a1 1 4 false _ A8.out).mono ?_);rintro e w' ⟨rfl,⟨nd,rfl⟩⟩))
    go_ret
    exact ⟨by first|rfl|(simp [errW_none,errW_some] <;> rfl)|(simp [*,errW_none,errW_some] <;> rfl),zb⟩
  ·replace c7:=Bool.eq_false_iff.mpr c7
   subst c7
   have H1:(some false)=some r:=by rw [if_neg (show ¬ (false=true) by decide)] at H;exact H
   clear H
   have H:=H1
   clear H1
   obtain rfl:=Option.some.inj H
   go_enter Try.func55,Try.ntmps55
   go_wp2_with (first|((with_reducible refine gate_callee (f:=77) rfl ?_);refine goesL_ (some 8) rfl rfl Try.func77 (by kernel_rfl) rfl #[.slice A0 l0.length c0] rfl zl ?_;(with_reducible refine (spec_l2Good.calls k _ _ l0 true _ ?side1 ?side2 A4.out).mono ?_);(case side1=>exact zC HR0.out);(case side2=>exact HC0.out);rintro e w14 ⟨rfl,hb⟩;refine ⟨_,rfl,?_⟩;have n0_:=Aside0.mk (below_step zb hb);clear HB;have HB:=n0_;clear n0_;(try clear hb);(try clear hb2);(try clear hk);(try clear hi))|(go_at_call 106;(with_reducible refine (spec_l3Plain.calls k _ _ l0 false _ ?side1 ?side2 A6.out).mono ?_);(case side1=>exact zC (Kd.C_below HR0.out HB.out));(case side2=>exact HC0.out);rintro e w' ⟨rfl,⟨nd,rfl⟩⟩))
   go_ret
   exact ⟨by first|rfl|(simp [errW_none,errW_some] <;> rfl)|(simp [*,errW_none,errW_some] <;> rfl),zb⟩
 ·replace c5:=Bool.eq_false_iff.mpr c5
  subst c5
  have H1:(some false)=some r:=by rw [if_neg (show ¬ (false=true) by decide)] at H;exact H
  clear H
  have H:=H1
  clear H1
  obtain rfl:=Option.some.inj H
  go_enter Try.func55,Try.ntmps55
  go_wp2_with (first|((with_reducible refine gate_callee (f:=77) rfl ?_);refine goesL_ (some 8) rfl rfl Try.func77 (by kernel_rfl) rfl #[.slice A0 l0.length c0] rfl zl ?_;(with_reducible refine (spec_l2Good.calls k _ _ l0 false _ ?side1 ?side2 A4.out).mono ?_);(case side1=>exact zC HR0.out);(case side2=>exact HC0.out);rintro e w15 ⟨rfl,hb⟩;refine ⟨_,rfl,?_⟩;have n0_:=Aside0.mk (below_step zb hb);clear HB;have HB:=n0_;clear n0_;(try clear hb);(try clear hb2);(try clear hk);(try clear hi)))
  go_ret
  exact ⟨by first|rfl|(simp [errW_none,errW_some] <;> rfl)|(simp [*,errW_none,errW_some] <;> rfl),zb⟩

/-! ### spec_l7Next: function 109 -/
mutual
def spec_l7Next.l0:Nat→List (List Bool)→List Int→List Int→Int→Int→Option (Int)
 | 0,_,_,_,_,_=>none
 | k + 1,x0,x1,x2,x3,x9=>if x9<(x1.length:Int) then (if 0≤x9 then (if 0≤(rd x1 x9) then (if (rd x1 x9)<(x2.length:Int) then (if (rd x2 (rd x1 x9))≥0 then (spec_l7Next.l0 k x0 x1 x2 x3 (wrap64 (x9 + 1))) else (spec_l7Next.l1 k x0 x1 x2 x3 x9 true 0)) else (none)) else (none)) else (none)) else (some (-1))
def spec_l7Next.l1:Nat→List (List Bool)→List Int→List Int→Int→Int→Bool→Int→Option (Int)
 | 0,_,_,_,_,_,_,_=>none
 | k + 1,x0,x1,x2,x3,x9,x10,x11=>if x11<(x2.length:Int) then (if 0≤x11 then (if x11<(x0.length:Int) then (if 0≤x9 then (if x9<(x1.length:Int) then (if 0≤(rd x1 x9) then (if (rd x1 x9)<((rd_L5 x0 x11).length:Int) then (if rdOf false (rd_L5 x0 x11) (rd x1 x9)=true then (if (rd x2 x11)<0 then (spec_l7Next.l1 k x0 x1 x2 x3 x9 false (wrap64 (x11 + 1))) else (if (rd x2 x11)>x3 then (spec_l7Next.l1 k x0 x1 x2 x3 x9 false (wrap64 (x11 + 1))) else (spec_l7Next.l1 k x0 x1 x2 x3 x9 x10 (wrap64 (x11 + 1))))) else (spec_l7Next.l1 k x0 x1 x2 x3 x9 x10 (wrap64 (x11 + 1)))) else (none)) else (none)) else (none)) else (none)) else (none)) else (none)) else (if x10=true then (if 0≤x9 then (if x9<(x1.length:Int) then (some (rd x1 x9)) else (none)) else (none)) else (spec_l7Next.l0 k x0 x1 x2 x3 (wrap64 (x9 + 1))))
end
def spec_l7Next.f (k:Nat) (l0:List (List Bool)) (l1:List Int) (l2:List Int) (a3:Int):Option (Int):=spec_l7Next.l0 k l0 l1 l2 a3 0
theorem spec_l7Next.mono_l:∀ k,(∀ y0 y1 y2 y3 y4,LeO (spec_l7Next.l0 k y0 y1 y2 y3 y4) (spec_l7Next.l0 (k + 1) y0 y1 y2 y3 y4))∧(∀ y0 y1 y2 y3 y4 y5 y6,LeO (spec_l7Next.l1 k y0 y1 y2 y3 y4 y5 y6) (spec_l7Next.l1 (k + 1) y0 y1 y2 y3 y4 y5 y6))
 | 0=>⟨fun _ _ _ _ _ r h=>by simp [spec_l7Next.l0] at h,fun _ _ _ _ _ _ _ r h=>by simp [spec_l7Next.l1] at h⟩
 | k + 1=>by
  obtain ⟨ih0,ih1⟩:=spec_l7Next.mono_l k
  refine ⟨?_,?_⟩
  ·intro y0 y1 y2 y3 y4
   unfold spec_l7Next.l0
   repeat' first
   | (with_reducible exact ih0 _ _ _ _ _)
   | (with_reducible exact ih1 _ _ _ _ _ _ _)
   | (with_reducible exact LeO.refl _)
   | (with_reducible exact LeO.none _)
   | (with_reducible refine LeO.ite ?_ ?_)
   | (with_reducible refine LeO.bind ?_ (fun _=>?_))
   | exact ih0 _ _ _ _ _
   | exact ih1 _ _ _ _ _ _ _
   | exact LeO.none _
   | refine LeO.ite ?_ ?_
   | refine LeO.bind ?_ (fun _=>?_)
  ·intro y0 y1 y2 y3 y4 y5 y6
   unfold spec_l7Next.l1
   repeat' first
   | (with_reducible exact ih0 _ _ _ _ _)
   | (with_reducible exact ih1 _ _ _ _ _ _ _)
   | (with_reducible exact LeO.refl _)
   | (with_reducible exact LeO.none _)
   | (with_reducible refine LeO.ite ?_ ?_)
   | (with_reducible refine LeO.bind ?_ (fun _=>?_))
   | exact ih0 _ _ _ _ _
   | exact ih1 _ _ _ _ _ _ _
   | exact LeO.none _
   | refine LeO.ite ?_ ?_
   | refine LeO.bind ?_ (fun _=>?_)
theorem spec_l7Next.mono:∀ a0 a1 a2 a3 k,LeO (spec_l7Next.f k a0 a1 a2 a3) (spec_l7Next.f (k + 1) a0 a1 a2 a3):=by
 intro a0 a1 a2 a3 k
 obtain ⟨ih0,ih1⟩:=spec_l7Next.mono_l k
 unfold spec_l7Next.f
 repeat' first
   | (with_reducible exact ih0 _ _ _ _ _)
   | (with_reducible exact ih1 _ _ _ _ _ _ _)
   | (with_reducible exact LeO.refl _)
   | (with_reducible exact LeO.none _)
   | (with_reducible refine LeO.ite ?_ ?_)
   | (with_reducible refine LeO.bind ?_ (fun _=>?_))
   | exact ih0 _ _ _ _ _
   | exact ih1 _ _ _ _ _ _ _
   | exact LeO.none _
   | refine LeO.ite ?_ ?_
   | refine LeO.bind ?_ (fun _=>?_)
set_option maxHeartbeats 8000000 in
set_option maxRecDepth 100000 in
theorem spec_l7Next.calls (k:Nat) (A0:Option Addr) (c0:Nat) (l0:List (List Bool)) (A1:Option Addr) (c1:Nat) (l1:List Int) (A2:Option Addr) (c2:Nat) (l2:List Int) (a3:Int) (r:Int) (w:World) (hr0:Kd.C (Kd.slice 4 Kd.bool) w A0 l0.length l0) (hc0:l0.length≤c0) (hr1:Kd.C (Kd.int .i64) w A1 l1.length l1) (hc1:l1.length≤c1) (hr2:Kd.C (Kd.int .i64) w A2 l2.length l2) (hc2:l2.length≤c2) (h:spec_l7Next.f k l0 l1 l2 a3=some r) :
  Calls Try.prog 109 #[.slice A0 l0.length c0,.slice A1 l1.length c1,.slice A2 l2.length c2,.int .i64 a3] w fun e w'=>e=.returned (.int .i64 r)∧Drawn0 w w':=by
 have HR0:=Aside0.mk hr0
 have HC0:=Aside0.mk hc0
 clear hr0 hc0
 have HR1:=Aside0.mk hr1
 have HC1:=Aside0.mk hc1
 clear hr1 hc1
 have HR2:=Aside0.mk hr2
 have HC2:=Aside0.mk hc2
 clear hr2 hc2
 have H:(spec_l7Next.l0 k l0 l1 l2 a3 0)=some r:=h
 clear h
 have H':=Aside0.mk H
 clear H
 go_enter Try.func109,Try.ntmps109
 go_wp2
 repeat (go_quiet (fail);try go_wp2)
 go_loopg [9] k (fun kq v9 w'=>∃ (x9_1:Int),v9=.int .i64 x9_1∧Aside0 (spec_l7Next.l0 kq l0 l1 l2 a3 x9_1=some r)∧Aside0 (kq≤k)∧Drawn0 w w')
 case atStart=>exact ⟨(0),zo,H',⟨Nat.le_refl _⟩,by repeat (first|exact Drawn0.refl _|apply Drawn0.step)⟩
 case round=>
  clear H'
  (try clear c1);(try clear c2);(try clear p2)
  obtain ⟨x9_1,rfl,HA,HK1,⟨m1,rfl⟩⟩:=hrel
  cases gk with
  | zero=>exact absurd HA.out (by simp [spec_l7Next.l0])
  | succ k1=>
   have H:=HA.out
   clear HA
   simp only [spec_l7Next.l0] at H
   by_cases c5:x9_1<(l1.length:Int)
   ·rw [if_pos c5] at H
    have c5b0:decide (x9_1<(l1.length:Int))=true:=decide_eq_true c5
    clear c5
    by_cases c6:0≤x9_1
    ·rw [if_pos c6] at H
     have c6b0:decide (0≤x9_1)=true:=decide_eq_true c6
     clear c6
     by_cases c7:0≤(rd l1 x9_1)
     ·rw [if_pos c7] at H
      have c7b0:decide (0≤(rd l1 x9_1))=true:=decide_eq_true c7
      clear c7
      by_cases c8:(rd l1 x9_1)<(l2.length:Int)
      ·rw [if_pos c8] at H
       have c8b0:decide ((rd l1 x9_1)<(l2.length:Int))=true:=decide_eq_true c8
       clear c8
       by_cases c9:(rd l2 (rd l1 x9_1))≥0
       ·rw [if_pos c9] at H
        have c9b0:decide (0≤(rd l2 (rd l1 x9_1)))=true:=decide_eq_true c9
        clear c9
        have H':=Aside0.mk H
        clear H
        have p155:0≤(x9_1:Int):=of_decide_eq_true za
        have q155:x9_1<(l1.length:Int):=of_decide_eq_true za
        obtain ⟨ad155,e155,hx155_0⟩:=Kd.at_int HR1.out x9_1 p155 q155
        cases e155
        replace p155:=eq_true p155
        replace q155:=eq_true q155
        have p156:0≤((rd l1 x9_1):Int):=of_decide_eq_true za
        have q156:(rd l1 x9_1)<(l2.length:Int):=of_decide_eq_true za
        obtain ⟨ad156,e156,hx156_0⟩:=Kd.at_int HR2.out (rd l1 x9_1) p156 q156
        cases e156
        replace p156:=eq_true p156
        replace q156:=eq_true q156
        go_wp2
        repeat (go_quiet (fail);try go_wp2)
        go_roundg k1
        case measure=>have:=HK1.out;omega
        case rel=>exact ⟨(wrap64 (x9_1 + 1)),zo,H',⟨by have:=HK1.out;omega⟩,by repeat (first|exact Drawn0.refl _|apply Drawn0.step)⟩
       ·rw [if_neg c9] at H
        have c9b0:decide (0≤(rd l2 (rd l1 x9_1)))=false:=decide_eq_false c9
        clear c9
        have H':=Aside0.mk H
        clear H
        have p155:0≤(x9_1:Int):=of_decide_eq_true za
        have q155:x9_1<(l1.length:Int):=of_decide_eq_true za
        obtain ⟨ad155,e155,hx155_0⟩:=Kd.at_int HR1.out x9_1 p155 q155
        cases e155
        replace p155:=eq_true p155
        replace q155:=eq_true q155
        have p156:0≤((rd l1 x9_1):Int):=of_decide_eq_true za
        have q156:(rd l1 x9_1)<(l2.length:Int):=of_decide_eq_true za
        obtain ⟨ad156,e156,hx156_0⟩:=Kd.at_int HR2.out (rd l1 x9_1) p156 q156
        cases e156
        replace p156:=eq_true p156
        replace q156:=eq_true q156
        go_wp2
        repeat (go_quiet (fail);try go_wp2)
        go_loopg [10,11] k1 (fun kq v10 v11 w'=>∃ (x10_2:Bool) (x11_2:Int),v10=.bool x10_2∧v11=.int .i64 x11_2∧Aside0 (spec_l7Next.l1 kq l0 l1 l2 a3 x9_1 x10_2 x11_2=some r)∧Aside0 (kq≤k1)∧Drawn0 w w')
        case atStart=>exact ⟨(true),(0),zo,zo,H',⟨Nat.le_refl _⟩,by repeat (first|exact Drawn0.refl _|apply Drawn0.step)⟩
        case round=>
         clear H'
         (try clear c1);(try clear p1);(try clear q1);(try clear hx1);(try clear c2);(try clear p2);(try clear c5);(try clear c5b0);(try clear c6);(try clear c6b0);(try clear p6);(try clear c7);(try clear c7b0);(try clear c8);(try clear c8b0);(try clear c9);(try clear c9b0);(try clear hx155_0);(try clear hx156_0);(try clear p155);(try clear p156);(try clear q155);(try clear q156)
         obtain ⟨x10_2,x11_2,rfl,rfl,HA,HK2,⟨m2,rfl⟩⟩:=hrel
         cases gk with
         | zero=>exact absurd HA.out (by simp [spec_l7Next.l1])
         | succ k2=>
          have H:=HA.out
          clear HA
          simp only [spec_l7Next.l1] at H
          by_cases c10:x11_2<(l2.length:Int)
          ·rw [if_pos c10] at H
           have c10b0:decide (x11_2<(l2.length:Int))=true:=decide_eq_true c10
           clear c10
           by_cases c11:0≤x11_2
           ·rw [if_pos c11] at H
            have c11b0:decide (0≤x11_2)=true:=decide_eq_true c11
            clear c11
            by_cases c12:x11_2<(l0.length:Int)
            ·rw [if_pos c12] at H
             have c12b0:decide (x11_2<(l0.length:Int))=true:=decide_eq_true c12
             clear c12
             by_cases c13:0≤x9_1
             ·rw [if_pos c13] at H
              have c13b0:decide (0≤x9_1)=true:=decide_eq_true c13
              clear c13
              by_cases c14:x9_1<(l1.length:Int)
              ·rw [if_pos c14] at H
               have c14b0:decide (x9_1<(l1.length:Int))=true:=decide_eq_true c14
               clear c14
               by_cases c15:0≤(rd l1 x9_1)
               ·rw [if_pos c15] at H
                have c15b0:decide (0≤(rd l1 x9_1))=true:=decide_eq_true c15
                clear c15
                by_cases c16:(rd l1 x9_1)<((rd_L5 l0 x11_2).length:Int)
                ·rw [if_pos c16] at H
                 have c16b0:decide ((rd l1 x9_1)<((rd_L5 l0 x11_2).length:Int))=true:=decide_eq_true c16
                 clear c16
                 obtain ⟨bq17,hbq17⟩:∃ b_:Bool,b_=(rdOf false (rd_L5 l0 x11_2) (rd l1 x9_1)):=⟨_,rfl⟩
                 replace H:(if bq17=true then (if (rd l2 x11_2)<0 then (spec_l7Next.l1 k2 l0 l1 l2 a3 x9_1 false (wrap64 (x11_2 + 1))) else (if (rd l2 x11_2)>a3 then (spec_l7Next.l1 k2 l0 l1 l2 a3 x9_1 false (wrap64 (x11_2 + 1))) else (spec_l7Next.l1 k2 l0 l1 l2 a3 x9_1 x10_2 (wrap64 (x11_2 + 1))))) else (spec_l7Next.l1 k2 l0 l1 l2 a3 x9_1 x10_2 (wrap64 (x11_2 + 1))))=some r:=by rw [←hbq17] at H;exact H
                 have Nbq17:=Aside0.mk hbq17
                 clear hbq17
                 by_cases c18:bq17=true
                 ·subst c18
                  have H1:(if (rd l2 x11_2)<0 then (spec_l7Next.l1 k2 l0 l1 l2 a3 x9_1 false (wrap64 (x11_2 + 1))) else (if (rd l2 x11_2)>a3 then (spec_l7Next.l1 k2 l0 l1 l2 a3 x9_1 false (wrap64 (x11_2 + 1))) else (spec_l7Next.l1 k2 l0 l1 l2 a3 x9_1 x10_2 (wrap64 (x11_2 + 1)))))=some r:=by rw [if_pos rfl] at H;exact H
                  clear H
                  have H:=H1
                  clear H1
                  by_cases c19:(rd l2 x11_2)<0
                  ·rw [if_pos c19] at H
                   have c19b0:decide ((rd l2 x11_2)<0)=true:=decide_eq_true c19
                   clear c19
                   have H':=Aside0.mk H
                   clear H
                   have p157:0≤(x11_2:Int):=of_decide_eq_true za
                   have q157:x11_2<(l0.length:Int):=of_decide_eq_true za
                   obtain ⟨ad157,A157_0,c157_0,e157,hx157_0,hl157_0,hi157_0⟩:=at_L5 HR0.out x11_2 p157 q157
                   cases e157
                   have HR157_0:=Aside0.mk hi157_0
                   have HC157_0:=Aside0.mk hl157_0
                   clear hi157_0 hl157_0
                   replace p157:=eq_true p157
                   replace q157:=eq_true q157
                   have p158:0≤(x9_1:Int):=of_decide_eq_true za
                   have q158:x9_1<(l1.length:Int):=of_decide_eq_true za
                   obtain ⟨ad158,e158,hx158_0⟩:=Kd.at_int HR1.out x9_1 p158 q158
                   obtain rfl:ad155=ad158:=(by injection e158)
                   replace p158:=eq_true p158
                   replace q158:=eq_true q158
                   have p159:0≤((rd l1 x9_1):Int):=of_decide_eq_true za
                   have q159:(rd l1 x9_1)<((rd_L5 l0 x11_2).length:Int):=of_decide_eq_true za
                   obtain ⟨ad159,e159,hx159_0⟩:=Kd.at_bool HR157_0.out (rd l1 x9_1) p159 q159
                   (try rw [←Nbq17.out] at hx159_0)
                   cases e159
                   replace p159:=eq_true p159
                   replace q159:=eq_true q159
                   have p160:0≤(x11_2:Int):=of_decide_eq_true za
                   have q160:x11_2<(l2.length:Int):=of_decide_eq_true za
                   obtain ⟨ad160,e160,hx160_0⟩:=Kd.at_int HR2.out x11_2 p160 q160
                   obtain rfl:ad156=ad160:=(by injection e160)
                   replace p160:=eq_true p160
                   replace q160:=eq_true q160
                   go_wp2
                   repeat (go_quiet (fail);try go_wp2)
                   go_roundg k2
                   case measure=>have:=HK1.out;have:=HK2.out;omega
                   case rel=>exact ⟨(false),(wrap64 (x11_2 + 1)),zo,zo,H',⟨by have:=HK1.out;have:=HK2.out;omega⟩,by repeat (first|exact Drawn0.refl _|apply Drawn0.step)⟩
                  ·rw [if_neg c19] at H
                   have c19b0:decide ((rd l2 x11_2)<0)=false:=decide_eq_false c19
                   clear c19
                   by_cases c20:(rd l2 x11_2)>a3
                   ·rw [if_pos c20] at H
                    have c20b0:decide (a3<(rd l2 x11_2))=true:=decide_eq_true c20
                    clear c20
                    have H':=Aside0.mk H
                    clear H
                    have p157:0≤(x11_2:Int):=of_decide_eq_true za
                    have q157:x11_2<(l0.length:Int):=of_decide_eq_true za
                    obtain ⟨ad157,A157_0,c157_0,e157,hx157_0,hl157_0,hi157_0⟩:=at_L5 HR0.out x11_2 p157 q157
                    cases e157
                    have HR157_0:=Aside0.mk hi157_0
                    have HC157_0:=Aside0.mk hl157_0
                    clear hi157_0 hl157_0
                    replace p157:=eq_true p157
                    replace q157:=eq_true q157
                    have p158:0≤(x9_1:Int):=of_decide_eq_true za
                    have q158:x9_1<(l1.length:Int):=of_decide_eq_true za
                    obtain ⟨ad158,e158,hx158_0⟩:=Kd.at_int HR1.out x9_1 p158 q158
                    obtain rfl:ad155=ad158:=(by injection e158)
                    replace p158:=eq_true p158
                    replace q158:=eq_true q158
                    have p159:0≤((rd l1 x9_1):Int):=of_decide_eq_true za
                    have q159:(rd l1 x9_1)<((rd_L5 l0 x11_2).length:Int):=of_decide_eq_true za
                    obtain ⟨ad159,e159,hx159_0⟩:=Kd.at_bool HR157_0.out (rd l1 x9_1) p159 q159
                    (try rw [←Nbq17.out] at hx159_0)
                    cases e159
                    replace p159:=eq_true p159
                    replace q159:=eq_true q159
                    have p160:0≤(x11_2:Int):=of_decide_eq_true za
                    have q160:x11_2<(l2.length:Int):=of_decide_eq_true za
                    obtain ⟨ad160,e160,hx160_0⟩:=Kd.at_int HR2.out x11_2 p160 q160
                    obtain rfl:ad156=ad160:=(by injection e160)
                    replace p160:=eq_true p160
                    replace q160:=eq_true q160
                    have p161:0≤(x11_2:Int):=of_decide_eq_true za
                    have q161:x11_2<(l2.length:Int):=of_decide_eq_true za
                    obtain ⟨ad161,e161,hx161_0⟩:=Kd.at_int HR2.out x11_2 p161 q161
                    obtain rfl:ad156=ad161:=(by injection e161)
                    replace p161:=eq_true p161
                    replace q161:=eq_true q161
                    go_wp2
                    repeat (go_quiet (fail);try go_wp2)
                    go_roundg k2
                    case measure=>have:=HK1.out;have:=HK2.out;omega
                    case rel=>exact ⟨(false),(wrap64 (x11_2 + 1)),zo,zo,H',⟨by have:=HK1.out;have:=HK2.out;omega⟩,by repeat (first|exact Drawn0.refl _|apply Drawn0.step)⟩
                   ·rw [if_neg c20] at H
                    have c20b0:decide (a3<(rd l2 x11_2))=false:=decide_eq_false c20
                    clear c20
                    have H':=Aside0.mk H
                    clear H
                    have p157:0≤(x11_2:Int):=of_decide_eq_true za
                    have q157:x11_2<(l0.length:Int):=of_decide_eq_true za
                    obtain ⟨ad157,A157_0,c157_0,e157,hx157_0,hl157_0,hi157_0⟩:=at_L5 HR0.out x11_2 p157 q157
                    cases e157
                    have HR157_0:=Aside0.mk hi157_0
                    have HC157_0:=Aside0.mk hl157_0
                    clear hi157_0 hl157_0
                    replace p157:=eq_true p157
                    replace q157:=eq_true q157
                    have p158:0≤(x9_1:Int):=of_decide_eq_true za
                    have q158:x9_1<(l1.length:Int):=of_decide_eq_true za
                    obtain ⟨ad158,e158,hx158_0⟩:=Kd.at_int HR1.out x9_1 p158 q158
                    obtain rfl:ad155=ad158:=(by injection e158)
                    replace p158:=eq_true p158
                    replace q158:=eq_true q158
                    have p159:0≤((rd l1 x9_1):Int):=of_decide_eq_true za
                    have q159:(rd l1 x9_1)<((rd_L5 l0 x11_2).length:Int):=of_decide_eq_true za
                    obtain ⟨ad159,e159,hx159_0⟩:=Kd.at_bool HR157_0.out (rd l1 x9_1) p159 q159
                    (try rw [←Nbq17.out] at hx159_0)
                    cases e159
                    replace p159:=eq_true p159
                    replace q159:=eq_true q159
                    have p160:0≤(x11_2:Int):=of_decide_eq_true za
                    have q160:x11_2<(l2.length:Int):=of_decide_eq_true za
                    obtain ⟨ad160,e160,hx160_0⟩:=Kd.at_int HR2.out x11_2 p160 q160
                    obtain rfl:ad156=ad160:=(by injection e160)
                    replace p160:=eq_true p160
                    replace q160:=eq_true q160
                    have p161:0≤(x11_2:Int):=of_decide_eq_true za
                    have q161:x11_2<(l2.length:Int):=of_decide_eq_true za
                    obtain ⟨ad161,e161,hx161_0⟩:=Kd.at_int HR2.out x11_2 p161 q161
                    obtain rfl:ad156=ad161:=(by injection e161)
                    replace p161:=eq_true p161
                    replace q161:=eq_true q161
                    go_wp2
                    repeat (go_quiet (fail);try go_wp2)
                    go_roundg k2
                    case measure=>have:=HK1.out;have:=HK2.out;omega
                    case rel=>exact ⟨(x10_2),(wrap64 (x11_2 + 1)),zo,zo,H',⟨by have:=HK1.out;have:=HK2.out;omega⟩,by repeat (first|exact Drawn0.refl _|apply Drawn0.step)⟩
                 ·replace c18:=Bool.eq_false_iff.mpr c18
                  subst c18
                  have H1:(spec_l7Next.l1 k2 l0 l1 l2 a3 x9_1 x10_2 (wrap64 (x11_2 + 1)))=some r:=by rw [if_neg (show ¬ (false=true) by decide)] at H;exact H
                  clear H
                  have H:=H1
                  clear H1
                  have H':=Aside0.mk H
                  clear H
                  have p157:0≤(x11_2:Int):=of_decide_eq_true za
                  have q157:x11_2<(l0.length:Int):=of_decide_eq_true za
                  obtain ⟨ad157,A157_0,c157_0,e157,hx157_0,hl157_0,hi157_0⟩:=at_L5 HR0.out x11_2 p157 q157
                  cases e157
                  have HR157_0:=Aside0.mk hi157_0
                  have HC157_0:=Aside0.mk hl157_0
                  clear hi157_0 hl157_0
                  replace p157:=eq_true p157
                  replace q157:=eq_true q157
                  have p158:0≤(x9_1:Int):=of_decide_eq_true za
                  have q158:x9_1<(l1.length:Int):=of_decide_eq_true za
                  obtain ⟨ad158,e158,hx158_0⟩:=Kd.at_int HR1.out x9_1 p158 q158
                  obtain rfl:ad155=ad158:=(by injection e158)
                  replace p158:=eq_true p158
                  replace q158:=eq_true q158
                  have p159:0≤((rd l1 x9_1):Int):=of_decide_eq_true za
                  have q159:(rd l1 x9_1)<((rd_L5 l0 x11_2).length:Int):=of_decide_eq_true za
                  obtain ⟨ad159,e159,hx159_0⟩:=Kd.at_bool HR157_0.out (rd l1 x9_1) p159 q159
                  (try rw [←Nbq17.out] at hx159_0)
                  cases e159
                  replace p159:=eq_true p159
                  replace q159:=eq_true q159
                  go_wp2
                  repeat (go_quiet (fail);try go_wp2)
                  go_roundg k2
                  case measure=>have:=HK1.out;have:=HK2.out;omega
                  case rel=>exact ⟨(x10_2),(wrap64 (x11_2 + 1)),zo,zo,H',⟨by have:=HK1.out;have:=HK2.out;omega⟩,by repeat (first|exact Drawn0.refl _|apply Drawn0.step)⟩
                ·rw [if_neg c16] at H
                 exact absurd H (by simp)
               ·rw [if_neg c15] at H
                exact absurd H (by simp)
              ·rw [if_neg c14] at H
               exact absurd H (by simp)
             ·rw [if_neg c13] at H
              exact absurd H (by simp)
            ·rw [if_neg c12] at H
             exact absurd H (by simp)
           ·rw [if_neg c11] at H
            exact absurd H (by simp)
          ·rw [if_neg c10] at H
           have c10b0:decide (x11_2<(l2.length:Int))=false:=decide_eq_false c10
           clear c10
           by_cases c21:x10_2=true
           ·subst c21
            have H1:(if 0≤x9_1 then (if x9_1<(l1.length:Int) then (some (rd l1 x9_1)) else (none)) else (none))=some r:=by rw [if_pos rfl] at H;exact H
            clear H
            have H:=H1
            clear H1
            by_cases c22:0≤x9_1
            ·rw [if_pos c22] at H
             have c22b0:decide (0≤x9_1)=true:=decide_eq_true c22
             clear c22
             by_cases c23:x9_1<(l1.length:Int)
             ·rw [if_pos c23] at H
              have c23b0:decide (x9_1<(l1.length:Int))=true:=decide_eq_true c23
              clear c23
              obtain rfl:=Option.some.inj H
              have p162:0≤(x9_1:Int):=of_decide_eq_true za
              have q162:x9_1<(l1.length:Int):=of_decide_eq_true za
              obtain ⟨ad162,e162,hx162_0⟩:=Kd.at_int HR1.out x9_1 p162 q162
              obtain rfl:ad155=ad162:=(by injection e162)
              replace p162:=eq_true p162
              replace q162:=eq_true q162
              go_wp2
              repeat (go_quiet (fail);try go_wp2)
              go_ret
              exact ⟨by first|rfl|(simp;done)|(simp [*];done),by repeat (first|exact Drawn0.refl _|apply Drawn0.step)⟩
             ·rw [if_neg c23] at H
              exact absurd H (by simp)
            ·rw [if_neg c22] at H
             exact absurd H (by simp)
           ·replace c21:=Bool.eq_false_iff.mpr c21
            subst c21
            have H1:(spec_l7Next.l0 k2 l0 l1 l2 a3 (wrap64 (x9_1 + 1)))=some r:=by rw [if_neg (show ¬ (false=true) by decide)] at H;exact H
            clear H
            have H:=H1
            clear H1
            have H':=Aside0.mk H
            clear H
            go_wp2
            repeat (go_quiet (fail);try go_wp2)
            go_roundg k2
            case measure=>have:=HK1.out;have:=HK2.out;omega
            case rel=>exact ⟨(wrap64 (x9_1 + 1)),zo,H',⟨by have:=HK1.out;have:=HK2.out;omega⟩,by repeat (first|exact Drawn0.refl _|apply Drawn0.step)⟩
      ·rw [if_neg c8] at H
       exact absurd H (by simp)
     ·rw [if_neg c7] at H
      exact absurd H (by simp)
    ·rw [if_neg c6] at H
     exact absurd H (by simp)
   ·rw [if_neg c5] at H
    have c5b0:decide (x9_1<(l1.length:Int))=false:=decide_eq_false c5
    clear c5
    obtain rfl:=Option.some.inj H
    go_wp2
    repeat (go_quiet (fail);try go_wp2)
    go_ret
    exact ⟨by first|rfl|(simp;done)|(simp [*];done),by repeat (first|exact Drawn0.refl _|apply Drawn0.step)⟩

end Go.Proofs.Ytplbabjigikgjaa.XFnExactLongestFirst
-- minified
