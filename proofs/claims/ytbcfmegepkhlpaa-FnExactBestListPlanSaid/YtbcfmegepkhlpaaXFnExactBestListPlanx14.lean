-- Written by a program of this session (the kit's print, widened). Proved here: what each function answers, for the arguments that its contract names.
import Derived.Test.YtbcfmegepkhlpaaXFnExactBestListPlanx0
import Derived.Test.YtbcfmegepkhlpaaXFnExactBestListPlanx10
import Derived.Test.YtbcfmegepkhlpaaXFnExactBestListPlanx12
import Derived.Test.YtbcfmegepkhlpaaXFnExactBestListPlanx13
namespace Go.Proofs.Ytbcfmegepkhlpaa.XFnExactBestListPlan
open Go.RowKit Go.Proofs.YtbcfmegepkhlpaaW.PrintWords Go.Proofs.YtbcfmegepkhlpaaW.PrintLast Go.Proofs.YtbcfmegepkhlpaaW.PrintMore
attribute [local go_sem] max2_int min2_int max_two min_two max_three min_three max_four min_four   -- for this text's walks alone
attribute [local go_sem] idxA_72_0 idxA_72_1 fldS_96_0 fldS_96_1 fldS_96_2 fldS_111_0 fldS_111_1 fldS_111_2
set_option linter.unusedVariables false
set_option linter.unusedSimpArgs false

/-! ### spec_l4Good: function 56 -/
def spec_l4Good.l0:Nat→Int→List (List Bool)→Int→Option (Bool)
 | 0,_,_,_=>none
 | k + 1,x0,x5,x6=>if x6<x0 then (if 0≤x6 then (if x6<(x5.length:Int) then (if x6<((rd_L6 x5 x6).length:Int) then (if rdOf false (rd_L6 x5 x6) x6=true then (some false) else (spec_l4Good.l0 k x0 x5 (wrap64 (x6 + 1)))) else (none)) else (none)) else (none)) else (some true)
def spec_l4Good.f (k:Nat) (a0:Int) (l1:List (S72)):Option (Bool):=(spec_l4Pairs.f k a0 l1).bind fun t217=>(if t217=true then ((spec_l4Table.f k a0 l1).bind fun t218=>(spec_l4Good.l0 k a0 t218 0)) else (some false))
theorem spec_l4Good.mono_l:∀ k,(∀ y0 y1 y2,LeO (spec_l4Good.l0 k y0 y1 y2) (spec_l4Good.l0 (k + 1) y0 y1 y2))
 | 0=>fun _ _ _ r h=>by simp [spec_l4Good.l0] at h
 | k + 1=>by
  have ih0:=spec_l4Good.mono_l k
  ·intro y0 y1 y2
   unfold spec_l4Good.l0
   repeat' first
   | (with_reducible exact ih0 _ _ _)
   | (with_reducible exact spec_l4Pairs.mono _ _ _)
   | (with_reducible exact spec_l4Table.mono _ _ _)
   | (with_reducible exact LeO.refl _)
   | (with_reducible exact LeO.none _)
   | (with_reducible refine LeO.ite ?_ ?_)
   | (with_reducible refine LeO.bind ?_ (fun _=>?_))
   | exact ih0 _ _ _
   | exact spec_l4Pairs.mono _ _ _
   | exact spec_l4Table.mono _ _ _
   | exact LeO.none _
   | refine LeO.ite ?_ ?_
   | refine LeO.bind ?_ (fun _=>?_)
theorem spec_l4Good.mono:∀ a0 a1 k,LeO (spec_l4Good.f k a0 a1) (spec_l4Good.f (k + 1) a0 a1):=by
 intro a0 a1 k
 have ih0:=spec_l4Good.mono_l k
 unfold spec_l4Good.f
 repeat' first
   | (with_reducible exact ih0 _ _ _)
   | (with_reducible exact spec_l4Pairs.mono _ _ _)
   | (with_reducible exact spec_l4Table.mono _ _ _)
   | (with_reducible exact LeO.refl _)
   | (with_reducible exact LeO.none _)
   | (with_reducible refine LeO.ite ?_ ?_)
   | (with_reducible refine LeO.bind ?_ (fun _=>?_))
   | exact ih0 _ _ _
   | exact spec_l4Pairs.mono _ _ _
   | exact spec_l4Table.mono _ _ _
   | exact LeO.none _
   | refine LeO.ite ?_ ?_
   | refine LeO.bind ?_ (fun _=>?_)
set_option maxHeartbeats 8000000 in
set_option maxRecDepth 100000 in
theorem spec_l4Good.calls (k:Nat) (a0:Int) (A1:Option Addr) (c1:Nat) (l1:List (S72)) (r:Bool) (w:World) (hr1:Kd.C k72 w A1 l1.length l1) (hc1:l1.length≤c1) (h:spec_l4Good.f k a0 l1=some r) :
  Calls Try.prog 56 #[.int .i64 a0,.slice A1 l1.length c1] w fun e w'=>e=.returned (.bool r)∧Below w.heap.size w w':=by
 have HR1:=Aside0.mk hr1
 have HC1:=Aside0.mk hc1
 clear hr1 hc1
 have HB:=Aside0.mk (Below.refl w.heap.size w)
 have H:((spec_l4Pairs.f k a0 l1).bind fun t217=>(if t217=true then ((spec_l4Table.f k a0 l1).bind fun t218=>(spec_l4Good.l0 k a0 t218 0)) else (some false)))=some r:=h
 clear h
 replace H:=Option.bind_eq_some_iff.mp H
 obtain ⟨t217,A30,H⟩:=H
 replace H:(if t217=true then ((spec_l4Table.f k a0 l1).bind fun t218=>(spec_l4Good.l0 k a0 t218 0)) else (some false))=some r:=H
 have A3:=Aside0.mk A30
 clear A30
 by_cases c4:t217=true
 ·subst c4
  have H1:((spec_l4Table.f k a0 l1).bind fun t218=>(spec_l4Good.l0 k a0 t218 0))=some r:=by rw [if_pos rfl] at H;exact H
  clear H
  have H:=H1
  clear H1
  replace H:=Option.bind_eq_some_iff.mp H
  obtain ⟨t218,A50,H⟩:=H
  replace H:(spec_l4Good.l0 k a0 t218 0)=some r:=H
  have A5:=Aside0.mk A50
  clear A50
  have H':=Aside0.mk H
  clear H
  go_enter Try.func56,Try.ntmps56
  go_wp2_with (first|((with_reducible refine gate_callee (f:=106) rfl ?_);refine goesL_ (some 9) rfl rfl Try.func106 (by kernel_rfl) rfl #[.int .i64 a0,.slice A1 l1.length c1] rfl zl ?_;(with_reducible refine (spec_l4Pairs.calls k a0 _ _ l1 true _ ?side1 ?side2 A3.out).mono ?_);(case side1=>exact zC HR1.out);(case side2=>exact HC1.out);rintro e w6 ⟨rfl,hb⟩;refine ⟨_,rfl,?_⟩;have n0_:=Aside0.mk (below_step zb hb);clear HB;have HB:=n0_;clear n0_;(try clear hb);(try clear hb2);(try clear hk);(try clear hi))|((with_reducible refine gate_callee (f:=107) rfl ?_);refine goesL_ (some 13) rfl rfl Try.func107 (by kernel_rfl) rfl #[.int .i64 a0,.slice A1 l1.length c1] rfl zl ?_;(with_reducible refine (spec_l4Table.calls k a0 _ _ l1 t218 _ ?side1 ?side2 A5.out).mono ?_);(case side1=>exact zC (Kd.C_below HR1.out HB.out));(case side2=>exact HC1.out);rintro e w7 ⟨v219,rfl,ho0,hb⟩;refine ⟨_,rfl,?_⟩;have n0_:=Aside0.mk (Kd.S_lower ho0 (below_size zb));have n1_:=Aside0.mk (below_step zb hb);clear HB;have HO220:=n0_;have HB:=n1_;clear n0_ n1_;(try clear hb);(try clear hb2);(try clear hk);(try clear hi);(try clear ho0)))
  go_loopg [6] k (fun kq v6 w'=>∃ (x6_1:Int),v6=.int .i64 x6_1∧Aside0 (spec_l4Good.l0 kq a0 t218 x6_1=some r)∧Aside0 (kq≤k)∧Aside0 (Kd.S (Kd.slice 4 Kd.bool) 127 w' w.heap.size (fun _=>True) v219 t218)∧Aside0 (Below w.heap.size w w'))
  case atStart=>exact ⟨(0),zo,H',⟨Nat.le_refl _⟩,⟨zS HO220.out⟩,⟨zb⟩⟩
  case round=>
   clear H'
   (try clear c1);(try clear p2);(try clear c4);(try clear c5)
   obtain ⟨x6_1,rfl,HA,HK1,HO_5,HB⟩:=hrel
   cases gk with
   | zero=>exact absurd HA.out (by simp [spec_l4Good.l0])
   | succ k1=>
    have H:=HA.out
    clear HA
    simp only [spec_l4Good.l0] at H
    by_cases c8:x6_1<a0
    ·rw [if_pos c8] at H
     have c8b0:decide (x6_1<a0)=true:=decide_eq_true c8
     clear c8
     by_cases c9:0≤x6_1
     ·rw [if_pos c9] at H
      have c9b0:decide (0≤x6_1)=true:=decide_eq_true c9
      clear c9
      by_cases c10:x6_1<(t218.length:Int)
      ·rw [if_pos c10] at H
       have c10b0:decide (x6_1<(t218.length:Int))=true:=decide_eq_true c10
       clear c10
       by_cases c11:x6_1<((rd_L6 t218 x6_1).length:Int)
       ·rw [if_pos c11] at H
        have c11b0:decide (x6_1<((rd_L6 t218 x6_1).length:Int))=true:=decide_eq_true c11
        clear c11
        obtain ⟨bq12,hbq12⟩:∃ b_:Bool,b_=(rdOf false (rd_L6 t218 x6_1) x6_1):=⟨_,rfl⟩
        replace H:(if bq12=true then (some false) else (spec_l4Good.l0 k1 a0 t218 (wrap64 (x6_1 + 1))))=some r:=by rw [←hbq12] at H;exact H
        have Nbq12:=Aside0.mk hbq12
        clear hbq12
        by_cases c13:bq12=true
        ·subst c13
         have H1:(some false)=some r:=by rw [if_pos rfl] at H;exact H
         clear H
         have H:=H1
         clear H1
         obtain rfl:=Option.some.inj H
         obtain ⟨Ao14,co14,eo14⟩:=Kd.S_slice HO_5.out
         subst eo14
         have p221:0≤(x6_1:Int):=of_decide_eq_true za
         have q221:x6_1<(t218.length:Int):=of_decide_eq_true za
         obtain ⟨ad221,A221_0,c221_0,e221,hx221_0,hl221_0,hi221_0⟩:=at_L6 (Kd.S_reads' HO_5.out).2.2 x6_1 p221 q221
         cases e221
         obtain ⟨ce221,hce221,hMe221,hcc221⟩:=Kd.S_get HO_5.out [] x6_1 p221 (by first|exact q221|exact of_decide_eq_true za|(have e_:=(Kd.S_reads' HO_5.out).1;omega))
         obtain ⟨ve221_0,rfl,ge221_0⟩:=hMe221
         have hv221_0:=hcc221 0 _ rfl
         rw [Nat.add_zero,show ((Kd.slice 4 Kd.bool)).sz=1 from rfl,Nat.mul_one] at hv221_0
         replace hv221_0:=Option.some.inj (hv221_0.symm.trans hx221_0)
         rw [hv221_0] at ge221_0
         have HL221_0:=Aside0.mk (show Kd.R Kd.bool 4 _ _ _ _ (rd_L6 t218 x6_1) from ge221_0)
         clear hv221_0 ge221_0
         clear hcc221 hce221
         have HR221_0:=Aside0.mk hi221_0
         have HC221_0:=Aside0.mk hl221_0
         clear hi221_0 hl221_0
         replace p221:=eq_true p221
         replace q221:=eq_true q221
         have p222:0≤(x6_1:Int):=of_decide_eq_true za
         have q222:x6_1<((rd_L6 t218 x6_1).length:Int):=of_decide_eq_true za
         obtain ⟨ad222,e222,hx222_0⟩:=Kd.at_bool (by repeat (first|(with_reducible exact HR221_0.out)|(with_reducible refine Kd.C_alloc ?_ _)|(with_reducible refine Kd.C_drewN ?_ _)|(with_reducible refine Kd.C_drew ?_)|exact HR221_0.out)) x6_1 p222 q222
         (try rw [←Nbq12.out] at hx222_0)
         cases e222
         replace p222:=eq_true p222
         replace q222:=eq_true q222
         go_wp2
         go_ret
         exact ⟨by first|rfl|(simp [errW_none,errW_some] <;> rfl)|(simp [*,errW_none,errW_some] <;> rfl),zb⟩
        ·replace c13:=Bool.eq_false_iff.mpr c13
         subst c13
         have H1:(spec_l4Good.l0 k1 a0 t218 (wrap64 (x6_1 + 1)))=some r:=by rw [if_neg (show ¬ (false=true) by decide)] at H;exact H
         clear H
         have H:=H1
         clear H1
         have H':=Aside0.mk H
         clear H
         obtain ⟨Ao15,co15,eo15⟩:=Kd.S_slice HO_5.out
         subst eo15
         have p221:0≤(x6_1:Int):=of_decide_eq_true za
         have q221:x6_1<(t218.length:Int):=of_decide_eq_true za
         obtain ⟨ad221,A221_0,c221_0,e221,hx221_0,hl221_0,hi221_0⟩:=at_L6 (Kd.S_reads' HO_5.out).2.2 x6_1 p221 q221
         cases e221
         obtain ⟨ce221,hce221,hMe221,hcc221⟩:=Kd.S_get HO_5.out [] x6_1 p221 (by first|exact q221|exact of_decide_eq_true za|(have e_:=(Kd.S_reads' HO_5.out).1;omega))
         obtain ⟨ve221_0,rfl,ge221_0⟩:=hMe221
         have hv221_0:=hcc221 0 _ rfl
         rw [Nat.add_zero,show ((Kd.slice 4 Kd.bool)).sz=1 from rfl,Nat.mul_one] at hv221_0
         replace hv221_0:=Option.some.inj (hv221_0.symm.trans hx221_0)
         rw [hv221_0] at ge221_0
         have HL221_0:=Aside0.mk (show Kd.R Kd.bool 4 _ _ _ _ (rd_L6 t218 x6_1) from ge221_0)
         clear hv221_0 ge221_0
         clear hcc221 hce221
         have HR221_0:=Aside0.mk hi221_0
         have HC221_0:=Aside0.mk hl221_0
         clear hi221_0 hl221_0
         replace p221:=eq_true p221
         replace q221:=eq_true q221
         have p222:0≤(x6_1:Int):=of_decide_eq_true za
         have q222:x6_1<((rd_L6 t218 x6_1).length:Int):=of_decide_eq_true za
         obtain ⟨ad222,e222,hx222_0⟩:=Kd.at_bool (by repeat (first|(with_reducible exact HR221_0.out)|(with_reducible refine Kd.C_alloc ?_ _)|(with_reducible refine Kd.C_drewN ?_ _)|(with_reducible refine Kd.C_drew ?_)|exact HR221_0.out)) x6_1 p222 q222
         (try rw [←Nbq12.out] at hx222_0)
         cases e222
         replace p222:=eq_true p222
         replace q222:=eq_true q222
         go_wp2
         go_roundg k1
         case measure=>have:=HK1.out;omega
         case rel=>exact ⟨(wrap64 (x6_1 + 1)),zo,H',⟨by have:=HK1.out;omega⟩,⟨zS HO_5.out⟩,⟨zb⟩⟩
       ·rw [if_neg c11] at H
        exact absurd H (by simp)
      ·rw [if_neg c10] at H
       exact absurd H (by simp)
     ·rw [if_neg c9] at H
      exact absurd H (by simp)
    ·rw [if_neg c8] at H
     have c8b0:decide (x6_1<a0)=false:=decide_eq_false c8
     clear c8
     obtain rfl:=Option.some.inj H
     go_wp2
     go_ret
     exact ⟨by first|rfl|(simp [errW_none,errW_some] <;> rfl)|(simp [*,errW_none,errW_some] <;> rfl),zb⟩
 ·replace c4:=Bool.eq_false_iff.mpr c4
  subst c4
  have H1:(some false)=some r:=by rw [if_neg (show ¬ (false=true) by decide)] at H;exact H
  clear H
  have H:=H1
  clear H1
  obtain rfl:=Option.some.inj H
  go_enter Try.func56,Try.ntmps56
  go_wp2_with (first|((with_reducible refine gate_callee (f:=106) rfl ?_);refine goesL_ (some 9) rfl rfl Try.func106 (by kernel_rfl) rfl #[.int .i64 a0,.slice A1 l1.length c1] rfl zl ?_;(with_reducible refine (spec_l4Pairs.calls k a0 _ _ l1 false _ ?side1 ?side2 A3.out).mono ?_);(case side1=>exact zC HR1.out);(case side2=>exact HC1.out);rintro e w16 ⟨rfl,hb⟩;refine ⟨_,rfl,?_⟩;have n0_:=Aside0.mk (below_step zb hb);clear HB;have HB:=n0_;clear n0_;(try clear hb);(try clear hb2);(try clear hk);(try clear hi)))
  go_ret
  exact ⟨by first|rfl|(simp [errW_none,errW_some] <;> rfl)|(simp [*,errW_none,errW_some] <;> rfl),zb⟩

/-! ### spec_l2Job: function 148 -/
def spec_l2Job.f (a0_0:Int) (a0_1:Int) (a0_2:Int) (a0_3:Int):Option (Bool):=(spec_l1In.f a0_0 1 50).bind fun t224=>(if t224=true then ((spec_l1In.f a0_1 0 50).bind fun t225=>(if t225=true then ((spec_l1In.f a0_2 0 500).bind fun t226=>(if t226=true then ((spec_l1In.f a0_3 0 500).bind fun t227=>(some t227)) else (some false))) else (some false))) else (some false))
set_option maxHeartbeats 8000000 in
set_option maxRecDepth 100000 in
theorem spec_l2Job.calls (a0_0:Int) (a0_1:Int) (a0_2:Int) (a0_3:Int) (r:Bool) (w:World) (h:spec_l2Job.f a0_0 a0_1 a0_2 a0_3=some r) :
  Calls Try.prog 148 #[.agg #[.int .i64 a0_0,.int .i64 a0_1,.int .i64 a0_2,.int .i64 a0_3]] w fun e w'=>e=.returned (.bool r)∧Below w.heap.size w w':=by
 have hu76:=Try.underlying76
 have HB:=Aside0.mk (Below.refl w.heap.size w)
 have H:((spec_l1In.f a0_0 1 50).bind fun t224=>(if t224=true then ((spec_l1In.f a0_1 0 50).bind fun t225=>(if t225=true then ((spec_l1In.f a0_2 0 500).bind fun t226=>(if t226=true then ((spec_l1In.f a0_3 0 500).bind fun t227=>(some t227)) else (some false))) else (some false))) else (some false)))=some r:=h
 clear h
 replace H:=Option.bind_eq_some_iff.mp H
 obtain ⟨t224,A20,H⟩:=H
 replace H:(if t224=true then ((spec_l1In.f a0_1 0 50).bind fun t225=>(if t225=true then ((spec_l1In.f a0_2 0 500).bind fun t226=>(if t226=true then ((spec_l1In.f a0_3 0 500).bind fun t227=>(some t227)) else (some false))) else (some false))) else (some false))=some r:=H
 have A2:=Aside0.mk A20
 clear A20
 by_cases c3:t224=true
 ·subst c3
  have H1:((spec_l1In.f a0_1 0 50).bind fun t225=>(if t225=true then ((spec_l1In.f a0_2 0 500).bind fun t226=>(if t226=true then ((spec_l1In.f a0_3 0 500).bind fun t227=>(some t227)) else (some false))) else (some false)))=some r:=by rw [if_pos rfl] at H;exact H
  clear H
  have H:=H1
  clear H1
  replace H:=Option.bind_eq_some_iff.mp H
  obtain ⟨t225,A40,H⟩:=H
  replace H:(if t225=true then ((spec_l1In.f a0_2 0 500).bind fun t226=>(if t226=true then ((spec_l1In.f a0_3 0 500).bind fun t227=>(some t227)) else (some false))) else (some false))=some r:=H
  have A4:=Aside0.mk A40
  clear A40
  by_cases c5:t225=true
  ·subst c5
   have H1:((spec_l1In.f a0_2 0 500).bind fun t226=>(if t226=true then ((spec_l1In.f a0_3 0 500).bind fun t227=>(some t227)) else (some false)))=some r:=by rw [if_pos rfl] at H;exact H
   clear H
   have H:=H1
   clear H1
   replace H:=Option.bind_eq_some_iff.mp H
   obtain ⟨t226,A60,H⟩:=H
   replace H:(if t226=true then ((spec_l1In.f a0_3 0 500).bind fun t227=>(some t227)) else (some false))=some r:=H
   have A6:=Aside0.mk A60
   clear A60
   by_cases c7:t226=true
   ·subst c7
    have H1:((spec_l1In.f a0_3 0 500).bind fun t227=>(some t227))=some r:=by rw [if_pos rfl] at H;exact H
    clear H
    have H:=H1
    clear H1
    replace H:=Option.bind_eq_some_iff.mp H
    obtain ⟨t227,A80,H⟩:=H
    replace H:(some t227)=some r:=H
    have A8:=Aside0.mk A80
    clear A80
    obtain rfl:=Option.some.inj H
    go_enter Try.func148,Try.ntmps148
    go_wp2_with (first|((with_reducible refine gate_dst (N:=1) rfl ?_);refine box_event ?hg (N:=1) ?hd (cs:=#[.int .i64 a0_0,.int .i64 a0_1,.int .i64 a0_2,.int .i64 a0_3]) (t:=76) ?hr ?_;(case hd=>rfl);(case hg=>rfl);(case hr=>first|(go_simp;done)|(go_simp;rfl));intro gb223 hg w9 hbox hb;have n0_:=Aside0.mk (below_step zb hb);have n1_:=Aside0.mk (hbox);have n2_:=Aside0.mk ((by rw [hg];exact (below_size zb):w.heap.size≤gb223));have n3_:=Aside0.mk ((by rw [hg];exact (below_size zb):w.heap.size≤gb223));clear HB;have HB:=n0_;have BK223:=n1_;have GW223:=n2_;have GE223:=n3_;clear n0_ n1_ n2_ n3_;clear hb hbox hg;have hcz10_0:w9.cell? ⟨gb223,0,none⟩=some (.int .i64 a0_0):=(blk_cell BK223.out 0).trans rfl;have hcz10_1:w9.cell? ⟨gb223,1,none⟩=some (.int .i64 a0_1):=(blk_cell BK223.out 1).trans rfl;have hcz10_2:w9.cell? ⟨gb223,2,none⟩=some (.int .i64 a0_2):=(blk_cell BK223.out 2).trans rfl;have hcz10_3:w9.cell? ⟨gb223,3,none⟩=some (.int .i64 a0_3):=(blk_cell BK223.out 3).trans rfl;have hfz10_0:=blk_frozen BK223.out 0;have hfz10_1:=blk_frozen BK223.out 1;have hfz10_2:=blk_frozen BK223.out 2;have hfz10_3:=blk_frozen BK223.out 3)|((with_reducible refine gate_callee (f:=120) rfl ?_);refine goesL_ (some 5) rfl rfl Try.func120 (by kernel_rfl) rfl #[.int .i64 a0_0,.int .i64 1,.int .i64 50] rfl zl ?_;(with_reducible refine (spec_l1In.calls a0_0 1 50 true _ A2.out).mono ?_);rintro e w' ⟨rfl,⟨nd,rfl⟩⟩;refine ⟨_,rfl,?_⟩)|(go_at_call 120;(with_reducible refine (spec_l1In.calls a0_1 0 50 true _ A4.out).mono ?_);rintro e w' ⟨rfl,⟨nd,rfl⟩⟩)|(go_at_call 120;(with_reducible refine (spec_l1In.calls a0_2 0 500 true _ A6.out).mono ?_);rintro e w' ⟨rfl,⟨nd,rfl⟩⟩)|(go_at_call 120;(with_reducible refine (spec_l1In.calls a0_3 0 500 t227 _ A8.out).mono ?_);rintro e w' ⟨rfl,⟨nd,rfl⟩⟩))
    go_ret
    exact ⟨by first|rfl|(simp [errW_none,errW_some] <;> rfl)|(simp [*,errW_none,errW_some] <;> rfl),by repeat (first|(with_reducible first|exact HB.out|apply below_alloc|apply pw_below_drewN|apply below_drew1|refine below_set ?_ GE223.out)|exact HB.out)⟩
   ·replace c7:=Bool.eq_false_iff.mpr c7
    subst c7
    have H1:(some false)=some r:=by rw [if_neg (show ¬ (false=true) by decide)] at H;exact H
    clear H
    have H:=H1
    clear H1
    obtain rfl:=Option.some.inj H
    go_enter Try.func148,Try.ntmps148
    go_wp2_with (first|((with_reducible refine gate_dst (N:=1) rfl ?_);refine box_event ?hg (N:=1) ?hd (cs:=#[.int .i64 a0_0,.int .i64 a0_1,.int .i64 a0_2,.int .i64 a0_3]) (t:=76) ?hr ?_;(case hd=>rfl);(case hg=>rfl);(case hr=>first|(go_simp;done)|(go_simp;rfl));intro gb223 hg w11 hbox hb;have n0_:=Aside0.mk (below_step zb hb);have n1_:=Aside0.mk (hbox);have n2_:=Aside0.mk ((by rw [hg];exact (below_size zb):w.heap.size≤gb223));have n3_:=Aside0.mk ((by rw [hg];exact (below_size zb):w.heap.size≤gb223));clear HB;have HB:=n0_;have BK223:=n1_;have GW223:=n2_;have GE223:=n3_;clear n0_ n1_ n2_ n3_;clear hb hbox hg;have hcz12_0:w11.cell? ⟨gb223,0,none⟩=some (.int .i64 a0_0):=(blk_cell BK223.out 0).trans rfl;have hcz12_1:w11.cell? ⟨gb223,1,none⟩=some (.int .i64 a0_1):=(blk_cell BK223.out 1).trans rfl;have hcz12_2:w11.cell? ⟨gb223,2,none⟩=some (.int .i64 a0_2):=(blk_cell BK223.out 2).trans rfl;have hcz12_3:w11.cell? ⟨gb223,3,none⟩=some (.int .i64 a0_3):=(blk_cell BK223.out 3).trans rfl;have hfz12_0:=blk_frozen BK223.out 0;have hfz12_1:=blk_frozen BK223.out 1;have hfz12_2:=blk_frozen BK223.out 2;have hfz12_3:=blk_frozen BK223.out 3)|((with_reducible refine gate_callee (f:=120) rfl ?_);refine goesL_ (some 5) rfl rfl Try.func120 (by kernel_rfl) rfl #[.int .i64 a0_0,.int .i64 1,.int .i64 50] rfl zl ?_;(with_reducible refine (spec_l1In.calls a0_0 1 50 true _ A2.out).mono ?_);rintro e w' ⟨rfl,⟨nd,rfl⟩⟩;refine ⟨_,rfl,?_⟩)|(go_at_call 120;(with_reducible refine (spec_l1In.calls a0_1 0 50 true _ A4.out).mono ?_);rintro e w' ⟨rfl,⟨nd,rfl⟩⟩)|(go_at_call 120;(with_reducible refine (spec_l1In.calls a0_2 0 500 false _ A6.out).mono ?_);rintro e w' ⟨rfl,⟨nd,rfl⟩⟩))
    go_ret
    exact ⟨by first|rfl|(simp [errW_none,errW_some] <;> rfl)|(simp [*,errW_none,errW_some] <;> rfl),by repeat (first|(with_reducible first|exact HB.out|apply below_alloc|apply pw_below_drewN|apply below_drew1|refine below_set ?_ GE223.out)|exact HB.out)⟩
  ·replace c5:=Bool.eq_false_iff.mpr c5
   subst c5
   have H1:(some false)=some r:=by rw [if_neg (show ¬ (false=true) by decide)] at H;exact H
   clear H
   have H:=H1
   clear H1
   obtain rfl:=Option.some.inj H
   go_enter Try.func148,Try.ntmps148
   go_wp2_with (first|((with_reducible refine gate_dst (N:=1) rfl ?_);refine box_event ?hg (N:=1) ?hd (cs:=#[.int .i64 a0_0,.int .i64 a0_1,.int .i64 a0_2,.int .i64 a0_3]) (t:=76) ?hr ?_;(case hd=>rfl);(case hg=>rfl);(case hr=>first|(go_simp;done)|(go_simp;rfl));intro gb223 hg w13 hbox hb;have n0_:=Aside0.mk (below_step zb hb);have n1_:=Aside0.mk (hbox);have n2_:=Aside0.mk ((by rw [hg];exact (below_size zb):w.heap.size≤gb223));have n3_:=Aside0.mk ((by rw [hg];exact (below_size zb):w.heap.size≤gb223));clear HB;have HB:=n0_;have BK223:=n1_;have GW223:=n2_;have GE223:=n3_;clear n0_ n1_ n2_ n3_;clear hb hbox hg;have hcz14_0:w13.cell? ⟨gb223,0,none⟩=some (.int .i64 a0_0):=(blk_cell BK223.out 0).trans rfl;have hcz14_1:w13.cell? ⟨gb223,1,none⟩=some (.int .i64 a0_1):=(blk_cell BK223.out 1).trans rfl;have hcz14_2:w13.cell? ⟨gb223,2,none⟩=some (.int .i64 a0_2):=(blk_cell BK223.out 2).trans rfl;have hcz14_3:w13.cell? ⟨gb223,3,none⟩=some (.int .i64 a0_3):=(blk_cell BK223.out 3).trans rfl;have hfz14_0:=blk_frozen BK223.out 0;have hfz14_1:=blk_frozen BK223.out 1;have hfz14_2:=blk_frozen BK223.out 2;have hfz14_3:=blk_frozen BK223.out 3)|((with_reducible refine gate_callee (f:=120) rfl ?_);refine goesL_ (some 5) rfl rfl Try.func120 (by kernel_rfl) rfl #[.int .i64 a0_0,.int .i64 1,.int .i64 50] rfl zl ?_;(with_reducible refine (spec_l1In.calls a0_0 1 50 true _ A2.out).mono ?_);rintro e w' ⟨rfl,⟨nd,rfl⟩⟩;refine ⟨_,rfl,?_⟩)|(go_at_call 120;(with_reducible refine (spec_l1In.calls a0_1 0 50 false _ A4.out).mono ?_);rintro e w' ⟨rfl,⟨nd,rfl⟩⟩))
   go_ret
   exact ⟨by first|rfl|(simp [errW_none,errW_some] <;> rfl)|(simp [*,errW_none,errW_some] <;> rfl),by repeat (first|(with_reducible first|exact HB.out|apply below_alloc|apply pw_below_drewN|apply below_drew1|refine below_set ?_ GE223.out)|exact HB.out)⟩
 ·replace c3:=Bool.eq_false_iff.mpr c3
  subst c3
  have H1:(some false)=some r:=by rw [if_neg (show ¬ (false=true) by decide)] at H;exact H
  clear H
  have H:=H1
  clear H1
  obtain rfl:=Option.some.inj H
  go_enter Try.func148,Try.ntmps148
  go_wp2_with (first|((with_reducible refine gate_dst (N:=1) rfl ?_);refine box_event ?hg (N:=1) ?hd (cs:=#[.int .i64 a0_0,.int .i64 a0_1,.int .i64 a0_2,.int .i64 a0_3]) (t:=76) ?hr ?_;(case hd=>rfl);(case hg=>rfl);(case hr=>first|(go_simp;done)|(go_simp;rfl));intro gb223 hg w15 hbox hb;have n0_:=Aside0.mk (below_step zb hb);have n1_:=Aside0.mk (hbox);have n2_:=Aside0.mk ((by rw [hg];exact (below_size zb):w.heap.size≤gb223));have n3_:=Aside0.mk ((by rw [hg];exact (below_size zb):w.heap.size≤gb223));clear HB;have HB:=n0_;have BK223:=n1_;have GW223:=n2_;have GE223:=n3_;clear n0_ n1_ n2_ n3_;clear hb hbox hg;have hcz16_0:w15.cell? ⟨gb223,0,none⟩=some (.int .i64 a0_0):=(blk_cell BK223.out 0).trans rfl;have hcz16_1:w15.cell? ⟨gb223,1,none⟩=some (.int .i64 a0_1):=(blk_cell BK223.out 1).trans rfl;have hcz16_2:w15.cell? ⟨gb223,2,none⟩=some (.int .i64 a0_2):=(blk_cell BK223.out 2).trans rfl;have hcz16_3:w15.cell? ⟨gb223,3,none⟩=some (.int .i64 a0_3):=(blk_cell BK223.out 3).trans rfl;have hfz16_0:=blk_frozen BK223.out 0;have hfz16_1:=blk_frozen BK223.out 1;have hfz16_2:=blk_frozen BK223.out 2;have hfz16_3:=blk_frozen BK223.out 3)|((with_reducible refine gate_callee (f:=120) rfl ?_);refine goesL_ (some 5) rfl rfl Try.func120 (by kernel_rfl) rfl #[.int .i64 a0_0,.int .i64 1,.int .i64 50] rfl zl ?_;(with_reducible refine (spec_l1In.calls a0_0 1 50 false _ A2.out).mono ?_);rintro e w' ⟨rfl,⟨nd,rfl⟩⟩;refine ⟨_,rfl,?_⟩))
  go_ret
  exact ⟨by first|rfl|(simp [errW_none,errW_some] <;> rfl)|(simp [*,errW_none,errW_some] <;> rfl),by repeat (first|(with_reducible first|exact HB.out|apply below_alloc|apply pw_below_drewN|apply below_drew1|refine below_set ?_ GE223.out)|exact HB.out)⟩

/-! ### spec_l2Good: function 93 -/
def spec_l2Good.l0:Nat→List (S76)→Int→Option (Bool)
 | 0,_,_=>none
 | k + 1,x0,x3=>if x3<(x0.length:Int) then (if 0≤x3 then ((spec_l2Job.f ((rd_T76 x0 x3).f0) ((rd_T76 x0 x3).f1) ((rd_T76 x0 x3).f2) ((rd_T76 x0 x3).f3)).bind fun t229=>(if t229=true then (spec_l2Good.l0 k x0 (wrap64 (x3 + 1))) else (some false))) else (none)) else (some (decide ((x0.length:Int)≤8)))
def spec_l2Good.f (k:Nat) (l0:List (S76)):Option (Bool):=spec_l2Good.l0 k l0 0
theorem spec_l2Good.mono_l:∀ k,(∀ y0 y1,LeO (spec_l2Good.l0 k y0 y1) (spec_l2Good.l0 (k + 1) y0 y1))
 | 0=>fun _ _ r h=>by simp [spec_l2Good.l0] at h
 | k + 1=>by
  have ih0:=spec_l2Good.mono_l k
  ·intro y0 y1
   unfold spec_l2Good.l0
   repeat' first
   | (with_reducible exact ih0 _ _)
   | (with_reducible exact LeO.refl _)
   | (with_reducible exact LeO.none _)
   | (with_reducible refine LeO.ite ?_ ?_)
   | (with_reducible refine LeO.bind ?_ (fun _=>?_))
   | exact ih0 _ _
   | exact LeO.none _
   | refine LeO.ite ?_ ?_
   | refine LeO.bind ?_ (fun _=>?_)
theorem spec_l2Good.mono:∀ a0 k,LeO (spec_l2Good.f k a0) (spec_l2Good.f (k + 1) a0):=by
 intro a0 k
 have ih0:=spec_l2Good.mono_l k
 unfold spec_l2Good.f
 repeat' first
   | (with_reducible exact ih0 _ _)
   | (with_reducible exact LeO.refl _)
   | (with_reducible exact LeO.none _)
   | (with_reducible refine LeO.ite ?_ ?_)
   | (with_reducible refine LeO.bind ?_ (fun _=>?_))
   | exact ih0 _ _
   | exact LeO.none _
   | refine LeO.ite ?_ ?_
   | refine LeO.bind ?_ (fun _=>?_)
set_option maxHeartbeats 8000000 in
set_option maxRecDepth 100000 in
theorem spec_l2Good.calls (k:Nat) (A0:Option Addr) (c0:Nat) (l0:List (S76)) (r:Bool) (w:World) (hr0:Kd.C k76 w A0 l0.length l0) (hc0:l0.length≤c0) (h:spec_l2Good.f k l0=some r) :
  Calls Try.prog 93 #[.slice A0 l0.length c0] w fun e w'=>e=.returned (.bool r)∧Below w.heap.size w w':=by
 have hu76:=Try.underlying76
 have HR0:=Aside0.mk hr0
 have HC0:=Aside0.mk hc0
 clear hr0 hc0
 have HB:=Aside0.mk (Below.refl w.heap.size w)
 have H:(spec_l2Good.l0 k l0 0)=some r:=h
 clear h
 have H':=Aside0.mk H
 clear H
 go_enter Try.func93,Try.ntmps93
 go_wp2
 go_loopg [3] k (fun kq v3 w'=>∃ (x3_1:Int),v3=.int .i64 x3_1∧Aside0 (spec_l2Good.l0 kq l0 x3_1=some r)∧Aside0 (kq≤k)∧Aside0 (Below w.heap.size w w'))
 case atStart=>exact ⟨(0),zo,H',⟨Nat.le_refl _⟩,⟨zb⟩⟩
 case round=>
  clear H'
  obtain ⟨x3_1,rfl,HA,HK1,HB⟩:=hrel
  cases gk with
  | zero=>exact absurd HA.out (by simp [spec_l2Good.l0])
  | succ k1=>
   have H:=HA.out
   clear HA
   simp only [spec_l2Good.l0] at H
   by_cases c2:x3_1<(l0.length:Int)
   ·rw [if_pos c2] at H
    have c2b0:decide (x3_1<(l0.length:Int))=true:=decide_eq_true c2
    clear c2
    by_cases c3:0≤x3_1
    ·rw [if_pos c3] at H
     have c3b0:decide (0≤x3_1)=true:=decide_eq_true c3
     clear c3
     replace H:=Option.bind_eq_some_iff.mp H
     obtain ⟨t229,A40,H⟩:=H
     replace H:(if t229=true then (spec_l2Good.l0 k1 l0 (wrap64 (x3_1 + 1))) else (some false))=some r:=H
     have A4:=Aside0.mk A40
     clear A40
     by_cases c5:t229=true
     ·subst c5
      have H1:(spec_l2Good.l0 k1 l0 (wrap64 (x3_1 + 1)))=some r:=by rw [if_pos rfl] at H;exact H
      clear H
      have H:=H1
      clear H1
      have H':=Aside0.mk H
      clear H
      have p228:0≤(x3_1:Int):=of_decide_eq_true za
      have q228:x3_1<(l0.length:Int):=of_decide_eq_true za
      obtain ⟨ad228,e228,hx228_0,hx228_1,hx228_2,hx228_3⟩:=at_T76 HR0.out x3_1 p228 q228
      cases e228
      replace hx228_0:=(HB.out.cell (World.block_lt_of_cell? w _ hx228_0)).trans hx228_0
      replace hx228_1:=(HB.out.cell (World.block_lt_of_cell? w _ hx228_1)).trans hx228_1
      replace hx228_2:=(HB.out.cell (World.block_lt_of_cell? w _ hx228_2)).trans hx228_2
      replace hx228_3:=(HB.out.cell (World.block_lt_of_cell? w _ hx228_3)).trans hx228_3
      replace p228:=eq_true p228
      replace q228:=eq_true q228
      go_wp2_with (first|((with_reducible refine gate_callee (f:=148) rfl ?_);refine goesL_ (some 14) rfl rfl Try.func148 (by kernel_rfl) rfl #[.agg #[.int .i64 ((rd_T76 l0 x3_1).f0),.int .i64 ((rd_T76 l0 x3_1).f1),.int .i64 ((rd_T76 l0 x3_1).f2),.int .i64 ((rd_T76 l0 x3_1).f3)]] rfl zl ?_;(with_reducible refine (spec_l2Job.calls ((rd_T76 l0 x3_1).f0) ((rd_T76 l0 x3_1).f1) ((rd_T76 l0 x3_1).f2) ((rd_T76 l0 x3_1).f3) true _ A4.out).mono ?_);rintro e w6 ⟨rfl,hb⟩;refine ⟨_,rfl,?_⟩;have n0_:=Aside0.mk (below_step zb hb);clear HB;have HB:=n0_;clear n0_;(try clear hb);(try clear hb2);(try clear hk);(try clear hi)))
      go_roundg k1
      case measure=>have:=HK1.out;omega
      case rel=>exact ⟨(wrap64 (x3_1 + 1)),zo,H',⟨by have:=HK1.out;omega⟩,⟨zb⟩⟩
     ·replace c5:=Bool.eq_false_iff.mpr c5
      subst c5
      have H1:(some false)=some r:=by rw [if_neg (show ¬ (false=true) by decide)] at H;exact H
      clear H
      have H:=H1
      clear H1
      obtain rfl:=Option.some.inj H
      have p228:0≤(x3_1:Int):=of_decide_eq_true za
      have q228:x3_1<(l0.length:Int):=of_decide_eq_true za
      obtain ⟨ad228,e228,hx228_0,hx228_1,hx228_2,hx228_3⟩:=at_T76 HR0.out x3_1 p228 q228
      cases e228
      replace hx228_0:=(HB.out.cell (World.block_lt_of_cell? w _ hx228_0)).trans hx228_0
      replace hx228_1:=(HB.out.cell (World.block_lt_of_cell? w _ hx228_1)).trans hx228_1
      replace hx228_2:=(HB.out.cell (World.block_lt_of_cell? w _ hx228_2)).trans hx228_2
      replace hx228_3:=(HB.out.cell (World.block_lt_of_cell? w _ hx228_3)).trans hx228_3
      replace p228:=eq_true p228
      replace q228:=eq_true q228
      go_wp2_with (first|((with_reducible refine gate_callee (f:=148) rfl ?_);refine goesL_ (some 14) rfl rfl Try.func148 (by kernel_rfl) rfl #[.agg #[.int .i64 ((rd_T76 l0 x3_1).f0),.int .i64 ((rd_T76 l0 x3_1).f1),.int .i64 ((rd_T76 l0 x3_1).f2),.int .i64 ((rd_T76 l0 x3_1).f3)]] rfl zl ?_;(with_reducible refine (spec_l2Job.calls ((rd_T76 l0 x3_1).f0) ((rd_T76 l0 x3_1).f1) ((rd_T76 l0 x3_1).f2) ((rd_T76 l0 x3_1).f3) false _ A4.out).mono ?_);rintro e w7 ⟨rfl,hb⟩;refine ⟨_,rfl,?_⟩;have n0_:=Aside0.mk (below_step zb hb);clear HB;have HB:=n0_;clear n0_;(try clear hb);(try clear hb2);(try clear hk);(try clear hi)))
      go_ret
      exact ⟨by first|rfl|(simp [errW_none,errW_some] <;> rfl)|(simp [*,errW_none,errW_some] <;> rfl),zb⟩
    ·rw [if_neg c3] at H
     exact absurd H (by simp)
   ·rw [if_neg c2] at H
    have c2b0:decide (x3_1<(l0.length:Int))=false:=decide_eq_false c2
    clear c2
    obtain rfl:=Option.some.inj H
    go_wp2
    go_ret
    exact ⟨by first|rfl|(simp [errW_none,errW_some] <;> rfl)|(simp [*,errW_none,errW_some] <;> rfl),zb⟩

/-! ### spec_l3Plain: function 132 -/
def spec_l3Plain.l0:Nat→List (S76)→Int→Option (Bool)
 | 0,_,_=>none
 | k + 1,x0,x3=>if x3<(x0.length:Int) then (if 0≤x3 then (if ((rd_T76 x0 x3).f2)=0 then (spec_l3Plain.l0 k x0 (wrap64 (x3 + 1))) else (some false)) else (none)) else (some true)
def spec_l3Plain.f (k:Nat) (l0:List (S76)):Option (Bool):=spec_l3Plain.l0 k l0 0
theorem spec_l3Plain.mono_l:∀ k,(∀ y0 y1,LeO (spec_l3Plain.l0 k y0 y1) (spec_l3Plain.l0 (k + 1) y0 y1))
 | 0=>fun _ _ r h=>by simp [spec_l3Plain.l0] at h
 | k + 1=>by
  have ih0:=spec_l3Plain.mono_l k
  ·intro y0 y1
   unfold spec_l3Plain.l0
   repeat' first
   | (with_reducible exact ih0 _ _)
   | (with_reducible exact LeO.refl _)
   | (with_reducible exact LeO.none _)
   | (with_reducible refine LeO.ite ?_ ?_)
   | (with_reducible refine LeO.bind ?_ (fun _=>?_))
   | exact ih0 _ _
   | exact LeO.none _
   | refine LeO.ite ?_ ?_
   | refine LeO.bind ?_ (fun _=>?_)
theorem spec_l3Plain.mono:∀ a0 k,LeO (spec_l3Plain.f k a0) (spec_l3Plain.f (k + 1) a0):=by
 intro a0 k
 have ih0:=spec_l3Plain.mono_l k
 unfold spec_l3Plain.f
 repeat' first
   | (with_reducible exact ih0 _ _)
   | (with_reducible exact LeO.refl _)
   | (with_reducible exact LeO.none _)
   | (with_reducible refine LeO.ite ?_ ?_)
   | (with_reducible refine LeO.bind ?_ (fun _=>?_))
   | exact ih0 _ _
   | exact LeO.none _
   | refine LeO.ite ?_ ?_
   | refine LeO.bind ?_ (fun _=>?_)
set_option maxHeartbeats 8000000 in
set_option maxRecDepth 100000 in
theorem spec_l3Plain.calls (k:Nat) (A0:Option Addr) (c0:Nat) (l0:List (S76)) (r:Bool) (w:World) (hr0:Kd.C k76 w A0 l0.length l0) (hc0:l0.length≤c0) (h:spec_l3Plain.f k l0=some r) :
  Calls Try.prog 132 #[.slice A0 l0.length c0] w fun e w'=>e=.returned (.bool r)∧Drawn0 w w':=by
 have HR0:=Aside0.mk hr0
 have HC0:=Aside0.mk hc0
 clear hr0 hc0
 have H:(spec_l3Plain.l0 k l0 0)=some r:=h
 clear h
 have H':=Aside0.mk H
 clear H
 go_enter Try.func132,Try.ntmps132
 go_wp2
 go_loopg [3] k (fun kq v3 w'=>∃ (x3_1:Int),v3=.int .i64 x3_1∧Aside0 (spec_l3Plain.l0 kq l0 x3_1=some r)∧Aside0 (kq≤k)∧Drawn0 w w')
 case atStart=>exact ⟨(0),zo,H',⟨Nat.le_refl _⟩,by repeat (first|exact Drawn0.refl _|apply Drawn0.step)⟩
 case round=>
  clear H'
  try clear c1
  obtain ⟨x3_1,rfl,HA,HK1,⟨m1,rfl⟩⟩:=hrel
  cases gk with
  | zero=>exact absurd HA.out (by simp [spec_l3Plain.l0])
  | succ k1=>
   have H:=HA.out
   clear HA
   simp only [spec_l3Plain.l0] at H
   by_cases c2:x3_1<(l0.length:Int)
   ·rw [if_pos c2] at H
    have c2b0:decide (x3_1<(l0.length:Int))=true:=decide_eq_true c2
    clear c2
    by_cases c3:0≤x3_1
    ·rw [if_pos c3] at H
     have c3b0:decide (0≤x3_1)=true:=decide_eq_true c3
     clear c3
     by_cases c4:((rd_T76 l0 x3_1).f2)=0
     ·rw [if_pos c4] at H
      have c4b0:(((rd_T76 l0 x3_1).f2) == 0)=true:=beq_iff_eq.mpr c4
      have c4b1:(((rd_T76 l0 x3_1).f2) != 0)=false:=bne_eq_false_iff_eq.mpr c4
      clear c4
      have H':=Aside0.mk H
      clear H
      have p230:0≤(x3_1:Int):=of_decide_eq_true za
      have q230:x3_1<(l0.length:Int):=of_decide_eq_true za
      obtain ⟨ad230,e230,hx230_0,hx230_1,hx230_2,hx230_3⟩:=at_T76 HR0.out x3_1 p230 q230
      cases e230
      replace p230:=eq_true p230
      replace q230:=eq_true q230
      go_wp2
      go_roundg k1
      case measure=>have:=HK1.out;omega
      case rel=>exact ⟨(wrap64 (x3_1 + 1)),zo,H',⟨by have:=HK1.out;omega⟩,by repeat (first|exact Drawn0.refl _|apply Drawn0.step)⟩
     ·rw [if_neg c4] at H
      have c4b0:(((rd_T76 l0 x3_1).f2) == 0)=false:=beq_eq_false_iff_ne.mpr c4
      have c4b1:(((rd_T76 l0 x3_1).f2) != 0)=true:=bne_iff_ne.mpr c4
      obtain rfl:=Option.some.inj H
      have p230:0≤(x3_1:Int):=of_decide_eq_true za
      have q230:x3_1<(l0.length:Int):=of_decide_eq_true za
      obtain ⟨ad230,e230,hx230_0,hx230_1,hx230_2,hx230_3⟩:=at_T76 HR0.out x3_1 p230 q230
      cases e230
      replace p230:=eq_true p230
      replace q230:=eq_true q230
      go_wp2
      go_ret
      exact ⟨by first|rfl|(simp;done)|(simp [*];done),by repeat (first|exact Drawn0.refl _|apply Drawn0.step)⟩
    ·rw [if_neg c3] at H
     exact absurd H (by simp)
   ·rw [if_neg c2] at H
    have c2b0:decide (x3_1<(l0.length:Int))=false:=decide_eq_false c2
    clear c2
    obtain rfl:=Option.some.inj H
    go_wp2
    go_ret
    exact ⟨by first|rfl|(simp;done)|(simp [*];done),by repeat (first|exact Drawn0.refl _|apply Drawn0.step)⟩

/-! ### spec_l7Good: function 76 -/
def spec_l7Good.f (k:Nat) (l0:List (S76)) (a1:Int) (l2:List (S72)):Option (Bool):=(spec_l2Good.f k l0).bind fun t231=>(if t231=true then ((spec_l3Plain.f k l0).bind fun t232=>(if t232=true then ((spec_l1In.f a1 1 4).bind fun t233=>(if t233=true then ((spec_l4Good.f k (l0.length:Int) l2).bind fun t234=>(some t234)) else (some false))) else (some false))) else (some false))
theorem spec_l7Good.mono:∀ a0 a1 a2 k,LeO (spec_l7Good.f k a0 a1 a2) (spec_l7Good.f (k + 1) a0 a1 a2):=by
 intro a0 a1 a2 k
 unfold spec_l7Good.f
 repeat' first
   | (with_reducible exact spec_l2Good.mono _ _)
   | (with_reducible exact spec_l3Plain.mono _ _)
   | (with_reducible exact spec_l4Good.mono _ _ _)
   | (with_reducible exact LeO.refl _)
   | (with_reducible exact LeO.none _)
   | (with_reducible refine LeO.ite ?_ ?_)
   | (with_reducible refine LeO.bind ?_ (fun _=>?_))
   | exact spec_l2Good.mono _ _
   | exact spec_l3Plain.mono _ _
   | exact spec_l4Good.mono _ _ _
   | exact LeO.none _
   | refine LeO.ite ?_ ?_
   | refine LeO.bind ?_ (fun _=>?_)
set_option maxHeartbeats 8000000 in
set_option maxRecDepth 100000 in
theorem spec_l7Good.calls (k:Nat) (A0:Option Addr) (c0:Nat) (l0:List (S76)) (a1:Int) (A2:Option Addr) (c2:Nat) (l2:List (S72)) (r:Bool) (w:World) (hr0:Kd.C k76 w A0 l0.length l0) (hc0:l0.length≤c0) (hr2:Kd.C k72 w A2 l2.length l2) (hc2:l2.length≤c2) (h:spec_l7Good.f k l0 a1 l2=some r) :
  Calls Try.prog 76 #[.slice A0 l0.length c0,.int .i64 a1,.slice A2 l2.length c2] w fun e w'=>e=.returned (.bool r)∧Below w.heap.size w w':=by
 have HR0:=Aside0.mk hr0
 have HC0:=Aside0.mk hc0
 clear hr0 hc0
 have HR2:=Aside0.mk hr2
 have HC2:=Aside0.mk hc2
 clear hr2 hc2
 have HB:=Aside0.mk (Below.refl w.heap.size w)
 have H:((spec_l2Good.f k l0).bind fun t231=>(if t231=true then ((spec_l3Plain.f k l0).bind fun t232=>(if t232=true then ((spec_l1In.f a1 1 4).bind fun t233=>(if t233=true then ((spec_l4Good.f k (l0.length:Int) l2).bind fun t234=>(some t234)) else (some false))) else (some false))) else (some false)))=some r:=h
 clear h
 replace H:=Option.bind_eq_some_iff.mp H
 obtain ⟨t231,A40,H⟩:=H
 replace H:(if t231=true then ((spec_l3Plain.f k l0).bind fun t232=>(if t232=true then ((spec_l1In.f a1 1 4).bind fun t233=>(if t233=true then ((spec_l4Good.f k (l0.length:Int) l2).bind fun t234=>(some t234)) else (some false))) else (some false))) else (some false))=some r:=H
 have A4:=Aside0.mk A40
 clear A40
 by_cases c5:t231=true
 ·subst c5
  have H1:((spec_l3Plain.f k l0).bind fun t232=>(if t232=true then ((spec_l1In.f a1 1 4).bind fun t233=>(if t233=true then ((spec_l4Good.f k (l0.length:Int) l2).bind fun t234=>(some t234)) else (some false))) else (some false)))=some r:=by rw [if_pos rfl] at H;exact H
  clear H
  have H:=H1
  clear H1
  replace H:=Option.bind_eq_some_iff.mp H
  obtain ⟨t232,A60,H⟩:=H
  replace H:(if t232=true then ((spec_l1In.f a1 1 4).bind fun t233=>(if t233=true then ((spec_l4Good.f k (l0.length:Int) l2).bind fun t234=>(some t234)) else (some false))) else (some false))=some r:=H
  have A6:=Aside0.mk A60
  clear A60
  by_cases c7:t232=true
  ·subst c7
   have H1:((spec_l1In.f a1 1 4).bind fun t233=>(if t233=true then ((spec_l4Good.f k (l0.length:Int) l2).bind fun t234=>(some t234)) else (some false)))=some r:=by rw [if_pos rfl] at H;exact H
   clear H
   have H:=H1
   clear H1
   replace H:=Option.bind_eq_some_iff.mp H
   obtain ⟨t233,A80,H⟩:=H
   replace H:(if t233=true then ((spec_l4Good.f k (l0.length:Int) l2).bind fun t234=>(some t234)) else (some false))=some r:=H
   have A8:=Aside0.mk A80
   clear A80
   by_cases c9:t233=true
   ·subst c9
    have H1:((spec_l4Good.f k (l0.length:Int) l2).bind fun t234=>(some t234))=some r:=by rw [if_pos rfl] at H;exact H
    clear H
    have H:=H1
    clear H1
    replace H:=Option.bind_eq_some_iff.mp H
    obtain ⟨t234,A100,H⟩:=H
    replace H:(some t234)=some r:=H
    have A10:=Aside0.mk A100
    clear A100
    obtain rfl:=Option.some.inj H
    go_enter Try.func76,Try.ntmps76
    go_wp2_with (first|((with_reducible refine gate_callee (f:=93) rfl ?_);refine goesL_ (some 8) rfl rfl Try.func93 (by kernel_rfl) rfl #[.slice A0 l0.length c0] rfl zl ?_;(with_reducible refine (spec_l2Good.calls k _ _ l0 true _ ?side1 ?side2 A4.out).mono ?_);(case side1=>exact zC HR0.out);(case side2=>exact HC0.out);rintro e w11 ⟨rfl,hb⟩;refine ⟨_,rfl,?_⟩;have n0_:=Aside0.mk (below_step zb hb);clear HB;have HB:=n0_;clear n0_;(try clear hb);(try clear hb2);(try clear hk);(try clear hi))|(go_at_call 132;(with_reducible refine (spec_l3Plain.calls k _ _ l0 true _ ?side1 ?side2 A6.out).mono ?_);(case side1=>exact zC (Kd.C_below HR0.out HB.out));(case side2=>exact HC0.out);rintro e w' ⟨rfl,⟨nd,rfl⟩⟩)|(go_at_call 120;(with_reducible refine (spec_l1In.calls a1 1 4 true _ A8.out).mono ?_);rintro e w' ⟨rfl,⟨nd,rfl⟩⟩)|(go_at_call 56;(with_reducible refine (spec_l4Good.calls k (l0.length:Int) _ _ l2 t234 _ ?side1 ?side2 A10.out).mono ?_);(case side1=>exact zC (Kd.C_below HR2.out zb));(case side2=>exact HC2.out);rintro e w12 ⟨rfl,hb⟩;have n0_:=Aside0.mk (below_step zb hb);clear HB;have HB:=n0_;clear n0_;(try clear hb);(try clear hb2);(try clear hk);(try clear hi)))
    go_ret
    exact ⟨by first|rfl|(simp [errW_none,errW_some] <;> rfl)|(simp [*,errW_none,errW_some] <;> rfl),zb⟩
   ·replace c9:=Bool.eq_false_iff.mpr c9
    subst c9
    have H1:(some false)=some r:=by rw [if_neg (show ¬ (false=true) by decide)] at H;exact H
    clear H
    have H:=H1
    clear H1
    obtain rfl:=Option.some.inj H
    go_enter Try.func76,Try.ntmps76
    go_wp2_with (first|((with_reducible refine gate_callee (f:=93) rfl ?_);refine goesL_ (some 8) rfl rfl Try.func93 (by kernel_rfl) rfl #[.slice A0 l0.length c0] rfl zl ?_;(with_reducible refine (spec_l2Good.calls k _ _ l0 true _ ?side1 ?side2 A4.out).mono ?_);(case side1=>exact zC HR0.out);(case side2=>exact HC0.out);rintro e w13 ⟨rfl,hb⟩;refine ⟨_,rfl,?_⟩;have n0_:=Aside0.mk (below_step zb hb);clear HB;have HB:=n0_;clear n0_;(try clear hb);(try clear hb2);(try clear hk);(try clear hi))|(go_at_call 132;(with_reducible refine (spec_l3Plain.calls k _ _ l0 true _ ?side1 ?side2 A6.out).mono ?_);(case side1=>exact zC (Kd.C_below HR0.out HB.out));(case side2=>exact HC0.out);rintro e w' ⟨rfl,⟨nd,rfl⟩⟩)|(go_at_call 120;(with_reducible refine (spec_l1In.calls a1 1 4 false _ A8.out).mono ?_);rintro e w' ⟨rfl,⟨nd,rfl⟩⟩))
    go_ret
    exact ⟨by first|rfl|(simp [errW_none,errW_some] <;> rfl)|(simp [*,errW_none,errW_some] <;> rfl),zb⟩
  ·replace c7:=Bool.eq_false_iff.mpr c7
   subst c7
   have H1:(some false)=some r:=by rw [if_neg (show ¬ (false=true) by decide)] at H;exact H
   clear H
   have H:=H1
   clear H1
   obtain rfl:=Option.some.inj H
   go_enter Try.func76,Try.ntmps76
   go_wp2_with (first|((with_reducible refine gate_callee (f:=93) rfl ?_);refine goesL_ (some 8) rfl rfl Try.func93 (by kernel_rfl) rfl #[.slice A0 l0.length c0] rfl zl ?_;(with_reducible refine (spec_l2Good.calls k _ _ l0 true _ ?side1 ?side2 A4.out).mono ?_);(case side1=>exact zC HR0.out);(case side2=>exact HC0.out);rintro e w14 ⟨rfl,hb⟩;refine ⟨_,rfl,?_⟩;have n0_:=Aside0.mk (below_step zb hb);clear HB;have HB:=n0_;clear n0_;(try clear hb);(try clear hb2);(try clear hk);(try clear hi))|(go_at_call 132;(with_reducible refine (spec_l3Plain.calls k _ _ l0 false _ ?side1 ?side2 A6.out).mono ?_);(case side1=>exact zC (Kd.C_below HR0.out HB.out));(case side2=>exact HC0.out);rintro e w' ⟨rfl,⟨nd,rfl⟩⟩))
   go_ret
   exact ⟨by first|rfl|(simp [errW_none,errW_some] <;> rfl)|(simp [*,errW_none,errW_some] <;> rfl),zb⟩
 ·replace c5:=Bool.eq_false_iff.mpr c5
  subst c5
  have H1:(some false)=some r:=by rw [if_neg (show ¬ (false=true) by decide)] at H;exact H
  clear H
  have H:=H1
  clear H1
  obtain rfl:=Option.some.inj H
  go_enter Try.func76,Try.ntmps76
  go_wp2_with (first|((with_reducible refine gate_callee (f:=93) rfl ?_);refine goesL_ (some 8) rfl rfl Try.func93 (by kernel_rfl) rfl #[.slice A0 l0.length c0] rfl zl ?_;(with_reducible refine (spec_l2Good.calls k _ _ l0 false _ ?side1 ?side2 A4.out).mono ?_);(case side1=>exact zC HR0.out);(case side2=>exact HC0.out);rintro e w15 ⟨rfl,hb⟩;refine ⟨_,rfl,?_⟩;have n0_:=Aside0.mk (below_step zb hb);clear HB;have HB:=n0_;clear n0_;(try clear hb);(try clear hb2);(try clear hk);(try clear hi)))
  go_ret
  exact ⟨by first|rfl|(simp [errW_none,errW_some] <;> rfl)|(simp [*,errW_none,errW_some] <;> rfl),zb⟩

/-! ### spec_l1Own: function 110 -/
def spec_l1Own.f (l0:List Int):Option (List Int):=(some (([]:List Int):List Int)).bind fun y235=>(if y235.length + l0.length<17592186044416 then (some (y235++l0)) else (none))
set_option maxHeartbeats 8000000 in
set_option maxRecDepth 100000 in
theorem spec_l1Own.calls (A0:Option Addr) (c0:Nat) (l0:List Int) (r:List Int) (w:World) (hr0:Kd.C (Kd.int .i64) w A0 l0.length l0) (hc0:l0.length≤c0) (h:spec_l1Own.f l0=some r) :
  Calls Try.prog 110 #[.slice A0 l0.length c0] w fun e w'=>∃ v0_:Value,e=.returned (v0_)∧Kd.R (Kd.int .i64) 3 w' w.heap.size (fun _=>True) v0_ r∧Below w.heap.size w w':=by
 have HR0:=Aside0.mk hr0
 have HC0:=Aside0.mk hc0
 clear hr0 hc0
 have HB:=Aside0.mk (Below.refl w.heap.size w)
 have H:((some (([]:List Int):List Int)).bind fun y235=>(if y235.length + l0.length<17592186044416 then (some (y235++l0)) else (none)))=some r:=h
 clear h
 obtain ⟨y235,hy235⟩:∃ y_:List Int,y_=(([]:List Int)):=⟨_,rfl⟩
 replace H:(if y235.length + l0.length<17592186044416 then (some (y235++l0)) else (none))=some r:=by first|(rw [hy235];with_reducible exact H)|(have H2_:=(Option.bind_some _ _).symm.trans H;rw [hy235];with_reducible exact H2_)|(have H2_:=(Option.bind_some _ _).symm.trans H;with_reducible exact H2_)|with_reducible exact H|(rw [hy235];exact H)|exact H
 have Ny235:=Aside0.mk hy235
 clear hy235
 by_cases c2:y235.length + l0.length<17592186044416
 ·rw [if_pos c2] at H
  have LMc2:=Aside0.mk c2
  clear c2
  obtain ⟨y238,hy238⟩:∃ y_:List Int,y_=(y235++l0):=⟨_,rfl⟩
  replace H:(some y238)=some r:=by first|(rw [hy238];with_reducible exact H)|(have H2_:=(Option.bind_some _ _).symm.trans H;rw [hy238];with_reducible exact H2_)|(have H2_:=(Option.bind_some _ _).symm.trans H;with_reducible exact H2_)|with_reducible exact H|(rw [hy238];exact H)|exact H
  have Ny238:=Aside0.mk hy238
  clear hy238
  obtain rfl:=Option.some.inj H
  go_enter Try.func110,Try.ntmps110
  go_wp2_with (first|((with_reducible refine gate_dst (N:=3) rfl ?_);refine Kd.R_lit (Kd.int .i64) _ 3 ?hg (N:=3) ?hd (xs:=([]:List Int)) (inner:=[]) (ok:=fun _=>True) (okp:=fun _=>True) ?hr ?hp (fun _ hk=>hk) trivial (Below.refl _ _) (Nat.le_refl _) (by simp) ?_;(case hd=>rfl);(case hg=>rfl);(case hr=>first|(go_simp;done)|(go_simp;rfl));(case hp=>exact (Reps.none _ _));intro v236 w3 ho4 hb hg_ hnew_;clear hg_ hnew_;(first|rw [←Ny235.out] at ho4|(simp only [Int.reduceToNat] at ho4;rw [←Ny235.out] at ho4));have n0_:=Aside0.mk (Kd.R_lower ho4 (below_size zb));have n1_:=Aside0.mk (below_step zb hb);clear HB;have HO237:=n0_;have HB:=n1_;clear n0_ n1_;clear hb ho4)|((with_reducible refine gate_builtin (b:=.append) (xs:=#[.tmp 3,.tmp 4]) rfl ?_);at_builtin;refine Kd.R_append_rows (Kd.int .i64) (w0:=w) w.heap.size rfl (.tmp 3) (.tmp 4) 43 3 (.int .i64 0) 8 rfl Try.underlying43 info3 rfl (by decide) (by omega) v236 y235 l0 _ _ _ (fun _=>True) (fun _=>False) rfl rfl ?aO ?aR (fun _ _ h=>h) (fun _ h=>h.elim) ?aF ?aB ?aS ?aL ?_;(case aR=>exact zC (Kd.C_below HR0.out HB.out));(case aB=>exact zb);(case aF=>exact (fun _ _=>trivial));(case aO=>exact (zR HO237.out));(case aS=>exact (below_size zb));(case aL=>have:=LMc2.out;omega);intro v239 w5 ho hb hg hat;rw [←Ny238.out] at ho;have n0_:=Aside0.mk (hb);have n1_:=Aside0.mk (ho);clear HB;clear HO237;have HB:=n0_;have HO240:=n1_;clear n0_ n1_;clear ho hb hg hat))
  go_ret
  exact ⟨_,by first|rfl|(simp [errW_none,errW_some] <;> rfl)|(simp [*,errW_none,errW_some] <;> rfl),zR HO240.out,zb⟩
 ·rw [if_neg c2] at H
  exact absurd H (by simp)

/-! ### spec_l1Has: function 123 -/
def spec_l1Has.l0:Nat→List Int→Int→Int→Option (Bool)
 | 0,_,_,_=>none
 | k + 1,x0,x1,x5=>if x5<(x0.length:Int) then (if 0≤x5 then (if (rd x0 x5)=x1 then (some true) else (spec_l1Has.l0 k x0 x1 (wrap64 (x5 + 1)))) else (none)) else (some false)
def spec_l1Has.f (k:Nat) (l0:List Int) (a1:Int):Option (Bool):=spec_l1Has.l0 k l0 a1 0
theorem spec_l1Has.mono_l:∀ k,(∀ y0 y1 y2,LeO (spec_l1Has.l0 k y0 y1 y2) (spec_l1Has.l0 (k + 1) y0 y1 y2))
 | 0=>fun _ _ _ r h=>by simp [spec_l1Has.l0] at h
 | k + 1=>by
  have ih0:=spec_l1Has.mono_l k
  ·intro y0 y1 y2
   unfold spec_l1Has.l0
   repeat' first
   | (with_reducible exact ih0 _ _ _)
   | (with_reducible exact LeO.refl _)
   | (with_reducible exact LeO.none _)
   | (with_reducible refine LeO.ite ?_ ?_)
   | (with_reducible refine LeO.bind ?_ (fun _=>?_))
   | exact ih0 _ _ _
   | exact LeO.none _
   | refine LeO.ite ?_ ?_
   | refine LeO.bind ?_ (fun _=>?_)
theorem spec_l1Has.mono:∀ a0 a1 k,LeO (spec_l1Has.f k a0 a1) (spec_l1Has.f (k + 1) a0 a1):=by
 intro a0 a1 k
 have ih0:=spec_l1Has.mono_l k
 unfold spec_l1Has.f
 repeat' first
   | (with_reducible exact ih0 _ _ _)
   | (with_reducible exact LeO.refl _)
   | (with_reducible exact LeO.none _)
   | (with_reducible refine LeO.ite ?_ ?_)
   | (with_reducible refine LeO.bind ?_ (fun _=>?_))
   | exact ih0 _ _ _
   | exact LeO.none _
   | refine LeO.ite ?_ ?_
   | refine LeO.bind ?_ (fun _=>?_)
set_option maxHeartbeats 8000000 in
set_option maxRecDepth 100000 in
theorem spec_l1Has.calls (k:Nat) (A0:Option Addr) (c0:Nat) (l0:List Int) (a1:Int) (r:Bool) (w:World) (hr0:Kd.C (Kd.int .i64) w A0 l0.length l0) (hc0:l0.length≤c0) (h:spec_l1Has.f k l0 a1=some r) :
  Calls Try.prog 123 #[.slice A0 l0.length c0,.int .i64 a1] w fun e w'=>e=.returned (.bool r)∧Drawn0 w w':=by
 have HR0:=Aside0.mk hr0
 have HC0:=Aside0.mk hc0
 clear hr0 hc0
 have H:(spec_l1Has.l0 k l0 a1 0)=some r:=h
 clear h
 have H':=Aside0.mk H
 clear H
 go_enter Try.func123,Try.ntmps123
 go_wp2
 go_loopg [5] k (fun kq v5 w'=>∃ (x5_1:Int),v5=.int .i64 x5_1∧Aside0 (spec_l1Has.l0 kq l0 a1 x5_1=some r)∧Aside0 (kq≤k)∧Drawn0 w w')
 case atStart=>exact ⟨(0),zo,H',⟨Nat.le_refl _⟩,by repeat (first|exact Drawn0.refl _|apply Drawn0.step)⟩
 case round=>
  clear H'
  (try clear c1);(try clear p2)
  obtain ⟨x5_1,rfl,HA,HK1,⟨m1,rfl⟩⟩:=hrel
  cases gk with
  | zero=>exact absurd HA.out (by simp [spec_l1Has.l0])
  | succ k1=>
   have H:=HA.out
   clear HA
   simp only [spec_l1Has.l0] at H
   by_cases c3:x5_1<(l0.length:Int)
   ·rw [if_pos c3] at H
    have c3b0:decide (x5_1<(l0.length:Int))=true:=decide_eq_true c3
    clear c3
    by_cases c4:0≤x5_1
    ·rw [if_pos c4] at H
     have c4b0:decide (0≤x5_1)=true:=decide_eq_true c4
     clear c4
     by_cases c5:(rd l0 x5_1)=a1
     ·rw [if_pos c5] at H
      have c5b0:((rd l0 x5_1) == a1)=true:=beq_iff_eq.mpr c5
      have c5b1:((rd l0 x5_1) != a1)=false:=bne_eq_false_iff_eq.mpr c5
      clear c5
      obtain rfl:=Option.some.inj H
      have p241:0≤(x5_1:Int):=of_decide_eq_true za
      have q241:x5_1<(l0.length:Int):=of_decide_eq_true za
      obtain ⟨ad241,e241,hx241_0⟩:=Kd.at_int HR0.out x5_1 p241 q241
      cases e241
      replace p241:=eq_true p241
      replace q241:=eq_true q241
      go_wp2
      go_ret
      exact ⟨by first|rfl|(simp;done)|(simp [*];done),by repeat (first|exact Drawn0.refl _|apply Drawn0.step)⟩
     ·rw [if_neg c5] at H
      have c5b0:((rd l0 x5_1) == a1)=false:=beq_eq_false_iff_ne.mpr c5
      have c5b1:((rd l0 x5_1) != a1)=true:=bne_iff_ne.mpr c5
      have H':=Aside0.mk H
      clear H
      have p241:0≤(x5_1:Int):=of_decide_eq_true za
      have q241:x5_1<(l0.length:Int):=of_decide_eq_true za
      obtain ⟨ad241,e241,hx241_0⟩:=Kd.at_int HR0.out x5_1 p241 q241
      cases e241
      replace p241:=eq_true p241
      replace q241:=eq_true q241
      go_wp2
      go_roundg k1
      case measure=>have:=HK1.out;omega
      case rel=>exact ⟨(wrap64 (x5_1 + 1)),zo,H',⟨by have:=HK1.out;omega⟩,by repeat (first|exact Drawn0.refl _|apply Drawn0.step)⟩
    ·rw [if_neg c4] at H
     exact absurd H (by simp)
   ·rw [if_neg c3] at H
    have c3b0:decide (x5_1<(l0.length:Int))=false:=decide_eq_false c3
    clear c3
    obtain rfl:=Option.some.inj H
    go_wp2
    go_ret
    exact ⟨by first|rfl|(simp;done)|(simp [*];done),by repeat (first|exact Drawn0.refl _|apply Drawn0.step)⟩

/-! ### spec_l1Most: function 145 -/
def spec_l1Most.f (a0:Int) (a1:Int):Option (Int):=if a0>a1 then (some a0) else (some a1)
set_option maxHeartbeats 8000000 in
set_option maxRecDepth 100000 in
theorem spec_l1Most.calls (a0:Int) (a1:Int) (r:Int) (w:World) (h:spec_l1Most.f a0 a1=some r) :
  Calls Try.prog 145 #[.int .i64 a0,.int .i64 a1] w fun e w'=>e=.returned (.int .i64 r)∧Drawn0 w w':=by
 have H:(if a0>a1 then (some a0) else (some a1))=some r:=h
 clear h
 by_cases c3:a0>a1
 ·rw [if_pos c3] at H
  have c3b0:decide (a1<a0)=true:=decide_eq_true c3
  clear c3
  obtain rfl:=Option.some.inj H
  go_enter Try.func145,Try.ntmps145
  go_wp2
  go_ret
  exact ⟨by first|rfl|(simp;done)|(simp [*];done),by repeat (first|exact Drawn0.refl _|apply Drawn0.step)⟩
 ·rw [if_neg c3] at H
  have c3b0:decide (a1<a0)=false:=decide_eq_false c3
  clear c3
  obtain rfl:=Option.some.inj H
  go_enter Try.func145,Try.ntmps145
  go_wp2
  go_ret
  exact ⟨by first|rfl|(simp;done)|(simp [*];done),by repeat (first|exact Drawn0.refl _|apply Drawn0.step)⟩

end Go.Proofs.Ytbcfmegepkhlpaa.XFnExactBestListPlan
-- minified
