-- Written by a program of this session (the kit's print, widened). Proved here: what each function answers, for the arguments that its contract names.
import Derived.Test.YtbcfmegepkhlpaaXFnExactLabelPlanx0
import Derived.Test.YtbcfmegepkhlpaaXFnExactLabelPlanx6
import Derived.Test.YtbcfmegepkhlpaaXFnExactLabelPlanx7
namespace Go.Proofs.Ytbcfmegepkhlpaa.XFnExactLabelPlan
open Go.RowKit Go.Proofs.YtbcfmegepkhlpaaW.PrintWords Go.Proofs.YtbcfmegepkhlpaaW.PrintLast Go.Proofs.YtbcfmegepkhlpaaW.PrintMore
attribute [local go_sem] max2_int min2_int max_two min_two max_three min_three max_four min_four   -- for this text's walks alone
attribute [local go_sem] idxA_72_0 idxA_72_1 fldS_96_0 fldS_96_1 fldS_96_2 fldS_111_0 fldS_111_1 fldS_111_2
set_option linter.unusedVariables false
set_option linter.unusedSimpArgs false

/-! ### spec_l4Good: function 56 -/
def spec_l4Good.l0:Nat→Int→List (List Bool)→Int→Option (Bool)
 | 0,_,_,_=>none
 | k + 1,x0,x5,x6=>if x6<x0 then (if 0≤x6 then (if x6<(x5.length:Int) then (if x6<((rd_L3 x5 x6).length:Int) then (if rdOf false (rd_L3 x5 x6) x6=true then (some false) else (spec_l4Good.l0 k x0 x5 (wrap64 (x6 + 1)))) else (none)) else (none)) else (none)) else (some true)
def spec_l4Good.f (k:Nat) (a0:Int) (l1:List (S72)):Option (Bool):=(spec_l4Pairs.f k a0 l1).bind fun t140=>(if t140=true then ((spec_l4Table.f k a0 l1).bind fun t141=>(spec_l4Good.l0 k a0 t141 0)) else (some false))
theorem spec_l4Good.mono_l:∀ k,(∀ y0 y1 y2,LeO (spec_l4Good.l0 k y0 y1 y2) (spec_l4Good.l0 (k + 1) y0 y1 y2))
 | 0=>fun _ _ _ r h=>by simp [spec_l4Good.l0] at h
 | k + 1=>by
  have ih0:=spec_l4Good.mono_l k
  ·intro y0 y1 y2
   unfold spec_l4Good.l0
   repeat' first
   | (with_reducible exact ih0 _ _ _)
   | (with_reducible exact spec_l4Pairs.mono _ _ _)
   | (with_reducible exact spec_l4Table.mono _ _ _)
   | (with_reducible exact LeO.refl _)
   | (with_reducible exact LeO.none _)
   | (with_reducible refine LeO.ite ?_ ?_)
   | (with_reducible refine LeO.bind ?_ (fun _=>?_))
   | exact ih0 _ _ _
   | exact spec_l4Pairs.mono _ _ _
   | exact spec_l4Table.mono _ _ _
   | exact LeO.none _
   | refine LeO.ite ?_ ?_
   | refine LeO.bind ?_ (fun _=>?_)
theorem spec_l4Good.mono:∀ a0 a1 k,LeO (spec_l4Good.f k a0 a1) (spec_l4Good.f (k + 1) a0 a1):=by
 intro a0 a1 k
 have ih0:=spec_l4Good.mono_l k
 unfold spec_l4Good.f
 repeat' first
   | (with_reducible exact ih0 _ _ _)
   | (with_reducible exact spec_l4Pairs.mono _ _ _)
   | (with_reducible exact spec_l4Table.mono _ _ _)
   | (with_reducible exact LeO.refl _)
   | (with_reducible exact LeO.none _)
   | (with_reducible refine LeO.ite ?_ ?_)
   | (with_reducible refine LeO.bind ?_ (fun _=>?_))
   | exact ih0 _ _ _
   | exact spec_l4Pairs.mono _ _ _
   | exact spec_l4Table.mono _ _ _
   | exact LeO.none _
   | refine LeO.ite ?_ ?_
   | refine LeO.bind ?_ (fun _=>?_)
set_option maxHeartbeats 8000000 in
set_option maxRecDepth 100000 in
theorem spec_l4Good.calls (k:Nat) (a0:Int) (A1:Option Addr) (c1:Nat) (l1:List (S72)) (r:Bool) (w:World) (hr1:Kd.C k72 w A1 l1.length l1) (hc1:l1.length≤c1) (h:spec_l4Good.f k a0 l1=some r) :
  Calls Try.prog 56 #[.int .i64 a0,.slice A1 l1.length c1] w fun e w'=>e=.returned (.bool r)∧Below w.heap.size w w':=by
 have HR1:=Aside0.mk hr1
 have HC1:=Aside0.mk hc1
 clear hr1 hc1
 have HB:=Aside0.mk (Below.refl w.heap.size w)
 have H:((spec_l4Pairs.f k a0 l1).bind fun t140=>(if t140=true then ((spec_l4Table.f k a0 l1).bind fun t141=>(spec_l4Good.l0 k a0 t141 0)) else (some false)))=some r:=h
 clear h
 replace H:=Option.bind_eq_some_iff.mp H
 obtain ⟨t140,A30,H⟩:=H
 replace H:(if t140=true then ((spec_l4Table.f k a0 l1).bind fun t141=>(spec_l4Good.l0 k a0 t141 0)) else (some false))=some r:=H
 have A3:=Aside0.mk A30
 clear A30
 by_cases c4:t140=true
 ·subst c4
  have H1:((spec_l4Table.f k a0 l1).bind fun t141=>(spec_l4Good.l0 k a0 t141 0))=some r:=by rw [if_pos rfl] at H;exact H
  clear H
  have H:=H1
  clear H1
  replace H:=Option.bind_eq_some_iff.mp H
  obtain ⟨t141,A50,H⟩:=H
  replace H:(spec_l4Good.l0 k a0 t141 0)=some r:=H
  have A5:=Aside0.mk A50
  clear A50
  have H':=Aside0.mk H
  clear H
  go_enter Try.func56,Try.ntmps56
  go_wp2_with (first|((with_reducible refine gate_callee (f:=106) rfl ?_);refine goesL_ (some 9) rfl rfl Try.func106 (by kernel_rfl) rfl #[.int .i64 a0,.slice A1 l1.length c1] rfl zl ?_;(with_reducible refine (spec_l4Pairs.calls k a0 _ _ l1 true _ ?side1 ?side2 A3.out).mono ?_);(case side1=>exact zC HR1.out);(case side2=>exact HC1.out);rintro e w6 ⟨rfl,hb⟩;refine ⟨_,rfl,?_⟩;replace HB:=Aside0.mk (below_step zb hb);(try clear hb))|((with_reducible refine gate_callee (f:=107) rfl ?_);refine goesL_ (some 13) rfl rfl Try.func107 (by kernel_rfl) rfl #[.int .i64 a0,.slice A1 l1.length c1] rfl zl ?_;(with_reducible refine (spec_l4Table.calls k a0 _ _ l1 t141 _ ?side1 ?side2 A5.out).mono ?_);(case side1=>exact zC (Kd.C_below HR1.out HB.out));(case side2=>exact HC1.out);rintro e w7 ⟨v142,rfl,ho0,hb⟩;refine ⟨_,rfl,?_⟩;have HO143:=Aside0.mk (Kd.S_lower ho0 (below_size zb));replace HB:=Aside0.mk (below_step zb hb);(try clear hb);(try clear ho0)))
  go_loopg [6] k (fun kq v6 w'=>∃ (x6_1:Int),v6=.int .i64 x6_1∧Aside0 (spec_l4Good.l0 kq a0 t141 x6_1=some r)∧Aside0 (kq≤k)∧Aside0 (Kd.S (Kd.slice 4 Kd.bool) 127 w' w.heap.size (fun _=>True) v142 t141)∧Aside0 (Below w.heap.size w w'))
  case atStart=>exact ⟨(0),zo,H',⟨Nat.le_refl _⟩,⟨zS HO143.out⟩,⟨zb⟩⟩
  case round=>
   clear H'
   (try clear c1);(try clear p2);(try clear c4);(try clear c5)
   obtain ⟨x6_1,rfl,HA,HK1,HO_5,HB⟩:=hrel
   cases gk with
   | zero=>exact absurd HA.out (by simp [spec_l4Good.l0])
   | succ k1=>
    have H:=HA.out
    clear HA
    simp only [spec_l4Good.l0] at H
    by_cases c8:x6_1<a0
    ·rw [if_pos c8] at H
     have c8b0:decide (x6_1<a0)=true:=decide_eq_true c8
     clear c8
     by_cases c9:0≤x6_1
     ·rw [if_pos c9] at H
      have c9b0:decide (0≤x6_1)=true:=decide_eq_true c9
      clear c9
      by_cases c10:x6_1<(t141.length:Int)
      ·rw [if_pos c10] at H
       have c10b0:decide (x6_1<(t141.length:Int))=true:=decide_eq_true c10
       clear c10
       by_cases c11:x6_1<((rd_L3 t141 x6_1).length:Int)
       ·rw [if_pos c11] at H
        have c11b0:decide (x6_1<((rd_L3 t141 x6_1).length:Int))=true:=decide_eq_true c11
        clear c11
        obtain ⟨bq12,hbq12⟩:∃ b_:Bool,b_=(rdOf false (rd_L3 t141 x6_1) x6_1):=⟨_,rfl⟩
        replace H:(if bq12=true then (some false) else (spec_l4Good.l0 k1 a0 t141 (wrap64 (x6_1 + 1))))=some r:=by rw [←hbq12] at H;exact H
        have Nbq12:=Aside0.mk hbq12
        clear hbq12
        by_cases c13:bq12=true
        ·subst c13
         have H1:(some false)=some r:=by rw [if_pos rfl] at H;exact H
         clear H
         have H:=H1
         clear H1
         obtain rfl:=Option.some.inj H
         obtain ⟨Ao14,co14,eo14⟩:=Kd.S_slice HO_5.out
         subst eo14
         have p144:0≤(x6_1:Int):=of_decide_eq_true za
         have q144:x6_1<(t141.length:Int):=of_decide_eq_true za
         obtain ⟨ad144,A144_0,c144_0,e144,hx144_0,hl144_0,hi144_0⟩:=at_L3 (Kd.S_reads' HO_5.out).2.2 x6_1 p144 q144
         cases e144
         obtain ⟨ce144,hce144,hMe144,hcc144⟩:=Kd.S_get HO_5.out [] x6_1 p144 (by first|exact q144|exact of_decide_eq_true za|(have e_:=(Kd.S_reads' HO_5.out).1;omega))
         obtain ⟨ve144_0,rfl,ge144_0⟩:=hMe144
         have hv144_0:=hcc144 0 _ rfl
         rw [Nat.add_zero,show ((Kd.slice 4 Kd.bool)).sz=1 from rfl,Nat.mul_one] at hv144_0
         replace hv144_0:=Option.some.inj (hv144_0.symm.trans hx144_0)
         rw [hv144_0] at ge144_0
         have HL144_0:=Aside0.mk (show Kd.R Kd.bool 4 _ _ _ _ (rd_L3 t141 x6_1) from ge144_0)
         clear hv144_0 ge144_0
         clear hcc144 hce144
         have HR144_0:=Aside0.mk hi144_0
         have HC144_0:=Aside0.mk hl144_0
         clear hi144_0 hl144_0
         replace p144:=eq_true p144
         replace q144:=eq_true q144
         have p145:0≤(x6_1:Int):=of_decide_eq_true za
         have q145:x6_1<((rd_L3 t141 x6_1).length:Int):=of_decide_eq_true za
         obtain ⟨ad145,e145,hx145_0⟩:=Kd.at_bool (by repeat (first|(with_reducible exact HR144_0.out)|(with_reducible refine Kd.C_alloc ?_ _)|(with_reducible refine Kd.C_drewN ?_ _)|(with_reducible refine Kd.C_drew ?_)|exact HR144_0.out)) x6_1 p145 q145
         (try rw [←Nbq12.out] at hx145_0)
         cases e145
         replace p145:=eq_true p145
         replace q145:=eq_true q145
         go_wp2
         go_ret
         exact ⟨by first|rfl|(simp [errW_none,errW_some] <;> rfl)|(simp [*,errW_none,errW_some] <;> rfl),zb⟩
        ·replace c13:=Bool.eq_false_iff.mpr c13
         subst c13
         have H1:(spec_l4Good.l0 k1 a0 t141 (wrap64 (x6_1 + 1)))=some r:=by rw [if_neg (show ¬ (false=true) by decide)] at H;exact H
         clear H
         have H:=H1
         clear H1
         have H':=Aside0.mk H
         clear H
         obtain ⟨Ao15,co15,eo15⟩:=Kd.S_slice HO_5.out
         subst eo15
         have p144:0≤(x6_1:Int):=of_decide_eq_true za
         have q144:x6_1<(t141.length:Int):=of_decide_eq_true za
         obtain ⟨ad144,A144_0,c144_0,e144,hx144_0,hl144_0,hi144_0⟩:=at_L3 (Kd.S_reads' HO_5.out).2.2 x6_1 p144 q144
         cases e144
         obtain ⟨ce144,hce144,hMe144,hcc144⟩:=Kd.S_get HO_5.out [] x6_1 p144 (by first|exact q144|exact of_decide_eq_true za|(have e_:=(Kd.S_reads' HO_5.out).1;omega))
         obtain ⟨ve144_0,rfl,ge144_0⟩:=hMe144
         have hv144_0:=hcc144 0 _ rfl
         rw [Nat.add_zero,show ((Kd.slice 4 Kd.bool)).sz=1 from rfl,Nat.mul_one] at hv144_0
         replace hv144_0:=Option.some.inj (hv144_0.symm.trans hx144_0)
         rw [hv144_0] at ge144_0
         have HL144_0:=Aside0.mk (show Kd.R Kd.bool 4 _ _ _ _ (rd_L3 t141 x6_1) from ge144_0)
         clear hv144_0 ge144_0
         clear hcc144 hce144
         have HR144_0:=Aside0.mk hi144_0
         have HC144_0:=Aside0.mk hl144_0
         clear hi144_0 hl144_0
         replace p144:=eq_true p144
         replace q144:=eq_true q144
         have p145:0≤(x6_1:Int):=of_decide_eq_true za
         have q145:x6_1<((rd_L3 t141 x6_1).length:Int):=of_decide_eq_true za
         obtain ⟨ad145,e145,hx145_0⟩:=Kd.at_bool (by repeat (first|(with_reducible exact HR144_0.out)|(with_reducible refine Kd.C_alloc ?_ _)|(with_reducible refine Kd.C_drewN ?_ _)|(with_reducible refine Kd.C_drew ?_)|exact HR144_0.out)) x6_1 p145 q145
         (try rw [←Nbq12.out] at hx145_0)
         cases e145
         replace p145:=eq_true p145
         replace q145:=eq_true q145
         go_wp2
         go_roundg k1
         case measure=>have:=HK1.out;omega
         case rel=>exact ⟨(wrap64 (x6_1 + 1)),zo,H',⟨by have:=HK1.out;omega⟩,⟨zS HO_5.out⟩,⟨zb⟩⟩
       ·rw [if_neg c11] at H
        exact absurd H (by simp)
      ·rw [if_neg c10] at H
       exact absurd H (by simp)
     ·rw [if_neg c9] at H
      exact absurd H (by simp)
    ·rw [if_neg c8] at H
     have c8b0:decide (x6_1<a0)=false:=decide_eq_false c8
     clear c8
     obtain rfl:=Option.some.inj H
     go_wp2
     go_ret
     exact ⟨by first|rfl|(simp [errW_none,errW_some] <;> rfl)|(simp [*,errW_none,errW_some] <;> rfl),zb⟩
 ·replace c4:=Bool.eq_false_iff.mpr c4
  subst c4
  have H1:(some false)=some r:=by rw [if_neg (show ¬ (false=true) by decide)] at H;exact H
  clear H
  have H:=H1
  clear H1
  obtain rfl:=Option.some.inj H
  go_enter Try.func56,Try.ntmps56
  go_wp2_with (first|((with_reducible refine gate_callee (f:=106) rfl ?_);refine goesL_ (some 9) rfl rfl Try.func106 (by kernel_rfl) rfl #[.int .i64 a0,.slice A1 l1.length c1] rfl zl ?_;(with_reducible refine (spec_l4Pairs.calls k a0 _ _ l1 false _ ?side1 ?side2 A3.out).mono ?_);(case side1=>exact zC HR1.out);(case side2=>exact HC1.out);rintro e w16 ⟨rfl,hb⟩;refine ⟨_,rfl,?_⟩;replace HB:=Aside0.mk (below_step zb hb);(try clear hb)))
  go_ret
  exact ⟨by first|rfl|(simp [errW_none,errW_some] <;> rfl)|(simp [*,errW_none,errW_some] <;> rfl),zb⟩

/-! ### spec_l7Next: function 108 -/
mutual
def spec_l7Next.l0:Nat→List (List Bool)→List Int→List Int→Int→Int→Option (Int)
 | 0,_,_,_,_,_=>none
 | k + 1,x0,x1,x2,x3,x9=>if x9<(x1.length:Int) then (if 0≤x9 then (if 0≤(rd x1 x9) then (if (rd x1 x9)<(x2.length:Int) then (if (rd x2 (rd x1 x9))≥0 then (spec_l7Next.l0 k x0 x1 x2 x3 (wrap64 (x9 + 1))) else (spec_l7Next.l1 k x0 x1 x2 x3 x9 true 0)) else (none)) else (none)) else (none)) else (some (-1))
def spec_l7Next.l1:Nat→List (List Bool)→List Int→List Int→Int→Int→Bool→Int→Option (Int)
 | 0,_,_,_,_,_,_,_=>none
 | k + 1,x0,x1,x2,x3,x9,x10,x11=>if x11<(x2.length:Int) then (if 0≤x11 then (if x11<(x0.length:Int) then (if 0≤x9 then (if x9<(x1.length:Int) then (if 0≤(rd x1 x9) then (if (rd x1 x9)<((rd_L3 x0 x11).length:Int) then (if rdOf false (rd_L3 x0 x11) (rd x1 x9)=true then (if (rd x2 x11)<0 then (spec_l7Next.l1 k x0 x1 x2 x3 x9 false (wrap64 (x11 + 1))) else (if (rd x2 x11)>x3 then (spec_l7Next.l1 k x0 x1 x2 x3 x9 false (wrap64 (x11 + 1))) else (spec_l7Next.l1 k x0 x1 x2 x3 x9 x10 (wrap64 (x11 + 1))))) else (spec_l7Next.l1 k x0 x1 x2 x3 x9 x10 (wrap64 (x11 + 1)))) else (none)) else (none)) else (none)) else (none)) else (none)) else (none)) else (if x10=true then (if 0≤x9 then (if x9<(x1.length:Int) then (some (rd x1 x9)) else (none)) else (none)) else (spec_l7Next.l0 k x0 x1 x2 x3 (wrap64 (x9 + 1))))
end
def spec_l7Next.f (k:Nat) (l0:List (List Bool)) (l1:List Int) (l2:List Int) (a3:Int):Option (Int):=spec_l7Next.l0 k l0 l1 l2 a3 0
theorem spec_l7Next.mono_l:∀ k,(∀ y0 y1 y2 y3 y4,LeO (spec_l7Next.l0 k y0 y1 y2 y3 y4) (spec_l7Next.l0 (k + 1) y0 y1 y2 y3 y4))∧(∀ y0 y1 y2 y3 y4 y5 y6,LeO (spec_l7Next.l1 k y0 y1 y2 y3 y4 y5 y6) (spec_l7Next.l1 (k + 1) y0 y1 y2 y3 y4 y5 y6))
 | 0=>⟨fun _ _ _ _ _ r h=>by simp [spec_l7Next.l0] at h,fun _ _ _ _ _ _ _ r h=>by simp [spec_l7Next.l1] at h⟩
 | k + 1=>by
  obtain ⟨ih0,ih1⟩:=spec_l7Next.mono_l k
  refine ⟨?_,?_⟩
  ·intro y0 y1 y2 y3 y4
   unfold spec_l7Next.l0
   repeat' first
   | (with_reducible exact ih0 _ _ _ _ _)
   | (with_reducible exact ih1 _ _ _ _ _ _ _)
   | (with_reducible exact LeO.refl _)
   | (with_reducible exact LeO.none _)
   | (with_reducible refine LeO.ite ?_ ?_)
   | (with_reducible refine LeO.bind ?_ (fun _=>?_))
   | exact ih0 _ _ _ _ _
   | exact ih1 _ _ _ _ _ _ _
   | exact LeO.none _
   | refine LeO.ite ?_ ?_
   | refine LeO.bind ?_ (fun _=>?_)
  ·intro y0 y1 y2 y3 y4 y5 y6
   unfold spec_l7Next.l1
   repeat' first
   | (with_reducible exact ih0 _ _ _ _ _)
   | (with_reducible exact ih1 _ _ _ _ _ _ _)
   | (with_reducible exact LeO.refl _)
   | (with_reducible exact LeO.none _)
   | (with_reducible refine LeO.ite ?_ ?_)
   | (with_reducible refine LeO.bind ?_ (fun _=>?_))
   | exact ih0 _ _ _ _ _
   | exact ih1 _ _ _ _ _ _ _
   | exact LeO.none _
   | refine LeO.ite ?_ ?_
   | refine LeO.bind ?_ (fun _=>?_)
theorem spec_l7Next.mono:∀ a0 a1 a2 a3 k,LeO (spec_l7Next.f k a0 a1 a2 a3) (spec_l7Next.f (k + 1) a0 a1 a2 a3):=by
 intro a0 a1 a2 a3 k
 obtain ⟨ih0,ih1⟩:=spec_l7Next.mono_l k
 unfold spec_l7Next.f
 repeat' first
   | (with_reducible exact ih0 _ _ _ _ _)
   | (with_reducible exact ih1 _ _ _ _ _ _ _)
   | (with_reducible exact LeO.refl _)
   | (with_reducible exact LeO.none _)
   | (with_reducible refine LeO.ite ?_ ?_)
   | (with_reducible refine LeO.bind ?_ (fun _=>?_))
   | exact ih0 _ _ _ _ _
   | exact ih1 _ _ _ _ _ _ _
   | exact LeO.none _
   | refine LeO.ite ?_ ?_
   | refine LeO.bind ?_ (fun _=>?_)
set_option maxHeartbeats 8000000 in
set_option maxRecDepth 100000 in
theorem spec_l7Next.calls (k:Nat) (A0:Option Addr) (c0:Nat) (l0:List (List Bool)) (A1:Option Addr) (c1:Nat) (l1:List Int) (A2:Option Addr) (c2:Nat) (l2:List Int) (a3:Int) (r:Int) (w:World) (hr0:Kd.C (Kd.slice 4 Kd.bool) w A0 l0.length l0) (hc0:l0.length≤c0) (hr1:Kd.C (Kd.int .i64) w A1 l1.length l1) (hc1:l1.length≤c1) (hr2:Kd.C (Kd.int .i64) w A2 l2.length l2) (hc2:l2.length≤c2) (h:spec_l7Next.f k l0 l1 l2 a3=some r) :
  Calls Try.prog 108 #[.slice A0 l0.length c0,.slice A1 l1.length c1,.slice A2 l2.length c2,.int .i64 a3] w fun e w'=>e=.returned (.int .i64 r)∧Drawn0 w w':=by
 have HR0:=Aside0.mk hr0
 have HC0:=Aside0.mk hc0
 clear hr0 hc0
 have HR1:=Aside0.mk hr1
 have HC1:=Aside0.mk hc1
 clear hr1 hc1
 have HR2:=Aside0.mk hr2
 have HC2:=Aside0.mk hc2
 clear hr2 hc2
 have H:(spec_l7Next.l0 k l0 l1 l2 a3 0)=some r:=h
 clear h
 have H':=Aside0.mk H
 clear H
 go_enter Try.func108,Try.ntmps108
 go_wp2
 repeat (go_quiet (fail);try go_wp2)
 go_loopg [9] k (fun kq v9 w'=>∃ (x9_1:Int),v9=.int .i64 x9_1∧Aside0 (spec_l7Next.l0 kq l0 l1 l2 a3 x9_1=some r)∧Aside0 (kq≤k)∧Drawn0 w w')
 case atStart=>exact ⟨(0),zo,H',⟨Nat.le_refl _⟩,by repeat (first|exact Drawn0.refl _|apply Drawn0.step)⟩
 case round=>
  clear H'
  (try clear c1);(try clear c2);(try clear p2)
  obtain ⟨x9_1,rfl,HA,HK1,⟨m1,rfl⟩⟩:=hrel
  cases gk with
  | zero=>exact absurd HA.out (by simp [spec_l7Next.l0])
  | succ k1=>
   have H:=HA.out
   clear HA
   simp only [spec_l7Next.l0] at H
   by_cases c5:x9_1<(l1.length:Int)
   ·rw [if_pos c5] at H
    have c5b0:decide (x9_1<(l1.length:Int))=true:=decide_eq_true c5
    clear c5
    by_cases c6:0≤x9_1
    ·rw [if_pos c6] at H
     have c6b0:decide (0≤x9_1)=true:=decide_eq_true c6
     clear c6
     by_cases c7:0≤(rd l1 x9_1)
     ·rw [if_pos c7] at H
      have c7b0:decide (0≤(rd l1 x9_1))=true:=decide_eq_true c7
      clear c7
      by_cases c8:(rd l1 x9_1)<(l2.length:Int)
      ·rw [if_pos c8] at H
       have c8b0:decide ((rd l1 x9_1)<(l2.length:Int))=true:=decide_eq_true c8
       clear c8
       by_cases c9:(rd l2 (rd l1 x9_1))≥0
       ·rw [if_pos c9] at H
        have c9b0:decide (0≤(rd l2 (rd l1 x9_1)))=true:=decide_eq_true c9
        clear c9
        have H':=Aside0.mk H
        clear H
        have p146:0≤(x9_1:Int):=of_decide_eq_true za
        have q146:x9_1<(l1.length:Int):=of_decide_eq_true za
        obtain ⟨ad146,e146,hx146_0⟩:=Kd.at_int HR1.out x9_1 p146 q146
        cases e146
        replace p146:=eq_true p146
        replace q146:=eq_true q146
        have p147:0≤((rd l1 x9_1):Int):=of_decide_eq_true za
        have q147:(rd l1 x9_1)<(l2.length:Int):=of_decide_eq_true za
        obtain ⟨ad147,e147,hx147_0⟩:=Kd.at_int HR2.out (rd l1 x9_1) p147 q147
        cases e147
        replace p147:=eq_true p147
        replace q147:=eq_true q147
        go_wp2
        repeat (go_quiet (fail);try go_wp2)
        go_roundg k1
        case measure=>have:=HK1.out;omega
        case rel=>exact ⟨(wrap64 (x9_1 + 1)),zo,H',⟨by have:=HK1.out;omega⟩,by repeat (first|exact Drawn0.refl _|apply Drawn0.step)⟩
       ·rw [if_neg c9] at H
        have c9b0:decide (0≤(rd l2 (rd l1 x9_1)))=false:=decide_eq_false c9
        clear c9
        have H':=Aside0.mk H
        clear H
        have p146:0≤(x9_1:Int):=of_decide_eq_true za
        have q146:x9_1<(l1.length:Int):=of_decide_eq_true za
        obtain ⟨ad146,e146,hx146_0⟩:=Kd.at_int HR1.out x9_1 p146 q146
        cases e146
        replace p146:=eq_true p146
        replace q146:=eq_true q146
        have p147:0≤((rd l1 x9_1):Int):=of_decide_eq_true za
        have q147:(rd l1 x9_1)<(l2.length:Int):=of_decide_eq_true za
        obtain ⟨ad147,e147,hx147_0⟩:=Kd.at_int HR2.out (rd l1 x9_1) p147 q147
        cases e147
        replace p147:=eq_true p147
        replace q147:=eq_true q147
        go_wp2
        repeat (go_quiet (fail);try go_wp2)
        go_loopg [10,11] k1 (fun kq v10 v11 w'=>∃ (x10_2:Bool) (x11_2:Int),v10=.bool x10_2∧v11=.int .i64 x11_2∧Aside0 (spec_l7Next.l1 kq l0 l1 l2 a3 x9_1 x10_2 x11_2=some r)∧Aside0 (kq≤k1)∧Drawn0 w w')
        case atStart=>exact ⟨(true),(0),zo,zo,H',⟨Nat.le_refl _⟩,by repeat (first|exact Drawn0.refl _|apply Drawn0.step)⟩
        case round=>
         clear H'
         (try clear c1);(try clear p1);(try clear q1);(try clear hx1);(try clear c2);(try clear p2);(try clear c5);(try clear c5b0);(try clear c6);(try clear c6b0);(try clear p6);(try clear c7);(try clear c7b0);(try clear c8);(try clear c8b0);(try clear c9);(try clear c9b0);(try clear hx146_0);(try clear hx147_0);(try clear p146);(try clear p147);(try clear q146);(try clear q147)
         obtain ⟨x10_2,x11_2,rfl,rfl,HA,HK2,⟨m2,rfl⟩⟩:=hrel
         cases gk with
         | zero=>exact absurd HA.out (by simp [spec_l7Next.l1])
         | succ k2=>
          have H:=HA.out
          clear HA
          simp only [spec_l7Next.l1] at H
          by_cases c10:x11_2<(l2.length:Int)
          ·rw [if_pos c10] at H
           have c10b0:decide (x11_2<(l2.length:Int))=true:=decide_eq_true c10
           clear c10
           by_cases c11:0≤x11_2
           ·rw [if_pos c11] at H
            have c11b0:decide (0≤x11_2)=true:=decide_eq_true c11
            clear c11
            by_cases c12:x11_2<(l0.length:Int)
            ·rw [if_pos c12] at H
             have c12b0:decide (x11_2<(l0.length:Int))=true:=decide_eq_true c12
             clear c12
             by_cases c13:0≤x9_1
             ·rw [if_pos c13] at H
              have c13b0:decide (0≤x9_1)=true:=decide_eq_true c13
              clear c13
              by_cases c14:x9_1<(l1.length:Int)
              ·rw [if_pos c14] at H
               have c14b0:decide (x9_1<(l1.length:Int))=true:=decide_eq_true c14
               clear c14
               by_cases c15:0≤(rd l1 x9_1)
               ·rw [if_pos c15] at H
                have c15b0:decide (0≤(rd l1 x9_1))=true:=decide_eq_true c15
                clear c15
                by_cases c16:(rd l1 x9_1)<((rd_L3 l0 x11_2).length:Int)
                ·rw [if_pos c16] at H
                 have c16b0:decide ((rd l1 x9_1)<((rd_L3 l0 x11_2).length:Int))=true:=decide_eq_true c16
                 clear c16
                 obtain ⟨bq17,hbq17⟩:∃ b_:Bool,b_=(rdOf false (rd_L3 l0 x11_2) (rd l1 x9_1)):=⟨_,rfl⟩
                 replace H:(if bq17=true then (if (rd l2 x11_2)<0 then (spec_l7Next.l1 k2 l0 l1 l2 a3 x9_1 false (wrap64 (x11_2 + 1))) else (if (rd l2 x11_2)>a3 then (spec_l7Next.l1 k2 l0 l1 l2 a3 x9_1 false (wrap64 (x11_2 + 1))) else (spec_l7Next.l1 k2 l0 l1 l2 a3 x9_1 x10_2 (wrap64 (x11_2 + 1))))) else (spec_l7Next.l1 k2 l0 l1 l2 a3 x9_1 x10_2 (wrap64 (x11_2 + 1))))=some r:=by rw [←hbq17] at H;exact H
                 have Nbq17:=Aside0.mk hbq17
                 clear hbq17
                 by_cases c18:bq17=true
                 ·subst c18
                  have H1:(if (rd l2 x11_2)<0 then (spec_l7Next.l1 k2 l0 l1 l2 a3 x9_1 false (wrap64 (x11_2 + 1))) else (if (rd l2 x11_2)>a3 then (spec_l7Next.l1 k2 l0 l1 l2 a3 x9_1 false (wrap64 (x11_2 + 1))) else (spec_l7Next.l1 k2 l0 l1 l2 a3 x9_1 x10_2 (wrap64 (x11_2 + 1)))))=some r:=by rw [if_pos rfl] at H;exact H
                  clear H
                  have H:=H1
                  clear H1
                  by_cases c19:(rd l2 x11_2)<0
                  ·rw [if_pos c19] at H
                   have c19b0:decide ((rd l2 x11_2)<0)=true:=decide_eq_true c19
                   clear c19
                   have H':=Aside0.mk H
                   clear H
                   have p148:0≤(x11_2:Int):=of_decide_eq_true za
                   have q148:x11_2<(l0.length:Int):=of_decide_eq_true za
                   obtain ⟨ad148,A148_0,c148_0,e148,hx148_0,hl148_0,hi148_0⟩:=at_L3 HR0.out x11_2 p148 q148
                   cases e148
                   have HR148_0:=Aside0.mk hi148_0
                   have HC148_0:=Aside0.mk hl148_0
                   clear hi148_0 hl148_0
                   replace p148:=eq_true p148
                   replace q148:=eq_true q148
                   have p149:0≤(x9_1:Int):=of_decide_eq_true za
                   have q149:x9_1<(l1.length:Int):=of_decide_eq_true za
                   obtain ⟨ad149,e149,hx149_0⟩:=Kd.at_int HR1.out x9_1 p149 q149
                   obtain rfl:ad146=ad149:=(by injection e149)
                   replace p149:=eq_true p149
                   replace q149:=eq_true q149
                   have p150:0≤((rd l1 x9_1):Int):=of_decide_eq_true za
                   have q150:(rd l1 x9_1)<((rd_L3 l0 x11_2).length:Int):=of_decide_eq_true za
                   obtain ⟨ad150,e150,hx150_0⟩:=Kd.at_bool HR148_0.out (rd l1 x9_1) p150 q150
                   (try rw [←Nbq17.out] at hx150_0)
                   cases e150
                   replace p150:=eq_true p150
                   replace q150:=eq_true q150
                   have p151:0≤(x11_2:Int):=of_decide_eq_true za
                   have q151:x11_2<(l2.length:Int):=of_decide_eq_true za
                   obtain ⟨ad151,e151,hx151_0⟩:=Kd.at_int HR2.out x11_2 p151 q151
                   obtain rfl:ad147=ad151:=(by injection e151)
                   replace p151:=eq_true p151
                   replace q151:=eq_true q151
                   go_wp2
                   repeat (go_quiet (fail);try go_wp2)
                   go_roundg k2
                   case measure=>have:=HK1.out;have:=HK2.out;omega
                   case rel=>exact ⟨(false),(wrap64 (x11_2 + 1)),zo,zo,H',⟨by have:=HK1.out;have:=HK2.out;omega⟩,by repeat (first|exact Drawn0.refl _|apply Drawn0.step)⟩
                  ·rw [if_neg c19] at H
                   have c19b0:decide ((rd l2 x11_2)<0)=false:=decide_eq_false c19
                   clear c19
                   by_cases c20:(rd l2 x11_2)>a3
                   ·rw [if_pos c20] at H
                    have c20b0:decide (a3<(rd l2 x11_2))=true:=decide_eq_true c20
                    clear c20
                    have H':=Aside0.mk H
                    clear H
                    have p148:0≤(x11_2:Int):=of_decide_eq_true za
                    have q148:x11_2<(l0.length:Int):=of_decide_eq_true za
                    obtain ⟨ad148,A148_0,c148_0,e148,hx148_0,hl148_0,hi148_0⟩:=at_L3 HR0.out x11_2 p148 q148
                    cases e148
                    have HR148_0:=Aside0.mk hi148_0
                    have HC148_0:=Aside0.mk hl148_0
                    clear hi148_0 hl148_0
                    replace p148:=eq_true p148
                    replace q148:=eq_true q148
                    have p149:0≤(x9_1:Int):=of_decide_eq_true za
                    have q149:x9_1<(l1.length:Int):=of_decide_eq_true za
                    obtain ⟨ad149,e149,hx149_0⟩:=Kd.at_int HR1.out x9_1 p149 q149
                    obtain rfl:ad146=ad149:=(by injection e149)
                    replace p149:=eq_true p149
                    replace q149:=eq_true q149
                    have p150:0≤((rd l1 x9_1):Int):=of_decide_eq_true za
                    have q150:(rd l1 x9_1)<((rd_L3 l0 x11_2).length:Int):=of_decide_eq_true za
                    obtain ⟨ad150,e150,hx150_0⟩:=Kd.at_bool HR148_0.out (rd l1 x9_1) p150 q150
                    (try rw [←Nbq17.out] at hx150_0)
                    cases e150
                    replace p150:=eq_true p150
                    replace q150:=eq_true q150
                    have p151:0≤(x11_2:Int):=of_decide_eq_true za
                    have q151:x11_2<(l2.length:Int):=of_decide_eq_true za
                    obtain ⟨ad151,e151,hx151_0⟩:=Kd.at_int HR2.out x11_2 p151 q151
                    obtain rfl:ad147=ad151:=(by injection e151)
                    replace p151:=eq_true p151
                    replace q151:=eq_true q151
                    have p152:0≤(x11_2:Int):=of_decide_eq_true za
                    have q152:x11_2<(l2.length:Int):=of_decide_eq_true za
                    obtain ⟨ad152,e152,hx152_0⟩:=Kd.at_int HR2.out x11_2 p152 q152
                    obtain rfl:ad147=ad152:=(by injection e152)
                    replace p152:=eq_true p152
                    replace q152:=eq_true q152
                    go_wp2
                    repeat (go_quiet (fail);try go_wp2)
                    go_roundg k2
                    case measure=>have:=HK1.out;have:=HK2.out;omega
                    case rel=>exact ⟨(false),(wrap64 (x11_2 + 1)),zo,zo,H',⟨by have:=HK1.out;have:=HK2.out;omega⟩,by repeat (first|exact Drawn0.refl _|apply Drawn0.step)⟩
                   ·rw [if_neg c20] at H
                    have c20b0:decide (a3<(rd l2 x11_2))=false:=decide_eq_false c20
                    clear c20
                    have H':=Aside0.mk H
                    clear H
                    have p148:0≤(x11_2:Int):=of_decide_eq_true za
                    have q148:x11_2<(l0.length:Int):=of_decide_eq_true za
                    obtain ⟨ad148,A148_0,c148_0,e148,hx148_0,hl148_0,hi148_0⟩:=at_L3 HR0.out x11_2 p148 q148
                    cases e148
                    have HR148_0:=Aside0.mk hi148_0
                    have HC148_0:=Aside0.mk hl148_0
                    clear hi148_0 hl148_0
                    replace p148:=eq_true p148
                    replace q148:=eq_true q148
                    have p149:0≤(x9_1:Int):=of_decide_eq_true za
                    have q149:x9_1<(l1.length:Int):=of_decide_eq_true za
                    obtain ⟨ad149,e149,hx149_0⟩:=Kd.at_int HR1.out x9_1 p149 q149
                    obtain rfl:ad146=ad149:=(by injection e149)
                    replace p149:=eq_true p149
                    replace q149:=eq_true q149
                    have p150:0≤((rd l1 x9_1):Int):=of_decide_eq_true za
                    have q150:(rd l1 x9_1)<((rd_L3 l0 x11_2).length:Int):=of_decide_eq_true za
                    obtain ⟨ad150,e150,hx150_0⟩:=Kd.at_bool HR148_0.out (rd l1 x9_1) p150 q150
                    (try rw [←Nbq17.out] at hx150_0)
                    cases e150
                    replace p150:=eq_true p150
                    replace q150:=eq_true q150
                    have p151:0≤(x11_2:Int):=of_decide_eq_true za
                    have q151:x11_2<(l2.length:Int):=of_decide_eq_true za
                    obtain ⟨ad151,e151,hx151_0⟩:=Kd.at_int HR2.out x11_2 p151 q151
                    obtain rfl:ad147=ad151:=(by injection e151)
                    replace p151:=eq_true p151
                    replace q151:=eq_true q151
                    have p152:0≤(x11_2:Int):=of_decide_eq_true za
                    have q152:x11_2<(l2.length:Int):=of_decide_eq_true za
                    obtain ⟨ad152,e152,hx152_0⟩:=Kd.at_int HR2.out x11_2 p152 q152
                    obtain rfl:ad147=ad152:=(by injection e152)
                    replace p152:=eq_true p152
                    replace q152:=eq_true q152
                    go_wp2
                    repeat (go_quiet (fail);try go_wp2)
                    go_roundg k2
                    case measure=>have:=HK1.out;have:=HK2.out;omega
                    case rel=>exact ⟨(x10_2),(wrap64 (x11_2 + 1)),zo,zo,H',⟨by have:=HK1.out;have:=HK2.out;omega⟩,by repeat (first|exact Drawn0.refl _|apply Drawn0.step)⟩
                 ·replace c18:=Bool.eq_false_iff.mpr c18
                  subst c18
                  have H1:(spec_l7Next.l1 k2 l0 l1 l2 a3 x9_1 x10_2 (wrap64 (x11_2 + 1)))=some r:=by rw [if_neg (show ¬ (false=true) by decide)] at H;exact H
                  clear H
                  have H:=H1
                  clear H1
                  have H':=Aside0.mk H
                  clear H
                  have p148:0≤(x11_2:Int):=of_decide_eq_true za
                  have q148:x11_2<(l0.length:Int):=of_decide_eq_true za
                  obtain ⟨ad148,A148_0,c148_0,e148,hx148_0,hl148_0,hi148_0⟩:=at_L3 HR0.out x11_2 p148 q148
                  cases e148
                  have HR148_0:=Aside0.mk hi148_0
                  have HC148_0:=Aside0.mk hl148_0
                  clear hi148_0 hl148_0
                  replace p148:=eq_true p148
                  replace q148:=eq_true q148
                  have p149:0≤(x9_1:Int):=of_decide_eq_true za
                  have q149:x9_1<(l1.length:Int):=of_decide_eq_true za
                  obtain ⟨ad149,e149,hx149_0⟩:=Kd.at_int HR1.out x9_1 p149 q149
                  obtain rfl:ad146=ad149:=(by injection e149)
                  replace p149:=eq_true p149
                  replace q149:=eq_true q149
                  have p150:0≤((rd l1 x9_1):Int):=of_decide_eq_true za
                  have q150:(rd l1 x9_1)<((rd_L3 l0 x11_2).length:Int):=of_decide_eq_true za
                  obtain ⟨ad150,e150,hx150_0⟩:=Kd.at_bool HR148_0.out (rd l1 x9_1) p150 q150
                  (try rw [←Nbq17.out] at hx150_0)
                  cases e150
                  replace p150:=eq_true p150
                  replace q150:=eq_true q150
                  go_wp2
                  repeat (go_quiet (fail);try go_wp2)
                  go_roundg k2
                  case measure=>have:=HK1.out;have:=HK2.out;omega
                  case rel=>exact ⟨(x10_2),(wrap64 (x11_2 + 1)),zo,zo,H',⟨by have:=HK1.out;have:=HK2.out;omega⟩,by repeat (first|exact Drawn0.refl _|apply Drawn0.step)⟩
                ·rw [if_neg c16] at H
                 exact absurd H (by simp)
               ·rw [if_neg c15] at H
                exact absurd H (by simp)
              ·rw [if_neg c14] at H
               exact absurd H (by simp)
             ·rw [if_neg c13] at H
              exact absurd H (by simp)
            ·rw [if_neg c12] at H
             exact absurd H (by simp)
           ·rw [if_neg c11] at H
            exact absurd H (by simp)
          ·rw [if_neg c10] at H
           have c10b0:decide (x11_2<(l2.length:Int))=false:=decide_eq_false c10
           clear c10
           by_cases c21:x10_2=true
           ·subst c21
            have H1:(if 0≤x9_1 then (if x9_1<(l1.length:Int) then (some (rd l1 x9_1)) else (none)) else (none))=some r:=by rw [if_pos rfl] at H;exact H
            clear H
            have H:=H1
            clear H1
            by_cases c22:0≤x9_1
            ·rw [if_pos c22] at H
             have c22b0:decide (0≤x9_1)=true:=decide_eq_true c22
             clear c22
             by_cases c23:x9_1<(l1.length:Int)
             ·rw [if_pos c23] at H
              have c23b0:decide (x9_1<(l1.length:Int))=true:=decide_eq_true c23
              clear c23
              obtain rfl:=Option.some.inj H
              have p153:0≤(x9_1:Int):=of_decide_eq_true za
              have q153:x9_1<(l1.length:Int):=of_decide_eq_true za
              obtain ⟨ad153,e153,hx153_0⟩:=Kd.at_int HR1.out x9_1 p153 q153
              obtain rfl:ad146=ad153:=(by injection e153)
              replace p153:=eq_true p153
              replace q153:=eq_true q153
              go_wp2
              repeat (go_quiet (fail);try go_wp2)
              go_ret
              exact ⟨by first|rfl|(simp;done)|(simp [*];done),by repeat (first|exact Drawn0.refl _|apply Drawn0.step)⟩
             ·rw [if_neg c23] at H
              exact absurd H (by simp)
            ·rw [if_neg c22] at H
             exact absurd H (by simp)
           ·replace c21:=Bool.eq_false_iff.mpr c21
            subst c21
            have H1:(spec_l7Next.l0 k2 l0 l1 l2 a3 (wrap64 (x9_1 + 1)))=some r:=by rw [if_neg (show ¬ (false=true) by decide)] at H;exact H
            clear H
            have H:=H1
            clear H1
            have H':=Aside0.mk H
            clear H
            go_wp2
            repeat (go_quiet (fail);try go_wp2)
            go_roundg k2
            case measure=>have:=HK1.out;have:=HK2.out;omega
            case rel=>exact ⟨(wrap64 (x9_1 + 1)),zo,H',⟨by have:=HK1.out;have:=HK2.out;omega⟩,by repeat (first|exact Drawn0.refl _|apply Drawn0.step)⟩
      ·rw [if_neg c8] at H
       exact absurd H (by simp)
     ·rw [if_neg c7] at H
      exact absurd H (by simp)
    ·rw [if_neg c6] at H
     exact absurd H (by simp)
   ·rw [if_neg c5] at H
    have c5b0:decide (x9_1<(l1.length:Int))=false:=decide_eq_false c5
    clear c5
    obtain rfl:=Option.some.inj H
    go_wp2
    repeat (go_quiet (fail);try go_wp2)
    go_ret
    exact ⟨by first|rfl|(simp;done)|(simp [*];done),by repeat (first|exact Drawn0.refl _|apply Drawn0.step)⟩

/-! ### spec_l7Soon: function 109 -/
def spec_l7Soon.l0:Nat→List Int→Int→Int→Int→Option (Int)
 | 0,_,_,_,_=>none
 | k + 1,x0,x1,x5,x6=>if x6<(x0.length:Int) then (if 0≤x6 then (if (rd x0 x6)>x1 then (if x5<0 then (spec_l7Soon.l0 k x0 x1 (rd x0 x6) (wrap64 (x6 + 1))) else (if (rd x0 x6)<x5 then (spec_l7Soon.l0 k x0 x1 (rd x0 x6) (wrap64 (x6 + 1))) else (spec_l7Soon.l0 k x0 x1 x5 (wrap64 (x6 + 1))))) else (spec_l7Soon.l0 k x0 x1 x5 (wrap64 (x6 + 1)))) else (none)) else (some x5)
def spec_l7Soon.f (k:Nat) (l0:List Int) (a1:Int):Option (Int):=spec_l7Soon.l0 k l0 a1 (-1) 0
theorem spec_l7Soon.mono_l:∀ k,(∀ y0 y1 y2 y3,LeO (spec_l7Soon.l0 k y0 y1 y2 y3) (spec_l7Soon.l0 (k + 1) y0 y1 y2 y3))
 | 0=>fun _ _ _ _ r h=>by simp [spec_l7Soon.l0] at h
 | k + 1=>by
  have ih0:=spec_l7Soon.mono_l k
  ·intro y0 y1 y2 y3
   unfold spec_l7Soon.l0
   repeat' first
   | (with_reducible exact ih0 _ _ _ _)
   | (with_reducible exact LeO.refl _)
   | (with_reducible exact LeO.none _)
   | (with_reducible refine LeO.ite ?_ ?_)
   | (with_reducible refine LeO.bind ?_ (fun _=>?_))
   | exact ih0 _ _ _ _
   | exact LeO.none _
   | refine LeO.ite ?_ ?_
   | refine LeO.bind ?_ (fun _=>?_)
theorem spec_l7Soon.mono:∀ a0 a1 k,LeO (spec_l7Soon.f k a0 a1) (spec_l7Soon.f (k + 1) a0 a1):=by
 intro a0 a1 k
 have ih0:=spec_l7Soon.mono_l k
 unfold spec_l7Soon.f
 repeat' first
   | (with_reducible exact ih0 _ _ _ _)
   | (with_reducible exact LeO.refl _)
   | (with_reducible exact LeO.none _)
   | (with_reducible refine LeO.ite ?_ ?_)
   | (with_reducible refine LeO.bind ?_ (fun _=>?_))
   | exact ih0 _ _ _ _
   | exact LeO.none _
   | refine LeO.ite ?_ ?_
   | refine LeO.bind ?_ (fun _=>?_)
set_option maxHeartbeats 8000000 in
set_option maxRecDepth 100000 in
theorem spec_l7Soon.calls (k:Nat) (A0:Option Addr) (c0:Nat) (l0:List Int) (a1:Int) (r:Int) (w:World) (hr0:Kd.C (Kd.int .i64) w A0 l0.length l0) (hc0:l0.length≤c0) (h:spec_l7Soon.f k l0 a1=some r) :
  Calls Try.prog 109 #[.slice A0 l0.length c0,.int .i64 a1] w fun e w'=>e=.returned (.int .i64 r)∧Drawn0 w w':=by
 have HR0:=Aside0.mk hr0
 have HC0:=Aside0.mk hc0
 clear hr0 hc0
 have H:(spec_l7Soon.l0 k l0 a1 (-1) 0)=some r:=h
 clear h
 have H':=Aside0.mk H
 clear H
 go_enter Try.func109,Try.ntmps109
 go_wp2
 go_loopg [5,6] k (fun kq v5 v6 w'=>∃ (x5_1:Int) (x6_1:Int),v5=.int .i64 x5_1∧v6=.int .i64 x6_1∧Aside0 (spec_l7Soon.l0 kq l0 a1 x5_1 x6_1=some r)∧Aside0 (kq≤k)∧Drawn0 w w')
 case atStart=>exact ⟨((-1)),(0),zo,zo,H',⟨Nat.le_refl _⟩,by repeat (first|exact Drawn0.refl _|apply Drawn0.step)⟩
 case round=>
  clear H'
  (try clear c1);(try clear p2)
  obtain ⟨x5_1,x6_1,rfl,rfl,HA,HK1,⟨m1,rfl⟩⟩:=hrel
  cases gk with
  | zero=>exact absurd HA.out (by simp [spec_l7Soon.l0])
  | succ k1=>
   have H:=HA.out
   clear HA
   simp only [spec_l7Soon.l0] at H
   by_cases c3:x6_1<(l0.length:Int)
   ·rw [if_pos c3] at H
    have c3b0:decide (x6_1<(l0.length:Int))=true:=decide_eq_true c3
    clear c3
    by_cases c4:0≤x6_1
    ·rw [if_pos c4] at H
     have c4b0:decide (0≤x6_1)=true:=decide_eq_true c4
     clear c4
     by_cases c5:(rd l0 x6_1)>a1
     ·rw [if_pos c5] at H
      have c5b0:decide (a1<(rd l0 x6_1))=true:=decide_eq_true c5
      clear c5
      by_cases c6:x5_1<0
      ·rw [if_pos c6] at H
       have c6b0:decide (x5_1<0)=true:=decide_eq_true c6
       clear c6
       have H':=Aside0.mk H
       clear H
       have p154:0≤(x6_1:Int):=of_decide_eq_true za
       have q154:x6_1<(l0.length:Int):=of_decide_eq_true za
       obtain ⟨ad154,e154,hx154_0⟩:=Kd.at_int HR0.out x6_1 p154 q154
       cases e154
       replace p154:=eq_true p154
       replace q154:=eq_true q154
       have p155:0≤(x6_1:Int):=of_decide_eq_true za
       have q155:x6_1<(l0.length:Int):=of_decide_eq_true za
       obtain ⟨ad155,e155,hx155_0⟩:=Kd.at_int HR0.out x6_1 p155 q155
       obtain rfl:ad154=ad155:=(by injection e155)
       replace p155:=eq_true p155
       replace q155:=eq_true q155
       go_wp2
       go_roundg k1
       case measure=>have:=HK1.out;omega
       case rel=>exact ⟨(rd l0 x6_1),(wrap64 (x6_1 + 1)),zo,zo,H',⟨by have:=HK1.out;omega⟩,by repeat (first|exact Drawn0.refl _|apply Drawn0.step)⟩
      ·rw [if_neg c6] at H
       have c6b0:decide (x5_1<0)=false:=decide_eq_false c6
       clear c6
       by_cases c7:(rd l0 x6_1)<x5_1
       ·rw [if_pos c7] at H
        have c7b0:decide ((rd l0 x6_1)<x5_1)=true:=decide_eq_true c7
        clear c7
        have H':=Aside0.mk H
        clear H
        have p154:0≤(x6_1:Int):=of_decide_eq_true za
        have q154:x6_1<(l0.length:Int):=of_decide_eq_true za
        obtain ⟨ad154,e154,hx154_0⟩:=Kd.at_int HR0.out x6_1 p154 q154
        cases e154
        replace p154:=eq_true p154
        replace q154:=eq_true q154
        have p156:0≤(x6_1:Int):=of_decide_eq_true za
        have q156:x6_1<(l0.length:Int):=of_decide_eq_true za
        obtain ⟨ad156,e156,hx156_0⟩:=Kd.at_int HR0.out x6_1 p156 q156
        obtain rfl:ad154=ad156:=(by injection e156)
        replace p156:=eq_true p156
        replace q156:=eq_true q156
        have p157:0≤(x6_1:Int):=of_decide_eq_true za
        have q157:x6_1<(l0.length:Int):=of_decide_eq_true za
        obtain ⟨ad157,e157,hx157_0⟩:=Kd.at_int HR0.out x6_1 p157 q157
        obtain rfl:ad154=ad157:=(by injection e157)
        replace p157:=eq_true p157
        replace q157:=eq_true q157
        go_wp2
        go_roundg k1
        case measure=>have:=HK1.out;omega
        case rel=>exact ⟨(rd l0 x6_1),(wrap64 (x6_1 + 1)),zo,zo,H',⟨by have:=HK1.out;omega⟩,by repeat (first|exact Drawn0.refl _|apply Drawn0.step)⟩
       ·rw [if_neg c7] at H
        have c7b0:decide ((rd l0 x6_1)<x5_1)=false:=decide_eq_false c7
        clear c7
        have H':=Aside0.mk H
        clear H
        have p154:0≤(x6_1:Int):=of_decide_eq_true za
        have q154:x6_1<(l0.length:Int):=of_decide_eq_true za
        obtain ⟨ad154,e154,hx154_0⟩:=Kd.at_int HR0.out x6_1 p154 q154
        cases e154
        replace p154:=eq_true p154
        replace q154:=eq_true q154
        have p156:0≤(x6_1:Int):=of_decide_eq_true za
        have q156:x6_1<(l0.length:Int):=of_decide_eq_true za
        obtain ⟨ad156,e156,hx156_0⟩:=Kd.at_int HR0.out x6_1 p156 q156
        obtain rfl:ad154=ad156:=(by injection e156)
        replace p156:=eq_true p156
        replace q156:=eq_true q156
        go_wp2
        go_roundg k1
        case measure=>have:=HK1.out;omega
        case rel=>exact ⟨(x5_1),(wrap64 (x6_1 + 1)),zo,zo,H',⟨by have:=HK1.out;omega⟩,by repeat (first|exact Drawn0.refl _|apply Drawn0.step)⟩
     ·rw [if_neg c5] at H
      have c5b0:decide (a1<(rd l0 x6_1))=false:=decide_eq_false c5
      clear c5
      have H':=Aside0.mk H
      clear H
      have p154:0≤(x6_1:Int):=of_decide_eq_true za
      have q154:x6_1<(l0.length:Int):=of_decide_eq_true za
      obtain ⟨ad154,e154,hx154_0⟩:=Kd.at_int HR0.out x6_1 p154 q154
      cases e154
      replace p154:=eq_true p154
      replace q154:=eq_true q154
      go_wp2
      go_roundg k1
      case measure=>have:=HK1.out;omega
      case rel=>exact ⟨(x5_1),(wrap64 (x6_1 + 1)),zo,zo,H',⟨by have:=HK1.out;omega⟩,by repeat (first|exact Drawn0.refl _|apply Drawn0.step)⟩
    ·rw [if_neg c4] at H
     exact absurd H (by simp)
   ·rw [if_neg c3] at H
    have c3b0:decide (x6_1<(l0.length:Int))=false:=decide_eq_false c3
    clear c3
    obtain rfl:=Option.some.inj H
    go_wp2
    go_ret
    exact ⟨by first|rfl|(simp;done)|(simp [*];done),by repeat (first|exact Drawn0.refl _|apply Drawn0.step)⟩

end Go.Proofs.Ytbcfmegepkhlpaa.XFnExactLabelPlan
-- minified
