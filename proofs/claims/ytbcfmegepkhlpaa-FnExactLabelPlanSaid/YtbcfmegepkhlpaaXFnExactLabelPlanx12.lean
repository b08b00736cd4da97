-- Written by a program of this session (the kit's print, widened). Proved here: what each function answers, for the arguments that its contract names.
import Derived.Test.YtbcfmegepkhlpaaXFnExactLabelPlanx0
import Derived.Test.YtbcfmegepkhlpaaXFnExactLabelPlanx7
import Derived.Test.YtbcfmegepkhlpaaXFnExactLabelPlanx8
import Derived.Test.YtbcfmegepkhlpaaXFnExactLabelPlanx9
import Derived.Test.YtbcfmegepkhlpaaXFnExactLabelPlanx10
import Derived.Test.YtbcfmegepkhlpaaXFnExactLabelPlanx11
namespace Go.Proofs.Ytbcfmegepkhlpaa.XFnExactLabelPlan
open Go.RowKit Go.Proofs.YtbcfmegepkhlpaaW.PrintWords Go.Proofs.YtbcfmegepkhlpaaW.PrintLast Go.Proofs.YtbcfmegepkhlpaaW.PrintMore
attribute [local go_sem] max2_int min2_int max_two min_two max_three min_three max_four min_four   -- for this text's walks alone
attribute [local go_sem] idxA_72_0 idxA_72_1 fldS_96_0 fldS_96_1 fldS_96_2 fldS_111_0 fldS_111_1 fldS_111_2
set_option linter.unusedVariables false
set_option linter.unusedSimpArgs false

/-! ### spec_l5Less: function 112 -/
mutual
def spec_l5Less.l0:Nat→List Int→List Int→Int→Option (Bool)
 | 0,_,_,_=>none
 | k + 1,x0,x1,x5=>if x5<(x0.length:Int) then (spec_l5Less.j1 k x0 x1 x5 (decide (x5<(x1.length:Int)))) else (spec_l5Less.j1 k x0 x1 x5 false)
def spec_l5Less.j1:Nat→List Int→List Int→Int→Bool→Option (Bool)
 | 0,_,_,_,_=>none
 | k + 1,x0,x1,x5,x15=>if x15=true then (if 0≤x5 then (if x5<(x0.length:Int) then (if x5<(x1.length:Int) then (if (rd x0 x5)=(rd x1 x5) then (spec_l5Less.l0 k x0 x1 (wrap64 (x5 + 1))) else (some (decide ((rd x0 x5)<(rd x1 x5))))) else (none)) else (none)) else (none)) else (some (decide ((x0.length:Int)<(x1.length:Int))))
end
def spec_l5Less.f (k:Nat) (l0:List Int) (l1:List Int):Option (Bool):=spec_l5Less.l0 k l0 l1 0
theorem spec_l5Less.mono_l:∀ k,(∀ y0 y1 y2,LeO (spec_l5Less.l0 k y0 y1 y2) (spec_l5Less.l0 (k + 1) y0 y1 y2))∧(∀ y0 y1 y2 y3,LeO (spec_l5Less.j1 k y0 y1 y2 y3) (spec_l5Less.j1 (k + 1) y0 y1 y2 y3))
 | 0=>⟨fun _ _ _ r h=>by simp [spec_l5Less.l0] at h,fun _ _ _ _ r h=>by simp [spec_l5Less.j1] at h⟩
 | k + 1=>by
  obtain ⟨ih0,ih1⟩:=spec_l5Less.mono_l k
  refine ⟨?_,?_⟩
  ·intro y0 y1 y2
   unfold spec_l5Less.l0
   repeat' first
   | (with_reducible exact ih0 _ _ _)
   | (with_reducible exact ih1 _ _ _ _)
   | (with_reducible exact LeO.refl _)
   | (with_reducible exact LeO.none _)
   | (with_reducible refine LeO.ite ?_ ?_)
   | (with_reducible refine LeO.bind ?_ (fun _=>?_))
   | exact ih0 _ _ _
   | exact ih1 _ _ _ _
   | exact LeO.none _
   | refine LeO.ite ?_ ?_
   | refine LeO.bind ?_ (fun _=>?_)
  ·intro y0 y1 y2 y3
   unfold spec_l5Less.j1
   repeat' first
   | (with_reducible exact ih0 _ _ _)
   | (with_reducible exact ih1 _ _ _ _)
   | (with_reducible exact LeO.refl _)
   | (with_reducible exact LeO.none _)
   | (with_reducible refine LeO.ite ?_ ?_)
   | (with_reducible refine LeO.bind ?_ (fun _=>?_))
   | exact ih0 _ _ _
   | exact ih1 _ _ _ _
   | exact LeO.none _
   | refine LeO.ite ?_ ?_
   | refine LeO.bind ?_ (fun _=>?_)
theorem spec_l5Less.mono:∀ a0 a1 k,LeO (spec_l5Less.f k a0 a1) (spec_l5Less.f (k + 1) a0 a1):=by
 intro a0 a1 k
 obtain ⟨ih0,ih1⟩:=spec_l5Less.mono_l k
 unfold spec_l5Less.f
 repeat' first
   | (with_reducible exact ih0 _ _ _)
   | (with_reducible exact ih1 _ _ _ _)
   | (with_reducible exact LeO.refl _)
   | (with_reducible exact LeO.none _)
   | (with_reducible refine LeO.ite ?_ ?_)
   | (with_reducible refine LeO.bind ?_ (fun _=>?_))
   | exact ih0 _ _ _
   | exact ih1 _ _ _ _
   | exact LeO.none _
   | refine LeO.ite ?_ ?_
   | refine LeO.bind ?_ (fun _=>?_)
set_option maxHeartbeats 8000000 in
set_option maxRecDepth 100000 in
theorem spec_l5Less.calls (k:Nat) (A0:Option Addr) (c0:Nat) (l0:List Int) (A1:Option Addr) (c1:Nat) (l1:List Int) (r:Bool) (w:World) (hr0:Kd.C (Kd.int .i64) w A0 l0.length l0) (hc0:l0.length≤c0) (hr1:Kd.C (Kd.int .i64) w A1 l1.length l1) (hc1:l1.length≤c1) (h:spec_l5Less.f k l0 l1=some r) :
  Calls Try.prog 112 #[.slice A0 l0.length c0,.slice A1 l1.length c1] w fun e w'=>e=.returned (.bool r)∧Drawn0 w w':=by
 have HR0:=Aside0.mk hr0
 have HC0:=Aside0.mk hc0
 clear hr0 hc0
 have HR1:=Aside0.mk hr1
 have HC1:=Aside0.mk hc1
 clear hr1 hc1
 have H:(spec_l5Less.l0 k l0 l1 0)=some r:=h
 clear h
 have H':=Aside0.mk H
 clear H
 go_enter Try.func112,Try.ntmps112
 go_wp2
 repeat (go_quiet (fail);try go_wp2)
 go_loopg [5] k (fun kq v5 w'=>∃ (x5_1:Int),v5=.int .i64 x5_1∧Aside0 (spec_l5Less.l0 kq l0 l1 x5_1=some r)∧Aside0 (kq≤k)∧Drawn0 w w')
 case atStart=>exact ⟨(0),zo,H',⟨Nat.le_refl _⟩,by repeat (first|exact Drawn0.refl _|apply Drawn0.step)⟩
 case round=>
  clear H'
  (try clear c1);(try clear p2)
  obtain ⟨x5_1,rfl,HA,HK1,⟨m1,rfl⟩⟩:=hrel
  cases gk with
  | zero=>exact absurd HA.out (by simp [spec_l5Less.l0])
  | succ k1=>
   have H:=HA.out
   clear HA
   simp only [spec_l5Less.l0] at H
   have HC3:=Aside0.mk H
   clear H
   go_upto_region 2 with (fail)
   repeat (go_quiet (fail);go_upto_region 2 with (fail))
   go_cut [15] (fun v15 wc=>∃ (kq:Nat) (x15_2:Bool),v15=.bool x15_2∧Aside0 (spec_l5Less.j1 kq l0 l1 x5_1 x15_2=some r)∧Aside0 (kq≤k1)∧Drawn0 w wc)
   case first=>
    have H:=HC3.out
    clear HC3
    by_cases c4:x5_1<(l0.length:Int)
    ·rw [if_pos c4] at H
     have c4b0:decide (x5_1<(l0.length:Int))=true:=decide_eq_true c4
     clear c4
     (first|rw [c4b0]|(simp only [i64_w,i32_w];rw [c4b0])|skip)
     have H':=Aside0.mk H
     clear H
     go_wp2
     repeat (go_quiet (fail);try go_wp2)
     go_meet
     case rel=>exact ⟨_,(decide (x5_1<(l1.length:Int))),zo,H',⟨by have:=HK1.out;first|omega|exact Nat.le_refl _⟩,by repeat (first|exact Drawn0.refl _|apply Drawn0.step)⟩
    ·rw [if_neg c4] at H
     have c4b0:decide (x5_1<(l0.length:Int))=false:=decide_eq_false c4
     clear c4
     (first|rw [c4b0]|(simp only [i64_w,i32_w];rw [c4b0])|skip)
     have H':=Aside0.mk H
     clear H
     go_wp2
     repeat (go_quiet (fail);try go_wp2)
     go_meet
     case rel=>exact ⟨_,(false),zo,H',⟨by have:=HK1.out;first|omega|exact Nat.le_refl _⟩,by repeat (first|exact Drawn0.refl _|apply Drawn0.step)⟩
   case rest=>
    clear HC3
    (try clear c1);(try clear p2);(try clear c4);(try clear c4b0)
    obtain ⟨kq,x15_2,rfl,HA,HJ2,⟨mc2,rfl⟩⟩:=hcut
    cases kq with
    | zero=>exact absurd HA.out (by simp [spec_l5Less.j1])
    | succ kj2=>
     have H:=HA.out
     clear HA
     simp only [spec_l5Less.j1] at H
     by_cases c5:x15_2=true
     ·subst c5
      have H1:(if 0≤x5_1 then (if x5_1<(l0.length:Int) then (if x5_1<(l1.length:Int) then (if (rd l0 x5_1)=(rd l1 x5_1) then (spec_l5Less.l0 kj2 l0 l1 (wrap64 (x5_1 + 1))) else (some (decide ((rd l0 x5_1)<(rd l1 x5_1))))) else (none)) else (none)) else (none))=some r:=by rw [if_pos rfl] at H;exact H
      clear H
      have H:=H1
      clear H1
      by_cases c6:0≤x5_1
      ·rw [if_pos c6] at H
       have c6b0:decide (0≤x5_1)=true:=decide_eq_true c6
       clear c6
       by_cases c7:x5_1<(l0.length:Int)
       ·rw [if_pos c7] at H
        have c7b0:decide (x5_1<(l0.length:Int))=true:=decide_eq_true c7
        clear c7
        by_cases c8:x5_1<(l1.length:Int)
        ·rw [if_pos c8] at H
         have c8b0:decide (x5_1<(l1.length:Int))=true:=decide_eq_true c8
         clear c8
         by_cases c9:(rd l0 x5_1)=(rd l1 x5_1)
         ·rw [if_pos c9] at H
          have c9b0:((rd l0 x5_1) == (rd l1 x5_1))=true:=beq_iff_eq.mpr c9
          have c9b1:((rd l0 x5_1) != (rd l1 x5_1))=false:=bne_eq_false_iff_eq.mpr c9
          clear c9
          have H':=Aside0.mk H
          clear H
          have p266:0≤(x5_1:Int):=of_decide_eq_true za
          have q266:x5_1<(l0.length:Int):=of_decide_eq_true za
          obtain ⟨ad266,e266,hx266_0⟩:=Kd.at_int HR0.out x5_1 p266 q266
          cases e266
          replace p266:=eq_true p266
          replace q266:=eq_true q266
          have p267:0≤(x5_1:Int):=of_decide_eq_true za
          have q267:x5_1<(l1.length:Int):=of_decide_eq_true za
          obtain ⟨ad267,e267,hx267_0⟩:=Kd.at_int HR1.out x5_1 p267 q267
          cases e267
          replace p267:=eq_true p267
          replace q267:=eq_true q267
          go_wp2
          repeat (go_quiet (fail);try go_wp2)
          go_roundg kj2
          case measure=>have:=HK1.out;have:=HJ2.out;omega
          case rel=>exact ⟨(wrap64 (x5_1 + 1)),zo,H',⟨by have:=HK1.out;have:=HJ2.out;omega⟩,by repeat (first|exact Drawn0.refl _|apply Drawn0.step)⟩
         ·rw [if_neg c9] at H
          have c9b0:((rd l0 x5_1) == (rd l1 x5_1))=false:=beq_eq_false_iff_ne.mpr c9
          have c9b1:((rd l0 x5_1) != (rd l1 x5_1))=true:=bne_iff_ne.mpr c9
          obtain rfl:=Option.some.inj H
          have p266:0≤(x5_1:Int):=of_decide_eq_true za
          have q266:x5_1<(l0.length:Int):=of_decide_eq_true za
          obtain ⟨ad266,e266,hx266_0⟩:=Kd.at_int HR0.out x5_1 p266 q266
          cases e266
          replace p266:=eq_true p266
          replace q266:=eq_true q266
          have p267:0≤(x5_1:Int):=of_decide_eq_true za
          have q267:x5_1<(l1.length:Int):=of_decide_eq_true za
          obtain ⟨ad267,e267,hx267_0⟩:=Kd.at_int HR1.out x5_1 p267 q267
          cases e267
          replace p267:=eq_true p267
          replace q267:=eq_true q267
          have p268:0≤(x5_1:Int):=of_decide_eq_true za
          have q268:x5_1<(l0.length:Int):=of_decide_eq_true za
          obtain ⟨ad268,e268,hx268_0⟩:=Kd.at_int HR0.out x5_1 p268 q268
          obtain rfl:ad266=ad268:=(by injection e268)
          replace p268:=eq_true p268
          replace q268:=eq_true q268
          have p269:0≤(x5_1:Int):=of_decide_eq_true za
          have q269:x5_1<(l1.length:Int):=of_decide_eq_true za
          obtain ⟨ad269,e269,hx269_0⟩:=Kd.at_int HR1.out x5_1 p269 q269
          obtain rfl:ad267=ad269:=(by injection e269)
          replace p269:=eq_true p269
          replace q269:=eq_true q269
          go_wp2
          repeat (go_quiet (fail);try go_wp2)
          go_ret
          exact ⟨by first|rfl|(simp;done)|(simp [*];done),by repeat (first|exact Drawn0.refl _|apply Drawn0.step)⟩
        ·rw [if_neg c8] at H
         exact absurd H (by simp)
       ·rw [if_neg c7] at H
        exact absurd H (by simp)
      ·rw [if_neg c6] at H
       exact absurd H (by simp)
     ·replace c5:=Bool.eq_false_iff.mpr c5
      subst c5
      have H1:(some (decide ((l0.length:Int)<(l1.length:Int))))=some r:=by rw [if_neg (show ¬ (false=true) by decide)] at H;exact H
      clear H
      have H:=H1
      clear H1
      obtain rfl:=Option.some.inj H
      go_wp2
      repeat (go_quiet (fail);try go_wp2)
      go_ret
      exact ⟨by first|rfl|(simp;done)|(simp [*];done),by repeat (first|exact Drawn0.refl _|apply Drawn0.step)⟩

/-! ### spec_l7Labels: function 60 -/
mutual
def spec_l7Labels.l0:Nat→Int→List Int→List (List Bool)→Int→Option (List Int)
 | 0,_,_,_,_=>none
 | k + 1,x0,x5,x6,x7=>if x7≤x0 then (spec_l7Labels.l1 k x0 x5 x6 x7 (-1) (([]:List Int)) 0) else (some x5)
def spec_l7Labels.l1:Nat→Int→List Int→List (List Bool)→Int→Int→List Int→Int→Option (List Int)
 | 0,_,_,_,_,_,_,_=>none
 | k + 1,x0,x5,x6,x7,x8,x9,x10=>if x10<x0 then ((spec_l7Told.f k x6 x5 x10).bind fun bt280=>(if 0≤x10 then (if x10<(x5.length:Int) then (if (rd x5 x10)=0 then (if bt280.2=true then (if x8<0 then (spec_l7Labels.l1 k x0 x5 x6 x7 x10 bt280.1 (wrap64 (x10 + 1))) else ((spec_l5Less.f k bt280.1 x9).bind fun t285=>(if t285=true then (spec_l7Labels.l1 k x0 x5 x6 x7 x10 bt280.1 (wrap64 (x10 + 1))) else (spec_l7Labels.l1 k x0 x5 x6 x7 x8 x9 (wrap64 (x10 + 1)))))) else (spec_l7Labels.l1 k x0 x5 x6 x7 x8 x9 (wrap64 (x10 + 1)))) else (spec_l7Labels.l1 k x0 x5 x6 x7 x8 x9 (wrap64 (x10 + 1)))) else (none)) else (none))) else (if 0≤x8 then (if x8<(x5.length:Int) then (spec_l7Labels.l0 k x0 (x5.set (x8:Int).toNat x7) x6 (wrap64 (x7 + 1))) else (none)) else (none))
end
def spec_l7Labels.f (k:Nat) (a0:Int) (l1:List (S72)):Option (List Int):=if 0≤a0 then (if (a0:Int).toNat≤35184372088832 then ((spec_l4Table.f k a0 l1).bind fun t273=>(spec_l7Labels.l0 k a0 (List.replicate (a0:Int).toNat 0) t273 1)) else (none)) else (none)
theorem spec_l7Labels.mono_l:∀ k,(∀ y0 y1 y2 y3,LeO (spec_l7Labels.l0 k y0 y1 y2 y3) (spec_l7Labels.l0 (k + 1) y0 y1 y2 y3))∧(∀ y0 y1 y2 y3 y4 y5 y6,LeO (spec_l7Labels.l1 k y0 y1 y2 y3 y4 y5 y6) (spec_l7Labels.l1 (k + 1) y0 y1 y2 y3 y4 y5 y6))
 | 0=>⟨fun _ _ _ _ r h=>by simp [spec_l7Labels.l0] at h,fun _ _ _ _ _ _ _ r h=>by simp [spec_l7Labels.l1] at h⟩
 | k + 1=>by
  obtain ⟨ih0,ih1⟩:=spec_l7Labels.mono_l k
  refine ⟨?_,?_⟩
  ·intro y0 y1 y2 y3
   unfold spec_l7Labels.l0
   repeat' first
   | (with_reducible exact ih0 _ _ _ _)
   | (with_reducible exact ih1 _ _ _ _ _ _ _)
   | (with_reducible exact spec_l4Table.mono _ _ _)
   | (with_reducible exact spec_l5Less.mono _ _ _)
   | (with_reducible exact spec_l7Told.mono _ _ _ _)
   | (with_reducible exact LeO.refl _)
   | (with_reducible exact LeO.none _)
   | (with_reducible refine LeO.ite ?_ ?_)
   | (with_reducible refine LeO.bind ?_ (fun _=>?_))
   | exact ih0 _ _ _ _
   | exact ih1 _ _ _ _ _ _ _
   | exact spec_l4Table.mono _ _ _
   | exact spec_l5Less.mono _ _ _
   | exact spec_l7Told.mono _ _ _ _
   | exact LeO.none _
   | refine LeO.ite ?_ ?_
   | refine LeO.bind ?_ (fun _=>?_)
  ·intro y0 y1 y2 y3 y4 y5 y6
   unfold spec_l7Labels.l1
   repeat' first
   | (with_reducible exact ih0 _ _ _ _)
   | (with_reducible exact ih1 _ _ _ _ _ _ _)
   | (with_reducible exact spec_l4Table.mono _ _ _)
   | (with_reducible exact spec_l5Less.mono _ _ _)
   | (with_reducible exact spec_l7Told.mono _ _ _ _)
   | (with_reducible exact LeO.refl _)
   | (with_reducible exact LeO.none _)
   | (with_reducible refine LeO.ite ?_ ?_)
   | (with_reducible refine LeO.bind ?_ (fun _=>?_))
   | exact ih0 _ _ _ _
   | exact ih1 _ _ _ _ _ _ _
   | exact spec_l4Table.mono _ _ _
   | exact spec_l5Less.mono _ _ _
   | exact spec_l7Told.mono _ _ _ _
   | exact LeO.none _
   | refine LeO.ite ?_ ?_
   | refine LeO.bind ?_ (fun _=>?_)
theorem spec_l7Labels.mono:∀ a0 a1 k,LeO (spec_l7Labels.f k a0 a1) (spec_l7Labels.f (k + 1) a0 a1):=by
 intro a0 a1 k
 obtain ⟨ih0,ih1⟩:=spec_l7Labels.mono_l k
 unfold spec_l7Labels.f
 repeat' first
   | (with_reducible exact ih0 _ _ _ _)
   | (with_reducible exact ih1 _ _ _ _ _ _ _)
   | (with_reducible exact spec_l4Table.mono _ _ _)
   | (with_reducible exact spec_l5Less.mono _ _ _)
   | (with_reducible exact spec_l7Told.mono _ _ _ _)
   | (with_reducible exact LeO.refl _)
   | (with_reducible exact LeO.none _)
   | (with_reducible refine LeO.ite ?_ ?_)
   | (with_reducible refine LeO.bind ?_ (fun _=>?_))
   | exact ih0 _ _ _ _
   | exact ih1 _ _ _ _ _ _ _
   | exact spec_l4Table.mono _ _ _
   | exact spec_l5Less.mono _ _ _
   | exact spec_l7Told.mono _ _ _ _
   | exact LeO.none _
   | refine LeO.ite ?_ ?_
   | refine LeO.bind ?_ (fun _=>?_)
set_option maxHeartbeats 8000000 in
set_option maxRecDepth 100000 in
theorem spec_l7Labels.calls (k:Nat) (a0:Int) (A1:Option Addr) (c1:Nat) (l1:List (S72)) (r:List Int) (w:World) (hr1:Kd.C k72 w A1 l1.length l1) (hc1:l1.length≤c1) (h:spec_l7Labels.f k a0 l1=some r) :
  Calls Try.prog 60 #[.int .i64 a0,.slice A1 l1.length c1] w fun e w'=>∃ v0_:Value,e=.returned (v0_)∧Kd.R (Kd.int .i64) 3 w' w.heap.size (fun _=>True) v0_ r∧Below w.heap.size w w':=by
 have HR1:=Aside0.mk hr1
 have HC1:=Aside0.mk hc1
 clear hr1 hc1
 have HB:=Aside0.mk (Below.refl w.heap.size w)
 have H:(if 0≤a0 then (if (a0:Int).toNat≤35184372088832 then ((spec_l4Table.f k a0 l1).bind fun t273=>(spec_l7Labels.l0 k a0 (List.replicate (a0:Int).toNat 0) t273 1)) else (none)) else (none))=some r:=h
 clear h
 by_cases c3:0≤a0
 ·rw [if_pos c3] at H
  have c3b0:=eq_true c3
  have c3b1:decide (0≤a0)=true:=decide_eq_true c3
  clear c3
  by_cases c4:(a0:Int).toNat≤35184372088832
  ·rw [if_pos c4] at H
   have c4b0:=eq_true c4
   have c4b1:decide ((a0:Int).toNat≤35184372088832)=true:=decide_eq_true c4
   clear c4
   obtain ⟨y270,hy270⟩:∃ y_:List Int,y_=(List.replicate (a0:Int).toNat 0):=⟨_,rfl⟩
   replace H:((spec_l4Table.f k a0 l1).bind fun t273=>(spec_l7Labels.l0 k a0 y270 t273 1))=some r:=by first|(rw [hy270];with_reducible exact H)|(have H2_:=(Option.bind_some _ _).symm.trans H;rw [hy270];with_reducible exact H2_)|(have H2_:=(Option.bind_some _ _).symm.trans H;with_reducible exact H2_)|with_reducible exact H|(rw [hy270];exact H)|exact H
   have Ny270:=Aside0.mk hy270
   clear hy270
   replace H:=Option.bind_eq_some_iff.mp H
   obtain ⟨t273,A50,H⟩:=H
   replace H:(spec_l7Labels.l0 k a0 y270 t273 1)=some r:=H
   have A5:=Aside0.mk A50
   clear A50
   have H':=Aside0.mk H
   clear H
   go_enter Try.func60,Try.ntmps60
   go_wp2_with (first|((with_reducible refine gate_dst (N:=14) rfl ?_);refine Kd.R_make (Kd.int .i64) _ 3 rfl (N:=14) rfl 43 _ _ rfl a0 rfl rfl Try.underlying43 (.int .i64 0) 8 info3 rfl (by decide) (by omega) 0 (ok:=fun _=>True) (okp:=fun _=>True) rfl (fun _ hk=>hk) trivial (of_decide_eq_true za) (Nat.le_trans (Nat.mul_le_mul_right _ (of_decide_eq_true za:a0.toNat≤35184372088832)) (by omega)) (Below.refl _ _) (Nat.le_refl _) ?_;intro v271 w6 ho7 hb hg_ hnew_;clear hg_ hnew_;(first|rw [←Ny270.out] at ho7|(simp only [Int.reduceToNat] at ho7;rw [←Ny270.out] at ho7));have HO272:=Aside0.mk (Kd.R_lower ho7 (below_size zb));replace HB:=Aside0.mk (below_step zb hb);clear hb ho7)|((with_reducible refine gate_callee (f:=107) rfl ?_);refine goesL_ (some 17) rfl rfl Try.func107 (by kernel_rfl) rfl #[.int .i64 a0,.slice A1 l1.length c1] rfl zl ?_;(with_reducible refine (spec_l4Table.calls k a0 _ _ l1 t273 _ ?side1 ?side2 A5.out).mono ?_);(case side1=>exact zC (Kd.C_below HR1.out HB.out));(case side2=>exact HC1.out);rintro e w8 ⟨v274,rfl,ho0,hb⟩;refine ⟨_,rfl,?_⟩;replace HO272:=Aside0.mk (Kd.R_below (zR HO272.out) hb);have HO275:=Aside0.mk (Kd.S_lower ho0 (below_size zb));replace HB:=Aside0.mk (below_step zb hb);(try clear hb);(try clear ho0)))
   go_loopg [7] k (fun kq v7 w'=>∃ (x5_1:List Int) (x7_1:Int),v7=.int .i64 x7_1∧Aside0 (spec_l7Labels.l0 kq a0 x5_1 t273 x7_1=some r)∧Aside0 (kq≤k)∧Aside0 (Kd.R (Kd.int .i64) 3 w' w.heap.size (fun _=>True) v271 x5_1)∧Aside0 (Kd.S (Kd.slice 4 Kd.bool) 127 w' w.heap.size (fun _=>True) v274 t273)∧Aside0 (Below w.heap.size w w'))
   case atStart=>exact ⟨(y270),(1),zo,H',⟨Nat.le_refl _⟩,⟨zR HO272.out⟩,⟨zS HO275.out⟩,⟨zb⟩⟩
   case round=>
    clear H'
    (try clear c1);(try clear p2);(try clear c3);(try clear c3b0);(try clear c3b1);(try clear c4);(try clear c4b0);(try clear c4b1);(try clear c6)
    obtain ⟨x5_1,x7_1,rfl,HA,HK1,HO_5,HO_6,HB⟩:=hrel
    cases gk with
    | zero=>exact absurd HA.out (by simp [spec_l7Labels.l0])
    | succ k1=>
     have H:=HA.out
     clear HA
     simp only [spec_l7Labels.l0] at H
     by_cases c9:x7_1≤a0
     ·rw [if_pos c9] at H
      have c9b0:decide (x7_1≤a0)=true:=decide_eq_true c9
      clear c9
      obtain ⟨y276,hy276⟩:∃ y_:List Int,y_=(([]:List Int)):=⟨_,rfl⟩
      replace H:(spec_l7Labels.l1 k1 a0 x5_1 t273 x7_1 (-1) y276 0)=some r:=by first|(rw [hy276];with_reducible exact H)|(have H2_:=(Option.bind_some _ _).symm.trans H;rw [hy276];with_reducible exact H2_)|(have H2_:=(Option.bind_some _ _).symm.trans H;with_reducible exact H2_)|with_reducible exact H|(rw [hy276];exact H)|exact H
      have Ny276:=Aside0.mk hy276
      clear hy276
      have H':=Aside0.mk H
      clear H
      go_wp2_with (first|((with_reducible refine gate_dst (N:=23) rfl ?_);refine Kd.R_lit (Kd.int .i64) _ 3 ?hg (N:=23) ?hd (xs:=([]:List Int)) (inner:=[]) (ok:=fun _=>True) (okp:=fun _=>True) ?hr ?hp (fun _ hk=>hk) trivial (Below.refl _ _) (Nat.le_refl _) (by simp) ?_;(case hd=>rfl);(case hg=>rfl);(case hr=>first|(go_simp;done)|(go_simp;rfl));(case hp=>exact (Reps.none _ _));intro v277 w10 ho11 hb hg_ hnew_;clear hg_ hnew_;(first|rw [←Ny276.out] at ho11|(simp only [Int.reduceToNat] at ho11;rw [←Ny276.out] at ho11));have n0_:=Aside0.mk (Kd.R_elder' (zR HO_5.out) (Kd.R_base ho11) hb);have n1_:=Aside0.mk (Kd.S_below (zS HO_6.out) hb);have n2_:=Aside0.mk (Kd.R_lower (Kd.R_new' ho11 (Kd.R_lt (zR HO_5.out))) (below_size zb));have n3_:=Aside0.mk (below_step zb hb);clear HO_5;clear HO_6;clear HB;have HO_5:=n0_;have HO_6:=n1_;have HO278:=n2_;have HB:=n3_;clear n0_ n1_ n2_ n3_;clear hb ho11))
      go_loopg [8,9,10] k1 (fun kq v8 v9 v10 w'=>∃ (x8_2:Int) (x9_2:List Int) (x10_2:Int),v8=.int .i64 x8_2∧v10=.int .i64 x10_2∧Aside0 (spec_l7Labels.l1 kq a0 x5_1 t273 x7_1 x8_2 x9_2 x10_2=some r)∧Aside0 (kq≤k1)∧Aside0 (Kd.R (Kd.int .i64) 3 w' w.heap.size (fun k_=>some k_≠(v9:Value).ownBlock) v271 x5_1)∧Aside0 (Kd.S (Kd.slice 4 Kd.bool) 127 w' w.heap.size (fun _=>True) v274 t273)∧Aside0 (Kd.R (Kd.int .i64) 3 w' w.heap.size (fun k_=>some k_≠(v271:Value).ownBlock) v9 x9_2)∧Aside0 (Below w.heap.size w w'))
      case atStart=>exact ⟨((-1)),(y276),(0),zo,zo,H',⟨Nat.le_refl _⟩,⟨zR (Kd.R_mono HO_5.out (fun _ hk=>hk.2))⟩,⟨zS HO_6.out⟩,⟨zR (Kd.R_mono HO278.out (fun _ hk=>hk.2))⟩,⟨zb⟩⟩
      case round=>
       clear H'
       (try clear c1);(try clear p2);(try clear c3);(try clear c3b0);(try clear c3b1);(try clear c4);(try clear c4b0);(try clear c4b1);(try clear c6);(try clear c9);(try clear c9b0);(try clear c10)
       obtain ⟨x8_2,x9_2,x10_2,rfl,rfl,HA,HK2,HO_5,HO_6,HO_9,HB⟩:=hrel
       cases gk with
       | zero=>exact absurd HA.out (by simp [spec_l7Labels.l1])
       | succ k2=>
        have H:=HA.out
        clear HA
        simp only [spec_l7Labels.l1] at H
        by_cases c12:x10_2<a0
        ·rw [if_pos c12] at H
         have c12b0:decide (x10_2<a0)=true:=decide_eq_true c12
         clear c12
         replace H:=Option.bind_eq_some_iff.mp H
         obtain ⟨⟨t280,t281⟩,A130,H⟩:=H
         replace H:(if 0≤x10_2 then (if x10_2<(x5_1.length:Int) then (if (rd x5_1 x10_2)=0 then (if t281=true then (if x8_2<0 then (spec_l7Labels.l1 k2 a0 x5_1 t273 x7_1 x10_2 t280 (wrap64 (x10_2 + 1))) else ((spec_l5Less.f k2 t280 x9_2).bind fun t285=>(if t285=true then (spec_l7Labels.l1 k2 a0 x5_1 t273 x7_1 x10_2 t280 (wrap64 (x10_2 + 1))) else (spec_l7Labels.l1 k2 a0 x5_1 t273 x7_1 x8_2 x9_2 (wrap64 (x10_2 + 1)))))) else (spec_l7Labels.l1 k2 a0 x5_1 t273 x7_1 x8_2 x9_2 (wrap64 (x10_2 + 1)))) else (spec_l7Labels.l1 k2 a0 x5_1 t273 x7_1 x8_2 x9_2 (wrap64 (x10_2 + 1)))) else (none)) else (none))=some r:=H
         have A13:=Aside0.mk A130
         clear A130
         by_cases c14:0≤x10_2
         ·rw [if_pos c14] at H
          have c14b0:decide (0≤x10_2)=true:=decide_eq_true c14
          clear c14
          by_cases c15:x10_2<(x5_1.length:Int)
          ·rw [if_pos c15] at H
           have c15b0:decide (x10_2<(x5_1.length:Int))=true:=decide_eq_true c15
           clear c15
           by_cases c16:(rd x5_1 x10_2)=0
           ·rw [if_pos c16] at H
            have c16b0:((rd x5_1 x10_2) == 0)=true:=beq_iff_eq.mpr c16
            have c16b1:((rd x5_1 x10_2) != 0)=false:=bne_eq_false_iff_eq.mpr c16
            clear c16
            by_cases c17:t281=true
            ·subst c17
             have H1:(if x8_2<0 then (spec_l7Labels.l1 k2 a0 x5_1 t273 x7_1 x10_2 t280 (wrap64 (x10_2 + 1))) else ((spec_l5Less.f k2 t280 x9_2).bind fun t285=>(if t285=true then (spec_l7Labels.l1 k2 a0 x5_1 t273 x7_1 x10_2 t280 (wrap64 (x10_2 + 1))) else (spec_l7Labels.l1 k2 a0 x5_1 t273 x7_1 x8_2 x9_2 (wrap64 (x10_2 + 1))))))=some r:=by rw [if_pos rfl] at H;exact H
             clear H
             have H:=H1
             clear H1
             by_cases c18:x8_2<0
             ·rw [if_pos c18] at H
              have c18b0:decide (x8_2<0)=true:=decide_eq_true c18
              clear c18
              have H':=Aside0.mk H
              clear H
              obtain ⟨Ao19,co19,eo19⟩:=Kd.S_slice HO_6.out
              subst eo19
              obtain ⟨Ao20,co20,eo20⟩:=Kd.R_slice HO_5.out
              subst eo20
              go_wp2_with (first|((with_reducible refine gate_callee (f:=111) rfl ?_);refine goesL_ (some 33) rfl rfl Try.func111 (by kernel_rfl) rfl #[.slice Ao19 t273.length co19,.slice Ao20 x5_1.length co20,.int .i64 x10_2] rfl zl ?_;(with_reducible refine (spec_l7Told.calls k2 _ _ t273 _ _ x5_1 x10_2 t280 true _ ?side1 ?side2 ?side3 ?side4 A13.out).mono ?_);(case side1=>exact zC ((Kd.S_reads' HO_6.out).2.2));(case side2=>exact (Kd.S_reads' HO_6.out).2.1);(case side3=>exact zC ((Kd.R_reads' HO_5.out).2.2));(case side4=>exact (Kd.R_reads' HO_5.out).2.1);rintro e w21 ⟨v282,rfl,ho0,hb⟩;refine ⟨_,rfl,?_⟩;have n0_:=Aside0.mk (Kd.R_elder' (zR HO_5.out) (Kd.R_base ho0) hb);have n1_:=Aside0.mk (Kd.S_below (zS HO_6.out) hb);have n2_:=Aside0.mk (Kd.R_elder' (zR HO_9.out) (Kd.R_base ho0) hb);have n3_:=Aside0.mk (Kd.R_lower (Kd.R_new' (Kd.R_new' ho0 (Kd.R_lt (zR HO_5.out))) (Kd.R_lt (zR HO_9.out))) (below_size zb));have n4_:=Aside0.mk (below_step zb hb);clear HO_5;clear HO_6;clear HO_9;clear HB;have HO_5:=n0_;have HO_6:=n1_;have HO_9:=n2_;have HO283:=n3_;have HB:=n4_;clear n0_ n1_ n2_ n3_ n4_;(try clear hb);(try clear ho0);have p284:0≤(x10_2:Int):=of_decide_eq_true za;have q284:x10_2<(x5_1.length:Int):=of_decide_eq_true za;obtain ⟨ad284,e284,hx284_0⟩:=Kd.at_int (Kd.R_reads' HO_5.out).2.2 x10_2 p284 q284;cases e284;replace p284:=eq_true p284;replace q284:=eq_true q284))
              go_roundg k2
              case measure=>have:=HK1.out;have:=HK2.out;omega
              case rel=>exact ⟨(x10_2),(t280),(wrap64 (x10_2 + 1)),zo,zo,H',⟨by have:=HK1.out;have:=HK2.out;omega⟩,⟨zR (Kd.R_mono HO_5.out (fun _ hk=>hk.2))⟩,⟨zS HO_6.out⟩,⟨zR (Kd.R_mono HO283.out (fun _ hk=>hk.1.2))⟩,⟨zb⟩⟩
             ·rw [if_neg c18] at H
              have c18b0:decide (x8_2<0)=false:=decide_eq_false c18
              clear c18
              replace H:=Option.bind_eq_some_iff.mp H
              obtain ⟨t285,A220,H⟩:=H
              replace H:(if t285=true then (spec_l7Labels.l1 k2 a0 x5_1 t273 x7_1 x10_2 t280 (wrap64 (x10_2 + 1))) else (spec_l7Labels.l1 k2 a0 x5_1 t273 x7_1 x8_2 x9_2 (wrap64 (x10_2 + 1))))=some r:=H
              have A22:=Aside0.mk A220
              clear A220
              by_cases c23:t285=true
              ·subst c23
               have H1:(spec_l7Labels.l1 k2 a0 x5_1 t273 x7_1 x10_2 t280 (wrap64 (x10_2 + 1)))=some r:=by rw [if_pos rfl] at H;exact H
               clear H
               have H:=H1
               clear H1
               have H':=Aside0.mk H
               clear H
               obtain ⟨Ao24,co24,eo24⟩:=Kd.S_slice HO_6.out
               subst eo24
               obtain ⟨Ao25,co25,eo25⟩:=Kd.R_slice HO_5.out
               subst eo25
               go_wp2_with (first|((with_reducible refine gate_callee (f:=111) rfl ?_);refine goesL_ (some 33) rfl rfl Try.func111 (by kernel_rfl) rfl #[.slice Ao24 t273.length co24,.slice Ao25 x5_1.length co25,.int .i64 x10_2] rfl zl ?_;(with_reducible refine (spec_l7Told.calls k2 _ _ t273 _ _ x5_1 x10_2 t280 true _ ?side1 ?side2 ?side3 ?side4 A13.out).mono ?_);(case side1=>exact zC ((Kd.S_reads' HO_6.out).2.2));(case side2=>exact (Kd.S_reads' HO_6.out).2.1);(case side3=>exact zC ((Kd.R_reads' HO_5.out).2.2));(case side4=>exact (Kd.R_reads' HO_5.out).2.1);rintro e w26 ⟨v282,rfl,ho0,hb⟩;refine ⟨_,rfl,?_⟩;have n0_:=Aside0.mk (Kd.R_elder' (zR HO_5.out) (Kd.R_base ho0) hb);have n1_:=Aside0.mk (Kd.S_below (zS HO_6.out) hb);have n2_:=Aside0.mk (Kd.R_elder' (zR HO_9.out) (Kd.R_base ho0) hb);have n3_:=Aside0.mk (Kd.R_lower (Kd.R_new' (Kd.R_new' ho0 (Kd.R_lt (zR HO_5.out))) (Kd.R_lt (zR HO_9.out))) (below_size zb));have n4_:=Aside0.mk (below_step zb hb);clear HO_5;clear HO_6;clear HO_9;clear HB;have HO_5:=n0_;have HO_6:=n1_;have HO_9:=n2_;have HO283:=n3_;have HB:=n4_;clear n0_ n1_ n2_ n3_ n4_;(try clear hb);(try clear ho0);have p284:0≤(x10_2:Int):=of_decide_eq_true za;have q284:x10_2<(x5_1.length:Int):=of_decide_eq_true za;obtain ⟨ad284,e284,hx284_0⟩:=Kd.at_int (Kd.R_reads' HO_5.out).2.2 x10_2 p284 q284;cases e284;replace p284:=eq_true p284;replace q284:=eq_true q284;obtain ⟨Ao27,co27,eo27⟩:=Kd.R_slice HO283.out;subst eo27;obtain ⟨Ao28,co28,eo28⟩:=Kd.R_slice HO_9.out;subst eo28)|(go_at_call 112;(with_reducible refine (spec_l5Less.calls k2 _ _ t280 _ _ x9_2 true _ ?side1 ?side2 ?side3 ?side4 A22.out).mono ?_);(case side1=>exact zC ((Kd.R_reads' HO283.out).2.2));(case side2=>exact (Kd.R_reads' HO283.out).2.1);(case side3=>exact zC ((Kd.R_reads' HO_9.out).2.2));(case side4=>exact (Kd.R_reads' HO_9.out).2.1);rintro e w' ⟨rfl,⟨nd,rfl⟩⟩))
               go_roundg k2
               case measure=>have:=HK1.out;have:=HK2.out;omega
               case rel=>exact ⟨(x10_2),(t280),(wrap64 (x10_2 + 1)),zo,zo,H',⟨by have:=HK1.out;have:=HK2.out;omega⟩,⟨zR (Kd.R_mono HO_5.out (fun _ hk=>hk.2))⟩,⟨zS HO_6.out⟩,⟨zR (Kd.R_mono HO283.out (fun _ hk=>hk.1.2))⟩,⟨zb⟩⟩
              ·replace c23:=Bool.eq_false_iff.mpr c23
               subst c23
               have H1:(spec_l7Labels.l1 k2 a0 x5_1 t273 x7_1 x8_2 x9_2 (wrap64 (x10_2 + 1)))=some r:=by rw [if_neg (show ¬ (false=true) by decide)] at H;exact H
               clear H
               have H:=H1
               clear H1
               have H':=Aside0.mk H
               clear H
               obtain ⟨Ao29,co29,eo29⟩:=Kd.S_slice HO_6.out
               subst eo29
               obtain ⟨Ao30,co30,eo30⟩:=Kd.R_slice HO_5.out
               subst eo30
               go_wp2_with (first|((with_reducible refine gate_callee (f:=111) rfl ?_);refine goesL_ (some 33) rfl rfl Try.func111 (by kernel_rfl) rfl #[.slice Ao29 t273.length co29,.slice Ao30 x5_1.length co30,.int .i64 x10_2] rfl zl ?_;(with_reducible refine (spec_l7Told.calls k2 _ _ t273 _ _ x5_1 x10_2 t280 true _ ?side1 ?side2 ?side3 ?side4 A13.out).mono ?_);(case side1=>exact zC ((Kd.S_reads' HO_6.out).2.2));(case side2=>exact (Kd.S_reads' HO_6.out).2.1);(case side3=>exact zC ((Kd.R_reads' HO_5.out).2.2));(case side4=>exact (Kd.R_reads' HO_5.out).2.1);rintro e w31 ⟨v282,rfl,ho0,hb⟩;refine ⟨_,rfl,?_⟩;have n0_:=Aside0.mk (Kd.R_elder' (zR HO_5.out) (Kd.R_base ho0) hb);have n1_:=Aside0.mk (Kd.S_below (zS HO_6.out) hb);have n2_:=Aside0.mk (Kd.R_elder' (zR HO_9.out) (Kd.R_base ho0) hb);have n3_:=Aside0.mk (Kd.R_lower (Kd.R_new' (Kd.R_new' ho0 (Kd.R_lt (zR HO_5.out))) (Kd.R_lt (zR HO_9.out))) (below_size zb));have n4_:=Aside0.mk (below_step zb hb);clear HO_5;clear HO_6;clear HO_9;clear HB;have HO_5:=n0_;have HO_6:=n1_;have HO_9:=n2_;have HO283:=n3_;have HB:=n4_;clear n0_ n1_ n2_ n3_ n4_;(try clear hb);(try clear ho0);have p284:0≤(x10_2:Int):=of_decide_eq_true za;have q284:x10_2<(x5_1.length:Int):=of_decide_eq_true za;obtain ⟨ad284,e284,hx284_0⟩:=Kd.at_int (Kd.R_reads' HO_5.out).2.2 x10_2 p284 q284;cases e284;replace p284:=eq_true p284;replace q284:=eq_true q284;obtain ⟨Ao32,co32,eo32⟩:=Kd.R_slice HO283.out;subst eo32;obtain ⟨Ao33,co33,eo33⟩:=Kd.R_slice HO_9.out;subst eo33)|(go_at_call 112;(with_reducible refine (spec_l5Less.calls k2 _ _ t280 _ _ x9_2 false _ ?side1 ?side2 ?side3 ?side4 A22.out).mono ?_);(case side1=>exact zC ((Kd.R_reads' HO283.out).2.2));(case side2=>exact (Kd.R_reads' HO283.out).2.1);(case side3=>exact zC ((Kd.R_reads' HO_9.out).2.2));(case side4=>exact (Kd.R_reads' HO_9.out).2.1);rintro e w' ⟨rfl,⟨nd,rfl⟩⟩))
               go_roundg k2
               case measure=>have:=HK1.out;have:=HK2.out;omega
               case rel=>exact ⟨(x8_2),(x9_2),(wrap64 (x10_2 + 1)),zo,zo,H',⟨by have:=HK1.out;have:=HK2.out;omega⟩,⟨zR (Kd.R_mono HO_5.out (fun _ hk=>hk.1))⟩,⟨zS HO_6.out⟩,⟨zR (Kd.R_mono HO_9.out (fun _ hk=>hk.1))⟩,⟨zb⟩⟩
            ·replace c17:=Bool.eq_false_iff.mpr c17
             subst c17
             have H1:(spec_l7Labels.l1 k2 a0 x5_1 t273 x7_1 x8_2 x9_2 (wrap64 (x10_2 + 1)))=some r:=by rw [if_neg (show ¬ (false=true) by decide)] at H;exact H
             clear H
             have H:=H1
             clear H1
             have H':=Aside0.mk H
             clear H
             obtain ⟨Ao34,co34,eo34⟩:=Kd.S_slice HO_6.out
             subst eo34
             obtain ⟨Ao35,co35,eo35⟩:=Kd.R_slice HO_5.out
             subst eo35
             go_wp2_with (first|((with_reducible refine gate_callee (f:=111) rfl ?_);refine goesL_ (some 33) rfl rfl Try.func111 (by kernel_rfl) rfl #[.slice Ao34 t273.length co34,.slice Ao35 x5_1.length co35,.int .i64 x10_2] rfl zl ?_;(with_reducible refine (spec_l7Told.calls k2 _ _ t273 _ _ x5_1 x10_2 t280 false _ ?side1 ?side2 ?side3 ?side4 A13.out).mono ?_);(case side1=>exact zC ((Kd.S_reads' HO_6.out).2.2));(case side2=>exact (Kd.S_reads' HO_6.out).2.1);(case side3=>exact zC ((Kd.R_reads' HO_5.out).2.2));(case side4=>exact (Kd.R_reads' HO_5.out).2.1);rintro e w36 ⟨v282,rfl,ho0,hb⟩;refine ⟨_,rfl,?_⟩;have n0_:=Aside0.mk (Kd.R_elder' (zR HO_5.out) (Kd.R_base ho0) hb);have n1_:=Aside0.mk (Kd.S_below (zS HO_6.out) hb);have n2_:=Aside0.mk (Kd.R_elder' (zR HO_9.out) (Kd.R_base ho0) hb);have n3_:=Aside0.mk (Kd.R_lower (Kd.R_new' (Kd.R_new' ho0 (Kd.R_lt (zR HO_5.out))) (Kd.R_lt (zR HO_9.out))) (below_size zb));have n4_:=Aside0.mk (below_step zb hb);clear HO_5;clear HO_6;clear HO_9;clear HB;have HO_5:=n0_;have HO_6:=n1_;have HO_9:=n2_;have HO283:=n3_;have HB:=n4_;clear n0_ n1_ n2_ n3_ n4_;(try clear hb);(try clear ho0);have p284:0≤(x10_2:Int):=of_decide_eq_true za;have q284:x10_2<(x5_1.length:Int):=of_decide_eq_true za;obtain ⟨ad284,e284,hx284_0⟩:=Kd.at_int (Kd.R_reads' HO_5.out).2.2 x10_2 p284 q284;cases e284;replace p284:=eq_true p284;replace q284:=eq_true q284))
             go_roundg k2
             case measure=>have:=HK1.out;have:=HK2.out;omega
             case rel=>exact ⟨(x8_2),(x9_2),(wrap64 (x10_2 + 1)),zo,zo,H',⟨by have:=HK1.out;have:=HK2.out;omega⟩,⟨zR (Kd.R_mono HO_5.out (fun _ hk=>hk.1))⟩,⟨zS HO_6.out⟩,⟨zR (Kd.R_mono HO_9.out (fun _ hk=>hk.1))⟩,⟨zb⟩⟩
           ·rw [if_neg c16] at H
            have c16b0:((rd x5_1 x10_2) == 0)=false:=beq_eq_false_iff_ne.mpr c16
            have c16b1:((rd x5_1 x10_2) != 0)=true:=bne_iff_ne.mpr c16
            have H':=Aside0.mk H
            clear H
            obtain ⟨Ao37,co37,eo37⟩:=Kd.S_slice HO_6.out
            subst eo37
            obtain ⟨Ao38,co38,eo38⟩:=Kd.R_slice HO_5.out
            subst eo38
            go_wp2_with (first|((with_reducible refine gate_callee (f:=111) rfl ?_);refine goesL_ (some 33) rfl rfl Try.func111 (by kernel_rfl) rfl #[.slice Ao37 t273.length co37,.slice Ao38 x5_1.length co38,.int .i64 x10_2] rfl zl ?_;(with_reducible refine (spec_l7Told.calls k2 _ _ t273 _ _ x5_1 x10_2 t280 t281 _ ?side1 ?side2 ?side3 ?side4 A13.out).mono ?_);(case side1=>exact zC ((Kd.S_reads' HO_6.out).2.2));(case side2=>exact (Kd.S_reads' HO_6.out).2.1);(case side3=>exact zC ((Kd.R_reads' HO_5.out).2.2));(case side4=>exact (Kd.R_reads' HO_5.out).2.1);rintro e w39 ⟨v282,rfl,ho0,hb⟩;refine ⟨_,rfl,?_⟩;have n0_:=Aside0.mk (Kd.R_elder' (zR HO_5.out) (Kd.R_base ho0) hb);have n1_:=Aside0.mk (Kd.S_below (zS HO_6.out) hb);have n2_:=Aside0.mk (Kd.R_elder' (zR HO_9.out) (Kd.R_base ho0) hb);have n3_:=Aside0.mk (Kd.R_lower (Kd.R_new' (Kd.R_new' ho0 (Kd.R_lt (zR HO_5.out))) (Kd.R_lt (zR HO_9.out))) (below_size zb));have n4_:=Aside0.mk (below_step zb hb);clear HO_5;clear HO_6;clear HO_9;clear HB;have HO_5:=n0_;have HO_6:=n1_;have HO_9:=n2_;have HO283:=n3_;have HB:=n4_;clear n0_ n1_ n2_ n3_ n4_;(try clear hb);(try clear ho0);have p284:0≤(x10_2:Int):=of_decide_eq_true za;have q284:x10_2<(x5_1.length:Int):=of_decide_eq_true za;obtain ⟨ad284,e284,hx284_0⟩:=Kd.at_int (Kd.R_reads' HO_5.out).2.2 x10_2 p284 q284;cases e284;replace p284:=eq_true p284;replace q284:=eq_true q284))
            go_roundg k2
            case measure=>have:=HK1.out;have:=HK2.out;omega
            case rel=>exact ⟨(x8_2),(x9_2),(wrap64 (x10_2 + 1)),zo,zo,H',⟨by have:=HK1.out;have:=HK2.out;omega⟩,⟨zR (Kd.R_mono HO_5.out (fun _ hk=>hk.1))⟩,⟨zS HO_6.out⟩,⟨zR (Kd.R_mono HO_9.out (fun _ hk=>hk.1))⟩,⟨zb⟩⟩
          ·rw [if_neg c15] at H
           exact absurd H (by simp)
         ·rw [if_neg c14] at H
          exact absurd H (by simp)
        ·rw [if_neg c12] at H
         have c12b0:decide (x10_2<a0)=false:=decide_eq_false c12
         clear c12
         by_cases c40:0≤x8_2
         ·rw [if_pos c40] at H
          have c40b0:decide (0≤x8_2)=true:=decide_eq_true c40
          clear c40
          by_cases c41:x8_2<(x5_1.length:Int)
          ·rw [if_pos c41] at H
           have c41b0:decide (x8_2<(x5_1.length:Int))=true:=decide_eq_true c41
           clear c41
           obtain ⟨y279,hy279⟩:∃ y_:List Int,y_=(x5_1.set (x8_2:Int).toNat x7_1):=⟨_,rfl⟩
           replace H:(spec_l7Labels.l0 k2 a0 y279 t273 (wrap64 (x7_1 + 1)))=some r:=by first|(rw [hy279];with_reducible exact H)|(have H2_:=(Option.bind_some _ _).symm.trans H;rw [hy279];with_reducible exact H2_)|(have H2_:=(Option.bind_some _ _).symm.trans H;with_reducible exact H2_)|with_reducible exact H|(rw [hy279];exact H)|exact H
           have Ny279:=Aside0.mk hy279
           clear hy279
           have H':=Aside0.mk H
           clear H
           have p42:0≤(x8_2:Int):=of_decide_eq_true za
           have q42:(x8_2:Int)<((x5_1.length:Int):Int):=of_decide_eq_true za
           obtain ⟨go42,co42,eo42,gb42,gl42,cl42,HG42⟩:=Kd.R_form HO_5.out (by omega)
           (first|cases eo42|(injection eo42 with ea_ en_ ec_;(first|subst ea_|(injection ea_ with ea_;subst ea_));subst ec_;clear en_))
           have GB42:=Aside0.mk gb42
           have GG42:=Aside0.mk HG42
           clear gb42 gl42 HG42
           obtain ⟨hx42_0,hf42_0⟩:=Kd.R_celln 0 HO_5.out (x8_2:Int) p42 q42
           replace p42:=eq_true p42
           replace q42:=eq_true q42
           have HP43:=Kd.R_putg HO_5.out (x8_2:Int) x7_1
           go_wp2_with (first|((with_reducible refine gate_store (t:=3) (p:=58) rfl ?_);(try (rw [drewN_self wr];generalize hq_:World.drewN wr _=wr;have n0_:=Aside0.mk (Kd.R_at hq_ HO_5.out);have n1_:=Aside0.mk (Kd.S_at hq_ HO_6.out);have n2_:=Aside0.mk (Kd.R_at hq_ HO_9.out);have n3_:=Aside0.mk (below_at hq_ HB.out);(try replace hx42_0:=cell_at hq_ hx42_0);(try replace hf42_0:=(fun {W_ W2_:World} {n_:Nat} {a_:Addr} {b_:Bool} (h_:W_.drewN n_=W2_) (e_:W_.frozen? a_=b_)=>(by subst h_;exact e_:W2_.frozen? a_=b_)) hq_ hf42_0);clear hq_ HO_5 HO_6 HO_9 HB;have HO_5:=n0_;have HO_6:=n1_;have HO_9:=n2_;have HB:=n3_;clear n0_ n1_ n2_ n3_;(try (have HP43:=Kd.R_putg HO_5.out (x8_2:Int) x7_1))));refine store_event (t:=3) (p:=58) (v:=?vo_w44) (w1:=(wr.setCell ⟨go42,(x8_2:Int).toNat,none⟩ (.int .i64 x7_1))) ?hg ?ho ?hn ?hr ?_;(case ho=>rfl);(case hg=>rfl);(case hn=>rfl);(case hr=>first|(go_simp;done)|(go_simp;rfl));intro w44 hw;have hg:wr.grownBy w44 (some go42):=(by rw [hw];exact HP43.2);have hp_:Kd.R (Kd.int .i64) 3 w44 w.heap.size (fun k_=>some k_≠(u9:Value).ownBlock) (.slice (some ⟨go42,0,none⟩) x5_1.length co42) y279:=(by rw [hw,Ny279.out];exact HP43.1);clear HP43;have n0_:=Aside0.mk (hp_);have n1_:=Aside0.mk (Kd.S_over' (v:=(.slice (some ⟨go42,0,none⟩) x5_1.length co42)) (zS HO_6.out) (Kd.R_typed HO_5.out) (by decide) hg);have n2_:=Aside0.mk (Kd.R_after (v:=(.slice (some ⟨go42,0,none⟩) x5_1.length co42)) (v1:=(.slice (some ⟨go42,0,none⟩) x5_1.length co42)) (ok:=(fun _=>True)) (zR (Kd.R_mono HO_9.out (fun _ hk=>⟨trivial,hk⟩))) hg (.inl rfl));have n3_:=Aside0.mk ((by rw [hw];exact below_set (HB.out) GB42.out:Below w.heap.size w w44));clear HO_5;clear HO_6;clear HO_9;clear HB;have HO_5:=n0_;have HO_6:=n1_;have HO_9:=n2_;have HB:=n3_;clear n0_ n1_ n2_ n3_;clear hg hw hp_))
           go_roundg k2
           case measure=>have:=HK1.out;have:=HK2.out;omega
           case rel=>exact ⟨(y279),(wrap64 (x7_1 + 1)),zo,H',⟨by have:=HK1.out;have:=HK2.out;omega⟩,⟨zR (Kd.R_mono HO_5.out (fun _ hk=>trivial))⟩,⟨zS HO_6.out⟩,⟨zb⟩⟩
          ·rw [if_neg c41] at H
           exact absurd H (by simp)
         ·rw [if_neg c40] at H
          exact absurd H (by simp)
     ·rw [if_neg c9] at H
      have c9b0:decide (x7_1≤a0)=false:=decide_eq_false c9
      clear c9
      obtain rfl:=Option.some.inj H
      go_wp2
      go_ret
      exact ⟨_,by first|rfl|(simp [errW_none,errW_some] <;> rfl)|(simp [*,errW_none,errW_some] <;> rfl),zR HO_5.out,zb⟩
  ·rw [if_neg c4] at H
   exact absurd H (by simp)
 ·rw [if_neg c3] at H
  exact absurd H (by simp)

/-! ### spec_LabelPlan: function 19 -/
def spec_LabelPlan.f (k:Nat) (a0:Int) (l1:List (S72)):Option ((List (S92)) × Bool):=(spec_l4Good.f k a0 l1).bind fun t286=>(if t286=true then ((spec_l7Units.f k a0).bind fun t290=>((spec_l7Labels.f k a0 l1).bind fun t293=>((spec_l7Falling.f k t293).bind fun t296=>((spec_l7List.f k t290 2 l1 t296).bind fun t299=>(some (t299,true)))))) else (some ((([]:List (S92))),false)))
theorem spec_LabelPlan.mono:∀ a0 a1 k,LeO (spec_LabelPlan.f k a0 a1) (spec_LabelPlan.f (k + 1) a0 a1):=by
 intro a0 a1 k
 unfold spec_LabelPlan.f
 repeat' first
   | (with_reducible exact spec_l4Good.mono _ _ _)
   | (with_reducible exact spec_l7Falling.mono _ _)
   | (with_reducible exact spec_l7Labels.mono _ _ _)
   | (with_reducible exact spec_l7List.mono _ _ _ _ _)
   | (with_reducible exact spec_l7Units.mono _ _)
   | (with_reducible exact LeO.refl _)
   | (with_reducible exact LeO.none _)
   | (with_reducible refine LeO.ite ?_ ?_)
   | (with_reducible refine LeO.bind ?_ (fun _=>?_))
   | exact spec_l4Good.mono _ _ _
   | exact spec_l7Falling.mono _ _
   | exact spec_l7Labels.mono _ _ _
   | exact spec_l7List.mono _ _ _ _ _
   | exact spec_l7Units.mono _ _
   | exact LeO.none _
   | refine LeO.ite ?_ ?_
   | refine LeO.bind ?_ (fun _=>?_)
set_option maxHeartbeats 8000000 in
set_option maxRecDepth 100000 in
theorem spec_LabelPlan.calls (k:Nat) (a0:Int) (A1:Option Addr) (c1:Nat) (l1:List (S72)) (r1:List (S92)) (r2:Bool) (w:World) (hr1:Kd.C k72 w A1 l1.length l1) (hc1:l1.length≤c1) (h:spec_LabelPlan.f k a0 l1=some (r1,r2)) :
  Calls Try.prog 19 #[.int .i64 a0,.slice A1 l1.length c1] w fun e w'=>∃ v0_:Value,e=.returned (.tuple #[v0_,.bool r2])∧Kd.R k92 92 w' w.heap.size (fun _=>True) v0_ r1∧Below w.heap.size w w':=by
 have HR1:=Aside0.mk hr1
 have HC1:=Aside0.mk hc1
 clear hr1 hc1
 have HB:=Aside0.mk (Below.refl w.heap.size w)
 have H:((spec_l4Good.f k a0 l1).bind fun t286=>(if t286=true then ((spec_l7Units.f k a0).bind fun t290=>((spec_l7Labels.f k a0 l1).bind fun t293=>((spec_l7Falling.f k t293).bind fun t296=>((spec_l7List.f k t290 2 l1 t296).bind fun t299=>(some (t299,true)))))) else (some ((([]:List (S92))),false))))=some (r1,r2):=h
 clear h
 replace H:=Option.bind_eq_some_iff.mp H
 obtain ⟨t286,A30,H⟩:=H
 replace H:(if t286=true then ((spec_l7Units.f k a0).bind fun t290=>((spec_l7Labels.f k a0 l1).bind fun t293=>((spec_l7Falling.f k t293).bind fun t296=>((spec_l7List.f k t290 2 l1 t296).bind fun t299=>(some (t299,true)))))) else (some ((([]:List (S92))),false)))=some (r1,r2):=H
 have A3:=Aside0.mk A30
 clear A30
 by_cases c4:t286=true
 ·subst c4
  have H1:((spec_l7Units.f k a0).bind fun t290=>((spec_l7Labels.f k a0 l1).bind fun t293=>((spec_l7Falling.f k t293).bind fun t296=>((spec_l7List.f k t290 2 l1 t296).bind fun t299=>(some (t299,true))))))=some (r1,r2):=by rw [if_pos rfl] at H;exact H
  clear H
  have H:=H1
  clear H1
  replace H:=Option.bind_eq_some_iff.mp H
  obtain ⟨t290,A50,H⟩:=H
  replace H:((spec_l7Labels.f k a0 l1).bind fun t293=>((spec_l7Falling.f k t293).bind fun t296=>((spec_l7List.f k t290 2 l1 t296).bind fun t299=>(some (t299,true)))))=some (r1,r2):=H
  have A5:=Aside0.mk A50
  clear A50
  replace H:=Option.bind_eq_some_iff.mp H
  obtain ⟨t293,A60,H⟩:=H
  replace H:((spec_l7Falling.f k t293).bind fun t296=>((spec_l7List.f k t290 2 l1 t296).bind fun t299=>(some (t299,true))))=some (r1,r2):=H
  have A6:=Aside0.mk A60
  clear A60
  replace H:=Option.bind_eq_some_iff.mp H
  obtain ⟨t296,A70,H⟩:=H
  replace H:((spec_l7List.f k t290 2 l1 t296).bind fun t299=>(some (t299,true)))=some (r1,r2):=H
  have A7:=Aside0.mk A70
  clear A70
  replace H:=Option.bind_eq_some_iff.mp H
  obtain ⟨t299,A80,H⟩:=H
  replace H:(some (t299,true))=some (r1,r2):=H
  have A8:=Aside0.mk A80
  clear A80
  simp only [Option.some.injEq,Prod.mk.injEq] at H
  obtain ⟨rfl,rfl⟩:=H
  go_enter Try.func19,Try.ntmps19
  go_wp2_with (first|((with_reducible refine gate_callee (f:=56) rfl ?_);refine goesL_ (some 8) rfl rfl Try.func56 (by kernel_rfl) rfl #[.int .i64 a0,.slice A1 l1.length c1] rfl zl ?_;(with_reducible refine (spec_l4Good.calls k a0 _ _ l1 true _ ?side1 ?side2 A3.out).mono ?_);(case side1=>exact zC HR1.out);(case side2=>exact HC1.out);rintro e w9 ⟨rfl,hb⟩;refine ⟨_,rfl,?_⟩;replace HB:=Aside0.mk (below_step zb hb);(try clear hb))|((with_reducible refine gate_callee (f:=58) rfl ?_);refine goesL_ (some 12) rfl rfl Try.func58 (by kernel_rfl) rfl #[.int .i64 a0] rfl zl ?_;(with_reducible refine (spec_l7Units.calls k a0 t290 _ A5.out).mono ?_);rintro e w10 ⟨v291,rfl,ho0,hb⟩;refine ⟨_,rfl,?_⟩;have HO292:=Aside0.mk (Kd.R_lower ho0 (below_size zb));replace HB:=Aside0.mk (below_step zb hb);(try clear hb);(try clear ho0))|((with_reducible refine gate_callee (f:=60) rfl ?_);refine goesL_ (some 16) rfl rfl Try.func60 (by kernel_rfl) rfl #[.int .i64 a0,.slice A1 l1.length c1] rfl zl ?_;(with_reducible refine (spec_l7Labels.calls k a0 _ _ l1 t293 _ ?side1 ?side2 A6.out).mono ?_);(case side1=>exact zC (Kd.C_below HR1.out HB.out));(case side2=>exact HC1.out);rintro e w11 ⟨v294,rfl,ho0,hb⟩;refine ⟨_,rfl,?_⟩;replace HO292:=Aside0.mk (Kd.R_below (zR HO292.out) hb);have HO295:=Aside0.mk (Kd.R_lower ho0 (below_size zb));replace HB:=Aside0.mk (below_step zb hb);(try clear hb);(try clear ho0);obtain ⟨Ao12,co12,eo12⟩:=Kd.R_slice HO295.out;subst eo12)|((with_reducible refine gate_callee (f:=59) rfl ?_);refine goesL_ (some 17) rfl rfl Try.func59 (by kernel_rfl) rfl #[.slice Ao12 t293.length co12] rfl zl ?_;(with_reducible refine (spec_l7Falling.calls k _ _ t293 t296 _ ?side1 ?side2 A7.out).mono ?_);(case side1=>exact zC ((Kd.R_reads' HO295.out).2.2));(case side2=>exact (Kd.R_reads' HO295.out).2.1);rintro e w13 ⟨v297,rfl,ho0,hb⟩;refine ⟨_,rfl,?_⟩;have n0_:=Aside0.mk (Kd.R_below (zR HO292.out) hb);have n1_:=Aside0.mk (Kd.R_elder' (zR HO295.out) (Kd.R_base ho0) hb);have n2_:=Aside0.mk (Kd.R_lower (Kd.R_new' ho0 (Kd.R_lt (zR HO295.out))) (below_size zb));have n3_:=Aside0.mk (below_step zb hb);clear HO292;clear HO295;clear HB;have HO292:=n0_;have HO295:=n1_;have HO298:=n2_;have HB:=n3_;clear n0_ n1_ n2_ n3_;(try clear hb);(try clear ho0);obtain ⟨Ao14,co14,eo14⟩:=Kd.R_slice HO292.out;subst eo14;obtain ⟨Ao15,co15,eo15⟩:=Kd.R_slice HO298.out;subst eo15)|((with_reducible refine gate_callee (f:=57) rfl ?_);refine goesL_ (some 18) rfl rfl Try.func57 (by kernel_rfl) rfl #[.slice Ao14 t290.length co14,.int .i64 2,.slice A1 l1.length c1,.slice Ao15 t296.length co15] rfl zl ?_;(with_reducible refine (spec_l7List.calls k _ _ t290 2 _ _ l1 _ _ t296 t299 _ ?side1 ?side2 ?side3 ?side4 ?side5 ?side6 A8.out).mono ?_);(case side1=>exact zC ((Kd.R_reads' HO292.out).2.2));(case side2=>exact (Kd.R_reads' HO292.out).2.1);(case side3=>exact zC (Kd.C_below HR1.out HB.out));(case side4=>exact HC1.out);(case side5=>exact zC ((Kd.R_reads' HO298.out).2.2));(case side6=>exact (Kd.R_reads' HO298.out).2.1);rintro e w16 ⟨v300,rfl,ho0,hb⟩;refine ⟨_,rfl,?_⟩;replace HO292:=Aside0.mk (Kd.R_below (zR HO292.out) hb);replace HO295:=Aside0.mk (Kd.R_below (zR HO295.out) hb);replace HO298:=Aside0.mk (Kd.R_below (zR HO298.out) hb);have HO301:=Aside0.mk (Kd.R_lower ho0 (below_size zb));replace HB:=Aside0.mk (below_step zb hb);(try clear hb);(try clear ho0)))
  go_ret2
  exact ⟨_,by first|rfl|(simp [errW_none,errW_some] <;> rfl)|(simp [*,errW_none,errW_some] <;> rfl),zR HO301.out,zb⟩
 ·replace c4:=Bool.eq_false_iff.mpr c4
  subst c4
  have H1:(some ((([]:List (S92))),false))=some (r1,r2):=by rw [if_neg (show ¬ (false=true) by decide)] at H;exact H
  clear H
  have H:=H1
  clear H1
  obtain ⟨y287,hy287⟩:∃ y_:List (S92),y_=(([]:List (S92))):=⟨_,rfl⟩
  replace H:(some (y287,false))=some (r1,r2):=by first|(rw [hy287];with_reducible exact H)|(have H2_:=(Option.bind_some _ _).symm.trans H;rw [hy287];with_reducible exact H2_)|(have H2_:=(Option.bind_some _ _).symm.trans H;with_reducible exact H2_)|with_reducible exact H|(rw [hy287];exact H)|exact H
  have Ny287:=Aside0.mk hy287
  clear hy287
  simp only [Option.some.injEq,Prod.mk.injEq] at H
  obtain ⟨rfl,rfl⟩:=H
  go_enter Try.func19,Try.ntmps19
  go_wp2_with (first|((with_reducible refine gate_callee (f:=56) rfl ?_);refine goesL_ (some 8) rfl rfl Try.func56 (by kernel_rfl) rfl #[.int .i64 a0,.slice A1 l1.length c1] rfl zl ?_;(with_reducible refine (spec_l4Good.calls k a0 _ _ l1 false _ ?side1 ?side2 A3.out).mono ?_);(case side1=>exact zC HR1.out);(case side2=>exact HC1.out);rintro e w17 ⟨rfl,hb⟩;refine ⟨_,rfl,?_⟩;replace HB:=Aside0.mk (below_step zb hb);(try clear hb))|((with_reducible refine gate_dst (N:=10) rfl ?_);refine Kd.R_lit k92 _ 92 ?hg (N:=10) ?hd (xs:=([]:List (S92))) (inner:=[]) (ok:=fun _=>True) (okp:=fun _=>True) ?hr ?hp (fun _ hk=>hk) trivial (Below.refl _ _) (Nat.le_refl _) (by simp) ?_;(case hd=>rfl);(case hg=>rfl);(case hr=>first|(go_simp;done)|(go_simp;rfl));(case hp=>exact (Reps.none _ _));intro v288 w18 ho19 hb hg_ hnew_;clear hg_ hnew_;(first|rw [←Ny287.out] at ho19|(simp only [Int.reduceToNat] at ho19;rw [←Ny287.out] at ho19));have HO289:=Aside0.mk (Kd.R_lower ho19 (below_size zb));replace HB:=Aside0.mk (below_step zb hb);clear hb ho19))
  go_ret2
  exact ⟨_,by first|rfl|(simp [errW_none,errW_some] <;> rfl)|(simp [*,errW_none,errW_some] <;> rfl),zR HO289.out,zb⟩

end Go.Proofs.Ytbcfmegepkhlpaa.XFnExactLabelPlan
-- minified
