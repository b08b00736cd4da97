-- Written by a program of this session (the kit's print, widened). Proved here: what each function answers, for the arguments that its contract names.
import Derived.Test.YtbcfmegepkhlpaaXFnSharedx0
import Derived.Test.YtbcfmegepkhlpaaXFnSharedx11
import Derived.Test.YtbcfmegepkhlpaaXFnSharedx12
namespace Go.Proofs.Ytbcfmegepkhlpaa.XFnShared
open Go.RowKit Go.Proofs.YtbcfmegepkhlpaaW.PrintWords Go.Proofs.YtbcfmegepkhlpaaW.PrintLast Go.Proofs.YtbcfmegepkhlpaaW.PrintMore
attribute [local go_sem] max2_int min2_int max_two min_two max_three min_three max_four min_four   -- for this text's walks alone
attribute [local go_sem] idxA_72_0 idxA_72_1 fldS_96_0 fldS_96_1 fldS_96_2 fldS_111_0 fldS_111_1 fldS_111_2
set_option linter.unusedVariables false
set_option linter.unusedSimpArgs false

/-! ### impl_IsPrecedence: function 62 -/
mutual
def impl_IsPrecedence.j0:Nat→Int→List (S72)→Bool→Option (Bool)
 | 0,_,_,_=>none
 | k + 1,x0,x1,x16=>if x16=true then (some false) else (impl_IsPrecedence.l0 k x0 x1 x1 (x1.length:Int) 0)
def impl_IsPrecedence.l0:Nat→Int→List (S72)→List (S72)→Int→Int→Option (Bool)
 | 0,_,_,_,_,_=>none
 | k + 1,x0,x1,x17,x18,x19=>if x19<x18 then (if 0≤x19 then (if x19<(x17.length:Int) then ((impl_isNumber.f ((rd_T72 x17 x19).f0) x0).bind fun t474=>(if t474=true then ((impl_isNumber.f ((rd_T72 x17 x19).f1) x0).bind fun t475=>(if t475=true then (impl_IsPrecedence.j2 k x0 x1 x19 x17 x18 x19 (((rd_T72 x17 x19).f0) == ((rd_T72 x17 x19).f1)) ((rd_T72 x17 x19).f0) ((rd_T72 x17 x19).f1)) else (impl_IsPrecedence.j2 k x0 x1 x19 x17 x18 x19 true ((rd_T72 x17 x19).f0) ((rd_T72 x17 x19).f1)))) else (impl_IsPrecedence.j2 k x0 x1 x19 x17 x18 x19 true ((rd_T72 x17 x19).f0) ((rd_T72 x17 x19).f1)))) else (none)) else (none)) else ((impl_closure.f k x0 x1).bind fun t479=>(impl_IsPrecedence.l1 k t479 (t479.length:Int) 0))
def impl_IsPrecedence.j2:Nat→Int→List (S72)→Int→List (S72)→Int→Int→Bool→Int→Int→Option (Bool)
 | 0,_,_,_,_,_,_,_,_,_=>none
 | k + 1,x0,x1,x5,x17,x18,x19,x42,x474000,x474001=>if x42=true then (some false) else (if x5>0 then (if 0≤(wrap64 (x5 - 1)) then (if (wrap64 (x5 - 1))<(x1.length:Int) then (if ((rd_T72 x1 (wrap64 (x5 - 1))).f0)>x474000 then (some false) else (if ((rd_T72 x1 (wrap64 (x5 - 1))).f0)=x474000 then (if ((rd_T72 x1 (wrap64 (x5 - 1))).f1)≥x474001 then (some false) else (impl_IsPrecedence.l0 k x0 x1 x17 x18 (wrap64 (x19 + 1)))) else (impl_IsPrecedence.l0 k x0 x1 x17 x18 (wrap64 (x19 + 1))))) else (none)) else (none)) else (impl_IsPrecedence.l0 k x0 x1 x17 x18 (wrap64 (x19 + 1))))
def impl_IsPrecedence.l1:Nat→List (List Bool)→Int→Int→Option (Bool)
 | 0,_,_,_=>none
 | k + 1,x7,x83,x84=>if x84<x83 then (if 0≤x84 then (if x84<(x7.length:Int) then (if x84<((rd_L4 x7 x84).length:Int) then (if rdOf false (rd_L4 x7 x84) x84=true then (some false) else (impl_IsPrecedence.l1 k x7 x83 (wrap64 (x84 + 1)))) else (none)) else (none)) else (none)) else (some true)
end
def impl_IsPrecedence.f (k:Nat) (a0:Int) (l1:List (S72)):Option (Bool):=(impl_within.f a0 0 8).bind fun t471=>(if t471=true then (impl_IsPrecedence.j0 k a0 l1 (decide ((l1.length:Int)>28))) else (impl_IsPrecedence.j0 k a0 l1 true))
theorem impl_IsPrecedence.mono_l:∀ k,(∀ y0 y1 y2,LeO (impl_IsPrecedence.j0 k y0 y1 y2) (impl_IsPrecedence.j0 (k + 1) y0 y1 y2))∧(∀ y0 y1 y2 y3 y4,LeO (impl_IsPrecedence.l0 k y0 y1 y2 y3 y4) (impl_IsPrecedence.l0 (k + 1) y0 y1 y2 y3 y4))∧(∀ y0 y1 y2 y3 y4 y5 y6 y7 y8,LeO (impl_IsPrecedence.j2 k y0 y1 y2 y3 y4 y5 y6 y7 y8) (impl_IsPrecedence.j2 (k + 1) y0 y1 y2 y3 y4 y5 y6 y7 y8))∧(∀ y0 y1 y2,LeO (impl_IsPrecedence.l1 k y0 y1 y2) (impl_IsPrecedence.l1 (k + 1) y0 y1 y2))
 | 0=>⟨fun _ _ _ r h=>by simp [impl_IsPrecedence.j0] at h,fun _ _ _ _ _ r h=>by simp [impl_IsPrecedence.l0] at h,fun _ _ _ _ _ _ _ _ _ r h=>by simp [impl_IsPrecedence.j2] at h,fun _ _ _ r h=>by simp [impl_IsPrecedence.l1] at h⟩
 | k + 1=>by
  obtain ⟨ih0,ih1,ih2,ih3⟩:=impl_IsPrecedence.mono_l k
  refine ⟨?_,?_,?_,?_⟩ <;> intros <;> first|unfold impl_IsPrecedence.j0|unfold impl_IsPrecedence.l0|unfold impl_IsPrecedence.j2|unfold impl_IsPrecedence.l1
  all_goals repeat' first|(with_reducible first|apply ih0|apply ih1|apply ih2|apply ih3|exact impl_closure.mono _ _ _|exact LeO.refl _|exact LeO.none _|refine LeO.ite ?_ ?_|refine LeO.bind ?_ (fun _=>?_))|apply ih0|apply ih1|apply ih2|apply ih3|exact impl_closure.mono _ _ _|exact LeO.none _|refine LeO.ite ?_ ?_|refine LeO.bind ?_ (fun _=>?_)
theorem impl_IsPrecedence.mono:∀ a0 a1 k,LeO (impl_IsPrecedence.f k a0 a1) (impl_IsPrecedence.f (k + 1) a0 a1):=by
 intro a0 a1 k
 obtain ⟨ih0,ih1,ih2,ih3⟩:=impl_IsPrecedence.mono_l k
 unfold impl_IsPrecedence.f
 repeat' first|(with_reducible first|apply ih0|apply ih1|apply ih2|apply ih3|exact impl_closure.mono _ _ _|exact LeO.refl _|exact LeO.none _|refine LeO.ite ?_ ?_|refine LeO.bind ?_ (fun _=>?_))|apply ih0|apply ih1|apply ih2|apply ih3|exact impl_closure.mono _ _ _|exact LeO.none _|refine LeO.ite ?_ ?_|refine LeO.bind ?_ (fun _=>?_)
set_option maxHeartbeats 8000000 in
set_option maxRecDepth 100000 in
theorem impl_IsPrecedence.calls (k:Nat) (a0:Int) (A1:Option Addr) (c1:Nat) (l1:List (S72)) (r:Bool) (w:World) (hr1:Kd.C k72 w A1 l1.length l1) (hc1:l1.length≤c1) (h:impl_IsPrecedence.f k a0 l1=some r) :
  Calls Try.prog 62 #[.int .i64 a0,.slice A1 l1.length c1] w fun e w'=>e=.returned (.bool r)∧Below w.heap.size w w':=by
 have hu72:=Try.underlying72
 have HR1:=Aside0.mk hr1
 have HC1:=Aside0.mk hc1
 clear hr1 hc1
 have HB:=Aside0.mk (Below.refl w.heap.size w)
 have H:((impl_within.f a0 0 8).bind fun t471=>(if t471=true then (impl_IsPrecedence.j0 k a0 l1 (decide ((l1.length:Int)>28))) else (impl_IsPrecedence.j0 k a0 l1 true)))=some r:=h
 clear h
 have HC3:=Aside0.mk H
 clear H
 go_enter Try.func62,Try.ntmps62
 go_upto_region 1 with (fail)
 repeat (go_quiet (fail);go_upto_region 1 with (fail))
 go_cut [16] (fun v16 wc=>∃ (kq:Nat) (x16_2:Bool),v16=.bool x16_2∧Aside0 (impl_IsPrecedence.j0 kq a0 l1 x16_2=some r)∧Aside0 (kq≤k)∧Aside0 (Below w.heap.size w wc))
 case first=>
  have H:=HC3.out
  clear HC3
  replace H:=Option.bind_eq_some_iff.mp H
  obtain ⟨t471,A40,H⟩:=H
  try dsimp only at H
  have A4:=Aside0.mk A40
  clear A40
  by_cases c5:t471=true
  ·subst c5
   rw [if_pos rfl] at H
   have H':=Aside0.mk H
   clear H
   go_wp2_with (first|(go_at_call 113;(with_reducible refine (impl_within.calls a0 0 8 true _ A4.out).mono ?_);rintro e w' ⟨rfl,⟨nd,rfl⟩⟩;(try first|exact ⟨rfl,_,World.drewN_drewN _ _ _⟩|exact ⟨rfl,_,Eq.trans (World.drewN_drewN _ _ _) (congrArg (World.drewN _) (Nat.add_assoc _ _ _))⟩)))
   repeat (go_quiet (first|(go_at_call 113;(with_reducible refine (impl_within.calls a0 0 8 true _ A4.out).mono ?_);rintro e w' ⟨rfl,⟨nd,rfl⟩⟩;(try first|exact ⟨rfl,_,World.drewN_drewN _ _ _⟩|exact ⟨rfl,_,Eq.trans (World.drewN_drewN _ _ _) (congrArg (World.drewN _) (Nat.add_assoc _ _ _))⟩)));try go_wp2_with (first|(go_at_call 113;(with_reducible refine (impl_within.calls a0 0 8 true _ A4.out).mono ?_);rintro e w' ⟨rfl,⟨nd,rfl⟩⟩;(try first|exact ⟨rfl,_,World.drewN_drewN _ _ _⟩|exact ⟨rfl,_,Eq.trans (World.drewN_drewN _ _ _) (congrArg (World.drewN _) (Nat.add_assoc _ _ _))⟩))))
   go_meet
   case rel=>exact ⟨_,(decide ((l1.length:Int)>28)),zo,H',⟨zz29⟩,⟨zb⟩⟩
  replace c5:=Bool.eq_false_iff.mpr c5
  subst c5
  rw [if_neg (show ¬ (false=true) by decide)] at H
  have H':=Aside0.mk H
  clear H
  go_wp2_with (first|(go_at_call 113;(with_reducible refine (impl_within.calls a0 0 8 false _ A4.out).mono ?_);rintro e w' ⟨rfl,⟨nd,rfl⟩⟩;(try first|exact ⟨rfl,_,World.drewN_drewN _ _ _⟩|exact ⟨rfl,_,Eq.trans (World.drewN_drewN _ _ _) (congrArg (World.drewN _) (Nat.add_assoc _ _ _))⟩)))
  repeat (go_quiet (first|(go_at_call 113;(with_reducible refine (impl_within.calls a0 0 8 false _ A4.out).mono ?_);rintro e w' ⟨rfl,⟨nd,rfl⟩⟩;(try first|exact ⟨rfl,_,World.drewN_drewN _ _ _⟩|exact ⟨rfl,_,Eq.trans (World.drewN_drewN _ _ _) (congrArg (World.drewN _) (Nat.add_assoc _ _ _))⟩)));try go_wp2_with (first|(go_at_call 113;(with_reducible refine (impl_within.calls a0 0 8 false _ A4.out).mono ?_);rintro e w' ⟨rfl,⟨nd,rfl⟩⟩;(try first|exact ⟨rfl,_,World.drewN_drewN _ _ _⟩|exact ⟨rfl,_,Eq.trans (World.drewN_drewN _ _ _) (congrArg (World.drewN _) (Nat.add_assoc _ _ _))⟩))))
  go_meet
  case rel=>exact ⟨_,(true),zo,H',⟨zz29⟩,⟨zb⟩⟩
 case rest=>
  clear HC3
  obtain ⟨kq,x16_2,rfl,HA,HJ2,HB⟩:=hcut
  cases kq with
  | zero=>exact absurd HA.out (by simp [impl_IsPrecedence.j0])
  | succ kj2=>
   have H:=HA.out
   clear HA
   simp only [impl_IsPrecedence.j0] at H
   by_cases c6:x16_2=true
   ·subst c6
    rw [if_pos rfl] at H
    obtain rfl:=Option.some.inj H
    go_wp2
    repeat (go_quiet (fail);try go_wp2)
    go_ret
    exact ⟨zz1,zb⟩
   replace c6:=Bool.eq_false_iff.mpr c6
   subst c6
   rw [if_neg (show ¬ (false=true) by decide)] at H
   have H':=Aside0.mk H
   clear H
   go_wp2
   repeat (go_quiet (fail);try go_wp2)
   go_loopg [19] kj2 (fun kq v19 w'=>∃ (x19_2:Int),v19=.int .i64 x19_2∧Aside0 (impl_IsPrecedence.l0 kq a0 l1 l1 (l1.length:Int) x19_2=some r)∧Aside0 (kq≤kj2)∧Aside0 (Below w.heap.size w w'))
   case atStart=>exact ⟨(0),zo,H',⟨Nat.le_refl _⟩,⟨zb⟩⟩
   case round=>
    clear H'
    obtain ⟨x19_2,rfl,HA,HK2,HB⟩:=hrel
    cases gk with
    | zero=>exact absurd HA.out (by simp [impl_IsPrecedence.l0])
    | succ k2=>
     have H:=HA.out
     clear HA
     simp only [impl_IsPrecedence.l0] at H
     by_cases c7:x19_2<(l1.length:Int)
     rotate_left
     ·rw [if_neg c7] at H
      have c7b0:=decide_eq_false c7
      clear c7
      replace H:=Option.bind_eq_some_iff.mp H
      obtain ⟨t479,A320,H⟩:=H
      try dsimp only at H
      have A32:=Aside0.mk A320
      clear A320
      have H':=Aside0.mk H
      clear H
      go_wp2_with (first|(go_at_call 115;(with_reducible refine (impl_closure.calls k2 a0 _ _ l1 t479 _ ?side1 ?side2 A32.out).mono ?_);(case side1=>exact zC (Kd.C_below HR1.out HB.out));(case side2=>exact HC1.out);rintro e w33 ⟨v480,rfl,ho0,hb⟩;have HO481:=Aside0.mk (Kd.S_lower ho0 (below_size zb));replace HB:=zb1 hb;(try clear hb);(try clear ho0);obtain ⟨Ao34,co34,eo34⟩:=Kd.S_slice HO481.out;subst eo34))
      repeat (go_quiet (first|(go_at_call 115;(with_reducible refine (impl_closure.calls k2 a0 _ _ l1 t479 _ ?side1 ?side2 A32.out).mono ?_);(case side1=>exact zC (Kd.C_below HR1.out HB.out));(case side2=>exact HC1.out);rintro e w33 ⟨v480,rfl,ho0,hb⟩;have HO481:=Aside0.mk (Kd.S_lower ho0 (below_size zb));replace HB:=zb1 hb;(try clear hb);(try clear ho0);obtain ⟨Ao34,co34,eo34⟩:=Kd.S_slice HO481.out;subst eo34));try go_wp2_with (first|(go_at_call 115;(with_reducible refine (impl_closure.calls k2 a0 _ _ l1 t479 _ ?side1 ?side2 A32.out).mono ?_);(case side1=>exact zC (Kd.C_below HR1.out HB.out));(case side2=>exact HC1.out);rintro e w33 ⟨v480,rfl,ho0,hb⟩;have HO481:=Aside0.mk (Kd.S_lower ho0 (below_size zb));replace HB:=zb1 hb;(try clear hb);(try clear ho0);obtain ⟨Ao34,co34,eo34⟩:=Kd.S_slice HO481.out;subst eo34)))
      go_loopg [84] k2 (fun kq v84 w'=>∃ (x84_3:Int),v84=.int .i64 x84_3∧Aside0 (impl_IsPrecedence.l1 kq t479 (t479.length:Int) x84_3=some r)∧Aside0 (kq≤k2)∧Aside0 (Kd.S (Kd.slice 4 Kd.bool) 127 w' w.heap.size (fun _=>True) (.slice Ao34 t479.length co34) t479)∧Aside0 (Below w.heap.size w w'))
      case atStart=>exact ⟨(0),zo,H',⟨Nat.le_refl _⟩,⟨zS HO481.out⟩,⟨zb⟩⟩
      case round=>
       clear H'
       obtain ⟨x84_3,rfl,HA,HK3,HO_7,HB⟩:=hrel
       cases gk with
       | zero=>exact absurd HA.out (by simp [impl_IsPrecedence.l1])
       | succ k3=>
        have H:=HA.out
        clear HA
        simp only [impl_IsPrecedence.l1] at H
        by_cases c35:x84_3<(t479.length:Int)
        rotate_left
        ·rw [if_neg c35] at H
         have c35b0:=decide_eq_false c35
         clear c35
         obtain rfl:=Option.some.inj H
         go_wp2
         repeat (go_quiet (fail);try go_wp2)
         go_ret
         exact ⟨zz1,zb⟩
        rw [if_pos c35] at H
        have c35b0:=decide_eq_true c35
        clear c35
        by_cases c36:0≤x84_3
        rotate_left
        ·rw [if_neg c36] at H
         exact absurd H (by simp)
        rw [if_pos c36] at H
        have c36b0:=decide_eq_true c36
        clear c36
        by_cases c37:x84_3<(t479.length:Int)
        rotate_left
        ·rw [if_neg c37] at H
         exact absurd H (by simp)
        rw [if_pos c37] at H
        have c37b0:=decide_eq_true c37
        clear c37
        by_cases c38:x84_3<((rd_L4 t479 x84_3).length:Int)
        rotate_left
        ·rw [if_neg c38] at H
         exact absurd H (by simp)
        rw [if_pos c38] at H
        have c38b0:=decide_eq_true c38
        clear c38
        obtain ⟨bq39,hbq39⟩:∃ b_:Bool,b_=(rdOf false (rd_L4 t479 x84_3) x84_3):=⟨_,rfl⟩
        replace H:(if bq39=true then (some false) else (impl_IsPrecedence.l1 k3 t479 (t479.length:Int) (wrap64 (x84_3 + 1))))=some r:=by rw [←hbq39] at H;exact H
        have Nbq39:=Aside0.mk hbq39
        clear hbq39
        by_cases c40:bq39=true
        ·subst c40
         rw [if_pos rfl] at H
         obtain rfl:=Option.some.inj H
         have p482:0≤(x84_3:Int):=of_decide_eq_true za
         have q482:x84_3<(t479.length:Int):=of_decide_eq_true za
         obtain ⟨ad482,A482_0,c482_0,e482,hx482_0,hl482_0,hi482_0⟩:=at_L4 (Kd.S_reads' HO_7.out).2.2 x84_3 p482 q482
         cases e482
         obtain ⟨ce482,hce482,hMe482,hcc482⟩:=Kd.S_get HO_7.out [] x84_3 p482 (by first|exact q482|exact of_decide_eq_true za|(have e_:=(Kd.S_reads' HO_7.out).1;omega))
         obtain ⟨ve482_0,rfl,ge482_0⟩:=hMe482
         have hv482_0:=hcc482 0 _ rfl
         rw [Nat.add_zero,show ((Kd.slice 4 Kd.bool)).sz=1 from rfl,Nat.mul_one] at hv482_0
         replace hv482_0:=Option.some.inj (hv482_0.symm.trans hx482_0)
         rw [hv482_0] at ge482_0
         have HL482_0:=Aside0.mk (show Kd.R Kd.bool 4 _ _ _ _ (rd_L4 t479 x84_3) from ge482_0)
         clear hv482_0 ge482_0
         clear hcc482 hce482
         have HR482_0:=Aside0.mk hi482_0
         have HC482_0:=Aside0.mk hl482_0
         clear hi482_0 hl482_0
         replace p482:=eq_true p482
         replace q482:=eq_true q482
         have p483:0≤(x84_3:Int):=of_decide_eq_true za
         have q483:x84_3<((rd_L4 t479 x84_3).length:Int):=of_decide_eq_true za
         obtain ⟨ad483,e483,hx483_0⟩:=Kd.at_bool (by repeat (first|(with_reducible exact HR482_0.out)|(with_reducible refine Kd.C_alloc ?_ _)|(with_reducible refine Kd.C_drewN ?_ _)|(with_reducible refine Kd.C_drew ?_)|exact HR482_0.out)) x84_3 p483 q483
         (try rw [←Nbq39.out] at hx483_0)
         cases e483
         replace p483:=eq_true p483
         replace q483:=eq_true q483
         go_wp2
         repeat (go_quiet (fail);try go_wp2)
         go_ret
         exact ⟨zz1,zb⟩
        replace c40:=Bool.eq_false_iff.mpr c40
        subst c40
        rw [if_neg (show ¬ (false=true) by decide)] at H
        have H':=Aside0.mk H
        clear H
        have p482:0≤(x84_3:Int):=of_decide_eq_true za
        have q482:x84_3<(t479.length:Int):=of_decide_eq_true za
        obtain ⟨ad482,A482_0,c482_0,e482,hx482_0,hl482_0,hi482_0⟩:=at_L4 (Kd.S_reads' HO_7.out).2.2 x84_3 p482 q482
        cases e482
        obtain ⟨ce482,hce482,hMe482,hcc482⟩:=Kd.S_get HO_7.out [] x84_3 p482 (by first|exact q482|exact of_decide_eq_true za|(have e_:=(Kd.S_reads' HO_7.out).1;omega))
        obtain ⟨ve482_0,rfl,ge482_0⟩:=hMe482
        have hv482_0:=hcc482 0 _ rfl
        rw [Nat.add_zero,show ((Kd.slice 4 Kd.bool)).sz=1 from rfl,Nat.mul_one] at hv482_0
        replace hv482_0:=Option.some.inj (hv482_0.symm.trans hx482_0)
        rw [hv482_0] at ge482_0
        have HL482_0:=Aside0.mk (show Kd.R Kd.bool 4 _ _ _ _ (rd_L4 t479 x84_3) from ge482_0)
        clear hv482_0 ge482_0
        clear hcc482 hce482
        have HR482_0:=Aside0.mk hi482_0
        have HC482_0:=Aside0.mk hl482_0
        clear hi482_0 hl482_0
        replace p482:=eq_true p482
        replace q482:=eq_true q482
        have p483:0≤(x84_3:Int):=of_decide_eq_true za
        have q483:x84_3<((rd_L4 t479 x84_3).length:Int):=of_decide_eq_true za
        obtain ⟨ad483,e483,hx483_0⟩:=Kd.at_bool (by repeat (first|(with_reducible exact HR482_0.out)|(with_reducible refine Kd.C_alloc ?_ _)|(with_reducible refine Kd.C_drewN ?_ _)|(with_reducible refine Kd.C_drew ?_)|exact HR482_0.out)) x84_3 p483 q483
        (try rw [←Nbq39.out] at hx483_0)
        cases e483
        replace p483:=eq_true p483
        replace q483:=eq_true q483
        go_wp2
        repeat (go_quiet (fail);try go_wp2)
        go_roundg k3
        case measure=>have:=HJ2.out;have:=HK2.out;have:=HK3.out;omega
        case rel=>exact ⟨(wrap64 (x84_3 + 1)),zo,H',⟨by have:=HJ2.out;have:=HK2.out;have:=HK3.out;omega⟩,⟨zS HO_7.out⟩,⟨zb⟩⟩
     rw [if_pos c7] at H
     have c7b0:=decide_eq_true c7
     clear c7
     by_cases c8:0≤x19_2
     rotate_left
     ·rw [if_neg c8] at H
      exact absurd H (by simp)
     rw [if_pos c8] at H
     have c8b0:=decide_eq_true c8
     clear c8
     by_cases c9:x19_2<(l1.length:Int)
     rotate_left
     ·rw [if_neg c9] at H
      exact absurd H (by simp)
     rw [if_pos c9] at H
     have c9b0:=decide_eq_true c9
     clear c9
     have HC10:=Aside0.mk H
     clear H
     have p472:0≤(x19_2:Int):=of_decide_eq_true za
     have q472:x19_2<(l1.length:Int):=of_decide_eq_true za
     obtain ⟨ad472,e472,hx472_0,hx472_1⟩:=at_T72 HR1.out x19_2 p472 q472
     cases e472
     replace hx472_0:=zh_ HB hx472_0
     replace hx472_1:=zh_ HB hx472_1
     replace p472:=eq_true p472
     replace q472:=eq_true q472
     go_upto_region 6 with (first|((with_reducible refine gate_dst (N:=6) rfl ?_);(try (refine gate_guard (by rfl) ?_;dsimp only));refine box_event ?hg (N:=6) ?hd (cs:=#[.int .i64 0,.int .i64 0]) (t:=72) ?hr ?_;(case hd=>rfl);(case hg=>rfl);(case hr=>first|(go_simp;done)|(go_simp;rfl));intro gb473 hg w11 hbox hb;have n0_:=zb1 hb;have n1_:=Aside0.mk (hbox);have n2_:=Aside0.mk ((by rw [hg];exact (below_size zb):w.heap.size≤gb473));have n3_:=Aside0.mk ((by rw [hg];exact (below_size zb):w.heap.size≤gb473));clear HB;have HB:=n0_;have BK473:=n1_;have GW473:=n2_;have GE473:=n3_;clear n0_ n1_ n2_ n3_;clear hb hbox hg;obtain ⟨hcz12_0,hcz12_1,hfz12_0,hfz12_1⟩:=zk2 BK473.out))
     repeat (go_quiet (first|((with_reducible refine gate_dst (N:=6) rfl ?_);(try (refine gate_guard (by rfl) ?_;dsimp only));refine box_event ?hg (N:=6) ?hd (cs:=#[.int .i64 0,.int .i64 0]) (t:=72) ?hr ?_;(case hd=>rfl);(case hg=>rfl);(case hr=>first|(go_simp;done)|(go_simp;rfl));intro gb473 hg w11 hbox hb;have n0_:=zb1 hb;have n1_:=Aside0.mk (hbox);have n2_:=Aside0.mk ((by rw [hg];exact (below_size zb):w.heap.size≤gb473));have n3_:=Aside0.mk ((by rw [hg];exact (below_size zb):w.heap.size≤gb473));clear HB;have HB:=n0_;have BK473:=n1_;have GW473:=n2_;have GE473:=n3_;clear n0_ n1_ n2_ n3_;clear hb hbox hg;obtain ⟨hcz12_0,hcz12_1,hfz12_0,hfz12_1⟩:=zk2 BK473.out));go_upto_region 6 with (first|((with_reducible refine gate_dst (N:=6) rfl ?_);(try (refine gate_guard (by rfl) ?_;dsimp only));refine box_event ?hg (N:=6) ?hd (cs:=#[.int .i64 0,.int .i64 0]) (t:=72) ?hr ?_;(case hd=>rfl);(case hg=>rfl);(case hr=>first|(go_simp;done)|(go_simp;rfl));intro gb473 hg w11 hbox hb;have n0_:=zb1 hb;have n1_:=Aside0.mk (hbox);have n2_:=Aside0.mk ((by rw [hg];exact (below_size zb):w.heap.size≤gb473));have n3_:=Aside0.mk ((by rw [hg];exact (below_size zb):w.heap.size≤gb473));clear HB;have HB:=n0_;have BK473:=n1_;have GW473:=n2_;have GE473:=n3_;clear n0_ n1_ n2_ n3_;clear hb hbox hg;obtain ⟨hcz12_0,hcz12_1,hfz12_0,hfz12_1⟩:=zk2 BK473.out)))
     (try simp only [Act.put,List.setIfInBounds_toArray,List.set_cons_zero,List.set_cons_succ])
     go_cut [42] (fun v42 wc=>∃ (kq:Nat) (x42_9:Bool),v42=.bool x42_9∧Aside0 (impl_IsPrecedence.j2 kq a0 l1 x19_2 l1 (l1.length:Int) x19_2 x42_9 ((rd_T72 l1 x19_2).f0) ((rd_T72 l1 x19_2).f1)=some r)∧Aside0 (kq≤k2)∧Aside0 (wc.heap[gb473]?=some (.cells #[.int .i64 ((rd_T72 l1 x19_2).f0),.int .i64 ((rd_T72 l1 x19_2).f1)] 72 (0,0)))∧Aside0 (Below w.heap.size w wc))
     case first=>
      have H:=HC10.out
      clear HC10
      replace H:=Option.bind_eq_some_iff.mp H
      obtain ⟨t474,A130,H⟩:=H
      try dsimp only at H
      have A13:=Aside0.mk A130
      clear A130
      by_cases c14:t474=true
      rotate_left
      ·replace c14:=Bool.eq_false_iff.mpr c14
       subst c14
       rw [if_neg (show ¬ (false=true) by decide)] at H
       have H':=Aside0.mk H
       clear H
       obtain ⟨hcz19_0,hcz19_1,hfz19_0,hfz19_1⟩:=zk2 BK473.out
       go_wp2_with (first|(go_at_call 114;(with_reducible refine (impl_isNumber.calls ((rd_T72 l1 x19_2).f0) a0 false _ A13.out).mono ?_);rintro e w' ⟨rfl,⟨nd,rfl⟩⟩;(try first|exact ⟨rfl,_,World.drewN_drewN _ _ _⟩|exact ⟨rfl,_,Eq.trans (World.drewN_drewN _ _ _) (congrArg (World.drewN _) (Nat.add_assoc _ _ _))⟩)))
       repeat (go_quiet (first|(go_at_call 114;(with_reducible refine (impl_isNumber.calls ((rd_T72 l1 x19_2).f0) a0 false _ A13.out).mono ?_);rintro e w' ⟨rfl,⟨nd,rfl⟩⟩;(try first|exact ⟨rfl,_,World.drewN_drewN _ _ _⟩|exact ⟨rfl,_,Eq.trans (World.drewN_drewN _ _ _) (congrArg (World.drewN _) (Nat.add_assoc _ _ _))⟩)));try go_wp2_with (first|(go_at_call 114;(with_reducible refine (impl_isNumber.calls ((rd_T72 l1 x19_2).f0) a0 false _ A13.out).mono ?_);rintro e w' ⟨rfl,⟨nd,rfl⟩⟩;(try first|exact ⟨rfl,_,World.drewN_drewN _ _ _⟩|exact ⟨rfl,_,Eq.trans (World.drewN_drewN _ _ _) (congrArg (World.drewN _) (Nat.add_assoc _ _ _))⟩))))
       go_meet
       case rel=>exact ⟨_,(true),zo,H',⟨by have:=HJ2.out;have:=HK2.out;first|omega|exact Nat.le_refl _⟩,⟨zz53⟩,⟨zz26⟩⟩
      subst c14
      rw [if_pos rfl] at H
      replace H:=Option.bind_eq_some_iff.mp H
      obtain ⟨t475,A150,H⟩:=H
      try dsimp only at H
      have A15:=Aside0.mk A150
      clear A150
      by_cases c16:t475=true
      ·subst c16
       rw [if_pos rfl] at H
       have H':=Aside0.mk H
       clear H
       obtain ⟨hcz17_0,hcz17_1,hfz17_0,hfz17_1⟩:=zk2 BK473.out
       go_wp2_with (first|(go_at_call 114;(with_reducible refine (impl_isNumber.calls ((rd_T72 l1 x19_2).f0) a0 true _ A13.out).mono ?_);rintro e w' ⟨rfl,⟨nd,rfl⟩⟩;(try first|exact ⟨rfl,_,World.drewN_drewN _ _ _⟩|exact ⟨rfl,_,Eq.trans (World.drewN_drewN _ _ _) (congrArg (World.drewN _) (Nat.add_assoc _ _ _))⟩))|(go_at_call 114;(with_reducible refine (impl_isNumber.calls ((rd_T72 l1 x19_2).f1) a0 true _ A15.out).mono ?_);rintro e w' ⟨rfl,⟨nd,rfl⟩⟩;(try first|exact ⟨rfl,_,World.drewN_drewN _ _ _⟩|exact ⟨rfl,_,Eq.trans (World.drewN_drewN _ _ _) (congrArg (World.drewN _) (Nat.add_assoc _ _ _))⟩)))
       repeat (go_quiet (first|(go_at_call 114;(with_reducible refine (impl_isNumber.calls ((rd_T72 l1 x19_2).f0) a0 true _ A13.out).mono ?_);rintro e w' ⟨rfl,⟨nd,rfl⟩⟩;(try first|exact ⟨rfl,_,World.drewN_drewN _ _ _⟩|exact ⟨rfl,_,Eq.trans (World.drewN_drewN _ _ _) (congrArg (World.drewN _) (Nat.add_assoc _ _ _))⟩))|(go_at_call 114;(with_reducible refine (impl_isNumber.calls ((rd_T72 l1 x19_2).f1) a0 true _ A15.out).mono ?_);rintro e w' ⟨rfl,⟨nd,rfl⟩⟩;(try first|exact ⟨rfl,_,World.drewN_drewN _ _ _⟩|exact ⟨rfl,_,Eq.trans (World.drewN_drewN _ _ _) (congrArg (World.drewN _) (Nat.add_assoc _ _ _))⟩)));try go_wp2_with (first|(go_at_call 114;(with_reducible refine (impl_isNumber.calls ((rd_T72 l1 x19_2).f0) a0 true _ A13.out).mono ?_);rintro e w' ⟨rfl,⟨nd,rfl⟩⟩;(try first|exact ⟨rfl,_,World.drewN_drewN _ _ _⟩|exact ⟨rfl,_,Eq.trans (World.drewN_drewN _ _ _) (congrArg (World.drewN _) (Nat.add_assoc _ _ _))⟩))|(go_at_call 114;(with_reducible refine (impl_isNumber.calls ((rd_T72 l1 x19_2).f1) a0 true _ A15.out).mono ?_);rintro e w' ⟨rfl,⟨nd,rfl⟩⟩;(try first|exact ⟨rfl,_,World.drewN_drewN _ _ _⟩|exact ⟨rfl,_,Eq.trans (World.drewN_drewN _ _ _) (congrArg (World.drewN _) (Nat.add_assoc _ _ _))⟩))))
       go_meet
       case rel=>exact ⟨_,((((rd_T72 l1 x19_2).f0) == ((rd_T72 l1 x19_2).f1))),zo,H',⟨by have:=HJ2.out;have:=HK2.out;first|omega|exact Nat.le_refl _⟩,⟨zz53⟩,⟨zz26⟩⟩
      replace c16:=Bool.eq_false_iff.mpr c16
      subst c16
      rw [if_neg (show ¬ (false=true) by decide)] at H
      have H':=Aside0.mk H
      clear H
      obtain ⟨hcz18_0,hcz18_1,hfz18_0,hfz18_1⟩:=zk2 BK473.out
      go_wp2_with (first|(go_at_call 114;(with_reducible refine (impl_isNumber.calls ((rd_T72 l1 x19_2).f0) a0 true _ A13.out).mono ?_);rintro e w' ⟨rfl,⟨nd,rfl⟩⟩;(try first|exact ⟨rfl,_,World.drewN_drewN _ _ _⟩|exact ⟨rfl,_,Eq.trans (World.drewN_drewN _ _ _) (congrArg (World.drewN _) (Nat.add_assoc _ _ _))⟩))|(go_at_call 114;(with_reducible refine (impl_isNumber.calls ((rd_T72 l1 x19_2).f1) a0 false _ A15.out).mono ?_);rintro e w' ⟨rfl,⟨nd,rfl⟩⟩;(try first|exact ⟨rfl,_,World.drewN_drewN _ _ _⟩|exact ⟨rfl,_,Eq.trans (World.drewN_drewN _ _ _) (congrArg (World.drewN _) (Nat.add_assoc _ _ _))⟩)))
      repeat (go_quiet (first|(go_at_call 114;(with_reducible refine (impl_isNumber.calls ((rd_T72 l1 x19_2).f0) a0 true _ A13.out).mono ?_);rintro e w' ⟨rfl,⟨nd,rfl⟩⟩;(try first|exact ⟨rfl,_,World.drewN_drewN _ _ _⟩|exact ⟨rfl,_,Eq.trans (World.drewN_drewN _ _ _) (congrArg (World.drewN _) (Nat.add_assoc _ _ _))⟩))|(go_at_call 114;(with_reducible refine (impl_isNumber.calls ((rd_T72 l1 x19_2).f1) a0 false _ A15.out).mono ?_);rintro e w' ⟨rfl,⟨nd,rfl⟩⟩;(try first|exact ⟨rfl,_,World.drewN_drewN _ _ _⟩|exact ⟨rfl,_,Eq.trans (World.drewN_drewN _ _ _) (congrArg (World.drewN _) (Nat.add_assoc _ _ _))⟩)));try go_wp2_with (first|(go_at_call 114;(with_reducible refine (impl_isNumber.calls ((rd_T72 l1 x19_2).f0) a0 true _ A13.out).mono ?_);rintro e w' ⟨rfl,⟨nd,rfl⟩⟩;(try first|exact ⟨rfl,_,World.drewN_drewN _ _ _⟩|exact ⟨rfl,_,Eq.trans (World.drewN_drewN _ _ _) (congrArg (World.drewN _) (Nat.add_assoc _ _ _))⟩))|(go_at_call 114;(with_reducible refine (impl_isNumber.calls ((rd_T72 l1 x19_2).f1) a0 false _ A15.out).mono ?_);rintro e w' ⟨rfl,⟨nd,rfl⟩⟩;(try first|exact ⟨rfl,_,World.drewN_drewN _ _ _⟩|exact ⟨rfl,_,Eq.trans (World.drewN_drewN _ _ _) (congrArg (World.drewN _) (Nat.add_assoc _ _ _))⟩))))
      go_meet
      case rel=>exact ⟨_,(true),zo,H',⟨by have:=HJ2.out;have:=HK2.out;first|omega|exact Nat.le_refl _⟩,⟨zz53⟩,⟨zz26⟩⟩
     case rest=>
      clear HC10
      obtain ⟨kq,x42_9,rfl,HA,HJ9,BK473,HB⟩:=hcut
      cases kq with
      | zero=>exact absurd HA.out (by simp [impl_IsPrecedence.j2])
      | succ kj9=>
       have H:=HA.out
       clear HA
       simp only [impl_IsPrecedence.j2] at H
       by_cases c20:x42_9=true
       ·subst c20
        rw [if_pos rfl] at H
        obtain rfl:=Option.some.inj H
        go_wp2
        repeat (go_quiet (fail);try go_wp2)
        go_ret
        exact ⟨zz1,zz26⟩
       replace c20:=Bool.eq_false_iff.mpr c20
       subst c20
       rw [if_neg (show ¬ (false=true) by decide)] at H
       by_cases c21:x19_2>0
       rotate_left
       ·rw [if_neg c21] at H
        have c21b0:=decide_eq_false c21
        clear c21
        have H':=Aside0.mk H
        clear H
        go_wp2
        repeat (go_quiet (fail);try go_wp2)
        go_roundg kj9
        case measure=>have:=HJ2.out;have:=HK2.out;have:=HJ9.out;omega
        case rel=>exact ⟨(wrap64 (x19_2 + 1)),zo,H',⟨by have:=HJ2.out;have:=HK2.out;have:=HJ9.out;omega⟩,⟨zz26⟩⟩
       rw [if_pos c21] at H
       have c21b0:=decide_eq_true c21
       clear c21
       obtain ⟨ji22,hji22⟩:∃ j_:Int,(wrap64 (x19_2 - 1))=j_:=⟨_,rfl⟩
       replace H:(if 0≤(ji22) then (if (ji22)<(l1.length:Int) then (if ((rd_T72 l1 (ji22)).f0)>((rd_T72 l1 x19_2).f0) then (some false) else (if ((rd_T72 l1 (ji22)).f0)=((rd_T72 l1 x19_2).f0) then (if ((rd_T72 l1 (ji22)).f1)≥((rd_T72 l1 x19_2).f1) then (some false) else (impl_IsPrecedence.l0 kj9 a0 l1 l1 (l1.length:Int) (wrap64 (x19_2 + 1)))) else (impl_IsPrecedence.l0 kj9 a0 l1 l1 (l1.length:Int) (wrap64 (x19_2 + 1))))) else (none)) else (none))=some r:=by first|(rw [hji22] at H;exact H)|(simp only [hji22] at H ⊢;exact H)
       have hji22w:(IntKind.i64.wrap (x19_2 - 1))=ji22:=(i64_w _).trans hji22
       by_cases c23:0≤(ji22)
       rotate_left
       ·rw [if_neg c23] at H
        exact absurd H (by simp)
       rw [if_pos c23] at H
       have c23b0:=decide_eq_true c23
       clear c23
       by_cases c24:(ji22)<(l1.length:Int)
       rotate_left
       ·rw [if_neg c24] at H
        exact absurd H (by simp)
       rw [if_pos c24] at H
       have c24b0:=decide_eq_true c24
       clear c24
       by_cases c25:((rd_T72 l1 (ji22)).f0)>((rd_T72 l1 x19_2).f0)
       ·rw [if_pos c25] at H
        have c25b0:=decide_eq_true c25
        clear c25
        obtain rfl:=Option.some.inj H
        have p476:0≤((ji22):Int):=of_decide_eq_true za
        have q476:(ji22)<(l1.length:Int):=of_decide_eq_true za
        obtain ⟨ad476,e476,hx476_0,hx476_1⟩:=at_T72 HR1.out (ji22) p476 q476
        obtain rfl:ad472=ad476:=(by injection e476)
        replace hx476_0:=zh_ HB hx476_0
        replace hx476_1:=zh_ HB hx476_1
        replace p476:=eq_true p476
        replace q476:=eq_true q476
        obtain ⟨hcz26_0,hcz26_1,hfz26_0,hfz26_1⟩:=zk2 BK473.out
        go_wp2
        repeat (go_quiet (fail);try go_wp2)
        go_ret
        exact ⟨by first|rfl|(simp [errW_none,errW_some] <;> rfl)|(simp only [←hji22];first|rfl|(simp [errW_none,errW_some] <;> rfl))|(simp [*,errW_none,errW_some] <;> rfl),zz26⟩
       rw [if_neg c25] at H
       have c25b0:=decide_eq_false c25
       clear c25
       by_cases c27:((rd_T72 l1 (ji22)).f0)=((rd_T72 l1 x19_2).f0)
       rotate_left
       ·rw [if_neg c27] at H
        have c27b0:(((rd_T72 l1 (ji22)).f0) == ((rd_T72 l1 x19_2).f0))=false:=beq_eq_false_iff_ne.mpr c27
        have c27b1:(((rd_T72 l1 (ji22)).f0) != ((rd_T72 l1 x19_2).f0))=true:=bne_iff_ne.mpr c27
        have H':=Aside0.mk H
        clear H
        have p476:0≤((ji22):Int):=of_decide_eq_true za
        have q476:(ji22)<(l1.length:Int):=of_decide_eq_true za
        obtain ⟨ad476,e476,hx476_0,hx476_1⟩:=at_T72 HR1.out (ji22) p476 q476
        obtain rfl:ad472=ad476:=(by injection e476)
        replace hx476_0:=zh_ HB hx476_0
        replace hx476_1:=zh_ HB hx476_1
        replace p476:=eq_true p476
        replace q476:=eq_true q476
        obtain ⟨hcz31_0,hcz31_1,hfz31_0,hfz31_1⟩:=zk2 BK473.out
        have p477:0≤((ji22):Int):=of_decide_eq_true za
        have q477:(ji22)<(l1.length:Int):=of_decide_eq_true za
        obtain ⟨ad477,e477,hx477_0,hx477_1⟩:=at_T72 HR1.out (ji22) p477 q477
        obtain rfl:ad472=ad477:=(by injection e477)
        replace hx477_0:=zh_ HB hx477_0
        replace hx477_1:=zh_ HB hx477_1
        replace p477:=eq_true p477
        replace q477:=eq_true q477
        go_wp2
        repeat (go_quiet (fail);try go_wp2)
        go_roundg kj9
        case measure=>have:=HJ2.out;have:=HK2.out;have:=HJ9.out;omega
        case rel=>exact ⟨(wrap64 (x19_2 + 1)),zo,H',⟨by have:=HJ2.out;have:=HK2.out;have:=HJ9.out;omega⟩,⟨zz26⟩⟩
       rw [if_pos c27] at H
       have c27b0:(((rd_T72 l1 (ji22)).f0) == ((rd_T72 l1 x19_2).f0))=true:=beq_iff_eq.mpr c27
       have c27b1:(((rd_T72 l1 (ji22)).f0) != ((rd_T72 l1 x19_2).f0))=false:=bne_eq_false_iff_eq.mpr c27
       clear c27
       by_cases c28:((rd_T72 l1 (ji22)).f1)≥((rd_T72 l1 x19_2).f1)
       ·rw [if_pos c28] at H
        have c28b0:=decide_eq_true c28
        clear c28
        obtain rfl:=Option.some.inj H
        have p476:0≤((ji22):Int):=of_decide_eq_true za
        have q476:(ji22)<(l1.length:Int):=of_decide_eq_true za
        obtain ⟨ad476,e476,hx476_0,hx476_1⟩:=at_T72 HR1.out (ji22) p476 q476
        obtain rfl:ad472=ad476:=(by injection e476)
        replace hx476_0:=zh_ HB hx476_0
        replace hx476_1:=zh_ HB hx476_1
        replace p476:=eq_true p476
        replace q476:=eq_true q476
        obtain ⟨hcz29_0,hcz29_1,hfz29_0,hfz29_1⟩:=zk2 BK473.out
        have p477:0≤((ji22):Int):=of_decide_eq_true za
        have q477:(ji22)<(l1.length:Int):=of_decide_eq_true za
        obtain ⟨ad477,e477,hx477_0,hx477_1⟩:=at_T72 HR1.out (ji22) p477 q477
        obtain rfl:ad472=ad477:=(by injection e477)
        replace hx477_0:=zh_ HB hx477_0
        replace hx477_1:=zh_ HB hx477_1
        replace p477:=eq_true p477
        replace q477:=eq_true q477
        have p478:0≤((ji22):Int):=of_decide_eq_true za
        have q478:(ji22)<(l1.length:Int):=of_decide_eq_true za
        obtain ⟨ad478,e478,hx478_0,hx478_1⟩:=at_T72 HR1.out (ji22) p478 q478
        obtain rfl:ad472=ad478:=(by injection e478)
        replace hx478_0:=zh_ HB hx478_0
        replace hx478_1:=zh_ HB hx478_1
        replace p478:=eq_true p478
        replace q478:=eq_true q478
        go_wp2
        repeat (go_quiet (fail);try go_wp2)
        go_ret
        exact ⟨by first|rfl|(simp [errW_none,errW_some] <;> rfl)|(simp only [←hji22];first|rfl|(simp [errW_none,errW_some] <;> rfl))|(simp [*,errW_none,errW_some] <;> rfl),zz26⟩
       rw [if_neg c28] at H
       have c28b0:=decide_eq_false c28
       clear c28
       have H':=Aside0.mk H
       clear H
       have p476:0≤((ji22):Int):=of_decide_eq_true za
       have q476:(ji22)<(l1.length:Int):=of_decide_eq_true za
       obtain ⟨ad476,e476,hx476_0,hx476_1⟩:=at_T72 HR1.out (ji22) p476 q476
       obtain rfl:ad472=ad476:=(by injection e476)
       replace hx476_0:=zh_ HB hx476_0
       replace hx476_1:=zh_ HB hx476_1
       replace p476:=eq_true p476
       replace q476:=eq_true q476
       obtain ⟨hcz30_0,hcz30_1,hfz30_0,hfz30_1⟩:=zk2 BK473.out
       have p477:0≤((ji22):Int):=of_decide_eq_true za
       have q477:(ji22)<(l1.length:Int):=of_decide_eq_true za
       obtain ⟨ad477,e477,hx477_0,hx477_1⟩:=at_T72 HR1.out (ji22) p477 q477
       obtain rfl:ad472=ad477:=(by injection e477)
       replace hx477_0:=zh_ HB hx477_0
       replace hx477_1:=zh_ HB hx477_1
       replace p477:=eq_true p477
       replace q477:=eq_true q477
       have p478:0≤((ji22):Int):=of_decide_eq_true za
       have q478:(ji22)<(l1.length:Int):=of_decide_eq_true za
       obtain ⟨ad478,e478,hx478_0,hx478_1⟩:=at_T72 HR1.out (ji22) p478 q478
       obtain rfl:ad472=ad478:=(by injection e478)
       replace hx478_0:=zh_ HB hx478_0
       replace hx478_1:=zh_ HB hx478_1
       replace p478:=eq_true p478
       replace q478:=eq_true q478
       go_wp2
       repeat (go_quiet (fail);try go_wp2)
       go_roundg kj9
       case measure=>have:=HJ2.out;have:=HK2.out;have:=HJ9.out;omega
       case rel=>exact ⟨(wrap64 (x19_2 + 1)),zo,H',⟨by have:=HJ2.out;have:=HK2.out;have:=HJ9.out;omega⟩,⟨zz26⟩⟩

/-! ### impl_isParallel: function 78 -/
def impl_isParallel.f (k:Nat) (l0:List (S76)) (a1:Int) (l2:List (S72)):Option (Bool):=(impl_IsPlain.f k l0).bind fun t484=>(if t484=true then ((impl_within.f a1 1 4).bind fun t485=>(if t485=true then ((impl_IsPrecedence.f k (l0.length:Int) l2).bind fun t486=>(some t486)) else (some false))) else (some false))
theorem impl_isParallel.mono:∀ a0 a1 a2 k,LeO (impl_isParallel.f k a0 a1 a2) (impl_isParallel.f (k + 1) a0 a1 a2):=by
 intro a0 a1 a2 k
 unfold impl_isParallel.f
 repeat' first|(with_reducible first|exact impl_IsPlain.mono _ _|exact impl_IsPrecedence.mono _ _ _|exact LeO.refl _|exact LeO.none _|refine LeO.ite ?_ ?_|refine LeO.bind ?_ (fun _=>?_))|exact impl_IsPlain.mono _ _|exact impl_IsPrecedence.mono _ _ _|exact LeO.none _|refine LeO.ite ?_ ?_|refine LeO.bind ?_ (fun _=>?_)
set_option maxHeartbeats 8000000 in
set_option maxRecDepth 100000 in
theorem impl_isParallel.calls (k:Nat) (A0:Option Addr) (c0:Nat) (l0:List (S76)) (a1:Int) (A2:Option Addr) (c2:Nat) (l2:List (S72)) (r:Bool) (w:World) (hr0:Kd.C k76 w A0 l0.length l0) (hc0:l0.length≤c0) (hr2:Kd.C k72 w A2 l2.length l2) (hc2:l2.length≤c2) (h:impl_isParallel.f k l0 a1 l2=some r) :
  Calls Try.prog 78 #[.slice A0 l0.length c0,.int .i64 a1,.slice A2 l2.length c2] w fun e w'=>e=.returned (.bool r)∧Below w.heap.size w w':=by
 have HR0:=Aside0.mk hr0
 have HC0:=Aside0.mk hc0
 clear hr0 hc0
 have HR2:=Aside0.mk hr2
 have HC2:=Aside0.mk hc2
 clear hr2 hc2
 have HB:=Aside0.mk (Below.refl w.heap.size w)
 have H:((impl_IsPlain.f k l0).bind fun t484=>(if t484=true then ((impl_within.f a1 1 4).bind fun t485=>(if t485=true then ((impl_IsPrecedence.f k (l0.length:Int) l2).bind fun t486=>(some t486)) else (some false))) else (some false)))=some r:=h
 clear h
 replace H:=Option.bind_eq_some_iff.mp H
 obtain ⟨t484,A40,H⟩:=H
 try dsimp only at H
 have A4:=Aside0.mk A40
 clear A40
 by_cases c5:t484=true
 rotate_left
 ·replace c5:=Bool.eq_false_iff.mpr c5
  subst c5
  rw [if_neg (show ¬ (false=true) by decide)] at H
  obtain rfl:=Option.some.inj H
  go_enter Try.func78,Try.ntmps78
  go_wp2_with (first|((with_reducible refine gate_callee (f:=52) rfl ?_);refine zgo 8 Try.func52 #[.slice A0 l0.length c0] ?_;(with_reducible refine (impl_IsPlain.calls k _ _ l0 false _ ?side1 ?side2 A4.out).mono ?_);(case side1=>exact zC HR0.out);(case side2=>exact HC0.out);rintro e w12 ⟨rfl,hb⟩;refine ⟨_,rfl,?_⟩;replace HB:=zb1 hb;(try clear hb)))
  go_ret
  exact ⟨zz1,zb⟩
 subst c5
 rw [if_pos rfl] at H
 replace H:=Option.bind_eq_some_iff.mp H
 obtain ⟨t485,A60,H⟩:=H
 try dsimp only at H
 have A6:=Aside0.mk A60
 clear A60
 by_cases c7:t485=true
 rotate_left
 ·replace c7:=Bool.eq_false_iff.mpr c7
  subst c7
  rw [if_neg (show ¬ (false=true) by decide)] at H
  obtain rfl:=Option.some.inj H
  go_enter Try.func78,Try.ntmps78
  go_wp2_with (first|((with_reducible refine gate_callee (f:=52) rfl ?_);refine zgo 8 Try.func52 #[.slice A0 l0.length c0] ?_;(with_reducible refine (impl_IsPlain.calls k _ _ l0 true _ ?side1 ?side2 A4.out).mono ?_);(case side1=>exact zC HR0.out);(case side2=>exact HC0.out);rintro e w11 ⟨rfl,hb⟩;refine ⟨_,rfl,?_⟩;replace HB:=zb1 hb;(try clear hb))|(go_at_call 113;(with_reducible refine (impl_within.calls a1 1 4 false _ A6.out).mono ?_);rintro e w' ⟨rfl,⟨nd,rfl⟩⟩))
  go_ret
  exact ⟨zz1,zb⟩
 subst c7
 rw [if_pos rfl] at H
 replace H:=Option.bind_eq_some_iff.mp H
 obtain ⟨t486,A80,H⟩:=H
 try dsimp only at H
 have A8:=Aside0.mk A80
 clear A80
 obtain rfl:=Option.some.inj H
 go_enter Try.func78,Try.ntmps78
 go_wp2_with (first|((with_reducible refine gate_callee (f:=52) rfl ?_);refine zgo 8 Try.func52 #[.slice A0 l0.length c0] ?_;(with_reducible refine (impl_IsPlain.calls k _ _ l0 true _ ?side1 ?side2 A4.out).mono ?_);(case side1=>exact zC HR0.out);(case side2=>exact HC0.out);rintro e w9 ⟨rfl,hb⟩;refine ⟨_,rfl,?_⟩;replace HB:=zb1 hb;(try clear hb))|(go_at_call 113;(with_reducible refine (impl_within.calls a1 1 4 true _ A6.out).mono ?_);rintro e w' ⟨rfl,⟨nd,rfl⟩⟩)|(go_at_call 62;(with_reducible refine (impl_IsPrecedence.calls k (l0.length:Int) _ _ l2 t486 _ ?side1 ?side2 A8.out).mono ?_);(case side1=>exact zC (Kd.C_below HR2.out zb));(case side2=>exact HC2.out);rintro e w10 ⟨rfl,hb⟩;replace HB:=zb1 hb;(try clear hb)))
 go_ret
 exact ⟨zz1,zb⟩

end Go.Proofs.Ytbcfmegepkhlpaa.XFnShared
-- minified
