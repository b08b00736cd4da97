-- Written by a program of this session (the kit's print, widened). Proved here: what each function answers, for the arguments that its contract names.
import Derived.Test.YtbcfmegepkhlpaaXFnSharedx0
import Derived.Test.YtbcfmegepkhlpaaXFnSharedx2
import Derived.Test.YtbcfmegepkhlpaaXFnSharedx6
import Derived.Test.YtbcfmegepkhlpaaXFnSharedx10
import Derived.Test.YtbcfmegepkhlpaaXFnSharedx13
import Derived.Test.YtbcfmegepkhlpaaXFnSharedx15
import Derived.Test.YtbcfmegepkhlpaaXFnSharedx17
import Derived.Test.YtbcfmegepkhlpaaXFnSharedx18
namespace Go.Proofs.Ytbcfmegepkhlpaa.XFnShared
open Go.RowKit Go.Proofs.YtbcfmegepkhlpaaW.PrintWords Go.Proofs.YtbcfmegepkhlpaaW.PrintLast Go.Proofs.YtbcfmegepkhlpaaW.PrintMore
attribute [local go_sem] max2_int min2_int max_two min_two max_three min_three max_four min_four   -- for this text's walks alone
attribute [local go_sem] idxA_72_0 idxA_72_1 fldS_96_0 fldS_96_1 fldS_96_2 fldS_111_0 fldS_111_1 fldS_111_2
set_option linter.unusedVariables false
set_option linter.unusedSimpArgs false

/-! ### impl_LengthBound: function 45 -/
def impl_LengthBound.f (k:Nat) (l0:List (S76)) (a1:Int) (l2:List (S72)):Option (Int × Bool):=(impl_isParallel.f k l0 a1 l2).bind fun t581=>(if t581=true then ((impl_lengthBound.f k l0 a1 l2).bind fun t582=>(some (t582,true))) else (some (0,false)))
theorem impl_LengthBound.mono:∀ a0 a1 a2 k,LeO (impl_LengthBound.f k a0 a1 a2) (impl_LengthBound.f (k + 1) a0 a1 a2):=by
 intro a0 a1 a2 k
 unfold impl_LengthBound.f
 repeat' first|(with_reducible first|exact impl_isParallel.mono _ _ _ _|exact impl_lengthBound.mono _ _ _ _|exact LeO.refl _|exact LeO.none _|refine LeO.ite ?_ ?_|refine LeO.bind ?_ (fun _=>?_))|exact impl_isParallel.mono _ _ _ _|exact impl_lengthBound.mono _ _ _ _|exact LeO.none _|refine LeO.ite ?_ ?_|refine LeO.bind ?_ (fun _=>?_)
set_option maxHeartbeats 8000000 in
set_option maxRecDepth 100000 in
theorem impl_LengthBound.calls (k:Nat) (A0:Option Addr) (c0:Nat) (l0:List (S76)) (a1:Int) (A2:Option Addr) (c2:Nat) (l2:List (S72)) (r1:Int) (r2:Bool) (w:World) (hr0:Kd.C k76 w A0 l0.length l0) (hc0:l0.length≤c0) (hr2:Kd.C k72 w A2 l2.length l2) (hc2:l2.length≤c2) (h:impl_LengthBound.f k l0 a1 l2=some (r1,r2)) :
  Calls Try.prog 45 #[.slice A0 l0.length c0,.int .i64 a1,.slice A2 l2.length c2] w fun e w'=>e=.returned (.tuple #[.int .i64 r1,.bool r2])∧Below w.heap.size w w':=by
 have HR0:=Aside0.mk hr0
 have HC0:=Aside0.mk hc0
 clear hr0 hc0
 have HR2:=Aside0.mk hr2
 have HC2:=Aside0.mk hc2
 clear hr2 hc2
 have HB:=Aside0.mk (Below.refl w.heap.size w)
 have H:((impl_isParallel.f k l0 a1 l2).bind fun t581=>(if t581=true then ((impl_lengthBound.f k l0 a1 l2).bind fun t582=>(some (t582,true))) else (some (0,false))))=some (r1,r2):=h
 clear h
 replace H:=Option.bind_eq_some_iff.mp H
 obtain ⟨t581,A40,H⟩:=H
 try dsimp only at H
 have A4:=Aside0.mk A40
 clear A40
 by_cases c5:t581=true
 rotate_left
 ·replace c5:=Bool.eq_false_iff.mpr c5
  subst c5
  rw [if_neg (show ¬ (false=true) by decide)] at H
  simp only [Option.some.injEq,Prod.mk.injEq] at H
  obtain ⟨rfl,rfl⟩:=H
  go_enter Try.func45,Try.ntmps45
  go_wp2_with (first|((with_reducible refine gate_callee (f:=78) rfl ?_);refine zgo 11 Try.func78 #[.slice A0 l0.length c0,.int .i64 a1,.slice A2 l2.length c2] ?_;(with_reducible refine (impl_isParallel.calls k _ _ l0 a1 _ _ l2 false _ ?side1 ?side2 ?side3 ?side4 A4.out).mono ?_);(case side1=>exact zC HR0.out);(case side2=>exact HC0.out);(case side3=>exact zC HR2.out);(case side4=>exact HC2.out);rintro e w9 ⟨rfl,hb⟩;refine ⟨_,rfl,?_⟩;replace HB:=zb1 hb;(try clear hb)))
  go_ret2
  exact ⟨zz1,zb⟩
 subst c5
 rw [if_pos rfl] at H
 replace H:=Option.bind_eq_some_iff.mp H
 obtain ⟨t582,A60,H⟩:=H
 try dsimp only at H
 have A6:=Aside0.mk A60
 clear A60
 simp only [Option.some.injEq,Prod.mk.injEq] at H
 obtain ⟨rfl,rfl⟩:=H
 go_enter Try.func45,Try.ntmps45
 go_wp2_with (first|((with_reducible refine gate_callee (f:=78) rfl ?_);refine zgo 11 Try.func78 #[.slice A0 l0.length c0,.int .i64 a1,.slice A2 l2.length c2] ?_;(with_reducible refine (impl_isParallel.calls k _ _ l0 a1 _ _ l2 true _ ?side1 ?side2 ?side3 ?side4 A4.out).mono ?_);(case side1=>exact zC HR0.out);(case side2=>exact HC0.out);(case side3=>exact zC HR2.out);(case side4=>exact HC2.out);rintro e w7 ⟨rfl,hb⟩;refine ⟨_,rfl,?_⟩;replace HB:=zb1 hb;(try clear hb))|((with_reducible refine gate_callee (f:=90) rfl ?_);refine zgo 16 Try.func90 #[.slice A0 l0.length c0,.int .i64 a1,.slice A2 l2.length c2] ?_;(with_reducible refine (impl_lengthBound.calls k _ _ l0 a1 _ _ l2 t582 _ ?side1 ?side2 ?side3 ?side4 A6.out).mono ?_);(case side1=>exact zC (Kd.C_below HR0.out HB.out));(case side2=>exact HC0.out);(case side3=>exact zC (Kd.C_below HR2.out HB.out));(case side4=>exact HC2.out);rintro e w8 ⟨rfl,hb⟩;refine ⟨_,rfl,?_⟩;replace HB:=zb1 hb;(try clear hb)))
 go_ret2
 exact ⟨zz1,zb⟩

/-! ### laws_vLast: function 46 -/
mutual
def laws_vLast.l0:Nat→List (List (S116))→Int→Int→Option (Int)
 | 0,_,_,_=>none
 | k + 1,x0,x3,x4=>if x4<(x0.length:Int) then (laws_vLast.l1 k x0 x3 x4 0) else (some x3)
def laws_vLast.l1:Nat→List (List (S116))→Int→Int→Int→Option (Int)
 | 0,_,_,_,_=>none
 | k + 1,x0,x3,x4,x5=>if 0≤x4 then (if x4<(x0.length:Int) then (if x5<((rd_L7 x0 x4).length:Int) then (if 0≤x5 then (if ((rd_T116 (rd_L7 x0 x4) x5).f2)>x3 then (laws_vLast.l1 k x0 ((rd_T116 (rd_L7 x0 x4) x5).f2) x4 (wrap64 (x5 + 1))) else (laws_vLast.l1 k x0 x3 x4 (wrap64 (x5 + 1)))) else (none)) else (laws_vLast.l0 k x0 x3 (wrap64 (x4 + 1)))) else (none)) else (none)
end
def laws_vLast.f (k:Nat) (l0:List (List (S116))):Option (Int):=laws_vLast.l0 k l0 0 0
theorem laws_vLast.mono_l:∀ k,(∀ y0 y1 y2,LeO (laws_vLast.l0 k y0 y1 y2) (laws_vLast.l0 (k + 1) y0 y1 y2))∧(∀ y0 y1 y2 y3,LeO (laws_vLast.l1 k y0 y1 y2 y3) (laws_vLast.l1 (k + 1) y0 y1 y2 y3))
 | 0=>⟨fun _ _ _ r h=>by simp [laws_vLast.l0] at h,fun _ _ _ _ r h=>by simp [laws_vLast.l1] at h⟩
 | k + 1=>by
  obtain ⟨ih0,ih1⟩:=laws_vLast.mono_l k
  refine ⟨?_,?_⟩ <;> intros <;> first|unfold laws_vLast.l0|unfold laws_vLast.l1
  all_goals repeat' first|(with_reducible first|apply ih0|apply ih1|exact LeO.refl _|exact LeO.none _|refine LeO.ite ?_ ?_|refine LeO.bind ?_ (fun _=>?_))|apply ih0|apply ih1|exact LeO.none _|refine LeO.ite ?_ ?_|refine LeO.bind ?_ (fun _=>?_)
theorem laws_vLast.mono:∀ a0 k,LeO (laws_vLast.f k a0) (laws_vLast.f (k + 1) a0):=by
 intro a0 k
 obtain ⟨ih0,ih1⟩:=laws_vLast.mono_l k
 unfold laws_vLast.f
 repeat' first|(with_reducible first|apply ih0|apply ih1|exact LeO.refl _|exact LeO.none _|refine LeO.ite ?_ ?_|refine LeO.bind ?_ (fun _=>?_))|apply ih0|apply ih1|exact LeO.none _|refine LeO.ite ?_ ?_|refine LeO.bind ?_ (fun _=>?_)
set_option maxHeartbeats 8000000 in
set_option maxRecDepth 100000 in
theorem laws_vLast.calls (k:Nat) (A0:Option Addr) (c0:Nat) (l0:List (List (S116))) (r:Int) (w:World) (hr0:Kd.C (Kd.slice 116 k116) w A0 l0.length l0) (hc0:l0.length≤c0) (h:laws_vLast.f k l0=some r) :
  Calls Try.prog 46 #[.slice A0 l0.length c0] w fun e w'=>e=.returned (.int .i64 r)∧Drawn0 w w':=by
 have HR0:=Aside0.mk hr0
 have HC0:=Aside0.mk hc0
 clear hr0 hc0
 have H:(laws_vLast.l0 k l0 0 0)=some r:=h
 clear h
 have H':=Aside0.mk H
 clear H
 go_enter Try.func46,Try.ntmps46
 go_wp2
 go_loopg [3,4] k (fun kq v3 v4 w'=>∃ (x3_1:Int) (x4_1:Int),v3=.int .i64 x3_1∧v4=.int .i64 x4_1∧Aside0 (laws_vLast.l0 kq l0 x3_1 x4_1=some r)∧Aside0 (kq≤k)∧Drawn0 w w')
 case atStart=>exact ⟨(0),(0),zo,zo,H',⟨Nat.le_refl _⟩,zz6⟩
 case round=>
  clear H'
  obtain ⟨x3_1,x4_1,rfl,rfl,HA,HK1,⟨m1,rfl⟩⟩:=hrel
  cases gk with
  | zero=>exact absurd HA.out (by simp [laws_vLast.l0])
  | succ k1=>
   have H:=HA.out
   clear HA
   simp only [laws_vLast.l0] at H
   by_cases c2:x4_1<(l0.length:Int)
   rotate_left
   ·rw [if_neg c2] at H
    have c2b0:=decide_eq_false c2
    clear c2
    obtain rfl:=Option.some.inj H
    go_wp2
    go_ret
    exact ⟨zz7,zz6⟩
   rw [if_pos c2] at H
   have c2b0:=decide_eq_true c2
   clear c2
   have H':=Aside0.mk H
   clear H
   go_wp2
   go_loopg [3,5] k1 (fun kq v3 v5 w'=>∃ (x3_2:Int) (x5_2:Int),v3=.int .i64 x3_2∧v5=.int .i64 x5_2∧Aside0 (laws_vLast.l1 kq l0 x3_2 x4_1 x5_2=some r)∧Aside0 (kq≤k1)∧Drawn0 w w')
   case atStart=>exact ⟨(x3_1),(0),zo,zo,H',⟨Nat.le_refl _⟩,zz6⟩
   case round=>
    clear H'
    obtain ⟨x3_2,x5_2,rfl,rfl,HA,HK2,⟨m2,rfl⟩⟩:=hrel
    cases gk with
    | zero=>exact absurd HA.out (by simp [laws_vLast.l1])
    | succ k2=>
     have H:=HA.out
     clear HA
     simp only [laws_vLast.l1] at H
     by_cases c3:0≤x4_1
     rotate_left
     ·rw [if_neg c3] at H
      exact absurd H (by simp)
     rw [if_pos c3] at H
     have c3b0:=decide_eq_true c3
     clear c3
     by_cases c4:x4_1<(l0.length:Int)
     rotate_left
     ·rw [if_neg c4] at H
      exact absurd H (by simp)
     rw [if_pos c4] at H
     have c4b0:=decide_eq_true c4
     clear c4
     by_cases c5:x5_2<((rd_L7 l0 x4_1).length:Int)
     rotate_left
     ·rw [if_neg c5] at H
      have c5b0:=decide_eq_false c5
      clear c5
      have H':=Aside0.mk H
      clear H
      have p583:0≤(x4_1:Int):=of_decide_eq_true za
      have q583:x4_1<(l0.length:Int):=of_decide_eq_true za
      obtain ⟨ad583,A583_0,c583_0,e583,hx583_0,hl583_0,hi583_0⟩:=at_L7 HR0.out x4_1 p583 q583
      cases e583
      have HR583_0:=Aside0.mk hi583_0
      have HC583_0:=Aside0.mk hl583_0
      clear hi583_0 hl583_0
      replace p583:=eq_true p583
      replace q583:=eq_true q583
      go_wp2
      go_roundg k2
      case measure=>have:=HK1.out;have:=HK2.out;omega
      case rel=>exact ⟨(x3_2),(wrap64 (x4_1 + 1)),zo,zo,H',⟨zz9⟩,zz6⟩
     rw [if_pos c5] at H
     have c5b0:=decide_eq_true c5
     clear c5
     by_cases c6:0≤x5_2
     rotate_left
     ·rw [if_neg c6] at H
      exact absurd H (by simp)
     rw [if_pos c6] at H
     have c6b0:=decide_eq_true c6
     clear c6
     by_cases c7:((rd_T116 (rd_L7 l0 x4_1) x5_2).f2)>x3_2
     rotate_left
     ·rw [if_neg c7] at H
      have c7b0:=decide_eq_false c7
      clear c7
      have H':=Aside0.mk H
      clear H
      have p583:0≤(x4_1:Int):=of_decide_eq_true za
      have q583:x4_1<(l0.length:Int):=of_decide_eq_true za
      obtain ⟨ad583,A583_0,c583_0,e583,hx583_0,hl583_0,hi583_0⟩:=at_L7 HR0.out x4_1 p583 q583
      cases e583
      have HR583_0:=Aside0.mk hi583_0
      have HC583_0:=Aside0.mk hl583_0
      clear hi583_0 hl583_0
      replace p583:=eq_true p583
      replace q583:=eq_true q583
      have p584:0≤(x4_1:Int):=of_decide_eq_true za
      have q584:x4_1<(l0.length:Int):=of_decide_eq_true za
      obtain ⟨ad584,A584_0,c584_0,e584,hx584_0,hl584_0,hi584_0⟩:=at_L7 HR0.out x4_1 p584 q584
      obtain rfl:ad583=ad584:=(by injection e584)
      have HR584_0:=Aside0.mk hi584_0
      have HC584_0:=Aside0.mk hl584_0
      clear hi584_0 hl584_0
      replace p584:=eq_true p584
      replace q584:=eq_true q584
      have ea_:=Option.some.inj (hx583_0.symm.trans hx584_0)
      injection ea_ with ea_ en_ ec_
      subst ea_
      subst ec_
      clear en_
      have p585:0≤(x5_2:Int):=of_decide_eq_true za
      have q585:x5_2<((rd_L7 l0 x4_1).length:Int):=of_decide_eq_true za
      obtain ⟨ad585,e585,hx585_0,hx585_1,hx585_2⟩:=at_T116 HR584_0.out x5_2 p585 q585
      cases e585
      replace p585:=eq_true p585
      replace q585:=eq_true q585
      go_wp2
      go_roundg k2
      case measure=>have:=HK1.out;have:=HK2.out;omega
      case rel=>exact ⟨(x3_2),(wrap64 (x5_2 + 1)),zo,zo,H',⟨zz9⟩,zz6⟩
     rw [if_pos c7] at H
     have c7b0:=decide_eq_true c7
     clear c7
     have H':=Aside0.mk H
     clear H
     have p583:0≤(x4_1:Int):=of_decide_eq_true za
     have q583:x4_1<(l0.length:Int):=of_decide_eq_true za
     obtain ⟨ad583,A583_0,c583_0,e583,hx583_0,hl583_0,hi583_0⟩:=at_L7 HR0.out x4_1 p583 q583
     cases e583
     have HR583_0:=Aside0.mk hi583_0
     have HC583_0:=Aside0.mk hl583_0
     clear hi583_0 hl583_0
     replace p583:=eq_true p583
     replace q583:=eq_true q583
     have p584:0≤(x4_1:Int):=of_decide_eq_true za
     have q584:x4_1<(l0.length:Int):=of_decide_eq_true za
     obtain ⟨ad584,A584_0,c584_0,e584,hx584_0,hl584_0,hi584_0⟩:=at_L7 HR0.out x4_1 p584 q584
     obtain rfl:ad583=ad584:=(by injection e584)
     have HR584_0:=Aside0.mk hi584_0
     have HC584_0:=Aside0.mk hl584_0
     clear hi584_0 hl584_0
     replace p584:=eq_true p584
     replace q584:=eq_true q584
     have ea_:=Option.some.inj (hx583_0.symm.trans hx584_0)
     injection ea_ with ea_ en_ ec_
     subst ea_
     subst ec_
     clear en_
     have p585:0≤(x5_2:Int):=of_decide_eq_true za
     have q585:x5_2<((rd_L7 l0 x4_1).length:Int):=of_decide_eq_true za
     obtain ⟨ad585,e585,hx585_0,hx585_1,hx585_2⟩:=at_T116 HR584_0.out x5_2 p585 q585
     cases e585
     replace p585:=eq_true p585
     replace q585:=eq_true q585
     have p586:0≤(x4_1:Int):=of_decide_eq_true za
     have q586:x4_1<(l0.length:Int):=of_decide_eq_true za
     obtain ⟨ad586,A586_0,c586_0,e586,hx586_0,hl586_0,hi586_0⟩:=at_L7 HR0.out x4_1 p586 q586
     obtain rfl:ad583=ad586:=(by injection e586)
     have HR586_0:=Aside0.mk hi586_0
     have HC586_0:=Aside0.mk hl586_0
     clear hi586_0 hl586_0
     replace p586:=eq_true p586
     replace q586:=eq_true q586
     have ea_:=Option.some.inj (hx583_0.symm.trans hx586_0)
     injection ea_ with ea_ en_ ec_
     subst ea_
     subst ec_
     clear en_
     have p587:0≤(x5_2:Int):=of_decide_eq_true za
     have q587:x5_2<((rd_L7 l0 x4_1).length:Int):=of_decide_eq_true za
     obtain ⟨ad587,e587,hx587_0,hx587_1,hx587_2⟩:=at_T116 HR586_0.out x5_2 p587 q587
     cases e587
     replace p587:=eq_true p587
     replace q587:=eq_true q587
     go_wp2
     go_roundg k2
     case measure=>have:=HK1.out;have:=HK2.out;omega
     case rel=>exact ⟨((rd_T116 (rd_L7 l0 x4_1) x5_2).f2),(wrap64 (x5_2 + 1)),zo,zo,H',⟨zz9⟩,zz6⟩

/-! ### laws_FnShared: function 8 -/
mutual
def laws_FnShared.j0:Nat→List (S76)→Int→List (List (S116))→Bool→List (List (S116))→Bool→List (List (S116))→Bool→Option (Bool)
 | 0,_,_,_,_,_,_,_,_=>none
 | k + 1,x3,x4,x5,x6,x10,x11,x12,x72=>if x72=true then (some false) else (laws_FnShared.l0 k x3 x4 x5 x6 x10 x11 x12 0)
def laws_FnShared.l0:Nat→List (S76)→Int→List (List (S116))→Bool→List (List (S116))→Bool→List (List (S116))→Int→Option (Bool)
 | 0,_,_,_,_,_,_,_,_=>none
 | k + 1,x3,x4,x5,x6,x10,x11,x12,x14=>if x14<(x10.length:Int) then (if 0≤x14 then (if x14<(x12.length:Int) then ((laws_vSpans.f k (rd_L7 x10 x14) (rd_L7 x12 x14)).bind fun t610=>(if t610=true then (laws_FnShared.l0 k x3 x4 x5 x6 x10 x11 x12 (wrap64 (x14 + 1))) else (some false))) else (none)) else (none)) else (if x11=true then ((impl_LengthBound.f k x3 x4 (([]:List (S72)))).bind fun bt614=>((impl_IsShared.f k x3 x4 x10).bind fun bt616=>(if bt616.2=true then (if bt616.1=true then ((laws_vLast.f k x10).bind fun t618=>(if t618=bt614.1 then (if x6=true then ((laws_vLast.f k x5).bind fun t619=>(some (decide (t619≥bt614.1)))) else (some true)) else (some false))) else (some false)) else (some false)))) else (some true))
end
def laws_FnShared.f (k:Nat) (l0:List Int):Option (Bool):=(laws_vBig.f l0).bind fun t588=>(if t588=true then (some true) else ((spec_DrawIsShared.f k l0).bind fun bt589=>((impl_IsShared.f k bt589.1 bt589.2.1 bt589.2.2).bind fun bt596=>((spec_IsShared.f k bt589.1 bt589.2.1 bt589.2.2).bind fun bt598=>((impl_WrapAround.f k bt589.1 bt589.2.1).bind fun bt600=>((spec_WrapAround.f k bt589.1 bt589.2.1).bind fun bt604=>(if (bt596.1 != bt598.1)=true then (laws_FnShared.j0 k bt589.1 bt589.2.1 bt589.2.2 bt596.1 bt600.1 bt600.2 bt604.1 true) else (if (bt596.2 != bt598.2)=true then (laws_FnShared.j0 k bt589.1 bt589.2.1 bt589.2.2 bt596.1 bt600.1 bt600.2 bt604.1 true) else (if (bt600.2 != bt604.2)=true then (laws_FnShared.j0 k bt589.1 bt589.2.1 bt589.2.2 bt596.1 bt600.1 bt600.2 bt604.1 true) else (laws_FnShared.j0 k bt589.1 bt589.2.1 bt589.2.2 bt596.1 bt600.1 bt600.2 bt604.1 ((bt600.1.length:Int) != (bt604.1.length:Int))))))))))))
theorem laws_FnShared.mono_l:∀ k,(∀ y0 y1 y2 y3 y4 y5 y6 y7,LeO (laws_FnShared.j0 k y0 y1 y2 y3 y4 y5 y6 y7) (laws_FnShared.j0 (k + 1) y0 y1 y2 y3 y4 y5 y6 y7))∧(∀ y0 y1 y2 y3 y4 y5 y6 y7,LeO (laws_FnShared.l0 k y0 y1 y2 y3 y4 y5 y6 y7) (laws_FnShared.l0 (k + 1) y0 y1 y2 y3 y4 y5 y6 y7))
 | 0=>⟨fun _ _ _ _ _ _ _ _ r h=>by simp [laws_FnShared.j0] at h,fun _ _ _ _ _ _ _ _ r h=>by simp [laws_FnShared.l0] at h⟩
 | k + 1=>by
  obtain ⟨ih0,ih1⟩:=laws_FnShared.mono_l k
  refine ⟨?_,?_⟩ <;> intros <;> first|unfold laws_FnShared.j0|unfold laws_FnShared.l0
  all_goals repeat' first|(with_reducible first|apply ih0|apply ih1|exact impl_IsShared.mono _ _ _ _|exact impl_LengthBound.mono _ _ _ _|exact impl_WrapAround.mono _ _ _|exact laws_vLast.mono _ _|exact laws_vSpans.mono _ _ _|exact spec_DrawIsShared.mono _ _|exact spec_IsShared.mono _ _ _ _|exact spec_WrapAround.mono _ _ _|exact LeO.refl _|exact LeO.none _|refine LeO.ite ?_ ?_|refine LeO.bind ?_ (fun _=>?_))|apply ih0|apply ih1|exact impl_IsShared.mono _ _ _ _|exact impl_LengthBound.mono _ _ _ _|exact impl_WrapAround.mono _ _ _|exact laws_vLast.mono _ _|exact laws_vSpans.mono _ _ _|exact spec_DrawIsShared.mono _ _|exact spec_IsShared.mono _ _ _ _|exact spec_WrapAround.mono _ _ _|exact LeO.none _|refine LeO.ite ?_ ?_|refine LeO.bind ?_ (fun _=>?_)
theorem laws_FnShared.mono:∀ a0 k,LeO (laws_FnShared.f k a0) (laws_FnShared.f (k + 1) a0):=by
 intro a0 k
 obtain ⟨ih0,ih1⟩:=laws_FnShared.mono_l k
 unfold laws_FnShared.f
 repeat' first|(with_reducible first|apply ih0|apply ih1|exact impl_IsShared.mono _ _ _ _|exact impl_LengthBound.mono _ _ _ _|exact impl_WrapAround.mono _ _ _|exact laws_vLast.mono _ _|exact laws_vSpans.mono _ _ _|exact spec_DrawIsShared.mono _ _|exact spec_IsShared.mono _ _ _ _|exact spec_WrapAround.mono _ _ _|exact LeO.refl _|exact LeO.none _|refine LeO.ite ?_ ?_|refine LeO.bind ?_ (fun _=>?_))|apply ih0|apply ih1|exact impl_IsShared.mono _ _ _ _|exact impl_LengthBound.mono _ _ _ _|exact impl_WrapAround.mono _ _ _|exact laws_vLast.mono _ _|exact laws_vSpans.mono _ _ _|exact spec_DrawIsShared.mono _ _|exact spec_IsShared.mono _ _ _ _|exact spec_WrapAround.mono _ _ _|exact LeO.none _|refine LeO.ite ?_ ?_|refine LeO.bind ?_ (fun _=>?_)
set_option maxHeartbeats 8000000 in
set_option maxRecDepth 100000 in
theorem laws_FnShared.calls (k:Nat) (A0:Option Addr) (c0:Nat) (l0:List Int) (r:Bool) (w:World) (hr0:Kd.C (Kd.int .u8) w A0 l0.length l0) (hc0:l0.length≤c0) (h:laws_FnShared.f k l0=some r) :
  Calls Try.prog 8 #[.slice A0 l0.length c0] w fun e w'=>e=.returned (.bool r)∧Below w.heap.size w w':=by
 have HR0:=Aside0.mk hr0
 have HC0:=Aside0.mk hc0
 clear hr0 hc0
 have HB:=Aside0.mk (Below.refl w.heap.size w)
 have H:((laws_vBig.f l0).bind fun t588=>(if t588=true then (some true) else ((spec_DrawIsShared.f k l0).bind fun bt589=>((impl_IsShared.f k bt589.1 bt589.2.1 bt589.2.2).bind fun bt596=>((spec_IsShared.f k bt589.1 bt589.2.1 bt589.2.2).bind fun bt598=>((impl_WrapAround.f k bt589.1 bt589.2.1).bind fun bt600=>((spec_WrapAround.f k bt589.1 bt589.2.1).bind fun bt604=>(if (bt596.1 != bt598.1)=true then (laws_FnShared.j0 k bt589.1 bt589.2.1 bt589.2.2 bt596.1 bt600.1 bt600.2 bt604.1 true) else (if (bt596.2 != bt598.2)=true then (laws_FnShared.j0 k bt589.1 bt589.2.1 bt589.2.2 bt596.1 bt600.1 bt600.2 bt604.1 true) else (if (bt600.2 != bt604.2)=true then (laws_FnShared.j0 k bt589.1 bt589.2.1 bt589.2.2 bt596.1 bt600.1 bt600.2 bt604.1 true) else (laws_FnShared.j0 k bt589.1 bt589.2.1 bt589.2.2 bt596.1 bt600.1 bt600.2 bt604.1 ((bt600.1.length:Int) != (bt604.1.length:Int)))))))))))))=some r:=h
 clear h
 replace H:=Option.bind_eq_some_iff.mp H
 obtain ⟨t588,A20,H⟩:=H
 try dsimp only at H
 have A2:=Aside0.mk A20
 clear A20
 by_cases c3:t588=true
 ·subst c3
  rw [if_pos rfl] at H
  obtain rfl:=Option.some.inj H
  go_enter Try.func8,Try.ntmps8
  go_wp2_with (first|(go_at_call 38;(with_reducible refine (laws_vBig.calls _ _ l0 true _ ?side1 ?side2 A2.out).mono ?_);(case side1=>exact zC HR0.out);(case side2=>exact HC0.out);rintro e w' ⟨rfl,⟨nd,rfl⟩⟩;(try first|exact ⟨rfl,_,World.drewN_drewN _ _ _⟩|exact ⟨rfl,_,Eq.trans (World.drewN_drewN _ _ _) (congrArg (World.drewN _) (Nat.add_assoc _ _ _))⟩)))
  repeat (go_quiet (first|(go_at_call 38;(with_reducible refine (laws_vBig.calls _ _ l0 true _ ?side1 ?side2 A2.out).mono ?_);(case side1=>exact zC HR0.out);(case side2=>exact HC0.out);rintro e w' ⟨rfl,⟨nd,rfl⟩⟩;(try first|exact ⟨rfl,_,World.drewN_drewN _ _ _⟩|exact ⟨rfl,_,Eq.trans (World.drewN_drewN _ _ _) (congrArg (World.drewN _) (Nat.add_assoc _ _ _))⟩)));try go_wp2_with (first|(go_at_call 38;(with_reducible refine (laws_vBig.calls _ _ l0 true _ ?side1 ?side2 A2.out).mono ?_);(case side1=>exact zC HR0.out);(case side2=>exact HC0.out);rintro e w' ⟨rfl,⟨nd,rfl⟩⟩;(try first|exact ⟨rfl,_,World.drewN_drewN _ _ _⟩|exact ⟨rfl,_,Eq.trans (World.drewN_drewN _ _ _) (congrArg (World.drewN _) (Nat.add_assoc _ _ _))⟩))))
  go_ret
  exact ⟨zz1,zb⟩
 replace c3:=Bool.eq_false_iff.mpr c3
 subst c3
 rw [if_neg (show ¬ (false=true) by decide)] at H
 replace H:=Option.bind_eq_some_iff.mp H
 obtain ⟨⟨t589,t590,t591⟩,A40,H⟩:=H
 try dsimp only at H
 have A4:=Aside0.mk A40
 clear A40
 replace H:=Option.bind_eq_some_iff.mp H
 obtain ⟨⟨t596,t597⟩,A50,H⟩:=H
 try dsimp only at H
 have A5:=Aside0.mk A50
 clear A50
 replace H:=Option.bind_eq_some_iff.mp H
 obtain ⟨⟨t598,t599⟩,A60,H⟩:=H
 try dsimp only at H
 have A6:=Aside0.mk A60
 clear A60
 replace H:=Option.bind_eq_some_iff.mp H
 obtain ⟨⟨t600,t601⟩,A70,H⟩:=H
 try dsimp only at H
 have A7:=Aside0.mk A70
 clear A70
 replace H:=Option.bind_eq_some_iff.mp H
 obtain ⟨⟨t604,t605⟩,A80,H⟩:=H
 try dsimp only at H
 have A8:=Aside0.mk A80
 clear A80
 have HC9:=Aside0.mk H
 clear H
 go_enter Try.func8,Try.ntmps8
 go_upto_region 8 with (first|(go_at_call 38;(with_reducible refine (laws_vBig.calls _ _ l0 false _ ?side1 ?side2 A2.out).mono ?_);(case side1=>exact zC HR0.out);(case side2=>exact HC0.out);rintro e w' ⟨rfl,⟨nd,rfl⟩⟩;(try first|exact ⟨rfl,_,World.drewN_drewN _ _ _⟩|exact ⟨rfl,_,Eq.trans (World.drewN_drewN _ _ _) (congrArg (World.drewN _) (Nat.add_assoc _ _ _))⟩))|(go_at_call 39;(with_reducible refine (spec_DrawIsShared.calls k _ _ l0 t589 t590 t591 _ ?side1 ?side2 A4.out).mono ?_);(case side1=>exact zC HR0.out);(case side2=>exact HC0.out);rintro e w10 ⟨v592,v594,rfl,ho0,ho1,hb⟩;have HO593:=Aside0.mk (Kd.R_lower ho0 (below_size zb));have HO595:=Aside0.mk (Kd.S_lower ho1 (below_size zb));replace HB:=zb1 hb;(try clear hb);(try clear ho0);(try clear ho1);obtain ⟨Ao11,co11,eo11⟩:=Kd.R_slice HO593.out;subst eo11;obtain ⟨Ao12,co12,eo12⟩:=Kd.S_slice HO595.out;subst eo12)|(go_at_call 40;(with_reducible refine (impl_IsShared.calls k _ _ t589 t590 _ _ t591 t596 t597 _ ?side1 ?side2 ?side3 ?side4 A5.out).mono ?_);(case side1=>exact zC ((Kd.R_reads' HO593.out).2.2));(case side2=>exact (Kd.R_reads' HO593.out).2.1);(case side3=>exact zC ((Kd.S_reads' HO595.out).2.2));(case side4=>exact (Kd.S_reads' HO595.out).2.1);rintro e w13 ⟨rfl,hb⟩;replace HO593:=zRb HO593 hb;replace HO595:=zSb HO595 hb;replace HB:=zb1 hb;(try clear hb))|(go_at_call 41;(with_reducible refine (spec_IsShared.calls k _ _ t589 t590 _ _ t591 t598 t599 _ ?side1 ?side2 ?side3 ?side4 A6.out).mono ?_);(case side1=>exact zC ((Kd.R_reads' HO593.out).2.2));(case side2=>exact (Kd.R_reads' HO593.out).2.1);(case side3=>exact zC ((Kd.S_reads' HO595.out).2.2));(case side4=>exact (Kd.S_reads' HO595.out).2.1);rintro e w14 ⟨rfl,hb⟩;replace HO593:=zRb HO593 hb;replace HO595:=zSb HO595 hb;replace HB:=zb1 hb;(try clear hb))|(go_at_call 42;(with_reducible refine (impl_WrapAround.calls k _ _ t589 t590 t600 t601 _ ?side1 ?side2 A7.out).mono ?_);(case side1=>exact zC ((Kd.R_reads' HO593.out).2.2));(case side2=>exact (Kd.R_reads' HO593.out).2.1);rintro e w15 ⟨v602,rfl,ho0,hb⟩;have n0_:=zRb HO593 hb;have n1_:=Aside0.mk (Kd.S_elder' (zS HO595.out) (Kd.S_base ho0) hb);have n2_:=Aside0.mk (Kd.S_lower (Kd.S_new' ho0 (Kd.S_lt (zS HO595.out))) (below_size zb));have n3_:=zb1 hb;clear HO593;clear HO595;clear HB;have HO593:=n0_;have HO595:=n1_;have HO603:=n2_;have HB:=n3_;clear n0_ n1_ n2_ n3_;(try clear hb);(try clear ho0))|(go_at_call 43;(with_reducible refine (spec_WrapAround.calls k _ _ t589 t590 t604 t605 _ ?side1 ?side2 A8.out).mono ?_);(case side1=>exact zC ((Kd.R_reads' HO593.out).2.2));(case side2=>exact (Kd.R_reads' HO593.out).2.1);rintro e w16 ⟨v606,rfl,ho0,hb⟩;have n0_:=zRb HO593 hb;have n1_:=Aside0.mk (Kd.S_elder' (zS HO595.out) (Kd.S_base ho0) hb);have n2_:=Aside0.mk (Kd.S_elder' (zS HO603.out) (Kd.S_base ho0) hb);have n3_:=Aside0.mk (Kd.S_lower (Kd.S_new' (Kd.S_new' ho0 (Kd.S_lt (zS HO595.out))) (Kd.S_lt (zS HO603.out))) (below_size zb));have n4_:=zb1 hb;clear HO593;clear HO595;clear HO603;clear HB;have HO593:=n0_;have HO595:=n1_;have HO603:=n2_;have HO607:=n3_;have HB:=n4_;clear n0_ n1_ n2_ n3_ n4_;(try clear hb);(try clear ho0)))
 repeat (go_quiet (first|(go_at_call 38;(with_reducible refine (laws_vBig.calls _ _ l0 false _ ?side1 ?side2 A2.out).mono ?_);(case side1=>exact zC HR0.out);(case side2=>exact HC0.out);rintro e w' ⟨rfl,⟨nd,rfl⟩⟩;(try first|exact ⟨rfl,_,World.drewN_drewN _ _ _⟩|exact ⟨rfl,_,Eq.trans (World.drewN_drewN _ _ _) (congrArg (World.drewN _) (Nat.add_assoc _ _ _))⟩))|(go_at_call 39;(with_reducible refine (spec_DrawIsShared.calls k _ _ l0 t589 t590 t591 _ ?side1 ?side2 A4.out).mono ?_);(case side1=>exact zC HR0.out);(case side2=>exact HC0.out);rintro e w10 ⟨v592,v594,rfl,ho0,ho1,hb⟩;have HO593:=Aside0.mk (Kd.R_lower ho0 (below_size zb));have HO595:=Aside0.mk (Kd.S_lower ho1 (below_size zb));replace HB:=zb1 hb;(try clear hb);(try clear ho0);(try clear ho1);obtain ⟨Ao11,co11,eo11⟩:=Kd.R_slice HO593.out;subst eo11;obtain ⟨Ao12,co12,eo12⟩:=Kd.S_slice HO595.out;subst eo12)|(go_at_call 40;(with_reducible refine (impl_IsShared.calls k _ _ t589 t590 _ _ t591 t596 t597 _ ?side1 ?side2 ?side3 ?side4 A5.out).mono ?_);(case side1=>exact zC ((Kd.R_reads' HO593.out).2.2));(case side2=>exact (Kd.R_reads' HO593.out).2.1);(case side3=>exact zC ((Kd.S_reads' HO595.out).2.2));(case side4=>exact (Kd.S_reads' HO595.out).2.1);rintro e w13 ⟨rfl,hb⟩;replace HO593:=zRb HO593 hb;replace HO595:=zSb HO595 hb;replace HB:=zb1 hb;(try clear hb))|(go_at_call 41;(with_reducible refine (spec_IsShared.calls k _ _ t589 t590 _ _ t591 t598 t599 _ ?side1 ?side2 ?side3 ?side4 A6.out).mono ?_);(case side1=>exact zC ((Kd.R_reads' HO593.out).2.2));(case side2=>exact (Kd.R_reads' HO593.out).2.1);(case side3=>exact zC ((Kd.S_reads' HO595.out).2.2));(case side4=>exact (Kd.S_reads' HO595.out).2.1);rintro e w14 ⟨rfl,hb⟩;replace HO593:=zRb HO593 hb;replace HO595:=zSb HO595 hb;replace HB:=zb1 hb;(try clear hb))|(go_at_call 42;(with_reducible refine (impl_WrapAround.calls k _ _ t589 t590 t600 t601 _ ?side1 ?side2 A7.out).mono ?_);(case side1=>exact zC ((Kd.R_reads' HO593.out).2.2));(case side2=>exact (Kd.R_reads' HO593.out).2.1);rintro e w15 ⟨v602,rfl,ho0,hb⟩;have n0_:=zRb HO593 hb;have n1_:=Aside0.mk (Kd.S_elder' (zS HO595.out) (Kd.S_base ho0) hb);have n2_:=Aside0.mk (Kd.S_lower (Kd.S_new' ho0 (Kd.S_lt (zS HO595.out))) (below_size zb));have n3_:=zb1 hb;clear HO593;clear HO595;clear HB;have HO593:=n0_;have HO595:=n1_;have HO603:=n2_;have HB:=n3_;clear n0_ n1_ n2_ n3_;(try clear hb);(try clear ho0))|(go_at_call 43;(with_reducible refine (spec_WrapAround.calls k _ _ t589 t590 t604 t605 _ ?side1 ?side2 A8.out).mono ?_);(case side1=>exact zC ((Kd.R_reads' HO593.out).2.2));(case side2=>exact (Kd.R_reads' HO593.out).2.1);rintro e w16 ⟨v606,rfl,ho0,hb⟩;have n0_:=zRb HO593 hb;have n1_:=Aside0.mk (Kd.S_elder' (zS HO595.out) (Kd.S_base ho0) hb);have n2_:=Aside0.mk (Kd.S_elder' (zS HO603.out) (Kd.S_base ho0) hb);have n3_:=Aside0.mk (Kd.S_lower (Kd.S_new' (Kd.S_new' ho0 (Kd.S_lt (zS HO595.out))) (Kd.S_lt (zS HO603.out))) (below_size zb));have n4_:=zb1 hb;clear HO593;clear HO595;clear HO603;clear HB;have HO593:=n0_;have HO595:=n1_;have HO603:=n2_;have HO607:=n3_;have HB:=n4_;clear n0_ n1_ n2_ n3_ n4_;(try clear hb);(try clear ho0)));go_upto_region 8 with (first|(go_at_call 38;(with_reducible refine (laws_vBig.calls _ _ l0 false _ ?side1 ?side2 A2.out).mono ?_);(case side1=>exact zC HR0.out);(case side2=>exact HC0.out);rintro e w' ⟨rfl,⟨nd,rfl⟩⟩;(try first|exact ⟨rfl,_,World.drewN_drewN _ _ _⟩|exact ⟨rfl,_,Eq.trans (World.drewN_drewN _ _ _) (congrArg (World.drewN _) (Nat.add_assoc _ _ _))⟩))|(go_at_call 39;(with_reducible refine (spec_DrawIsShared.calls k _ _ l0 t589 t590 t591 _ ?side1 ?side2 A4.out).mono ?_);(case side1=>exact zC HR0.out);(case side2=>exact HC0.out);rintro e w10 ⟨v592,v594,rfl,ho0,ho1,hb⟩;have HO593:=Aside0.mk (Kd.R_lower ho0 (below_size zb));have HO595:=Aside0.mk (Kd.S_lower ho1 (below_size zb));replace HB:=zb1 hb;(try clear hb);(try clear ho0);(try clear ho1);obtain ⟨Ao11,co11,eo11⟩:=Kd.R_slice HO593.out;subst eo11;obtain ⟨Ao12,co12,eo12⟩:=Kd.S_slice HO595.out;subst eo12)|(go_at_call 40;(with_reducible refine (impl_IsShared.calls k _ _ t589 t590 _ _ t591 t596 t597 _ ?side1 ?side2 ?side3 ?side4 A5.out).mono ?_);(case side1=>exact zC ((Kd.R_reads' HO593.out).2.2));(case side2=>exact (Kd.R_reads' HO593.out).2.1);(case side3=>exact zC ((Kd.S_reads' HO595.out).2.2));(case side4=>exact (Kd.S_reads' HO595.out).2.1);rintro e w13 ⟨rfl,hb⟩;replace HO593:=zRb HO593 hb;replace HO595:=zSb HO595 hb;replace HB:=zb1 hb;(try clear hb))|(go_at_call 41;(with_reducible refine (spec_IsShared.calls k _ _ t589 t590 _ _ t591 t598 t599 _ ?side1 ?side2 ?side3 ?side4 A6.out).mono ?_);(case side1=>exact zC ((Kd.R_reads' HO593.out).2.2));(case side2=>exact (Kd.R_reads' HO593.out).2.1);(case side3=>exact zC ((Kd.S_reads' HO595.out).2.2));(case side4=>exact (Kd.S_reads' HO595.out).2.1);rintro e w14 ⟨rfl,hb⟩;replace HO593:=zRb HO593 hb;replace HO595:=zSb HO595 hb;replace HB:=zb1 hb;(try clear hb))|(go_at_call 42;(with_reducible refine (impl_WrapAround.calls k _ _ t589 t590 t600 t601 _ ?side1 ?side2 A7.out).mono ?_);(case side1=>exact zC ((Kd.R_reads' HO593.out).2.2));(case side2=>exact (Kd.R_reads' HO593.out).2.1);rintro e w15 ⟨v602,rfl,ho0,hb⟩;have n0_:=zRb HO593 hb;have n1_:=Aside0.mk (Kd.S_elder' (zS HO595.out) (Kd.S_base ho0) hb);have n2_:=Aside0.mk (Kd.S_lower (Kd.S_new' ho0 (Kd.S_lt (zS HO595.out))) (below_size zb));have n3_:=zb1 hb;clear HO593;clear HO595;clear HB;have HO593:=n0_;have HO595:=n1_;have HO603:=n2_;have HB:=n3_;clear n0_ n1_ n2_ n3_;(try clear hb);(try clear ho0))|(go_at_call 43;(with_reducible refine (spec_WrapAround.calls k _ _ t589 t590 t604 t605 _ ?side1 ?side2 A8.out).mono ?_);(case side1=>exact zC ((Kd.R_reads' HO593.out).2.2));(case side2=>exact (Kd.R_reads' HO593.out).2.1);rintro e w16 ⟨v606,rfl,ho0,hb⟩;have n0_:=zRb HO593 hb;have n1_:=Aside0.mk (Kd.S_elder' (zS HO595.out) (Kd.S_base ho0) hb);have n2_:=Aside0.mk (Kd.S_elder' (zS HO603.out) (Kd.S_base ho0) hb);have n3_:=Aside0.mk (Kd.S_lower (Kd.S_new' (Kd.S_new' ho0 (Kd.S_lt (zS HO595.out))) (Kd.S_lt (zS HO603.out))) (below_size zb));have n4_:=zb1 hb;clear HO593;clear HO595;clear HO603;clear HB;have HO593:=n0_;have HO595:=n1_;have HO603:=n2_;have HO607:=n3_;have HB:=n4_;clear n0_ n1_ n2_ n3_ n4_;(try clear hb);(try clear ho0))))
 (try simp only [Act.put,List.setIfInBounds_toArray,List.set_cons_zero,List.set_cons_succ])
 go_cut [72] (fun v72 wc=>∃ (kq:Nat) (x72_8:Bool),v72=.bool x72_8∧Aside0 (laws_FnShared.j0 kq t589 t590 t591 t596 t600 t601 t604 x72_8=some r)∧Aside0 (kq≤k)∧Aside0 (Kd.R k76 76 wc w.heap.size (fun _=>True) (.slice Ao11 t589.length co11) t589)∧Aside0 (Kd.S (Kd.slice 116 k116) 65 wc w.heap.size (fun k_=>some k_≠(v602:Value).ownBlock∧some k_≠(v606:Value).ownBlock) (.slice Ao12 t591.length co12) t591)∧Aside0 (Kd.S (Kd.slice 116 k116) 65 wc w.heap.size (fun k_=>some k_≠((.slice Ao12 t591.length co12):Value).ownBlock∧some k_≠(v606:Value).ownBlock) v602 t600)∧Aside0 (Kd.S (Kd.slice 116 k116) 65 wc w.heap.size (fun k_=>some k_≠((.slice Ao12 t591.length co12):Value).ownBlock∧some k_≠(v602:Value).ownBlock) v606 t604)∧Aside0 (Below w.heap.size w wc))
 case first=>
  have H:=HC9.out
  clear HC9
  by_cases c17:(t596 != t598)=true
  ·rw [if_pos c17] at H
   have c17b0:(t596 != t598)=true:=c17
   (try (have c17b1:decide (t596=t598)=false:=by simpa using c17))
   (try (have c17b2:(t596 == t598)=false:=by simpa using c17))
   (try (have c17b3:¬ (t596=t598):=by simpa using c17))
   clear c17
   (first|rw [c17b0]|(simp only [i64_w,i32_w];rw [c17b0])|skip)
   have H':=Aside0.mk H
   clear H
   go_wp2
   repeat (go_quiet (fail);try go_wp2)
   go_meet
   case rel=>exact ⟨_,(true),zo,H',⟨zz29⟩,⟨zR HO593.out⟩,⟨zS (Kd.S_mono HO595.out (fun _ hk=>⟨hk.1.2,hk.2⟩))⟩,⟨zS (Kd.S_mono HO603.out (fun _ hk=>⟨hk.1.2,hk.2⟩))⟩,⟨zS (Kd.S_mono HO607.out (fun _ hk=>⟨hk.1.2,hk.2⟩))⟩,⟨zb⟩⟩
  rw [if_neg c17] at H
  have c17b0:(t596 != t598)=false:=by simpa using c17
  (try (have c17b1:decide (t596=t598)=true:=by simpa using c17))
  (try (have c17b2:(t596 == t598)=true:=by simpa using c17))
  clear c17
  (first|rw [c17b0]|(simp only [i64_w,i32_w];rw [c17b0])|skip)
  by_cases c18:(t597 != t599)=true
  ·rw [if_pos c18] at H
   have c18b0:(t597 != t599)=true:=c18
   (try (have c18b1:decide (t597=t599)=false:=by simpa using c18))
   (try (have c18b2:(t597 == t599)=false:=by simpa using c18))
   (try (have c18b3:¬ (t597=t599):=by simpa using c18))
   clear c18
   have H':=Aside0.mk H
   clear H
   go_wp2
   repeat (go_quiet (fail);try go_wp2)
   go_meet
   case rel=>exact ⟨_,(true),zo,H',⟨zz29⟩,⟨zR HO593.out⟩,⟨zS (Kd.S_mono HO595.out (fun _ hk=>⟨hk.1.2,hk.2⟩))⟩,⟨zS (Kd.S_mono HO603.out (fun _ hk=>⟨hk.1.2,hk.2⟩))⟩,⟨zS (Kd.S_mono HO607.out (fun _ hk=>⟨hk.1.2,hk.2⟩))⟩,⟨zb⟩⟩
  rw [if_neg c18] at H
  have c18b0:(t597 != t599)=false:=by simpa using c18
  (try (have c18b1:decide (t597=t599)=true:=by simpa using c18))
  (try (have c18b2:(t597 == t599)=true:=by simpa using c18))
  clear c18
  by_cases c19:(t601 != t605)=true
  ·rw [if_pos c19] at H
   have c19b0:(t601 != t605)=true:=c19
   (try (have c19b1:decide (t601=t605)=false:=by simpa using c19))
   (try (have c19b2:(t601 == t605)=false:=by simpa using c19))
   (try (have c19b3:¬ (t601=t605):=by simpa using c19))
   clear c19
   have H':=Aside0.mk H
   clear H
   go_wp2
   repeat (go_quiet (fail);try go_wp2)
   go_meet
   case rel=>exact ⟨_,(true),zo,H',⟨zz29⟩,⟨zR HO593.out⟩,⟨zS (Kd.S_mono HO595.out (fun _ hk=>⟨hk.1.2,hk.2⟩))⟩,⟨zS (Kd.S_mono HO603.out (fun _ hk=>⟨hk.1.2,hk.2⟩))⟩,⟨zS (Kd.S_mono HO607.out (fun _ hk=>⟨hk.1.2,hk.2⟩))⟩,⟨zb⟩⟩
  rw [if_neg c19] at H
  have c19b0:(t601 != t605)=false:=by simpa using c19
  (try (have c19b1:decide (t601=t605)=true:=by simpa using c19))
  (try (have c19b2:(t601 == t605)=true:=by simpa using c19))
  clear c19
  have H':=Aside0.mk H
  clear H
  obtain ⟨Ao20,co20,eo20⟩:=Kd.S_slice HO603.out
  subst eo20
  obtain ⟨Ao21,co21,eo21⟩:=Kd.S_slice HO607.out
  subst eo21
  go_wp2
  repeat (go_quiet (fail);try go_wp2)
  go_meet
  case rel=>exact ⟨_,(((t600.length:Int) != (t604.length:Int))),zo,H',⟨zz29⟩,⟨zR HO593.out⟩,⟨zS (Kd.S_mono HO595.out (fun _ hk=>⟨hk.1.2,hk.2⟩))⟩,⟨zS (Kd.S_mono HO603.out (fun _ hk=>⟨hk.1.2,hk.2⟩))⟩,⟨zS (Kd.S_mono HO607.out (fun _ hk=>⟨hk.1.2,hk.2⟩))⟩,⟨zb⟩⟩
 case rest=>
  clear HC9
  obtain ⟨kq,x72_8,rfl,HA,HJ8,HO_3,HO_5,HO_10,HO_12,HB⟩:=hcut
  cases kq with
  | zero=>exact absurd HA.out (by simp [laws_FnShared.j0])
  | succ kj8=>
   have H:=HA.out
   clear HA
   simp only [laws_FnShared.j0] at H
   by_cases c22:x72_8=true
   ·subst c22
    rw [if_pos rfl] at H
    obtain rfl:=Option.some.inj H
    go_wp2
    repeat (go_quiet (fail);try go_wp2)
    go_ret
    exact ⟨zz1,zb⟩
   replace c22:=Bool.eq_false_iff.mpr c22
   subst c22
   rw [if_neg (show ¬ (false=true) by decide)] at H
   have H':=Aside0.mk H
   clear H
   go_wp2
   repeat (go_quiet (fail);try go_wp2)
   go_loopg [14] kj8 (fun kq v14 w'=>∃ (x14_2:Int),v14=.int .i64 x14_2∧Aside0 (laws_FnShared.l0 kq t589 t590 t591 t596 t600 t601 t604 x14_2=some r)∧Aside0 (kq≤kj8)∧Aside0 (Kd.R k76 76 w' w.heap.size (fun _=>True) (.slice Ao11 t589.length co11) t589)∧Aside0 (Kd.S (Kd.slice 116 k116) 65 w' w.heap.size (fun k_=>some k_≠(v602:Value).ownBlock∧some k_≠(v606:Value).ownBlock) (.slice Ao12 t591.length co12) t591)∧Aside0 (Kd.S (Kd.slice 116 k116) 65 w' w.heap.size (fun k_=>some k_≠((.slice Ao12 t591.length co12):Value).ownBlock∧some k_≠(v606:Value).ownBlock) v602 t600)∧Aside0 (Kd.S (Kd.slice 116 k116) 65 w' w.heap.size (fun k_=>some k_≠((.slice Ao12 t591.length co12):Value).ownBlock∧some k_≠(v602:Value).ownBlock) v606 t604)∧Aside0 (Below w.heap.size w w'))
   case atStart=>exact ⟨(0),zo,H',⟨Nat.le_refl _⟩,⟨zR HO_3.out⟩,⟨zS HO_5.out⟩,⟨zS HO_10.out⟩,⟨zS HO_12.out⟩,⟨zb⟩⟩
   case round=>
    clear H'
    obtain ⟨x14_2,rfl,HA,HK2,HO_3,HO_5,HO_10,HO_12,HB⟩:=hrel
    cases gk with
    | zero=>exact absurd HA.out (by simp [laws_FnShared.l0])
    | succ k2=>
     have H:=HA.out
     clear HA
     simp only [laws_FnShared.l0] at H
     by_cases c23:x14_2<(t600.length:Int)
     ·rw [if_pos c23] at H
      have c23b0:=decide_eq_true c23
      clear c23
      by_cases c24:0≤x14_2
      rotate_left
      ·rw [if_neg c24] at H
       exact absurd H (by simp)
      rw [if_pos c24] at H
      have c24b0:=decide_eq_true c24
      clear c24
      by_cases c25:x14_2<(t604.length:Int)
      rotate_left
      ·rw [if_neg c25] at H
       exact absurd H (by simp)
      rw [if_pos c25] at H
      have c25b0:=decide_eq_true c25
      clear c25
      replace H:=Option.bind_eq_some_iff.mp H
      obtain ⟨t610,A260,H⟩:=H
      try dsimp only at H
      have A26:=Aside0.mk A260
      clear A260
      by_cases c27:t610=true
      rotate_left
      ·replace c27:=Bool.eq_false_iff.mpr c27
       subst c27
       rw [if_neg (show ¬ (false=true) by decide)] at H
       obtain rfl:=Option.some.inj H
       obtain ⟨Ao30,co30,eo30⟩:=Kd.S_slice HO_10.out
       subst eo30
       have p608:0≤(x14_2:Int):=of_decide_eq_true za
       have q608:x14_2<(t600.length:Int):=of_decide_eq_true za
       obtain ⟨ad608,A608_0,c608_0,e608,hx608_0,hl608_0,hi608_0⟩:=at_L7 (Kd.S_reads' HO_10.out).2.2 x14_2 p608 q608
       cases e608
       obtain ⟨ce608,hce608,hMe608,hcc608⟩:=Kd.S_get HO_10.out [] x14_2 p608 (by first|exact q608|exact of_decide_eq_true za|(have e_:=(Kd.S_reads' HO_10.out).1;omega))
       obtain ⟨ve608_0,rfl,ge608_0⟩:=hMe608
       have hv608_0:=hcc608 0 _ rfl
       rw [Nat.add_zero,show ((Kd.slice 116 k116)).sz=1 from rfl,Nat.mul_one] at hv608_0
       replace hv608_0:=Option.some.inj (hv608_0.symm.trans hx608_0)
       rw [hv608_0] at ge608_0
       have HL608_0:=Aside0.mk (show Kd.R k116 116 _ _ _ _ (rd_L7 t600 x14_2) from ge608_0)
       clear hv608_0 ge608_0
       clear hcc608 hce608
       have HR608_0:=Aside0.mk hi608_0
       have HC608_0:=Aside0.mk hl608_0
       clear hi608_0 hl608_0
       replace p608:=eq_true p608
       replace q608:=eq_true q608
       obtain ⟨Ao31,co31,eo31⟩:=Kd.S_slice HO_12.out
       subst eo31
       have p609:0≤(x14_2:Int):=of_decide_eq_true za
       have q609:x14_2<(t604.length:Int):=of_decide_eq_true za
       obtain ⟨ad609,A609_0,c609_0,e609,hx609_0,hl609_0,hi609_0⟩:=at_L7 (Kd.S_reads' HO_12.out).2.2 x14_2 p609 q609
       cases e609
       obtain ⟨ce609,hce609,hMe609,hcc609⟩:=Kd.S_get HO_12.out [] x14_2 p609 (by first|exact q609|exact of_decide_eq_true za|(have e_:=(Kd.S_reads' HO_12.out).1;omega))
       obtain ⟨ve609_0,rfl,ge609_0⟩:=hMe609
       have hv609_0:=hcc609 0 _ rfl
       rw [Nat.add_zero,show ((Kd.slice 116 k116)).sz=1 from rfl,Nat.mul_one] at hv609_0
       replace hv609_0:=Option.some.inj (hv609_0.symm.trans hx609_0)
       rw [hv609_0] at ge609_0
       have HL609_0:=Aside0.mk (show Kd.R k116 116 _ _ _ _ (rd_L7 t604 x14_2) from ge609_0)
       clear hv609_0 ge609_0
       clear hcc609 hce609
       have HR609_0:=Aside0.mk hi609_0
       have HC609_0:=Aside0.mk hl609_0
       clear hi609_0 hl609_0
       replace p609:=eq_true p609
       replace q609:=eq_true q609
       go_wp2_with (first|(go_at_call 44;(with_reducible refine (laws_vSpans.calls k2 _ _ (rd_L7 t600 x14_2) _ _ (rd_L7 t604 x14_2) false _ ?side1 ?side2 ?side3 ?side4 A26.out).mono ?_);(case side1=>exact zz36);(case side2=>exact HC608_0.out);(case side3=>exact zz37);(case side4=>exact HC609_0.out);rintro e w' ⟨rfl,⟨nd,rfl⟩⟩;(try first|exact ⟨rfl,_,World.drewN_drewN _ _ _⟩|exact ⟨rfl,_,Eq.trans (World.drewN_drewN _ _ _) (congrArg (World.drewN _) (Nat.add_assoc _ _ _))⟩)))
       repeat (go_quiet (first|(go_at_call 44;(with_reducible refine (laws_vSpans.calls k2 _ _ (rd_L7 t600 x14_2) _ _ (rd_L7 t604 x14_2) false _ ?side1 ?side2 ?side3 ?side4 A26.out).mono ?_);(case side1=>exact zz36);(case side2=>exact HC608_0.out);(case side3=>exact zz37);(case side4=>exact HC609_0.out);rintro e w' ⟨rfl,⟨nd,rfl⟩⟩;(try first|exact ⟨rfl,_,World.drewN_drewN _ _ _⟩|exact ⟨rfl,_,Eq.trans (World.drewN_drewN _ _ _) (congrArg (World.drewN _) (Nat.add_assoc _ _ _))⟩)));try go_wp2_with (first|(go_at_call 44;(with_reducible refine (laws_vSpans.calls k2 _ _ (rd_L7 t600 x14_2) _ _ (rd_L7 t604 x14_2) false _ ?side1 ?side2 ?side3 ?side4 A26.out).mono ?_);(case side1=>exact zz36);(case side2=>exact HC608_0.out);(case side3=>exact zz37);(case side4=>exact HC609_0.out);rintro e w' ⟨rfl,⟨nd,rfl⟩⟩;(try first|exact ⟨rfl,_,World.drewN_drewN _ _ _⟩|exact ⟨rfl,_,Eq.trans (World.drewN_drewN _ _ _) (congrArg (World.drewN _) (Nat.add_assoc _ _ _))⟩))))
       go_ret
       exact ⟨zz1,zb⟩
      subst c27
      rw [if_pos rfl] at H
      have H':=Aside0.mk H
      clear H
      obtain ⟨Ao28,co28,eo28⟩:=Kd.S_slice HO_10.out
      subst eo28
      have p608:0≤(x14_2:Int):=of_decide_eq_true za
      have q608:x14_2<(t600.length:Int):=of_decide_eq_true za
      obtain ⟨ad608,A608_0,c608_0,e608,hx608_0,hl608_0,hi608_0⟩:=at_L7 (Kd.S_reads' HO_10.out).2.2 x14_2 p608 q608
      cases e608
      obtain ⟨ce608,hce608,hMe608,hcc608⟩:=Kd.S_get HO_10.out [] x14_2 p608 (by first|exact q608|exact of_decide_eq_true za|(have e_:=(Kd.S_reads' HO_10.out).1;omega))
      obtain ⟨ve608_0,rfl,ge608_0⟩:=hMe608
      have hv608_0:=hcc608 0 _ rfl
      rw [Nat.add_zero,show ((Kd.slice 116 k116)).sz=1 from rfl,Nat.mul_one] at hv608_0
      replace hv608_0:=Option.some.inj (hv608_0.symm.trans hx608_0)
      rw [hv608_0] at ge608_0
      have HL608_0:=Aside0.mk (show Kd.R k116 116 _ _ _ _ (rd_L7 t600 x14_2) from ge608_0)
      clear hv608_0 ge608_0
      clear hcc608 hce608
      have HR608_0:=Aside0.mk hi608_0
      have HC608_0:=Aside0.mk hl608_0
      clear hi608_0 hl608_0
      replace p608:=eq_true p608
      replace q608:=eq_true q608
      obtain ⟨Ao29,co29,eo29⟩:=Kd.S_slice HO_12.out
      subst eo29
      have p609:0≤(x14_2:Int):=of_decide_eq_true za
      have q609:x14_2<(t604.length:Int):=of_decide_eq_true za
      obtain ⟨ad609,A609_0,c609_0,e609,hx609_0,hl609_0,hi609_0⟩:=at_L7 (Kd.S_reads' HO_12.out).2.2 x14_2 p609 q609
      cases e609
      obtain ⟨ce609,hce609,hMe609,hcc609⟩:=Kd.S_get HO_12.out [] x14_2 p609 (by first|exact q609|exact of_decide_eq_true za|(have e_:=(Kd.S_reads' HO_12.out).1;omega))
      obtain ⟨ve609_0,rfl,ge609_0⟩:=hMe609
      have hv609_0:=hcc609 0 _ rfl
      rw [Nat.add_zero,show ((Kd.slice 116 k116)).sz=1 from rfl,Nat.mul_one] at hv609_0
      replace hv609_0:=Option.some.inj (hv609_0.symm.trans hx609_0)
      rw [hv609_0] at ge609_0
      have HL609_0:=Aside0.mk (show Kd.R k116 116 _ _ _ _ (rd_L7 t604 x14_2) from ge609_0)
      clear hv609_0 ge609_0
      clear hcc609 hce609
      have HR609_0:=Aside0.mk hi609_0
      have HC609_0:=Aside0.mk hl609_0
      clear hi609_0 hl609_0
      replace p609:=eq_true p609
      replace q609:=eq_true q609
      go_wp2_with (first|(go_at_call 44;(with_reducible refine (laws_vSpans.calls k2 _ _ (rd_L7 t600 x14_2) _ _ (rd_L7 t604 x14_2) true _ ?side1 ?side2 ?side3 ?side4 A26.out).mono ?_);(case side1=>exact zz36);(case side2=>exact HC608_0.out);(case side3=>exact zz37);(case side4=>exact HC609_0.out);rintro e w' ⟨rfl,⟨nd,rfl⟩⟩;(try first|exact ⟨rfl,_,World.drewN_drewN _ _ _⟩|exact ⟨rfl,_,Eq.trans (World.drewN_drewN _ _ _) (congrArg (World.drewN _) (Nat.add_assoc _ _ _))⟩)))
      repeat (go_quiet (first|(go_at_call 44;(with_reducible refine (laws_vSpans.calls k2 _ _ (rd_L7 t600 x14_2) _ _ (rd_L7 t604 x14_2) true _ ?side1 ?side2 ?side3 ?side4 A26.out).mono ?_);(case side1=>exact zz36);(case side2=>exact HC608_0.out);(case side3=>exact zz37);(case side4=>exact HC609_0.out);rintro e w' ⟨rfl,⟨nd,rfl⟩⟩;(try first|exact ⟨rfl,_,World.drewN_drewN _ _ _⟩|exact ⟨rfl,_,Eq.trans (World.drewN_drewN _ _ _) (congrArg (World.drewN _) (Nat.add_assoc _ _ _))⟩)));try go_wp2_with (first|(go_at_call 44;(with_reducible refine (laws_vSpans.calls k2 _ _ (rd_L7 t600 x14_2) _ _ (rd_L7 t604 x14_2) true _ ?side1 ?side2 ?side3 ?side4 A26.out).mono ?_);(case side1=>exact zz36);(case side2=>exact HC608_0.out);(case side3=>exact zz37);(case side4=>exact HC609_0.out);rintro e w' ⟨rfl,⟨nd,rfl⟩⟩;(try first|exact ⟨rfl,_,World.drewN_drewN _ _ _⟩|exact ⟨rfl,_,Eq.trans (World.drewN_drewN _ _ _) (congrArg (World.drewN _) (Nat.add_assoc _ _ _))⟩))))
      go_roundg k2
      case measure=>have:=HJ8.out;have:=HK2.out;omega
      case rel=>exact ⟨(wrap64 (x14_2 + 1)),zo,H',⟨by have:=HJ8.out;have:=HK2.out;omega⟩,⟨zR HO_3.out⟩,⟨zS HO_5.out⟩,⟨zS HO_10.out⟩,⟨zS HO_12.out⟩,⟨zb⟩⟩
     rw [if_neg c23] at H
     have c23b0:=decide_eq_false c23
     clear c23
     by_cases c32:t601=true
     rotate_left
     ·replace c32:=Bool.eq_false_iff.mpr c32
      subst c32
      rw [if_neg (show ¬ (false=true) by decide)] at H
      obtain rfl:=Option.some.inj H
      obtain ⟨Ao71,co71,eo71⟩:=Kd.S_slice HO_10.out
      subst eo71
      go_wp2
      repeat (go_quiet (fail);try go_wp2)
      go_ret
      exact ⟨zz1,zb⟩
     subst c32
     rw [if_pos rfl] at H
     obtain ⟨y611,hy611⟩:∃ y_:List (S72),y_=(([]:List (S72))):=⟨_,rfl⟩
     replace H:((impl_LengthBound.f k2 t589 t590 y611).bind fun bt614=>((impl_IsShared.f k2 t589 t590 t600).bind fun bt616=>(if bt616.2=true then (if bt616.1=true then ((laws_vLast.f k2 t600).bind fun t618=>(if t618=bt614.1 then (if t596=true then ((laws_vLast.f k2 t591).bind fun t619=>(some (decide (t619≥bt614.1)))) else (some true)) else (some false))) else (some false)) else (some false))))=some r:=by first|(rw [hy611];with_reducible exact H)|(have H2_:=(Option.bind_some _ _).symm.trans H;rw [hy611];with_reducible exact H2_)|(have H2_:=(Option.bind_some _ _).symm.trans H;with_reducible exact H2_)|with_reducible exact H|(rw [hy611];exact H)|exact H
     have Ny611:=Aside0.mk hy611
     clear hy611
     replace H:=Option.bind_eq_some_iff.mp H
     obtain ⟨⟨t614,t615⟩,A330,H⟩:=H
     try dsimp only at H
     have A33:=Aside0.mk A330
     clear A330
     replace H:=Option.bind_eq_some_iff.mp H
     obtain ⟨⟨t616,t617⟩,A340,H⟩:=H
     try dsimp only at H
     have A34:=Aside0.mk A340
     clear A340
     by_cases c35:t617=true
     rotate_left
     ·replace c35:=Bool.eq_false_iff.mpr c35
      subst c35
      rw [if_neg (show ¬ (false=true) by decide)] at H
      obtain rfl:=Option.some.inj H
      obtain ⟨Ao65,co65,eo65⟩:=Kd.S_slice HO_10.out
      subst eo65
      go_wp2_with (first|((with_reducible refine gate_dst (N:=94) rfl ?_);(try (refine gate_guard (by rfl) ?_;dsimp only));refine Kd.R_lit k72 _ 72 ?hg (N:=94) ?hd (xs:=([]:List (S72))) (inner:=[]) (ok:=fun _=>True) (okp:=fun _=>True) ?hr ?hp (fun _ hk=>hk) trivial (Below.refl _ _) (Nat.le_refl _) (by simp) ?_;(case hd=>rfl);(case hg=>rfl);(case hr=>first|(go_simp;done)|(go_simp;rfl));(case hp=>exact (Reps.none _ _));intro v612 w66 ho67 hb hg_ hnew_;clear hg_ hnew_;(first|rw [←Ny611.out] at ho67|(simp only [Int.reduceToNat] at ho67;rw [←Ny611.out] at ho67));replace HO_3:=zRb HO_3 hb;replace HO_5:=zSb HO_5 hb;replace HO_10:=zSb HO_10 hb;replace HO_12:=zSb HO_12 hb;have HO613:=Aside0.mk (Kd.R_lower ho67 (below_size zb));replace HB:=zb1 hb;clear hb ho67;obtain ⟨Ao68,co68,eo68⟩:=Kd.R_slice HO613.out;subst eo68)|(go_at_call 45;(with_reducible refine (impl_LengthBound.calls k2 _ _ t589 t590 _ _ y611 t614 t615 _ ?side1 ?side2 ?side3 ?side4 A33.out).mono ?_);(case side1=>exact zC ((Kd.R_reads' HO_3.out).2.2));(case side2=>exact (Kd.R_reads' HO_3.out).2.1);(case side3=>exact zC ((Kd.R_reads' HO613.out).2.2));(case side4=>exact (Kd.R_reads' HO613.out).2.1);rintro e w69 ⟨rfl,hb⟩;replace HO_3:=zRb HO_3 hb;replace HO_5:=zSb HO_5 hb;replace HO_10:=zSb HO_10 hb;replace HO_12:=zSb HO_12 hb;replace HO613:=zRb HO613 hb;replace HB:=zb1 hb;(try clear hb))|(go_at_call 40;(with_reducible refine (impl_IsShared.calls k2 _ _ t589 t590 _ _ t600 t616 false _ ?side1 ?side2 ?side3 ?side4 A34.out).mono ?_);(case side1=>exact zC ((Kd.R_reads' HO_3.out).2.2));(case side2=>exact (Kd.R_reads' HO_3.out).2.1);(case side3=>exact zC ((Kd.S_reads' HO_10.out).2.2));(case side4=>exact (Kd.S_reads' HO_10.out).2.1);rintro e w70 ⟨rfl,hb⟩;replace HO_3:=zRb HO_3 hb;replace HO_5:=zSb HO_5 hb;replace HO_10:=zSb HO_10 hb;replace HO_12:=zSb HO_12 hb;replace HO613:=zRb HO613 hb;replace HB:=zb1 hb;(try clear hb)))
      repeat (go_quiet (first|((with_reducible refine gate_dst (N:=94) rfl ?_);(try (refine gate_guard (by rfl) ?_;dsimp only));refine Kd.R_lit k72 _ 72 ?hg (N:=94) ?hd (xs:=([]:List (S72))) (inner:=[]) (ok:=fun _=>True) (okp:=fun _=>True) ?hr ?hp (fun _ hk=>hk) trivial (Below.refl _ _) (Nat.le_refl _) (by simp) ?_;(case hd=>rfl);(case hg=>rfl);(case hr=>first|(go_simp;done)|(go_simp;rfl));(case hp=>exact (Reps.none _ _));intro v612 w66 ho67 hb hg_ hnew_;clear hg_ hnew_;(first|rw [←Ny611.out] at ho67|(simp only [Int.reduceToNat] at ho67;rw [←Ny611.out] at ho67));replace HO_3:=zRb HO_3 hb;replace HO_5:=zSb HO_5 hb;replace HO_10:=zSb HO_10 hb;replace HO_12:=zSb HO_12 hb;have HO613:=Aside0.mk (Kd.R_lower ho67 (below_size zb));replace HB:=zb1 hb;clear hb ho67;obtain ⟨Ao68,co68,eo68⟩:=Kd.R_slice HO613.out;subst eo68)|(go_at_call 45;(with_reducible refine (impl_LengthBound.calls k2 _ _ t589 t590 _ _ y611 t614 t615 _ ?side1 ?side2 ?side3 ?side4 A33.out).mono ?_);(case side1=>exact zC ((Kd.R_reads' HO_3.out).2.2));(case side2=>exact (Kd.R_reads' HO_3.out).2.1);(case side3=>exact zC ((Kd.R_reads' HO613.out).2.2));(case side4=>exact (Kd.R_reads' HO613.out).2.1);rintro e w69 ⟨rfl,hb⟩;replace HO_3:=zRb HO_3 hb;replace HO_5:=zSb HO_5 hb;replace HO_10:=zSb HO_10 hb;replace HO_12:=zSb HO_12 hb;replace HO613:=zRb HO613 hb;replace HB:=zb1 hb;(try clear hb))|(go_at_call 40;(with_reducible refine (impl_IsShared.calls k2 _ _ t589 t590 _ _ t600 t616 false _ ?side1 ?side2 ?side3 ?side4 A34.out).mono ?_);(case side1=>exact zC ((Kd.R_reads' HO_3.out).2.2));(case side2=>exact (Kd.R_reads' HO_3.out).2.1);(case side3=>exact zC ((Kd.S_reads' HO_10.out).2.2));(case side4=>exact (Kd.S_reads' HO_10.out).2.1);rintro e w70 ⟨rfl,hb⟩;replace HO_3:=zRb HO_3 hb;replace HO_5:=zSb HO_5 hb;replace HO_10:=zSb HO_10 hb;replace HO_12:=zSb HO_12 hb;replace HO613:=zRb HO613 hb;replace HB:=zb1 hb;(try clear hb)));try go_wp2_with (first|((with_reducible refine gate_dst (N:=94) rfl ?_);(try (refine gate_guard (by rfl) ?_;dsimp only));refine Kd.R_lit k72 _ 72 ?hg (N:=94) ?hd (xs:=([]:List (S72))) (inner:=[]) (ok:=fun _=>True) (okp:=fun _=>True) ?hr ?hp (fun _ hk=>hk) trivial (Below.refl _ _) (Nat.le_refl _) (by simp) ?_;(case hd=>rfl);(case hg=>rfl);(case hr=>first|(go_simp;done)|(go_simp;rfl));(case hp=>exact (Reps.none _ _));intro v612 w66 ho67 hb hg_ hnew_;clear hg_ hnew_;(first|rw [←Ny611.out] at ho67|(simp only [Int.reduceToNat] at ho67;rw [←Ny611.out] at ho67));replace HO_3:=zRb HO_3 hb;replace HO_5:=zSb HO_5 hb;replace HO_10:=zSb HO_10 hb;replace HO_12:=zSb HO_12 hb;have HO613:=Aside0.mk (Kd.R_lower ho67 (below_size zb));replace HB:=zb1 hb;clear hb ho67;obtain ⟨Ao68,co68,eo68⟩:=Kd.R_slice HO613.out;subst eo68)|(go_at_call 45;(with_reducible refine (impl_LengthBound.calls k2 _ _ t589 t590 _ _ y611 t614 t615 _ ?side1 ?side2 ?side3 ?side4 A33.out).mono ?_);(case side1=>exact zC ((Kd.R_reads' HO_3.out).2.2));(case side2=>exact (Kd.R_reads' HO_3.out).2.1);(case side3=>exact zC ((Kd.R_reads' HO613.out).2.2));(case side4=>exact (Kd.R_reads' HO613.out).2.1);rintro e w69 ⟨rfl,hb⟩;replace HO_3:=zRb HO_3 hb;replace HO_5:=zSb HO_5 hb;replace HO_10:=zSb HO_10 hb;replace HO_12:=zSb HO_12 hb;replace HO613:=zRb HO613 hb;replace HB:=zb1 hb;(try clear hb))|(go_at_call 40;(with_reducible refine (impl_IsShared.calls k2 _ _ t589 t590 _ _ t600 t616 false _ ?side1 ?side2 ?side3 ?side4 A34.out).mono ?_);(case side1=>exact zC ((Kd.R_reads' HO_3.out).2.2));(case side2=>exact (Kd.R_reads' HO_3.out).2.1);(case side3=>exact zC ((Kd.S_reads' HO_10.out).2.2));(case side4=>exact (Kd.S_reads' HO_10.out).2.1);rintro e w70 ⟨rfl,hb⟩;replace HO_3:=zRb HO_3 hb;replace HO_5:=zSb HO_5 hb;replace HO_10:=zSb HO_10 hb;replace HO_12:=zSb HO_12 hb;replace HO613:=zRb HO613 hb;replace HB:=zb1 hb;(try clear hb))))
      go_ret
      exact ⟨zz1,zb⟩
     subst c35
     rw [if_pos rfl] at H
     by_cases c36:t616=true
     rotate_left
     ·replace c36:=Bool.eq_false_iff.mpr c36
      subst c36
      rw [if_neg (show ¬ (false=true) by decide)] at H
      obtain rfl:=Option.some.inj H
      obtain ⟨Ao59,co59,eo59⟩:=Kd.S_slice HO_10.out
      subst eo59
      go_wp2_with (first|((with_reducible refine gate_dst (N:=94) rfl ?_);(try (refine gate_guard (by rfl) ?_;dsimp only));refine Kd.R_lit k72 _ 72 ?hg (N:=94) ?hd (xs:=([]:List (S72))) (inner:=[]) (ok:=fun _=>True) (okp:=fun _=>True) ?hr ?hp (fun _ hk=>hk) trivial (Below.refl _ _) (Nat.le_refl _) (by simp) ?_;(case hd=>rfl);(case hg=>rfl);(case hr=>first|(go_simp;done)|(go_simp;rfl));(case hp=>exact (Reps.none _ _));intro v612 w60 ho61 hb hg_ hnew_;clear hg_ hnew_;(first|rw [←Ny611.out] at ho61|(simp only [Int.reduceToNat] at ho61;rw [←Ny611.out] at ho61));replace HO_3:=zRb HO_3 hb;replace HO_5:=zSb HO_5 hb;replace HO_10:=zSb HO_10 hb;replace HO_12:=zSb HO_12 hb;have HO613:=Aside0.mk (Kd.R_lower ho61 (below_size zb));replace HB:=zb1 hb;clear hb ho61;obtain ⟨Ao62,co62,eo62⟩:=Kd.R_slice HO613.out;subst eo62)|(go_at_call 45;(with_reducible refine (impl_LengthBound.calls k2 _ _ t589 t590 _ _ y611 t614 t615 _ ?side1 ?side2 ?side3 ?side4 A33.out).mono ?_);(case side1=>exact zC ((Kd.R_reads' HO_3.out).2.2));(case side2=>exact (Kd.R_reads' HO_3.out).2.1);(case side3=>exact zC ((Kd.R_reads' HO613.out).2.2));(case side4=>exact (Kd.R_reads' HO613.out).2.1);rintro e w63 ⟨rfl,hb⟩;replace HO_3:=zRb HO_3 hb;replace HO_5:=zSb HO_5 hb;replace HO_10:=zSb HO_10 hb;replace HO_12:=zSb HO_12 hb;replace HO613:=zRb HO613 hb;replace HB:=zb1 hb;(try clear hb))|(go_at_call 40;(with_reducible refine (impl_IsShared.calls k2 _ _ t589 t590 _ _ t600 false true _ ?side1 ?side2 ?side3 ?side4 A34.out).mono ?_);(case side1=>exact zC ((Kd.R_reads' HO_3.out).2.2));(case side2=>exact (Kd.R_reads' HO_3.out).2.1);(case side3=>exact zC ((Kd.S_reads' HO_10.out).2.2));(case side4=>exact (Kd.S_reads' HO_10.out).2.1);rintro e w64 ⟨rfl,hb⟩;replace HO_3:=zRb HO_3 hb;replace HO_5:=zSb HO_5 hb;replace HO_10:=zSb HO_10 hb;replace HO_12:=zSb HO_12 hb;replace HO613:=zRb HO613 hb;replace HB:=zb1 hb;(try clear hb)))
      repeat (go_quiet (first|((with_reducible refine gate_dst (N:=94) rfl ?_);(try (refine gate_guard (by rfl) ?_;dsimp only));refine Kd.R_lit k72 _ 72 ?hg (N:=94) ?hd (xs:=([]:List (S72))) (inner:=[]) (ok:=fun _=>True) (okp:=fun _=>True) ?hr ?hp (fun _ hk=>hk) trivial (Below.refl _ _) (Nat.le_refl _) (by simp) ?_;(case hd=>rfl);(case hg=>rfl);(case hr=>first|(go_simp;done)|(go_simp;rfl));(case hp=>exact (Reps.none _ _));intro v612 w60 ho61 hb hg_ hnew_;clear hg_ hnew_;(first|rw [←Ny611.out] at ho61|(simp only [Int.reduceToNat] at ho61;rw [←Ny611.out] at ho61));replace HO_3:=zRb HO_3 hb;replace HO_5:=zSb HO_5 hb;replace HO_10:=zSb HO_10 hb;replace HO_12:=zSb HO_12 hb;have HO613:=Aside0.mk (Kd.R_lower ho61 (below_size zb));replace HB:=zb1 hb;clear hb ho61;obtain ⟨Ao62,co62,eo62⟩:=Kd.R_slice HO613.out;subst eo62)|(go_at_call 45;(with_reducible refine (impl_LengthBound.calls k2 _ _ t589 t590 _ _ y611 t614 t615 _ ?side1 ?side2 ?side3 ?side4 A33.out).mono ?_);(case side1=>exact zC ((Kd.R_reads' HO_3.out).2.2));(case side2=>exact (Kd.R_reads' HO_3.out).2.1);(case side3=>exact zC ((Kd.R_reads' HO613.out).2.2));(case side4=>exact (Kd.R_reads' HO613.out).2.1);rintro e w63 ⟨rfl,hb⟩;replace HO_3:=zRb HO_3 hb;replace HO_5:=zSb HO_5 hb;replace HO_10:=zSb HO_10 hb;replace HO_12:=zSb HO_12 hb;replace HO613:=zRb HO613 hb;replace HB:=zb1 hb;(try clear hb))|(go_at_call 40;(with_reducible refine (impl_IsShared.calls k2 _ _ t589 t590 _ _ t600 false true _ ?side1 ?side2 ?side3 ?side4 A34.out).mono ?_);(case side1=>exact zC ((Kd.R_reads' HO_3.out).2.2));(case side2=>exact (Kd.R_reads' HO_3.out).2.1);(case side3=>exact zC ((Kd.S_reads' HO_10.out).2.2));(case side4=>exact (Kd.S_reads' HO_10.out).2.1);rintro e w64 ⟨rfl,hb⟩;replace HO_3:=zRb HO_3 hb;replace HO_5:=zSb HO_5 hb;replace HO_10:=zSb HO_10 hb;replace HO_12:=zSb HO_12 hb;replace HO613:=zRb HO613 hb;replace HB:=zb1 hb;(try clear hb)));try go_wp2_with (first|((with_reducible refine gate_dst (N:=94) rfl ?_);(try (refine gate_guard (by rfl) ?_;dsimp only));refine Kd.R_lit k72 _ 72 ?hg (N:=94) ?hd (xs:=([]:List (S72))) (inner:=[]) (ok:=fun _=>True) (okp:=fun _=>True) ?hr ?hp (fun _ hk=>hk) trivial (Below.refl _ _) (Nat.le_refl _) (by simp) ?_;(case hd=>rfl);(case hg=>rfl);(case hr=>first|(go_simp;done)|(go_simp;rfl));(case hp=>exact (Reps.none _ _));intro v612 w60 ho61 hb hg_ hnew_;clear hg_ hnew_;(first|rw [←Ny611.out] at ho61|(simp only [Int.reduceToNat] at ho61;rw [←Ny611.out] at ho61));replace HO_3:=zRb HO_3 hb;replace HO_5:=zSb HO_5 hb;replace HO_10:=zSb HO_10 hb;replace HO_12:=zSb HO_12 hb;have HO613:=Aside0.mk (Kd.R_lower ho61 (below_size zb));replace HB:=zb1 hb;clear hb ho61;obtain ⟨Ao62,co62,eo62⟩:=Kd.R_slice HO613.out;subst eo62)|(go_at_call 45;(with_reducible refine (impl_LengthBound.calls k2 _ _ t589 t590 _ _ y611 t614 t615 _ ?side1 ?side2 ?side3 ?side4 A33.out).mono ?_);(case side1=>exact zC ((Kd.R_reads' HO_3.out).2.2));(case side2=>exact (Kd.R_reads' HO_3.out).2.1);(case side3=>exact zC ((Kd.R_reads' HO613.out).2.2));(case side4=>exact (Kd.R_reads' HO613.out).2.1);rintro e w63 ⟨rfl,hb⟩;replace HO_3:=zRb HO_3 hb;replace HO_5:=zSb HO_5 hb;replace HO_10:=zSb HO_10 hb;replace HO_12:=zSb HO_12 hb;replace HO613:=zRb HO613 hb;replace HB:=zb1 hb;(try clear hb))|(go_at_call 40;(with_reducible refine (impl_IsShared.calls k2 _ _ t589 t590 _ _ t600 false true _ ?side1 ?side2 ?side3 ?side4 A34.out).mono ?_);(case side1=>exact zC ((Kd.R_reads' HO_3.out).2.2));(case side2=>exact (Kd.R_reads' HO_3.out).2.1);(case side3=>exact zC ((Kd.S_reads' HO_10.out).2.2));(case side4=>exact (Kd.S_reads' HO_10.out).2.1);rintro e w64 ⟨rfl,hb⟩;replace HO_3:=zRb HO_3 hb;replace HO_5:=zSb HO_5 hb;replace HO_10:=zSb HO_10 hb;replace HO_12:=zSb HO_12 hb;replace HO613:=zRb HO613 hb;replace HB:=zb1 hb;(try clear hb))))
      go_ret
      exact ⟨zz1,zb⟩
     subst c36
     rw [if_pos rfl] at H
     replace H:=Option.bind_eq_some_iff.mp H
     obtain ⟨t618,A370,H⟩:=H
     try dsimp only at H
     have A37:=Aside0.mk A370
     clear A370
     by_cases c38:t618=t614
     rotate_left
     ·rw [if_neg c38] at H
      have c38b0:(t618 == t614)=false:=beq_eq_false_iff_ne.mpr c38
      have c38b1:(t618 != t614)=true:=bne_iff_ne.mpr c38
      obtain rfl:=Option.some.inj H
      obtain ⟨Ao53,co53,eo53⟩:=Kd.S_slice HO_10.out
      subst eo53
      go_wp2_with (first|((with_reducible refine gate_dst (N:=94) rfl ?_);(try (refine gate_guard (by rfl) ?_;dsimp only));refine Kd.R_lit k72 _ 72 ?hg (N:=94) ?hd (xs:=([]:List (S72))) (inner:=[]) (ok:=fun _=>True) (okp:=fun _=>True) ?hr ?hp (fun _ hk=>hk) trivial (Below.refl _ _) (Nat.le_refl _) (by simp) ?_;(case hd=>rfl);(case hg=>rfl);(case hr=>first|(go_simp;done)|(go_simp;rfl));(case hp=>exact (Reps.none _ _));intro v612 w54 ho55 hb hg_ hnew_;clear hg_ hnew_;(first|rw [←Ny611.out] at ho55|(simp only [Int.reduceToNat] at ho55;rw [←Ny611.out] at ho55));replace HO_3:=zRb HO_3 hb;replace HO_5:=zSb HO_5 hb;replace HO_10:=zSb HO_10 hb;replace HO_12:=zSb HO_12 hb;have HO613:=Aside0.mk (Kd.R_lower ho55 (below_size zb));replace HB:=zb1 hb;clear hb ho55;obtain ⟨Ao56,co56,eo56⟩:=Kd.R_slice HO613.out;subst eo56)|(go_at_call 45;(with_reducible refine (impl_LengthBound.calls k2 _ _ t589 t590 _ _ y611 t614 t615 _ ?side1 ?side2 ?side3 ?side4 A33.out).mono ?_);(case side1=>exact zC ((Kd.R_reads' HO_3.out).2.2));(case side2=>exact (Kd.R_reads' HO_3.out).2.1);(case side3=>exact zC ((Kd.R_reads' HO613.out).2.2));(case side4=>exact (Kd.R_reads' HO613.out).2.1);rintro e w57 ⟨rfl,hb⟩;replace HO_3:=zRb HO_3 hb;replace HO_5:=zSb HO_5 hb;replace HO_10:=zSb HO_10 hb;replace HO_12:=zSb HO_12 hb;replace HO613:=zRb HO613 hb;replace HB:=zb1 hb;(try clear hb))|(go_at_call 40;(with_reducible refine (impl_IsShared.calls k2 _ _ t589 t590 _ _ t600 true true _ ?side1 ?side2 ?side3 ?side4 A34.out).mono ?_);(case side1=>exact zC ((Kd.R_reads' HO_3.out).2.2));(case side2=>exact (Kd.R_reads' HO_3.out).2.1);(case side3=>exact zC ((Kd.S_reads' HO_10.out).2.2));(case side4=>exact (Kd.S_reads' HO_10.out).2.1);rintro e w58 ⟨rfl,hb⟩;replace HO_3:=zRb HO_3 hb;replace HO_5:=zSb HO_5 hb;replace HO_10:=zSb HO_10 hb;replace HO_12:=zSb HO_12 hb;replace HO613:=zRb HO613 hb;replace HB:=zb1 hb;(try clear hb))|(go_at_call 46;(with_reducible refine (laws_vLast.calls k2 _ _ t600 t618 _ ?side1 ?side2 A37.out).mono ?_);(case side1=>exact zC ((Kd.S_reads' HO_10.out).2.2));(case side2=>exact (Kd.S_reads' HO_10.out).2.1);rintro e w' ⟨rfl,⟨nd,rfl⟩⟩;(try first|exact ⟨rfl,_,World.drewN_drewN _ _ _⟩|exact ⟨rfl,_,Eq.trans (World.drewN_drewN _ _ _) (congrArg (World.drewN _) (Nat.add_assoc _ _ _))⟩)))
      repeat (go_quiet (first|((with_reducible refine gate_dst (N:=94) rfl ?_);(try (refine gate_guard (by rfl) ?_;dsimp only));refine Kd.R_lit k72 _ 72 ?hg (N:=94) ?hd (xs:=([]:List (S72))) (inner:=[]) (ok:=fun _=>True) (okp:=fun _=>True) ?hr ?hp (fun _ hk=>hk) trivial (Below.refl _ _) (Nat.le_refl _) (by simp) ?_;(case hd=>rfl);(case hg=>rfl);(case hr=>first|(go_simp;done)|(go_simp;rfl));(case hp=>exact (Reps.none _ _));intro v612 w54 ho55 hb hg_ hnew_;clear hg_ hnew_;(first|rw [←Ny611.out] at ho55|(simp only [Int.reduceToNat] at ho55;rw [←Ny611.out] at ho55));replace HO_3:=zRb HO_3 hb;replace HO_5:=zSb HO_5 hb;replace HO_10:=zSb HO_10 hb;replace HO_12:=zSb HO_12 hb;have HO613:=Aside0.mk (Kd.R_lower ho55 (below_size zb));replace HB:=zb1 hb;clear hb ho55;obtain ⟨Ao56,co56,eo56⟩:=Kd.R_slice HO613.out;subst eo56)|(go_at_call 45;(with_reducible refine (impl_LengthBound.calls k2 _ _ t589 t590 _ _ y611 t614 t615 _ ?side1 ?side2 ?side3 ?side4 A33.out).mono ?_);(case side1=>exact zC ((Kd.R_reads' HO_3.out).2.2));(case side2=>exact (Kd.R_reads' HO_3.out).2.1);(case side3=>exact zC ((Kd.R_reads' HO613.out).2.2));(case side4=>exact (Kd.R_reads' HO613.out).2.1);rintro e w57 ⟨rfl,hb⟩;replace HO_3:=zRb HO_3 hb;replace HO_5:=zSb HO_5 hb;replace HO_10:=zSb HO_10 hb;replace HO_12:=zSb HO_12 hb;replace HO613:=zRb HO613 hb;replace HB:=zb1 hb;(try clear hb))|(go_at_call 40;(with_reducible refine (impl_IsShared.calls k2 _ _ t589 t590 _ _ t600 true true _ ?side1 ?side2 ?side3 ?side4 A34.out).mono ?_);(case side1=>exact zC ((Kd.R_reads' HO_3.out).2.2));(case side2=>exact (Kd.R_reads' HO_3.out).2.1);(case side3=>exact zC ((Kd.S_reads' HO_10.out).2.2));(case side4=>exact (Kd.S_reads' HO_10.out).2.1);rintro e w58 ⟨rfl,hb⟩;replace HO_3:=zRb HO_3 hb;replace HO_5:=zSb HO_5 hb;replace HO_10:=zSb HO_10 hb;replace HO_12:=zSb HO_12 hb;replace HO613:=zRb HO613 hb;replace HB:=zb1 hb;(try clear hb))|(go_at_call 46;(with_reducible refine (laws_vLast.calls k2 _ _ t600 t618 _ ?side1 ?side2 A37.out).mono ?_);(case side1=>exact zC ((Kd.S_reads' HO_10.out).2.2));(case side2=>exact (Kd.S_reads' HO_10.out).2.1);rintro e w' ⟨rfl,⟨nd,rfl⟩⟩;(try first|exact ⟨rfl,_,World.drewN_drewN _ _ _⟩|exact ⟨rfl,_,Eq.trans (World.drewN_drewN _ _ _) (congrArg (World.drewN _) (Nat.add_assoc _ _ _))⟩)));try go_wp2_with (first|((with_reducible refine gate_dst (N:=94) rfl ?_);(try (refine gate_guard (by rfl) ?_;dsimp only));refine Kd.R_lit k72 _ 72 ?hg (N:=94) ?hd (xs:=([]:List (S72))) (inner:=[]) (ok:=fun _=>True) (okp:=fun _=>True) ?hr ?hp (fun _ hk=>hk) trivial (Below.refl _ _) (Nat.le_refl _) (by simp) ?_;(case hd=>rfl);(case hg=>rfl);(case hr=>first|(go_simp;done)|(go_simp;rfl));(case hp=>exact (Reps.none _ _));intro v612 w54 ho55 hb hg_ hnew_;clear hg_ hnew_;(first|rw [←Ny611.out] at ho55|(simp only [Int.reduceToNat] at ho55;rw [←Ny611.out] at ho55));replace HO_3:=zRb HO_3 hb;replace HO_5:=zSb HO_5 hb;replace HO_10:=zSb HO_10 hb;replace HO_12:=zSb HO_12 hb;have HO613:=Aside0.mk (Kd.R_lower ho55 (below_size zb));replace HB:=zb1 hb;clear hb ho55;obtain ⟨Ao56,co56,eo56⟩:=Kd.R_slice HO613.out;subst eo56)|(go_at_call 45;(with_reducible refine (impl_LengthBound.calls k2 _ _ t589 t590 _ _ y611 t614 t615 _ ?side1 ?side2 ?side3 ?side4 A33.out).mono ?_);(case side1=>exact zC ((Kd.R_reads' HO_3.out).2.2));(case side2=>exact (Kd.R_reads' HO_3.out).2.1);(case side3=>exact zC ((Kd.R_reads' HO613.out).2.2));(case side4=>exact (Kd.R_reads' HO613.out).2.1);rintro e w57 ⟨rfl,hb⟩;replace HO_3:=zRb HO_3 hb;replace HO_5:=zSb HO_5 hb;replace HO_10:=zSb HO_10 hb;replace HO_12:=zSb HO_12 hb;replace HO613:=zRb HO613 hb;replace HB:=zb1 hb;(try clear hb))|(go_at_call 40;(with_reducible refine (impl_IsShared.calls k2 _ _ t589 t590 _ _ t600 true true _ ?side1 ?side2 ?side3 ?side4 A34.out).mono ?_);(case side1=>exact zC ((Kd.R_reads' HO_3.out).2.2));(case side2=>exact (Kd.R_reads' HO_3.out).2.1);(case side3=>exact zC ((Kd.S_reads' HO_10.out).2.2));(case side4=>exact (Kd.S_reads' HO_10.out).2.1);rintro e w58 ⟨rfl,hb⟩;replace HO_3:=zRb HO_3 hb;replace HO_5:=zSb HO_5 hb;replace HO_10:=zSb HO_10 hb;replace HO_12:=zSb HO_12 hb;replace HO613:=zRb HO613 hb;replace HB:=zb1 hb;(try clear hb))|(go_at_call 46;(with_reducible refine (laws_vLast.calls k2 _ _ t600 t618 _ ?side1 ?side2 A37.out).mono ?_);(case side1=>exact zC ((Kd.S_reads' HO_10.out).2.2));(case side2=>exact (Kd.S_reads' HO_10.out).2.1);rintro e w' ⟨rfl,⟨nd,rfl⟩⟩;(try first|exact ⟨rfl,_,World.drewN_drewN _ _ _⟩|exact ⟨rfl,_,Eq.trans (World.drewN_drewN _ _ _) (congrArg (World.drewN _) (Nat.add_assoc _ _ _))⟩))))
      go_ret
      exact ⟨zz1,zb⟩
     rw [if_pos c38] at H
     have c38b0:(t618 == t614)=true:=beq_iff_eq.mpr c38
     have c38b1:(t618 != t614)=false:=bne_eq_false_iff_eq.mpr c38
     clear c38
     by_cases c39:t596=true
     rotate_left
     ·replace c39:=Bool.eq_false_iff.mpr c39
      subst c39
      rw [if_neg (show ¬ (false=true) by decide)] at H
      obtain rfl:=Option.some.inj H
      obtain ⟨Ao47,co47,eo47⟩:=Kd.S_slice HO_10.out
      subst eo47
      go_wp2_with (first|((with_reducible refine gate_dst (N:=94) rfl ?_);(try (refine gate_guard (by rfl) ?_;dsimp only));refine Kd.R_lit k72 _ 72 ?hg (N:=94) ?hd (xs:=([]:List (S72))) (inner:=[]) (ok:=fun _=>True) (okp:=fun _=>True) ?hr ?hp (fun _ hk=>hk) trivial (Below.refl _ _) (Nat.le_refl _) (by simp) ?_;(case hd=>rfl);(case hg=>rfl);(case hr=>first|(go_simp;done)|(go_simp;rfl));(case hp=>exact (Reps.none _ _));intro v612 w48 ho49 hb hg_ hnew_;clear hg_ hnew_;(first|rw [←Ny611.out] at ho49|(simp only [Int.reduceToNat] at ho49;rw [←Ny611.out] at ho49));replace HO_3:=zRb HO_3 hb;replace HO_5:=zSb HO_5 hb;replace HO_10:=zSb HO_10 hb;replace HO_12:=zSb HO_12 hb;have HO613:=Aside0.mk (Kd.R_lower ho49 (below_size zb));replace HB:=zb1 hb;clear hb ho49;obtain ⟨Ao50,co50,eo50⟩:=Kd.R_slice HO613.out;subst eo50)|(go_at_call 45;(with_reducible refine (impl_LengthBound.calls k2 _ _ t589 t590 _ _ y611 t614 t615 _ ?side1 ?side2 ?side3 ?side4 A33.out).mono ?_);(case side1=>exact zC ((Kd.R_reads' HO_3.out).2.2));(case side2=>exact (Kd.R_reads' HO_3.out).2.1);(case side3=>exact zC ((Kd.R_reads' HO613.out).2.2));(case side4=>exact (Kd.R_reads' HO613.out).2.1);rintro e w51 ⟨rfl,hb⟩;replace HO_3:=zRb HO_3 hb;replace HO_5:=zSb HO_5 hb;replace HO_10:=zSb HO_10 hb;replace HO_12:=zSb HO_12 hb;replace HO613:=zRb HO613 hb;replace HB:=zb1 hb;(try clear hb))|(go_at_call 40;(with_reducible refine (impl_IsShared.calls k2 _ _ t589 t590 _ _ t600 true true _ ?side1 ?side2 ?side3 ?side4 A34.out).mono ?_);(case side1=>exact zC ((Kd.R_reads' HO_3.out).2.2));(case side2=>exact (Kd.R_reads' HO_3.out).2.1);(case side3=>exact zC ((Kd.S_reads' HO_10.out).2.2));(case side4=>exact (Kd.S_reads' HO_10.out).2.1);rintro e w52 ⟨rfl,hb⟩;replace HO_3:=zRb HO_3 hb;replace HO_5:=zSb HO_5 hb;replace HO_10:=zSb HO_10 hb;replace HO_12:=zSb HO_12 hb;replace HO613:=zRb HO613 hb;replace HB:=zb1 hb;(try clear hb))|(go_at_call 46;(with_reducible refine (laws_vLast.calls k2 _ _ t600 t618 _ ?side1 ?side2 A37.out).mono ?_);(case side1=>exact zC ((Kd.S_reads' HO_10.out).2.2));(case side2=>exact (Kd.S_reads' HO_10.out).2.1);rintro e w' ⟨rfl,⟨nd,rfl⟩⟩;(try first|exact ⟨rfl,_,World.drewN_drewN _ _ _⟩|exact ⟨rfl,_,Eq.trans (World.drewN_drewN _ _ _) (congrArg (World.drewN _) (Nat.add_assoc _ _ _))⟩)))
      repeat (go_quiet (first|((with_reducible refine gate_dst (N:=94) rfl ?_);(try (refine gate_guard (by rfl) ?_;dsimp only));refine Kd.R_lit k72 _ 72 ?hg (N:=94) ?hd (xs:=([]:List (S72))) (inner:=[]) (ok:=fun _=>True) (okp:=fun _=>True) ?hr ?hp (fun _ hk=>hk) trivial (Below.refl _ _) (Nat.le_refl _) (by simp) ?_;(case hd=>rfl);(case hg=>rfl);(case hr=>first|(go_simp;done)|(go_simp;rfl));(case hp=>exact (Reps.none _ _));intro v612 w48 ho49 hb hg_ hnew_;clear hg_ hnew_;(first|rw [←Ny611.out] at ho49|(simp only [Int.reduceToNat] at ho49;rw [←Ny611.out] at ho49));replace HO_3:=zRb HO_3 hb;replace HO_5:=zSb HO_5 hb;replace HO_10:=zSb HO_10 hb;replace HO_12:=zSb HO_12 hb;have HO613:=Aside0.mk (Kd.R_lower ho49 (below_size zb));replace HB:=zb1 hb;clear hb ho49;obtain ⟨Ao50,co50,eo50⟩:=Kd.R_slice HO613.out;subst eo50)|(go_at_call 45;(with_reducible refine (impl_LengthBound.calls k2 _ _ t589 t590 _ _ y611 t614 t615 _ ?side1 ?side2 ?side3 ?side4 A33.out).mono ?_);(case side1=>exact zC ((Kd.R_reads' HO_3.out).2.2));(case side2=>exact (Kd.R_reads' HO_3.out).2.1);(case side3=>exact zC ((Kd.R_reads' HO613.out).2.2));(case side4=>exact (Kd.R_reads' HO613.out).2.1);rintro e w51 ⟨rfl,hb⟩;replace HO_3:=zRb HO_3 hb;replace HO_5:=zSb HO_5 hb;replace HO_10:=zSb HO_10 hb;replace HO_12:=zSb HO_12 hb;replace HO613:=zRb HO613 hb;replace HB:=zb1 hb;(try clear hb))|(go_at_call 40;(with_reducible refine (impl_IsShared.calls k2 _ _ t589 t590 _ _ t600 true true _ ?side1 ?side2 ?side3 ?side4 A34.out).mono ?_);(case side1=>exact zC ((Kd.R_reads' HO_3.out).2.2));(case side2=>exact (Kd.R_reads' HO_3.out).2.1);(case side3=>exact zC ((Kd.S_reads' HO_10.out).2.2));(case side4=>exact (Kd.S_reads' HO_10.out).2.1);rintro e w52 ⟨rfl,hb⟩;replace HO_3:=zRb HO_3 hb;replace HO_5:=zSb HO_5 hb;replace HO_10:=zSb HO_10 hb;replace HO_12:=zSb HO_12 hb;replace HO613:=zRb HO613 hb;replace HB:=zb1 hb;(try clear hb))|(go_at_call 46;(with_reducible refine (laws_vLast.calls k2 _ _ t600 t618 _ ?side1 ?side2 A37.out).mono ?_);(case side1=>exact zC ((Kd.S_reads' HO_10.out).2.2));(case side2=>exact (Kd.S_reads' HO_10.out).2.1);rintro e w' ⟨rfl,⟨nd,rfl⟩⟩;(try first|exact ⟨rfl,_,World.drewN_drewN _ _ _⟩|exact ⟨rfl,_,Eq.trans (World.drewN_drewN _ _ _) (congrArg (World.drewN _) (Nat.add_assoc _ _ _))⟩)));try go_wp2_with (first|((with_reducible refine gate_dst (N:=94) rfl ?_);(try (refine gate_guard (by rfl) ?_;dsimp only));refine Kd.R_lit k72 _ 72 ?hg (N:=94) ?hd (xs:=([]:List (S72))) (inner:=[]) (ok:=fun _=>True) (okp:=fun _=>True) ?hr ?hp (fun _ hk=>hk) trivial (Below.refl _ _) (Nat.le_refl _) (by simp) ?_;(case hd=>rfl);(case hg=>rfl);(case hr=>first|(go_simp;done)|(go_simp;rfl));(case hp=>exact (Reps.none _ _));intro v612 w48 ho49 hb hg_ hnew_;clear hg_ hnew_;(first|rw [←Ny611.out] at ho49|(simp only [Int.reduceToNat] at ho49;rw [←Ny611.out] at ho49));replace HO_3:=zRb HO_3 hb;replace HO_5:=zSb HO_5 hb;replace HO_10:=zSb HO_10 hb;replace HO_12:=zSb HO_12 hb;have HO613:=Aside0.mk (Kd.R_lower ho49 (below_size zb));replace HB:=zb1 hb;clear hb ho49;obtain ⟨Ao50,co50,eo50⟩:=Kd.R_slice HO613.out;subst eo50)|(go_at_call 45;(with_reducible refine (impl_LengthBound.calls k2 _ _ t589 t590 _ _ y611 t614 t615 _ ?side1 ?side2 ?side3 ?side4 A33.out).mono ?_);(case side1=>exact zC ((Kd.R_reads' HO_3.out).2.2));(case side2=>exact (Kd.R_reads' HO_3.out).2.1);(case side3=>exact zC ((Kd.R_reads' HO613.out).2.2));(case side4=>exact (Kd.R_reads' HO613.out).2.1);rintro e w51 ⟨rfl,hb⟩;replace HO_3:=zRb HO_3 hb;replace HO_5:=zSb HO_5 hb;replace HO_10:=zSb HO_10 hb;replace HO_12:=zSb HO_12 hb;replace HO613:=zRb HO613 hb;replace HB:=zb1 hb;(try clear hb))|(go_at_call 40;(with_reducible refine (impl_IsShared.calls k2 _ _ t589 t590 _ _ t600 true true _ ?side1 ?side2 ?side3 ?side4 A34.out).mono ?_);(case side1=>exact zC ((Kd.R_reads' HO_3.out).2.2));(case side2=>exact (Kd.R_reads' HO_3.out).2.1);(case side3=>exact zC ((Kd.S_reads' HO_10.out).2.2));(case side4=>exact (Kd.S_reads' HO_10.out).2.1);rintro e w52 ⟨rfl,hb⟩;replace HO_3:=zRb HO_3 hb;replace HO_5:=zSb HO_5 hb;replace HO_10:=zSb HO_10 hb;replace HO_12:=zSb HO_12 hb;replace HO613:=zRb HO613 hb;replace HB:=zb1 hb;(try clear hb))|(go_at_call 46;(with_reducible refine (laws_vLast.calls k2 _ _ t600 t618 _ ?side1 ?side2 A37.out).mono ?_);(case side1=>exact zC ((Kd.S_reads' HO_10.out).2.2));(case side2=>exact (Kd.S_reads' HO_10.out).2.1);rintro e w' ⟨rfl,⟨nd,rfl⟩⟩;(try first|exact ⟨rfl,_,World.drewN_drewN _ _ _⟩|exact ⟨rfl,_,Eq.trans (World.drewN_drewN _ _ _) (congrArg (World.drewN _) (Nat.add_assoc _ _ _))⟩))))
      go_ret
      exact ⟨zz1,zb⟩
     subst c39
     rw [if_pos rfl] at H
     replace H:=Option.bind_eq_some_iff.mp H
     obtain ⟨t619,A400,H⟩:=H
     try dsimp only at H
     have A40:=Aside0.mk A400
     clear A400
     obtain rfl:=Option.some.inj H
     obtain ⟨Ao41,co41,eo41⟩:=Kd.S_slice HO_10.out
     subst eo41
     go_wp2_with (first|((with_reducible refine gate_dst (N:=94) rfl ?_);(try (refine gate_guard (by rfl) ?_;dsimp only));refine Kd.R_lit k72 _ 72 ?hg (N:=94) ?hd (xs:=([]:List (S72))) (inner:=[]) (ok:=fun _=>True) (okp:=fun _=>True) ?hr ?hp (fun _ hk=>hk) trivial (Below.refl _ _) (Nat.le_refl _) (by simp) ?_;(case hd=>rfl);(case hg=>rfl);(case hr=>first|(go_simp;done)|(go_simp;rfl));(case hp=>exact (Reps.none _ _));intro v612 w42 ho43 hb hg_ hnew_;clear hg_ hnew_;(first|rw [←Ny611.out] at ho43|(simp only [Int.reduceToNat] at ho43;rw [←Ny611.out] at ho43));replace HO_3:=zRb HO_3 hb;replace HO_5:=zSb HO_5 hb;replace HO_10:=zSb HO_10 hb;replace HO_12:=zSb HO_12 hb;have HO613:=Aside0.mk (Kd.R_lower ho43 (below_size zb));replace HB:=zb1 hb;clear hb ho43;obtain ⟨Ao44,co44,eo44⟩:=Kd.R_slice HO613.out;subst eo44)|(go_at_call 45;(with_reducible refine (impl_LengthBound.calls k2 _ _ t589 t590 _ _ y611 t614 t615 _ ?side1 ?side2 ?side3 ?side4 A33.out).mono ?_);(case side1=>exact zC ((Kd.R_reads' HO_3.out).2.2));(case side2=>exact (Kd.R_reads' HO_3.out).2.1);(case side3=>exact zC ((Kd.R_reads' HO613.out).2.2));(case side4=>exact (Kd.R_reads' HO613.out).2.1);rintro e w45 ⟨rfl,hb⟩;replace HO_3:=zRb HO_3 hb;replace HO_5:=zSb HO_5 hb;replace HO_10:=zSb HO_10 hb;replace HO_12:=zSb HO_12 hb;replace HO613:=zRb HO613 hb;replace HB:=zb1 hb;(try clear hb))|(go_at_call 40;(with_reducible refine (impl_IsShared.calls k2 _ _ t589 t590 _ _ t600 true true _ ?side1 ?side2 ?side3 ?side4 A34.out).mono ?_);(case side1=>exact zC ((Kd.R_reads' HO_3.out).2.2));(case side2=>exact (Kd.R_reads' HO_3.out).2.1);(case side3=>exact zC ((Kd.S_reads' HO_10.out).2.2));(case side4=>exact (Kd.S_reads' HO_10.out).2.1);rintro e w46 ⟨rfl,hb⟩;replace HO_3:=zRb HO_3 hb;replace HO_5:=zSb HO_5 hb;replace HO_10:=zSb HO_10 hb;replace HO_12:=zSb HO_12 hb;replace HO613:=zRb HO613 hb;replace HB:=zb1 hb;(try clear hb))|(go_at_call 46;(with_reducible refine (laws_vLast.calls k2 _ _ t600 t618 _ ?side1 ?side2 A37.out).mono ?_);(case side1=>exact zC ((Kd.S_reads' HO_10.out).2.2));(case side2=>exact (Kd.S_reads' HO_10.out).2.1);rintro e w' ⟨rfl,⟨nd,rfl⟩⟩;(try first|exact ⟨rfl,_,World.drewN_drewN _ _ _⟩|exact ⟨rfl,_,Eq.trans (World.drewN_drewN _ _ _) (congrArg (World.drewN _) (Nat.add_assoc _ _ _))⟩))|(go_at_call 46;(with_reducible refine (laws_vLast.calls k2 _ _ t591 t619 _ ?side1 ?side2 A40.out).mono ?_);(case side1=>exact zC ((Kd.S_reads' HO_5.out).2.2));(case side2=>exact (Kd.S_reads' HO_5.out).2.1);rintro e w' ⟨rfl,⟨nd,rfl⟩⟩;(try first|exact ⟨rfl,_,World.drewN_drewN _ _ _⟩|exact ⟨rfl,_,Eq.trans (World.drewN_drewN _ _ _) (congrArg (World.drewN _) (Nat.add_assoc _ _ _))⟩)))
     repeat (go_quiet (first|((with_reducible refine gate_dst (N:=94) rfl ?_);(try (refine gate_guard (by rfl) ?_;dsimp only));refine Kd.R_lit k72 _ 72 ?hg (N:=94) ?hd (xs:=([]:List (S72))) (inner:=[]) (ok:=fun _=>True) (okp:=fun _=>True) ?hr ?hp (fun _ hk=>hk) trivial (Below.refl _ _) (Nat.le_refl _) (by simp) ?_;(case hd=>rfl);(case hg=>rfl);(case hr=>first|(go_simp;done)|(go_simp;rfl));(case hp=>exact (Reps.none _ _));intro v612 w42 ho43 hb hg_ hnew_;clear hg_ hnew_;(first|rw [←Ny611.out] at ho43|(simp only [Int.reduceToNat] at ho43;rw [←Ny611.out] at ho43));replace HO_3:=zRb HO_3 hb;replace HO_5:=zSb HO_5 hb;replace HO_10:=zSb HO_10 hb;replace HO_12:=zSb HO_12 hb;have HO613:=Aside0.mk (Kd.R_lower ho43 (below_size zb));replace HB:=zb1 hb;clear hb ho43;obtain ⟨Ao44,co44,eo44⟩:=Kd.R_slice HO613.out;subst eo44)|(go_at_call 45;(with_reducible refine (impl_LengthBound.calls k2 _ _ t589 t590 _ _ y611 t614 t615 _ ?side1 ?side2 ?side3 ?side4 A33.out).mono ?_);(case side1=>exact zC ((Kd.R_reads' HO_3.out).2.2));(case side2=>exact (Kd.R_reads' HO_3.out).2.1);(case side3=>exact zC ((Kd.R_reads' HO613.out).2.2));(case side4=>exact (Kd.R_reads' HO613.out).2.1);rintro e w45 ⟨rfl,hb⟩;replace HO_3:=zRb HO_3 hb;replace HO_5:=zSb HO_5 hb;replace HO_10:=zSb HO_10 hb;replace HO_12:=zSb HO_12 hb;replace HO613:=zRb HO613 hb;replace HB:=zb1 hb;(try clear hb))|(go_at_call 40;(with_reducible refine (impl_IsShared.calls k2 _ _ t589 t590 _ _ t600 true true _ ?side1 ?side2 ?side3 ?side4 A34.out).mono ?_);(case side1=>exact zC ((Kd.R_reads' HO_3.out).2.2));(case side2=>exact (Kd.R_reads' HO_3.out).2.1);(case side3=>exact zC ((Kd.S_reads' HO_10.out).2.2));(case side4=>exact (Kd.S_reads' HO_10.out).2.1);rintro e w46 ⟨rfl,hb⟩;replace HO_3:=zRb HO_3 hb;replace HO_5:=zSb HO_5 hb;replace HO_10:=zSb HO_10 hb;replace HO_12:=zSb HO_12 hb;replace HO613:=zRb HO613 hb;replace HB:=zb1 hb;(try clear hb))|(go_at_call 46;(with_reducible refine (laws_vLast.calls k2 _ _ t600 t618 _ ?side1 ?side2 A37.out).mono ?_);(case side1=>exact zC ((Kd.S_reads' HO_10.out).2.2));(case side2=>exact (Kd.S_reads' HO_10.out).2.1);rintro e w' ⟨rfl,⟨nd,rfl⟩⟩;(try first|exact ⟨rfl,_,World.drewN_drewN _ _ _⟩|exact ⟨rfl,_,Eq.trans (World.drewN_drewN _ _ _) (congrArg (World.drewN _) (Nat.add_assoc _ _ _))⟩))|(go_at_call 46;(with_reducible refine (laws_vLast.calls k2 _ _ t591 t619 _ ?side1 ?side2 A40.out).mono ?_);(case side1=>exact zC ((Kd.S_reads' HO_5.out).2.2));(case side2=>exact (Kd.S_reads' HO_5.out).2.1);rintro e w' ⟨rfl,⟨nd,rfl⟩⟩;(try first|exact ⟨rfl,_,World.drewN_drewN _ _ _⟩|exact ⟨rfl,_,Eq.trans (World.drewN_drewN _ _ _) (congrArg (World.drewN _) (Nat.add_assoc _ _ _))⟩)));try go_wp2_with (first|((with_reducible refine gate_dst (N:=94) rfl ?_);(try (refine gate_guard (by rfl) ?_;dsimp only));refine Kd.R_lit k72 _ 72 ?hg (N:=94) ?hd (xs:=([]:List (S72))) (inner:=[]) (ok:=fun _=>True) (okp:=fun _=>True) ?hr ?hp (fun _ hk=>hk) trivial (Below.refl _ _) (Nat.le_refl _) (by simp) ?_;(case hd=>rfl);(case hg=>rfl);(case hr=>first|(go_simp;done)|(go_simp;rfl));(case hp=>exact (Reps.none _ _));intro v612 w42 ho43 hb hg_ hnew_;clear hg_ hnew_;(first|rw [←Ny611.out] at ho43|(simp only [Int.reduceToNat] at ho43;rw [←Ny611.out] at ho43));replace HO_3:=zRb HO_3 hb;replace HO_5:=zSb HO_5 hb;replace HO_10:=zSb HO_10 hb;replace HO_12:=zSb HO_12 hb;have HO613:=Aside0.mk (Kd.R_lower ho43 (below_size zb));replace HB:=zb1 hb;clear hb ho43;obtain ⟨Ao44,co44,eo44⟩:=Kd.R_slice HO613.out;subst eo44)|(go_at_call 45;(with_reducible refine (impl_LengthBound.calls k2 _ _ t589 t590 _ _ y611 t614 t615 _ ?side1 ?side2 ?side3 ?side4 A33.out).mono ?_);(case side1=>exact zC ((Kd.R_reads' HO_3.out).2.2));(case side2=>exact (Kd.R_reads' HO_3.out).2.1);(case side3=>exact zC ((Kd.R_reads' HO613.out).2.2));(case side4=>exact (Kd.R_reads' HO613.out).2.1);rintro e w45 ⟨rfl,hb⟩;replace HO_3:=zRb HO_3 hb;replace HO_5:=zSb HO_5 hb;replace HO_10:=zSb HO_10 hb;replace HO_12:=zSb HO_12 hb;replace HO613:=zRb HO613 hb;replace HB:=zb1 hb;(try clear hb))|(go_at_call 40;(with_reducible refine (impl_IsShared.calls k2 _ _ t589 t590 _ _ t600 true true _ ?side1 ?side2 ?side3 ?side4 A34.out).mono ?_);(case side1=>exact zC ((Kd.R_reads' HO_3.out).2.2));(case side2=>exact (Kd.R_reads' HO_3.out).2.1);(case side3=>exact zC ((Kd.S_reads' HO_10.out).2.2));(case side4=>exact (Kd.S_reads' HO_10.out).2.1);rintro e w46 ⟨rfl,hb⟩;replace HO_3:=zRb HO_3 hb;replace HO_5:=zSb HO_5 hb;replace HO_10:=zSb HO_10 hb;replace HO_12:=zSb HO_12 hb;replace HO613:=zRb HO613 hb;replace HB:=zb1 hb;(try clear hb))|(go_at_call 46;(with_reducible refine (laws_vLast.calls k2 _ _ t600 t618 _ ?side1 ?side2 A37.out).mono ?_);(case side1=>exact zC ((Kd.S_reads' HO_10.out).2.2));(case side2=>exact (Kd.S_reads' HO_10.out).2.1);rintro e w' ⟨rfl,⟨nd,rfl⟩⟩;(try first|exact ⟨rfl,_,World.drewN_drewN _ _ _⟩|exact ⟨rfl,_,Eq.trans (World.drewN_drewN _ _ _) (congrArg (World.drewN _) (Nat.add_assoc _ _ _))⟩))|(go_at_call 46;(with_reducible refine (laws_vLast.calls k2 _ _ t591 t619 _ ?side1 ?side2 A40.out).mono ?_);(case side1=>exact zC ((Kd.S_reads' HO_5.out).2.2));(case side2=>exact (Kd.S_reads' HO_5.out).2.1);rintro e w' ⟨rfl,⟨nd,rfl⟩⟩;(try first|exact ⟨rfl,_,World.drewN_drewN _ _ _⟩|exact ⟨rfl,_,Eq.trans (World.drewN_drewN _ _ _) (congrArg (World.drewN _) (Nat.add_assoc _ _ _))⟩))))
     go_ret
     exact ⟨zz1,zb⟩

/-- THE ONE PURE STATEMENT of laws_FnShared: yours. -/
def laws_FnShared.Pure:Prop:=∀ (l0:List Int),l0.length≤maxLen→l0.length * 1≤140737488351232→(∀ x ∈ l0,(Lit.int .u8 x).wf=true)→∃ k,laws_FnShared.f k l0=some true
theorem laws_FnShared.walk (P:laws_FnShared.Pure) (a0:Option Addr) (len0 cap0:Nat) (z0:List Int) (w:World) (w0:(a0=none∧len0=0∧cap0=0∧z0=[])∨∃ x,a0=some x∧len0≤cap0∧cap0≤maxLen∧z0.length=cap0∧(∀ i,i<z0.length→w.cell? (x.add i)=some (.int .u8 (z0.getD i 0)))∧∀ n ∈ z0,(Lit.int .u8 n).wf=true) (y0:len0 * 1≤140737488351232) :
  Calls Try.prog 8 #[.slice a0 len0 cap0] w fun e w'=>e=.returned (.bool true)∧Below w.heap.size w w':=by
 obtain ⟨l0,rfl,hr0,hm0,hw0,hc0⟩:=ReadsInt.ofRowC w0
 obtain ⟨k,h⟩:=P l0 hm0 y0 hw0
 refine (laws_FnShared.calls k _ _ l0 true w (Kd.C_of_reads (d:=(0:Int)) (h1:=fun _=>rfl) hr0) hc0 h).mono ?_
 rintro e w' ⟨rfl,hd⟩
 exact ⟨rfl,hd⟩

end Go.Proofs.Ytbcfmegepkhlpaa.XFnShared
-- minified
