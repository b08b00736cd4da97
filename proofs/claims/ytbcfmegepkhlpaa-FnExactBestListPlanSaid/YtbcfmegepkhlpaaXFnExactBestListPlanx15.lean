-- Written by a program of this session (the kit's print, widened). Proved here: what each function answers, for the arguments that its contract names.
import Derived.Test.YtbcfmegepkhlpaaXFnExactBestListPlanx0
import Derived.Test.YtbcfmegepkhlpaaXFnExactBestListPlanx12
import Derived.Test.YtbcfmegepkhlpaaXFnExactBestListPlanx14
namespace Go.Proofs.Ytbcfmegepkhlpaa.XFnExactBestListPlan
open Go.RowKit Go.Proofs.YtbcfmegepkhlpaaW.PrintWords Go.Proofs.YtbcfmegepkhlpaaW.PrintLast Go.Proofs.YtbcfmegepkhlpaaW.PrintMore
attribute [local go_sem] max2_int min2_int max_two min_two max_three min_three max_four min_four   -- for this text's walks alone
attribute [local go_sem] idxA_72_0 idxA_72_1 fldS_96_0 fldS_96_1 fldS_96_2 fldS_111_0 fldS_111_1 fldS_111_2
set_option linter.unusedVariables false
set_option linter.unusedSimpArgs false

/-! ### spec_l7Length: function 134 -/
def spec_l7Length.l0:Nat→List (S76)→List (S92)→Int→Int→Option (Int)
 | 0,_,_,_,_=>none
 | k + 1,x0,x1,x5,x6=>if x6<(x1.length:Int) then (if 0≤x6 then (if x6<(x0.length:Int) then ((spec_l1Most.f x5 (wrap64 (((rd_T92 x1 x6).f2) + ((rd_T76 x0 x6).f0)))).bind fun t244=>(spec_l7Length.l0 k x0 x1 t244 (wrap64 (x6 + 1)))) else (none)) else (none)) else (some x5)
def spec_l7Length.f (k:Nat) (l0:List (S76)) (l1:List (S92)):Option (Int):=spec_l7Length.l0 k l0 l1 0 0
theorem spec_l7Length.mono_l:∀ k,(∀ y0 y1 y2 y3,LeO (spec_l7Length.l0 k y0 y1 y2 y3) (spec_l7Length.l0 (k + 1) y0 y1 y2 y3))
 | 0=>fun _ _ _ _ r h=>by simp [spec_l7Length.l0] at h
 | k + 1=>by
  have ih0:=spec_l7Length.mono_l k
  ·intro y0 y1 y2 y3
   unfold spec_l7Length.l0
   repeat' first
   | (with_reducible exact ih0 _ _ _ _)
   | (with_reducible exact LeO.refl _)
   | (with_reducible exact LeO.none _)
   | (with_reducible refine LeO.ite ?_ ?_)
   | (with_reducible refine LeO.bind ?_ (fun _=>?_))
   | exact ih0 _ _ _ _
   | exact LeO.none _
   | refine LeO.ite ?_ ?_
   | refine LeO.bind ?_ (fun _=>?_)
theorem spec_l7Length.mono:∀ a0 a1 k,LeO (spec_l7Length.f k a0 a1) (spec_l7Length.f (k + 1) a0 a1):=by
 intro a0 a1 k
 have ih0:=spec_l7Length.mono_l k
 unfold spec_l7Length.f
 repeat' first
   | (with_reducible exact ih0 _ _ _ _)
   | (with_reducible exact LeO.refl _)
   | (with_reducible exact LeO.none _)
   | (with_reducible refine LeO.ite ?_ ?_)
   | (with_reducible refine LeO.bind ?_ (fun _=>?_))
   | exact ih0 _ _ _ _
   | exact LeO.none _
   | refine LeO.ite ?_ ?_
   | refine LeO.bind ?_ (fun _=>?_)
set_option maxHeartbeats 8000000 in
set_option maxRecDepth 100000 in
theorem spec_l7Length.calls (k:Nat) (A0:Option Addr) (c0:Nat) (l0:List (S76)) (A1:Option Addr) (c1:Nat) (l1:List (S92)) (r:Int) (w:World) (hr0:Kd.C k76 w A0 l0.length l0) (hc0:l0.length≤c0) (hr1:Kd.C k92 w A1 l1.length l1) (hc1:l1.length≤c1) (h:spec_l7Length.f k l0 l1=some r) :
  Calls Try.prog 134 #[.slice A0 l0.length c0,.slice A1 l1.length c1] w fun e w'=>e=.returned (.int .i64 r)∧Drawn0 w w':=by
 have HR0:=Aside0.mk hr0
 have HC0:=Aside0.mk hc0
 clear hr0 hc0
 have HR1:=Aside0.mk hr1
 have HC1:=Aside0.mk hc1
 clear hr1 hc1
 have H:(spec_l7Length.l0 k l0 l1 0 0)=some r:=h
 clear h
 have H':=Aside0.mk H
 clear H
 go_enter Try.func134,Try.ntmps134
 go_wp2
 repeat (go_quiet (fail);try go_wp2)
 go_loopg [5,6] k (fun kq v5 v6 w'=>∃ (x5_1:Int) (x6_1:Int),v5=.int .i64 x5_1∧v6=.int .i64 x6_1∧Aside0 (spec_l7Length.l0 kq l0 l1 x5_1 x6_1=some r)∧Aside0 (kq≤k)∧Drawn0 w w')
 case atStart=>exact ⟨(0),(0),zo,zo,H',⟨Nat.le_refl _⟩,by repeat (first|exact Drawn0.refl _|apply Drawn0.step)⟩
 case round=>
  clear H'
  (try clear c1);(try clear p2)
  obtain ⟨x5_1,x6_1,rfl,rfl,HA,HK1,⟨m1,rfl⟩⟩:=hrel
  cases gk with
  | zero=>exact absurd HA.out (by simp [spec_l7Length.l0])
  | succ k1=>
   have H:=HA.out
   clear HA
   simp only [spec_l7Length.l0] at H
   by_cases c3:x6_1<(l1.length:Int)
   ·rw [if_pos c3] at H
    have c3b0:decide (x6_1<(l1.length:Int))=true:=decide_eq_true c3
    clear c3
    by_cases c4:0≤x6_1
    ·rw [if_pos c4] at H
     have c4b0:decide (0≤x6_1)=true:=decide_eq_true c4
     clear c4
     by_cases c5:x6_1<(l0.length:Int)
     ·rw [if_pos c5] at H
      have c5b0:decide (x6_1<(l0.length:Int))=true:=decide_eq_true c5
      clear c5
      replace H:=Option.bind_eq_some_iff.mp H
      obtain ⟨t244,A60,H⟩:=H
      replace H:(spec_l7Length.l0 k1 l0 l1 t244 (wrap64 (x6_1 + 1)))=some r:=H
      have A6:=Aside0.mk A60
      clear A60
      have H':=Aside0.mk H
      clear H
      have p242:0≤(x6_1:Int):=of_decide_eq_true za
      have q242:x6_1<(l1.length:Int):=of_decide_eq_true za
      obtain ⟨ad242,e242,hx242_0,hx242_1,hx242_2⟩:=at_T92 HR1.out x6_1 p242 q242
      cases e242
      replace p242:=eq_true p242
      replace q242:=eq_true q242
      have p243:0≤(x6_1:Int):=of_decide_eq_true za
      have q243:x6_1<(l0.length:Int):=of_decide_eq_true za
      obtain ⟨ad243,e243,hx243_0,hx243_1,hx243_2,hx243_3⟩:=at_T76 HR0.out x6_1 p243 q243
      cases e243
      replace p243:=eq_true p243
      replace q243:=eq_true q243
      go_wp2_with (first|(go_at_call 145;(with_reducible refine (spec_l1Most.calls x5_1 (wrap64 (((rd_T92 l1 x6_1).f2) + ((rd_T76 l0 x6_1).f0))) t244 _ A6.out).mono ?_);rintro e w' ⟨rfl,⟨nd,rfl⟩⟩;(try first|exact ⟨rfl,_,World.drewN_drewN _ _ _⟩|exact ⟨rfl,_,Eq.trans (World.drewN_drewN _ _ _) (congrArg (World.drewN _) (Nat.add_assoc _ _ _))⟩)))
      repeat (go_quiet (first|(go_at_call 145;(with_reducible refine (spec_l1Most.calls x5_1 (wrap64 (((rd_T92 l1 x6_1).f2) + ((rd_T76 l0 x6_1).f0))) t244 _ A6.out).mono ?_);rintro e w' ⟨rfl,⟨nd,rfl⟩⟩;(try first|exact ⟨rfl,_,World.drewN_drewN _ _ _⟩|exact ⟨rfl,_,Eq.trans (World.drewN_drewN _ _ _) (congrArg (World.drewN _) (Nat.add_assoc _ _ _))⟩)));try go_wp2_with (first|(go_at_call 145;(with_reducible refine (spec_l1Most.calls x5_1 (wrap64 (((rd_T92 l1 x6_1).f2) + ((rd_T76 l0 x6_1).f0))) t244 _ A6.out).mono ?_);rintro e w' ⟨rfl,⟨nd,rfl⟩⟩;(try first|exact ⟨rfl,_,World.drewN_drewN _ _ _⟩|exact ⟨rfl,_,Eq.trans (World.drewN_drewN _ _ _) (congrArg (World.drewN _) (Nat.add_assoc _ _ _))⟩))))
      go_roundg k1
      case measure=>have:=HK1.out;omega
      case rel=>exact ⟨(t244),(wrap64 (x6_1 + 1)),zo,zo,H',⟨by have:=HK1.out;omega⟩,by repeat (first|exact Drawn0.refl _|apply Drawn0.step)⟩
     ·rw [if_neg c5] at H
      exact absurd H (by simp)
    ·rw [if_neg c4] at H
     exact absurd H (by simp)
   ·rw [if_neg c3] at H
    have c3b0:decide (x6_1<(l1.length:Int))=false:=decide_eq_false c3
    clear c3
    obtain rfl:=Option.some.inj H
    go_wp2
    repeat (go_quiet (fail);try go_wp2)
    go_ret
    exact ⟨by first|rfl|(simp;done)|(simp [*];done),by repeat (first|exact Drawn0.refl _|apply Drawn0.step)⟩

/-! ### spec_l7Best: function 81 -/
mutual
def spec_l7Best.l0:Nat→List (S76)→Int→List (S72)→List Int→List Int→Int→Option (List Int)
 | 0,_,_,_,_,_,_=>none
 | k + 1,x0,x1,x2,x3,x4,x11=>if x11<(x0.length:Int) then ((spec_l1Has.f k x3 x11).bind fun t253=>(if t253=true then (spec_l7Best.l0 k x0 x1 x2 x3 x4 (wrap64 (x11 + 1))) else ((spec_l1Own.f x3).bind fun t254=>(if t254.length<17592186044416 then ((spec_l7Best.f k x0 x1 x2 (t254++[x11]) x4).bind fun t260=>(spec_l7Best.l0 k x0 x1 x2 x3 t260 (wrap64 (x11 + 1)))) else (none))))) else (some x4)
def spec_l7Best.f:Nat→List (S76)→Int→List (S72)→List Int→List Int→Option (List Int)
 | 0,_,_,_,_,_=>none
 | k + 1,l0,a1,l2,l3,l4=>if (l3.length:Int)=(l0.length:Int) then (if (l4.length:Int)=0 then (some l3) else ((spec_l7List.f k l0 a1 l2 l3).bind fun t245=>((spec_l7Length.f k l0 t245).bind fun t248=>((spec_l7List.f k l0 a1 l2 l4).bind fun t249=>((spec_l7Length.f k l0 t249).bind fun t252=>(if t248<t252 then (some l3) else (some l4))))))) else (spec_l7Best.l0 k l0 a1 l2 l3 l4 0)
end
theorem spec_l7Best.mono_l:∀ k,(∀ y0 y1 y2 y3 y4,LeO (spec_l7Best.f k y0 y1 y2 y3 y4) (spec_l7Best.f (k + 1) y0 y1 y2 y3 y4))∧(∀ y0 y1 y2 y3 y4 y5,LeO (spec_l7Best.l0 k y0 y1 y2 y3 y4 y5) (spec_l7Best.l0 (k + 1) y0 y1 y2 y3 y4 y5))
 | 0=>⟨fun _ _ _ _ _ r h=>by simp [spec_l7Best.f] at h,fun _ _ _ _ _ _ r h=>by simp [spec_l7Best.l0] at h⟩
 | k + 1=>by
  obtain ⟨ih0,ih1⟩:=spec_l7Best.mono_l k
  refine ⟨?_,?_⟩
  ·intro y0 y1 y2 y3 y4
   unfold spec_l7Best.f
   repeat' first
   | (with_reducible exact ih0 _ _ _ _ _)
   | (with_reducible exact ih1 _ _ _ _ _ _)
   | (with_reducible exact spec_l1Has.mono _ _ _)
   | (with_reducible exact spec_l7Length.mono _ _ _)
   | (with_reducible exact spec_l7List.mono _ _ _ _ _)
   | (with_reducible exact LeO.refl _)
   | (with_reducible exact LeO.none _)
   | (with_reducible refine LeO.ite ?_ ?_)
   | (with_reducible refine LeO.bind ?_ (fun _=>?_))
   | exact ih0 _ _ _ _ _
   | exact ih1 _ _ _ _ _ _
   | exact spec_l1Has.mono _ _ _
   | exact spec_l7Length.mono _ _ _
   | exact spec_l7List.mono _ _ _ _ _
   | exact LeO.none _
   | refine LeO.ite ?_ ?_
   | refine LeO.bind ?_ (fun _=>?_)
  ·intro y0 y1 y2 y3 y4 y5
   unfold spec_l7Best.l0
   repeat' first
   | (with_reducible exact ih0 _ _ _ _ _)
   | (with_reducible exact ih1 _ _ _ _ _ _)
   | (with_reducible exact spec_l1Has.mono _ _ _)
   | (with_reducible exact spec_l7Length.mono _ _ _)
   | (with_reducible exact spec_l7List.mono _ _ _ _ _)
   | (with_reducible exact LeO.refl _)
   | (with_reducible exact LeO.none _)
   | (with_reducible refine LeO.ite ?_ ?_)
   | (with_reducible refine LeO.bind ?_ (fun _=>?_))
   | exact ih0 _ _ _ _ _
   | exact ih1 _ _ _ _ _ _
   | exact spec_l1Has.mono _ _ _
   | exact spec_l7Length.mono _ _ _
   | exact spec_l7List.mono _ _ _ _ _
   | exact LeO.none _
   | refine LeO.ite ?_ ?_
   | refine LeO.bind ?_ (fun _=>?_)
theorem spec_l7Best.mono:∀ a0 a1 a2 a3 a4 k,LeO (spec_l7Best.f k a0 a1 a2 a3 a4) (spec_l7Best.f (k + 1) a0 a1 a2 a3 a4):=by
 intro a0 a1 a2 a3 a4 k
 obtain ⟨ih0,ih1⟩:=spec_l7Best.mono_l k
 exact ih0 a0 a1 a2 a3 a4
set_option maxHeartbeats 8000000 in
set_option maxRecDepth 100000 in
theorem spec_l7Best.calls (k:Nat):∀ (A0:Option Addr) (c0:Nat) (l0:List (S76)) (a1:Int) (A2:Option Addr) (c2:Nat) (l2:List (S72)) (P3_:Nat→Prop) (u9000_:Value) (l3:List Int) (P4_:Nat→Prop) (A4:Option Addr) (c4:Nat) (l4:List Int) (r:List Int) (w0 w:World) (hB:Below w0.heap.size w0 w) (hr0:∀ W_,Kept w W_ (fun k_=>P3_ k_)→Kd.C k76 W_ A0 l0.length l0) (hc0:l0.length≤c0) (hr2:∀ W_,Kept w W_ (fun k_=>P3_ k_)→Kd.C k72 W_ A2 l2.length l2) (hc2:l2.length≤c2) (ho3:Kd.R (Kd.int .i64) 3 w w0.heap.size P3_ u9000_ l3) (hs4:Kd.V (Kd.int .i64) 3 w w0.heap.size (fun k_=>P4_ k_∧some k_≠(u9000_:Value).ownBlock) (.slice A4 l4.length c4) l4) (h:spec_l7Best.f k l0 a1 l2 l3 l4=some r),
  Calls Try.prog 81 #[.slice A0 l0.length c0,.int .i64 a1,.slice A2 l2.length c2,u9000_,.slice A4 l4.length c4] w fun e w'=>∃ v0_:Value,e=.returned (v0_)∧Kd.V (Kd.int .i64) 3 w' w0.heap.size (fun k_=>((P3_ k_∨P4_ k_)∨w.heap.size≤k_)) v0_ r∧Below w0.heap.size w0 w'∧Kept w w' (fun k_=>P3_ k_):=by
 induction k using Nat.strongRecOn with
 | _ k ih=>
 intro A0 c0 l0 a1 A2 c2 l2 P3_ u9000_ l3 P4_ A4 c4 l4 r w0 w hB hr0 hc0 hr2 hc2 ho3 hs4 h
 cases k with
 | zero=>exact absurd h (by simp [spec_l7Best.f])
 | succ k=>
 simp only [spec_l7Best.f] at h
 have HR0:=Aside0.mk hr0
 have HC0:=Aside0.mk hc0
 clear hr0 hc0
 have HR2:=Aside0.mk hr2
 have HC2:=Aside0.mk hc2
 clear hr2 hc2
 have HO3:=Aside0.mk (show Kd.R (Kd.int .i64) 3 w w0.heap.size (fun k_=>(P3_ k_∨w.heap.size≤k_)) u9000_ l3 from Kd.R_mono ho3 (fun k_ hk=>(.inl hk)))
 have HO4:=Aside0.mk (show Kd.V (Kd.int .i64) 3 w w0.heap.size (fun k_=>((P3_ k_∨P4_ k_)∨w.heap.size≤k_)∧some k_≠(u9000_:Value).ownBlock) (.slice A4 l4.length c4) l4 from Kd.V_mono hs4 (fun k_ hk=>⟨.inl (.inr hk.1),hk.2⟩))
 have HK:=Aside0.mk (Kept.refl w (fun k_=>P3_ k_))
 have HW0:=Aside0.mk hB.size
 have HB:=Aside0.mk hB
 clear hB
 have H:(if (l3.length:Int)=(l0.length:Int) then (if (l4.length:Int)=0 then (some l3) else ((spec_l7List.f k l0 a1 l2 l3).bind fun t245=>((spec_l7Length.f k l0 t245).bind fun t248=>((spec_l7List.f k l0 a1 l2 l4).bind fun t249=>((spec_l7Length.f k l0 t249).bind fun t252=>(if t248<t252 then (some l3) else (some l4))))))) else (spec_l7Best.l0 k l0 a1 l2 l3 l4 0))=some r:=h
 clear h
 by_cases c6:(l3.length:Int)=(l0.length:Int)
 ·rw [if_pos c6] at H
  have c6b0:((l3.length:Int) == (l0.length:Int))=true:=beq_iff_eq.mpr c6
  have c6b1:((l3.length:Int) != (l0.length:Int))=false:=bne_eq_false_iff_eq.mpr c6
  have c6b2:(l3.length == l0.length)=true:=by first|simpa using c6|(simp at c6 ⊢;omega)
  clear c6
  by_cases c7:(l4.length:Int)=0
  ·rw [if_pos c7] at H
   have c7b0:((l4.length:Int) == 0)=true:=beq_iff_eq.mpr c7
   have c7b1:((l4.length:Int) != 0)=false:=bne_eq_false_iff_eq.mpr c7
   clear c7
   obtain rfl:=Option.some.inj H
   obtain ⟨Ao8,co8,eo8⟩:=Kd.R_slice HO3.out
   subst eo8
   go_enter Try.func81,Try.ntmps81
   go_wp2
   go_ret
   exact ⟨_,by first|rfl|(simp [errW_none,errW_some] <;> rfl)|(simp [*,errW_none,errW_some] <;> rfl),Kd.V_mono (Kd.R_V (zR HO3.out)) (fun k_ hk=>by first|exact ⟨(Or.imp_left (fun h_=>(.inl h_)) (hk.1)),hk.2⟩|exact (Or.imp_left (fun h_=>(.inl h_)) (hk))),by repeat (first|(with_reducible first|exact HB.out|apply below_alloc|apply pw_below_drewN|apply below_drew1)|exact HB.out),by repeat (first|(with_reducible first|exact HK.out|apply Kept.alloc|apply Kept.drewN|apply Kept.drew)|exact HK.out)⟩
  ·rw [if_neg c7] at H
   have c7b0:((l4.length:Int) == 0)=false:=beq_eq_false_iff_ne.mpr c7
   have c7b1:((l4.length:Int) != 0)=true:=bne_iff_ne.mpr c7
   have c7b2:¬ (l4=[]):=fun h_=>c7 (by rw [h_];rfl)
   replace H:=Option.bind_eq_some_iff.mp H
   obtain ⟨t245,A90,H⟩:=H
   replace H:((spec_l7Length.f k l0 t245).bind fun t248=>((spec_l7List.f k l0 a1 l2 l4).bind fun t249=>((spec_l7Length.f k l0 t249).bind fun t252=>(if t248<t252 then (some l3) else (some l4)))))=some r:=H
   have A9:=Aside0.mk A90
   clear A90
   replace H:=Option.bind_eq_some_iff.mp H
   obtain ⟨t248,A100,H⟩:=H
   replace H:((spec_l7List.f k l0 a1 l2 l4).bind fun t249=>((spec_l7Length.f k l0 t249).bind fun t252=>(if t248<t252 then (some l3) else (some l4))))=some r:=H
   have A10:=Aside0.mk A100
   clear A100
   replace H:=Option.bind_eq_some_iff.mp H
   obtain ⟨t249,A110,H⟩:=H
   replace H:((spec_l7Length.f k l0 t249).bind fun t252=>(if t248<t252 then (some l3) else (some l4)))=some r:=H
   have A11:=Aside0.mk A110
   clear A110
   replace H:=Option.bind_eq_some_iff.mp H
   obtain ⟨t252,A120,H⟩:=H
   replace H:(if t248<t252 then (some l3) else (some l4))=some r:=H
   have A12:=Aside0.mk A120
   clear A120
   by_cases c13:t248<t252
   ·rw [if_pos c13] at H
    have c13b0:decide (t248<t252)=true:=decide_eq_true c13
    clear c13
    obtain rfl:=Option.some.inj H
    obtain ⟨Ao14,co14,eo14⟩:=Kd.R_slice HO3.out
    subst eo14
    go_enter Try.func81,Try.ntmps81
    go_wp2_with (first|(go_at_call 57;(with_reducible refine (spec_l7List.calls k _ _ l0 a1 _ _ l2 _ _ l3 t245 _ ?side1 ?side2 ?side3 ?side4 ?side5 ?side6 A9.out).mono ?_);(case side1=>exact Kd.C_kept_now HR0.out (by repeat (first|(with_reducible first|exact HK.out|apply Kept.alloc|apply Kept.drewN|apply Kept.drew)|exact HK.out)));(case side2=>exact HC0.out);(case side3=>exact Kd.C_kept_now HR2.out (by repeat (first|(with_reducible first|exact HK.out|apply Kept.alloc|apply Kept.drewN|apply Kept.drew)|exact HK.out)));(case side4=>exact HC2.out);(case side5=>exact zC ((Kd.R_reads' HO3.out).2.2));(case side6=>exact (Kd.R_reads' HO3.out).2.1);rintro e w15 ⟨v246,rfl,ho0,hb⟩;have n0_:=Aside0.mk (Kd.R_below (zR HO3.out) hb);have n1_:=Aside0.mk (Kd.V_elder' (by (with_reducible repeat (first|apply Kd.V_alloc|apply Kd.V_drewN|apply Kd.V_drew));exact HO4.out) (Kd.R_base ho0) hb);have n2_:=Aside0.mk (Kd.R_lower (Kd.R_newM (M:=fun k_=>(P3_ k_∨w.heap.size≤k_)) ho0 (by first|exact HK.out.1|exact (show Kept w _ (fun k_=>P3_ k_) from by repeat (first|(with_reducible first|exact HK.out|apply Kept.alloc|apply Kept.drewN|apply Kept.drew)|exact HK.out)).1) (fun k_ h_=>.inr h_)) (below_size zb));have n3_:=Aside0.mk (Kept.below (S:=(fun k_=>P3_ k_)) (by repeat (first|(with_reducible first|exact HK.out|apply Kept.alloc|apply Kept.drewN|apply Kept.drew)|exact HK.out)) hb);have n4_:=Aside0.mk (below_step zb hb);clear HO3;clear HO4;clear HK;clear HB;have HO3:=n0_;have HO4:=n1_;have HO247:=n2_;have HK:=n3_;have HB:=n4_;clear n0_ n1_ n2_ n3_ n4_;(try clear hb);(try clear hb2);(try clear hk);(try clear hi);(try clear ho0);obtain ⟨Ao16,co16,eo16⟩:=Kd.R_slice HO247.out;subst eo16)|(go_at_call 134;(with_reducible refine (spec_l7Length.calls k _ _ l0 _ _ t245 t248 _ ?side1 ?side2 ?side3 ?side4 A10.out).mono ?_);(case side1=>exact Kd.C_kept_now HR0.out (by repeat (first|(with_reducible first|exact HK.out|apply Kept.alloc|apply Kept.drewN|apply Kept.drew)|exact HK.out)));(case side2=>exact HC0.out);(case side3=>exact zC ((Kd.R_reads' HO247.out).2.2));(case side4=>exact (Kd.R_reads' HO247.out).2.1);rintro e w' ⟨rfl,⟨nd,rfl⟩⟩)|(go_at_call 57;(with_reducible refine (spec_l7List.calls k _ _ l0 a1 _ _ l2 _ _ l4 t249 _ ?side1 ?side2 ?side3 ?side4 ?side5 ?side6 A11.out).mono ?_);(case side1=>exact Kd.C_kept_now HR0.out (by repeat (first|(with_reducible first|exact HK.out|apply Kept.alloc|apply Kept.drewN|apply Kept.drew)|exact HK.out)));(case side2=>exact HC0.out);(case side3=>exact Kd.C_kept_now HR2.out (by repeat (first|(with_reducible first|exact HK.out|apply Kept.alloc|apply Kept.drewN|apply Kept.drew)|exact HK.out)));(case side4=>exact HC2.out);(case side5=>exact zC ((Kd.V_reads' HO4.out).2.2));(case side6=>exact (Kd.V_reads' HO4.out).2.1);rintro e w17 ⟨v250,rfl,ho0,hb⟩;have n0_:=Aside0.mk (Kd.R_below (zR HO3.out) hb);have n1_:=Aside0.mk (Kd.V_elder' (by (with_reducible repeat (first|apply Kd.V_alloc|apply Kd.V_drewN|apply Kd.V_drew));exact HO4.out) (Kd.R_base ho0) hb);have n2_:=Aside0.mk (Kd.R_elder' (zR HO247.out) (Kd.R_base ho0) hb);have n3_:=Aside0.mk (Kd.R_lower (Kd.R_new' (Kd.R_newM (M:=fun k_=>(P3_ k_∨w.heap.size≤k_)) ho0 (by first|exact HK.out.1|exact (show Kept w _ (fun k_=>P3_ k_) from by repeat (first|(with_reducible first|exact HK.out|apply Kept.alloc|apply Kept.drewN|apply Kept.drew)|exact HK.out)).1) (fun k_ h_=>.inr h_)) (Kd.R_lt (zR HO247.out))) (below_size zb));have n4_:=Aside0.mk (Kept.below (S:=(fun k_=>P3_ k_)) (by repeat (first|(with_reducible first|exact HK.out|apply Kept.alloc|apply Kept.drewN|apply Kept.drew)|exact HK.out)) hb);have n5_:=Aside0.mk (below_step zb hb);clear HO3;clear HO4;clear HO247;clear HK;clear HB;have HO3:=n0_;have HO4:=n1_;have HO247:=n2_;have HO251:=n3_;have HK:=n4_;have HB:=n5_;clear n0_ n1_ n2_ n3_ n4_ n5_;(try clear hb);(try clear hb2);(try clear hk);(try clear hi);(try clear ho0);obtain ⟨Ao18,co18,eo18⟩:=Kd.R_slice HO251.out;subst eo18)|(go_at_call 134;(with_reducible refine (spec_l7Length.calls k _ _ l0 _ _ t249 t252 _ ?side1 ?side2 ?side3 ?side4 A12.out).mono ?_);(case side1=>exact Kd.C_kept_now HR0.out (by repeat (first|(with_reducible first|exact HK.out|apply Kept.alloc|apply Kept.drewN|apply Kept.drew)|exact HK.out)));(case side2=>exact HC0.out);(case side3=>exact zC ((Kd.R_reads' HO251.out).2.2));(case side4=>exact (Kd.R_reads' HO251.out).2.1);rintro e w' ⟨rfl,⟨nd,rfl⟩⟩))
    go_ret
    exact ⟨_,by first|rfl|(simp [errW_none,errW_some] <;> rfl)|(simp [*,errW_none,errW_some] <;> rfl),Kd.V_mono (Kd.R_V (zR HO3.out)) (fun k_ hk=>by first|exact ⟨(Or.imp_left (fun h_=>(.inl h_)) (hk.1)),hk.2⟩|exact (Or.imp_left (fun h_=>(.inl h_)) (hk))),by repeat (first|(with_reducible first|exact HB.out|apply below_alloc|apply pw_below_drewN|apply below_drew1)|exact HB.out),by repeat (first|(with_reducible first|exact HK.out|apply Kept.alloc|apply Kept.drewN|apply Kept.drew)|exact HK.out)⟩
   ·rw [if_neg c13] at H
    have c13b0:decide (t248<t252)=false:=decide_eq_false c13
    clear c13
    obtain rfl:=Option.some.inj H
    obtain ⟨Ao19,co19,eo19⟩:=Kd.R_slice HO3.out
    subst eo19
    go_enter Try.func81,Try.ntmps81
    go_wp2_with (first|(go_at_call 57;(with_reducible refine (spec_l7List.calls k _ _ l0 a1 _ _ l2 _ _ l3 t245 _ ?side1 ?side2 ?side3 ?side4 ?side5 ?side6 A9.out).mono ?_);(case side1=>exact Kd.C_kept_now HR0.out (by repeat (first|(with_reducible first|exact HK.out|apply Kept.alloc|apply Kept.drewN|apply Kept.drew)|exact HK.out)));(case side2=>exact HC0.out);(case side3=>exact Kd.C_kept_now HR2.out (by repeat (first|(with_reducible first|exact HK.out|apply Kept.alloc|apply Kept.drewN|apply Kept.drew)|exact HK.out)));(case side4=>exact HC2.out);(case side5=>exact zC ((Kd.R_reads' HO3.out).2.2));(case side6=>exact (Kd.R_reads' HO3.out).2.1);rintro e w20 ⟨v246,rfl,ho0,hb⟩;have n0_:=Aside0.mk (Kd.R_below (zR HO3.out) hb);have n1_:=Aside0.mk (Kd.V_elder' (by (with_reducible repeat (first|apply Kd.V_alloc|apply Kd.V_drewN|apply Kd.V_drew));exact HO4.out) (Kd.R_base ho0) hb);have n2_:=Aside0.mk (Kd.R_lower (Kd.R_newM (M:=fun k_=>(P3_ k_∨w.heap.size≤k_)) ho0 (by first|exact HK.out.1|exact (show Kept w _ (fun k_=>P3_ k_) from by repeat (first|(with_reducible first|exact HK.out|apply Kept.alloc|apply Kept.drewN|apply Kept.drew)|exact HK.out)).1) (fun k_ h_=>.inr h_)) (below_size zb));have n3_:=Aside0.mk (Kept.below (S:=(fun k_=>P3_ k_)) (by repeat (first|(with_reducible first|exact HK.out|apply Kept.alloc|apply Kept.drewN|apply Kept.drew)|exact HK.out)) hb);have n4_:=Aside0.mk (below_step zb hb);clear HO3;clear HO4;clear HK;clear HB;have HO3:=n0_;have HO4:=n1_;have HO247:=n2_;have HK:=n3_;have HB:=n4_;clear n0_ n1_ n2_ n3_ n4_;(try clear hb);(try clear hb2);(try clear hk);(try clear hi);(try clear ho0);obtain ⟨Ao21,co21,eo21⟩:=Kd.R_slice HO247.out;subst eo21)|(go_at_call 134;(with_reducible refine (spec_l7Length.calls k _ _ l0 _ _ t245 t248 _ ?side1 ?side2 ?side3 ?side4 A10.out).mono ?_);(case side1=>exact Kd.C_kept_now HR0.out (by repeat (first|(with_reducible first|exact HK.out|apply Kept.alloc|apply Kept.drewN|apply Kept.drew)|exact HK.out)));(case side2=>exact HC0.out);(case side3=>exact zC ((Kd.R_reads' HO247.out).2.2));(case side4=>exact (Kd.R_reads' HO247.out).2.1);rintro e w' ⟨rfl,⟨nd,rfl⟩⟩)|(go_at_call 57;(with_reducible refine (spec_l7List.calls k _ _ l0 a1 _ _ l2 _ _ l4 t249 _ ?side1 ?side2 ?side3 ?side4 ?side5 ?side6 A11.out).mono ?_);(case side1=>exact Kd.C_kept_now HR0.out (by repeat (first|(with_reducible first|exact HK.out|apply Kept.alloc|apply Kept.drewN|apply Kept.drew)|exact HK.out)));(case side2=>exact HC0.out);(case side3=>exact Kd.C_kept_now HR2.out (by repeat (first|(with_reducible first|exact HK.out|apply Kept.alloc|apply Kept.drewN|apply Kept.drew)|exact HK.out)));(case side4=>exact HC2.out);(case side5=>exact zC ((Kd.V_reads' HO4.out).2.2));(case side6=>exact (Kd.V_reads' HO4.out).2.1);rintro e w22 ⟨v250,rfl,ho0,hb⟩;have n0_:=Aside0.mk (Kd.R_below (zR HO3.out) hb);have n1_:=Aside0.mk (Kd.V_elder' (by (with_reducible repeat (first|apply Kd.V_alloc|apply Kd.V_drewN|apply Kd.V_drew));exact HO4.out) (Kd.R_base ho0) hb);have n2_:=Aside0.mk (Kd.R_elder' (zR HO247.out) (Kd.R_base ho0) hb);have n3_:=Aside0.mk (Kd.R_lower (Kd.R_new' (Kd.R_newM (M:=fun k_=>(P3_ k_∨w.heap.size≤k_)) ho0 (by first|exact HK.out.1|exact (show Kept w _ (fun k_=>P3_ k_) from by repeat (first|(with_reducible first|exact HK.out|apply Kept.alloc|apply Kept.drewN|apply Kept.drew)|exact HK.out)).1) (fun k_ h_=>.inr h_)) (Kd.R_lt (zR HO247.out))) (below_size zb));have n4_:=Aside0.mk (Kept.below (S:=(fun k_=>P3_ k_)) (by repeat (first|(with_reducible first|exact HK.out|apply Kept.alloc|apply Kept.drewN|apply Kept.drew)|exact HK.out)) hb);have n5_:=Aside0.mk (below_step zb hb);clear HO3;clear HO4;clear HO247;clear HK;clear HB;have HO3:=n0_;have HO4:=n1_;have HO247:=n2_;have HO251:=n3_;have HK:=n4_;have HB:=n5_;clear n0_ n1_ n2_ n3_ n4_ n5_;(try clear hb);(try clear hb2);(try clear hk);(try clear hi);(try clear ho0);obtain ⟨Ao23,co23,eo23⟩:=Kd.R_slice HO251.out;subst eo23)|(go_at_call 134;(with_reducible refine (spec_l7Length.calls k _ _ l0 _ _ t249 t252 _ ?side1 ?side2 ?side3 ?side4 A12.out).mono ?_);(case side1=>exact Kd.C_kept_now HR0.out (by repeat (first|(with_reducible first|exact HK.out|apply Kept.alloc|apply Kept.drewN|apply Kept.drew)|exact HK.out)));(case side2=>exact HC0.out);(case side3=>exact zC ((Kd.R_reads' HO251.out).2.2));(case side4=>exact (Kd.R_reads' HO251.out).2.1);rintro e w' ⟨rfl,⟨nd,rfl⟩⟩))
    go_ret
    exact ⟨_,by first|rfl|(simp [errW_none,errW_some] <;> rfl)|(simp [*,errW_none,errW_some] <;> rfl),by (with_reducible repeat (first|apply Kd.V_alloc|apply Kd.V_drewN|apply Kd.V_drew));exact Kd.V_mono HO4.out (fun _ hk=>hk.1.1.1),by repeat (first|(with_reducible first|exact HB.out|apply below_alloc|apply pw_below_drewN|apply below_drew1)|exact HB.out),by repeat (first|(with_reducible first|exact HK.out|apply Kept.alloc|apply Kept.drewN|apply Kept.drew)|exact HK.out)⟩
 ·rw [if_neg c6] at H
  have c6b0:((l3.length:Int) == (l0.length:Int))=false:=beq_eq_false_iff_ne.mpr c6
  have c6b1:((l3.length:Int) != (l0.length:Int))=true:=bne_iff_ne.mpr c6
  have c6b2:(l3.length == l0.length)=false:=by first|simpa using c6|(simp at c6 ⊢;omega)
  have H':=Aside0.mk H
  clear H
  obtain ⟨Ao24,co24,eo24⟩:=Kd.R_slice HO3.out
  subst eo24
  go_enter Try.func81,Try.ntmps81
  go_wp2
  go_loopg [4,11] k (fun kq v4 v11 w'=>∃ (x4_1:List Int) (x11_1:Int),v11=.int .i64 x11_1∧Aside0 (spec_l7Best.l0 kq l0 a1 l2 l3 x4_1 x11_1=some r)∧Aside0 (kq≤k)∧Aside0 (Kd.R (Kd.int .i64) 3 w' w0.heap.size (fun k_=>(P3_ k_∨w.heap.size≤k_)) (.slice Ao24 l3.length co24) l3)∧Aside0 (Kd.V (Kd.int .i64) 3 w' w0.heap.size (fun k_=>((P3_ k_∨P4_ k_)∨w.heap.size≤k_)∧some k_≠((.slice Ao24 l3.length co24):Value).ownBlock) v4 x4_1)∧Aside0 (Kept w w' (fun k_=>P3_ k_))∧Aside0 (Below w0.heap.size w0 w'))
  case atStart=>exact ⟨(l4),(0),zo,H',⟨Nat.le_refl _⟩,⟨zR HO3.out⟩,⟨by (with_reducible repeat (first|apply Kd.V_alloc|apply Kd.V_drewN|apply Kd.V_drew));exact HO4.out⟩,⟨by repeat (first|(with_reducible first|exact HK.out|apply Kept.alloc|apply Kept.drewN|apply Kept.drew)|exact HK.out)⟩,⟨zb⟩⟩
  case round=>
   clear H'
   (try clear c1);(try clear c2);(try clear p2);(try clear c4);(try clear c6);(try clear c6b0);(try clear c6b1);(try clear c6b2);(try clear c7);(try clear c7b0);(try clear c7b1);(try clear c7b2);(try clear c8);(try clear c13);(try clear c13b0)
   obtain ⟨x4_1,x11_1,rfl,HA,HK1,HO_3,HO_4,HK,HB⟩:=hrel
   cases gk with
   | zero=>exact absurd HA.out (by simp [spec_l7Best.l0])
   | succ k1=>
    have H:=HA.out
    clear HA
    simp only [spec_l7Best.l0] at H
    by_cases c25:x11_1<(l0.length:Int)
    ·rw [if_pos c25] at H
     have c25b0:decide (x11_1<(l0.length:Int))=true:=decide_eq_true c25
     clear c25
     replace H:=Option.bind_eq_some_iff.mp H
     obtain ⟨t253,A260,H⟩:=H
     replace H:(if t253=true then (spec_l7Best.l0 k1 l0 a1 l2 l3 x4_1 (wrap64 (x11_1 + 1))) else ((spec_l1Own.f l3).bind fun t254=>(if t254.length<17592186044416 then ((spec_l7Best.f k1 l0 a1 l2 (t254++[x11_1]) x4_1).bind fun t260=>(spec_l7Best.l0 k1 l0 a1 l2 l3 t260 (wrap64 (x11_1 + 1)))) else (none))))=some r:=H
     have A26:=Aside0.mk A260
     clear A260
     by_cases c27:t253=true
     ·subst c27
      have H1:(spec_l7Best.l0 k1 l0 a1 l2 l3 x4_1 (wrap64 (x11_1 + 1)))=some r:=by rw [if_pos rfl] at H;exact H
      clear H
      have H:=H1
      clear H1
      have H':=Aside0.mk H
      clear H
      go_wp2_with (first|((with_reducible refine gate_callee (f:=123) rfl ?_);refine goesL_ (some 47) rfl rfl Try.func123 (by kernel_rfl) rfl #[.slice Ao24 l3.length co24,.int .i64 x11_1] rfl zl ?_;(with_reducible refine (spec_l1Has.calls k1 _ _ l3 x11_1 true _ ?side1 ?side2 A26.out).mono ?_);(case side1=>exact zC ((Kd.R_reads' HO_3.out).2.2));(case side2=>exact (Kd.R_reads' HO_3.out).2.1);rintro e w' ⟨rfl,⟨nd,rfl⟩⟩;refine ⟨_,rfl,?_⟩))
      go_roundg k1
      case measure=>have:=HK1.out;omega
      case rel=>exact ⟨(x4_1),(wrap64 (x11_1 + 1)),zo,H',⟨by have:=HK1.out;omega⟩,⟨zR HO_3.out⟩,⟨by (with_reducible repeat (first|apply Kd.V_alloc|apply Kd.V_drewN|apply Kd.V_drew));exact HO_4.out⟩,⟨by repeat (first|(with_reducible first|exact HK.out|apply Kept.alloc|apply Kept.drewN|apply Kept.drew)|exact HK.out)⟩,⟨zb⟩⟩
     ·replace c27:=Bool.eq_false_iff.mpr c27
      subst c27
      have H1:((spec_l1Own.f l3).bind fun t254=>(if t254.length<17592186044416 then ((spec_l7Best.f k1 l0 a1 l2 (t254++[x11_1]) x4_1).bind fun t260=>(spec_l7Best.l0 k1 l0 a1 l2 l3 t260 (wrap64 (x11_1 + 1)))) else (none)))=some r:=by rw [if_neg (show ¬ (false=true) by decide)] at H;exact H
      clear H
      have H:=H1
      clear H1
      replace H:=Option.bind_eq_some_iff.mp H
      obtain ⟨t254,A280,H⟩:=H
      replace H:(if t254.length<17592186044416 then ((spec_l7Best.f k1 l0 a1 l2 (t254++[x11_1]) x4_1).bind fun t260=>(spec_l7Best.l0 k1 l0 a1 l2 l3 t260 (wrap64 (x11_1 + 1)))) else (none))=some r:=H
      have A28:=Aside0.mk A280
      clear A280
      by_cases c29:t254.length<17592186044416
      ·rw [if_pos c29] at H
       have LMc29:=Aside0.mk c29
       clear c29
       obtain ⟨y257,hy257⟩:∃ y_:List Int,y_=(t254++[x11_1]):=⟨_,rfl⟩
       replace H:((spec_l7Best.f k1 l0 a1 l2 y257 x4_1).bind fun t260=>(spec_l7Best.l0 k1 l0 a1 l2 l3 t260 (wrap64 (x11_1 + 1))))=some r:=by first|(rw [hy257];with_reducible exact H)|(have H2_:=(Option.bind_some _ _).symm.trans H;rw [hy257];with_reducible exact H2_)|(have H2_:=(Option.bind_some _ _).symm.trans H;with_reducible exact H2_)|with_reducible exact H|(rw [hy257];exact H)|exact H
       have Ny257:=Aside0.mk hy257
       clear hy257
       replace H:=Option.bind_eq_some_iff.mp H
       obtain ⟨t260,A300,H⟩:=H
       replace H:(spec_l7Best.l0 k1 l0 a1 l2 l3 t260 (wrap64 (x11_1 + 1)))=some r:=H
       have A30:=Aside0.mk A300
       clear A300
       have H':=Aside0.mk H
       clear H
       go_wp2_with (first|((with_reducible refine gate_callee (f:=123) rfl ?_);refine goesL_ (some 47) rfl rfl Try.func123 (by kernel_rfl) rfl #[.slice Ao24 l3.length co24,.int .i64 x11_1] rfl zl ?_;(with_reducible refine (spec_l1Has.calls k1 _ _ l3 x11_1 false _ ?side1 ?side2 A26.out).mono ?_);(case side1=>exact zC ((Kd.R_reads' HO_3.out).2.2));(case side2=>exact (Kd.R_reads' HO_3.out).2.1);rintro e w' ⟨rfl,⟨nd,rfl⟩⟩;refine ⟨_,rfl,?_⟩)|((with_reducible refine gate_callee (f:=110) rfl ?_);refine goesL_ (some 53) rfl rfl Try.func110 (by kernel_rfl) rfl #[.slice Ao24 l3.length co24] rfl zl ?_;(with_reducible refine (spec_l1Own.calls _ _ l3 t254 _ ?side1 ?side2 A28.out).mono ?_);(case side1=>exact zC ((Kd.R_reads' HO_3.out).2.2));(case side2=>exact (Kd.R_reads' HO_3.out).2.1);rintro e w31 ⟨v255,rfl,ho0,hb⟩;refine ⟨_,rfl,?_⟩;have n0_:=Aside0.mk (Kd.R_elder' (zR HO_3.out) (Kd.R_base ho0) hb);have n1_:=Aside0.mk (Kd.V_elder' (by (with_reducible repeat (first|apply Kd.V_alloc|apply Kd.V_drewN|apply Kd.V_drew));exact HO_4.out) (Kd.R_base ho0) hb);have n2_:=Aside0.mk (Kd.R_lower (Kd.R_new' (Kd.R_newM (M:=fun k_=>(P3_ k_∨w.heap.size≤k_)) ho0 (by first|exact HK.out.1|exact (show Kept w _ (fun k_=>P3_ k_) from by repeat (first|(with_reducible first|exact HK.out|apply Kept.alloc|apply Kept.drewN|apply Kept.drew)|exact HK.out)).1) (fun k_ h_=>.inr h_)) (Kd.R_lt (zR HO_3.out))) (below_size zb));have n3_:=Aside0.mk (Kept.below (S:=(fun k_=>P3_ k_)) (by repeat (first|(with_reducible first|exact HK.out|apply Kept.alloc|apply Kept.drewN|apply Kept.drew)|exact HK.out)) hb);have n4_:=Aside0.mk (below_step zb hb);clear HO_3;clear HO_4;clear HK;clear HB;have HO_3:=n0_;have HO_4:=n1_;have HO256:=n2_;have HK:=n3_;have HB:=n4_;clear n0_ n1_ n2_ n3_ n4_;(try clear hb);(try clear hb2);(try clear hk);(try clear hi);(try clear ho0))|((with_reducible refine gate_builtin (b:=.append) (xs:=#[.tmp 53,.tmp 55]) rfl ?_);at_builtin;refine Kd.R_append (Kd.int .i64) (w0:=w0) w0.heap.size rfl (.tmp 53) (.tmp 55) 43 3 (.int .i64 0) 8 rfl Try.underlying43 info3 rfl (by decide) (by omega) v255 t254 x11_1 [.int .i64 x11_1] (fun k_=>(P3_ k_∨w.heap.size≤k_)∧some k_≠(.slice Ao24 l3.length co24:Value).ownBlock) (fun _=>False) rfl rfl ?aP (fun _ hk=>hk.elim) ?aF ?aO ?aB ?aS ?aL ?_;(case aP=>exact rfl);(case aB=>exact zb);(case aF=>exact (fun k_ hk=>⟨(.inr (Nat.le_trans (by first|exact HK.out.1|exact (show Kept w _ (fun k_=>P3_ k_) from by repeat (first|(with_reducible first|exact HK.out|apply Kept.alloc|apply Kept.drewN|apply Kept.drew)|exact HK.out)).1) hk)),Kd.fresh' (Kd.R_lt (zR HO_3.out)) k_ hk⟩));(case aO=>exact (zR (Kd.R_mono HO256.out (fun _ hk=>⟨hk.1.1,hk.2⟩))));(case aS=>exact (below_size zb));(case aL=>have:=LMc29.out;omega);intro v258 w32 ho hb hg hat;rw [←Ny257.out] at ho;have n0_:=Aside0.mk (Kd.R_after (ok:=(fun k_=>(P3_ k_∨w.heap.size≤k_))) (zR HO_3.out) hg hat);have n1_:=Aside0.mk (Kd.V_afterv (ok:=(fun k_=>((P3_ k_∨P4_ k_)∨w.heap.size≤k_)∧some k_≠(.slice Ao24 l3.length co24:Value).ownBlock)) (by (with_reducible repeat (first|apply Kd.V_alloc|apply Kd.V_drewN|apply Kd.V_drew));exact HO_4.out) hg hat);have n2_:=Aside0.mk (hb);have n3_:=Aside0.mk (Kept.of_grown (S:=(fun k_=>P3_ k_)) hg (by repeat (first|(with_reducible first|exact HK.out|apply Kept.alloc|apply Kept.drewN|apply Kept.drew)|exact HK.out)) (fun k_ e_=>(HO256.out.1 k_ e_).1.1));have n4_:=Aside0.mk (ho);clear HO_3;clear HO_4;clear HB;clear HK;clear HO256;have HO_3:=n0_;have HO_4:=n1_;have HB:=n2_;have HK:=n3_;have HO259:=n4_;clear n0_ n1_ n2_ n3_ n4_;clear ho hb hg hat;obtain ⟨Ao33,co33,eo33⟩:=Kd.R_slice HO259.out;subst eo33;obtain ⟨Ao34,co34,eo34⟩:=Kd.V_slice HO_4.out;subst eo34)|((with_reducible refine gate_callee (f:=81) rfl ?_);refine goesL_ (some 58) rfl rfl Try.func81 (by kernel_rfl) rfl #[.slice A0 l0.length c0,.int .i64 a1,.slice A2 l2.length c2,.slice Ao33 y257.length co33,.slice Ao34 x4_1.length co34] rfl zl ?_;(with_reducible refine (ih k1 (by have:=HK1.out;omega) _ _ l0 a1 _ _ l2 (fun k_=>some k_=(.slice Ao33 y257.length co33:Value).ownBlock) (.slice Ao33 y257.length co33) y257 (fun k_=>((((P3_ k_∨P4_ k_)∨w.heap.size≤k_)∧some k_≠(.slice Ao24 l3.length co24:Value).ownBlock)∧some k_≠(.slice Ao33 y257.length co33:Value).ownBlock)) _ _ x4_1 t260 w0 _ ?side1 ?side2 ?side3 ?side4 ?side5 ?side6 ?side7 A30.out).mono ?_);(case side1=>repeat (first|(with_reducible first|exact HB.out|apply below_alloc|apply pw_below_drewN|apply below_drew1)|exact HB.out));(case side2=>exact Kd.C_kept_call HR0.out (by repeat (first|(with_reducible first|exact HK.out|apply Kept.alloc|apply Kept.drewN|apply Kept.drew)|exact HK.out)) (fun k_ hs_=>(fun e_=>(HO259.out.1 k_ e_.symm).1) hs_));(case side3=>exact HC0.out);(case side4=>exact Kd.C_kept_call HR2.out (by repeat (first|(with_reducible first|exact HK.out|apply Kept.alloc|apply Kept.drewN|apply Kept.drew)|exact HK.out)) (fun k_ hs_=>(fun e_=>(HO259.out.1 k_ e_.symm).1) hs_));(case side5=>exact HC2.out);(case side6=>exact Kd.R_tight rfl HO259.out);(case side7=>exact Kd.V_mono (HO_4.out) (fun k_ hk_=>⟨hk_,hk_.2⟩));rintro e w35 ⟨v261,rfl,ho0,hb,hkp⟩;refine ⟨_,rfl,?_⟩;have n0_:=Aside0.mk (Kd.R_mono (ok':=fun k_=>(P3_ k_∨w.heap.size≤k_)) (Kd.R_keptB (HO_3.out) hkp (fun k_ hk_ hs_=>(hk_.2) hs_)) (fun k_ hk_=>hk_.1.1));have n1_:=Aside0.mk (Kd.V_mono (ok':=fun k_=>((P3_ k_∨P4_ k_)∨w.heap.size≤k_)∧some k_≠(.slice Ao24 l3.length co24:Value).ownBlock) (Kd.V_keptB (HO_4.out) hkp (fun k_ hk_ hs_=>(hk_.2) hs_)) (fun k_ hk_=>⟨hk_.1.1.1,hk_.1.1.2⟩));have n2_:=Aside0.mk (Kd.V_mono (ok':=fun k_=>((P3_ k_∨P4_ k_)∨w.heap.size≤k_)∧some k_≠(.slice Ao24 l3.length co24:Value).ownBlock) ho0 (fun k_ hk_=>⟨Or.elim hk_ (fun hs_=>Or.elim hs_ (fun hs_=>(Or.imp_left (fun h_=>(.inl h_)) ((HO259.out.1 k_ (hs_).symm).1))) (fun hs_=>hs_.1.1)) (fun hn_=>(.inr (Nat.le_trans (by first|exact HK.out.1|exact (show Kept w _ (fun k_=>P3_ k_) from by repeat (first|(with_reducible first|exact HK.out|apply Kept.alloc|apply Kept.drewN|apply Kept.drew)|exact HK.out)).1) hn_))),Or.elim hk_ (fun hs_=>Or.elim hs_ (fun hs_=>fun e_=>(((HO_3.out).1 k_ e_.symm).2) hs_) (fun hs_=>hs_.1.2)) (fun hn_=>(Kd.fresh' (Kd.R_lt (zR HO_3.out)) k_ hn_))⟩));have n3_:=Aside0.mk (Kept.then_ (S:=(fun k_=>P3_ k_)) (by repeat (first|(with_reducible first|exact HK.out|apply Kept.alloc|apply Kept.drewN|apply Kept.drew)|exact HK.out)) hkp (fun k_ hs_=>(fun e_=>(HO259.out.1 k_ e_.symm).1) hs_));have n4_:=Aside0.mk (hb);clear HO_3;clear HO_4;clear HK;clear HB;clear HO259;have HO_3:=n0_;have HO_4:=n1_;have HO262:=n2_;have HK:=n3_;have HB:=n4_;clear n0_ n1_ n2_ n3_ n4_;(try clear hb);(try clear hkp);(try clear ho0)))
       go_roundg k1
       case measure=>have:=HK1.out;omega
       case rel=>exact ⟨(t260),(wrap64 (x11_1 + 1)),zo,H',⟨by have:=HK1.out;omega⟩,⟨zR HO_3.out⟩,⟨by (with_reducible repeat (first|apply Kd.V_alloc|apply Kd.V_drewN|apply Kd.V_drew));exact HO262.out⟩,⟨by repeat (first|(with_reducible first|exact HK.out|apply Kept.alloc|apply Kept.drewN|apply Kept.drew)|exact HK.out)⟩,⟨zb⟩⟩
      ·rw [if_neg c29] at H
       exact absurd H (by simp)
    ·rw [if_neg c25] at H
     have c25b0:decide (x11_1<(l0.length:Int))=false:=decide_eq_false c25
     clear c25
     obtain rfl:=Option.some.inj H
     go_wp2
     go_ret
     exact ⟨_,by first|rfl|(simp [errW_none,errW_some] <;> rfl)|(simp [*,errW_none,errW_some] <;> rfl),by (with_reducible repeat (first|apply Kd.V_alloc|apply Kd.V_drewN|apply Kd.V_drew));exact Kd.V_mono HO_4.out (fun _ hk=>hk.1),by repeat (first|(with_reducible first|exact HB.out|apply below_alloc|apply pw_below_drewN|apply below_drew1)|exact HB.out),by repeat (first|(with_reducible first|exact HK.out|apply Kept.alloc|apply Kept.drewN|apply Kept.drew)|exact HK.out)⟩

/-! ### spec_BestListPlan: function 36 -/
def spec_BestListPlan.j0:Nat→List (S76)→Int→List (S72)→Bool→Option ((List (S92)) × Bool)
 | 0,_,_,_,_=>none
 | k + 1,x0,x1,x2,x17=>if x17=true then (some ((([]:List (S92))),false)) else ((spec_l7Best.f k x0 x1 x2 (([]:List Int)) (([]:List Int))).bind fun t273=>((spec_l7List.f k x0 x1 x2 t273).bind fun t276=>(some (t276,true))))
def spec_BestListPlan.f (k:Nat) (l0:List (S76)) (a1:Int) (l2:List (S72)):Option ((List (S92)) × Bool):=(spec_l7Good.f k l0 a1 l2).bind fun t263=>(if t263=true then (spec_BestListPlan.j0 k l0 a1 l2 (decide ((l0.length:Int)>6))) else (spec_BestListPlan.j0 k l0 a1 l2 true))
theorem spec_BestListPlan.mono_l:∀ k,(∀ y0 y1 y2 y3,LeO (spec_BestListPlan.j0 k y0 y1 y2 y3) (spec_BestListPlan.j0 (k + 1) y0 y1 y2 y3))
 | 0=>fun _ _ _ _ r h=>by simp [spec_BestListPlan.j0] at h
 | k + 1=>by
  have ih0:=spec_BestListPlan.mono_l k
  ·intro y0 y1 y2 y3
   unfold spec_BestListPlan.j0
   repeat' first
   | (with_reducible exact ih0 _ _ _ _)
   | (with_reducible exact spec_l7Best.mono _ _ _ _ _ _)
   | (with_reducible exact spec_l7Good.mono _ _ _ _)
   | (with_reducible exact spec_l7List.mono _ _ _ _ _)
   | (with_reducible exact LeO.refl _)
   | (with_reducible exact LeO.none _)
   | (with_reducible refine LeO.ite ?_ ?_)
   | (with_reducible refine LeO.bind ?_ (fun _=>?_))
   | exact ih0 _ _ _ _
   | exact spec_l7Best.mono _ _ _ _ _ _
   | exact spec_l7Good.mono _ _ _ _
   | exact spec_l7List.mono _ _ _ _ _
   | exact LeO.none _
   | refine LeO.ite ?_ ?_
   | refine LeO.bind ?_ (fun _=>?_)
theorem spec_BestListPlan.mono:∀ a0 a1 a2 k,LeO (spec_BestListPlan.f k a0 a1 a2) (spec_BestListPlan.f (k + 1) a0 a1 a2):=by
 intro a0 a1 a2 k
 have ih0:=spec_BestListPlan.mono_l k
 unfold spec_BestListPlan.f
 repeat' first
   | (with_reducible exact ih0 _ _ _ _)
   | (with_reducible exact spec_l7Best.mono _ _ _ _ _ _)
   | (with_reducible exact spec_l7Good.mono _ _ _ _)
   | (with_reducible exact spec_l7List.mono _ _ _ _ _)
   | (with_reducible exact LeO.refl _)
   | (with_reducible exact LeO.none _)
   | (with_reducible refine LeO.ite ?_ ?_)
   | (with_reducible refine LeO.bind ?_ (fun _=>?_))
   | exact ih0 _ _ _ _
   | exact spec_l7Best.mono _ _ _ _ _ _
   | exact spec_l7Good.mono _ _ _ _
   | exact spec_l7List.mono _ _ _ _ _
   | exact LeO.none _
   | refine LeO.ite ?_ ?_
   | refine LeO.bind ?_ (fun _=>?_)
set_option maxHeartbeats 8000000 in
set_option maxRecDepth 100000 in
theorem spec_BestListPlan.calls (k:Nat) (A0:Option Addr) (c0:Nat) (l0:List (S76)) (a1:Int) (A2:Option Addr) (c2:Nat) (l2:List (S72)) (r1:List (S92)) (r2:Bool) (w:World) (hr0:Kd.C k76 w A0 l0.length l0) (hc0:l0.length≤c0) (hr2:Kd.C k72 w A2 l2.length l2) (hc2:l2.length≤c2) (h:spec_BestListPlan.f k l0 a1 l2=some (r1,r2)) :
  Calls Try.prog 36 #[.slice A0 l0.length c0,.int .i64 a1,.slice A2 l2.length c2] w fun e w'=>∃ v0_:Value,e=.returned (.tuple #[v0_,.bool r2])∧Kd.R k92 92 w' w.heap.size (fun _=>True) v0_ r1∧Below w.heap.size w w':=by
 have HR0:=Aside0.mk hr0
 have HC0:=Aside0.mk hc0
 clear hr0 hc0
 have HR2:=Aside0.mk hr2
 have HC2:=Aside0.mk hc2
 clear hr2 hc2
 have HB:=Aside0.mk (Below.refl w.heap.size w)
 have H:((spec_l7Good.f k l0 a1 l2).bind fun t263=>(if t263=true then (spec_BestListPlan.j0 k l0 a1 l2 (decide ((l0.length:Int)>6))) else (spec_BestListPlan.j0 k l0 a1 l2 true)))=some (r1,r2):=h
 clear h
 have HC4:=Aside0.mk H
 clear H
 go_enter Try.func36,Try.ntmps36
 go_upto_region 1 with (fail)
 go_cut [17] (fun v17 wc=>∃ (kq:Nat) (x17_3:Bool),v17=.bool x17_3∧Aside0 (spec_BestListPlan.j0 kq l0 a1 l2 x17_3=some (r1,r2))∧Aside0 (kq≤k)∧Aside0 (Below w.heap.size w wc))
 case first=>
  have H:=HC4.out
  clear HC4
  replace H:=Option.bind_eq_some_iff.mp H
  obtain ⟨t263,A50,H⟩:=H
  replace H:(if t263=true then (spec_BestListPlan.j0 k l0 a1 l2 (decide ((l0.length:Int)>6))) else (spec_BestListPlan.j0 k l0 a1 l2 true))=some (r1,r2):=H
  have A5:=Aside0.mk A50
  clear A50
  by_cases c6:t263=true
  ·subst c6
   have H1:(spec_BestListPlan.j0 k l0 a1 l2 (decide ((l0.length:Int)>6)))=some (r1,r2):=by rw [if_pos rfl] at H;exact H
   clear H
   have H:=H1
   clear H1
   have H':=Aside0.mk H
   clear H
   go_wp2_with (first|((with_reducible refine gate_callee (f:=76) rfl ?_);refine goesL_ (some 11) rfl rfl Try.func76 (by kernel_rfl) rfl #[.slice A0 l0.length c0,.int .i64 a1,.slice A2 l2.length c2] rfl zl ?_;(with_reducible refine (spec_l7Good.calls k _ _ l0 a1 _ _ l2 true _ ?side1 ?side2 ?side3 ?side4 A5.out).mono ?_);(case side1=>exact zC (Kd.C_below HR0.out HB.out));(case side2=>exact HC0.out);(case side3=>exact zC (Kd.C_below HR2.out HB.out));(case side4=>exact HC2.out);rintro e w7 ⟨rfl,hb⟩;refine ⟨_,rfl,?_⟩;have n0_:=Aside0.mk (below_step zb hb);clear HB;have HB:=n0_;clear n0_;(try clear hb);(try clear hb2);(try clear hk);(try clear hi)))
   go_meet
   case rel=>exact ⟨_,(decide ((l0.length:Int)>6)),zo,H',⟨by first|omega|exact Nat.le_refl _⟩,⟨zb⟩⟩
  ·replace c6:=Bool.eq_false_iff.mpr c6
   subst c6
   have H1:(spec_BestListPlan.j0 k l0 a1 l2 true)=some (r1,r2):=by rw [if_neg (show ¬ (false=true) by decide)] at H;exact H
   clear H
   have H:=H1
   clear H1
   have H':=Aside0.mk H
   clear H
   go_wp2_with (first|((with_reducible refine gate_callee (f:=76) rfl ?_);refine goesL_ (some 11) rfl rfl Try.func76 (by kernel_rfl) rfl #[.slice A0 l0.length c0,.int .i64 a1,.slice A2 l2.length c2] rfl zl ?_;(with_reducible refine (spec_l7Good.calls k _ _ l0 a1 _ _ l2 false _ ?side1 ?side2 ?side3 ?side4 A5.out).mono ?_);(case side1=>exact zC (Kd.C_below HR0.out HB.out));(case side2=>exact HC0.out);(case side3=>exact zC (Kd.C_below HR2.out HB.out));(case side4=>exact HC2.out);rintro e w8 ⟨rfl,hb⟩;refine ⟨_,rfl,?_⟩;have n0_:=Aside0.mk (below_step zb hb);clear HB;have HB:=n0_;clear n0_;(try clear hb);(try clear hb2);(try clear hk);(try clear hi)))
   go_meet
   case rel=>exact ⟨_,(true),zo,H',⟨by first|omega|exact Nat.le_refl _⟩,⟨zb⟩⟩
 case rest=>
  clear HC4
  (try clear c2);(try clear p2);(try clear c3);(try clear c6);(try clear c7)
  obtain ⟨kq,x17_3,rfl,HA,HJ3,HB⟩:=hcut
  cases kq with
  | zero=>exact absurd HA.out (by simp [spec_BestListPlan.j0])
  | succ kj3=>
   have H:=HA.out
   clear HA
   simp only [spec_BestListPlan.j0] at H
   by_cases c9:x17_3=true
   ·subst c9
    have H1:(some ((([]:List (S92))),false))=some (r1,r2):=by rw [if_pos rfl] at H;exact H
    clear H
    have H:=H1
    clear H1
    obtain ⟨y264,hy264⟩:∃ y_:List (S92),y_=(([]:List (S92))):=⟨_,rfl⟩
    replace H:(some (y264,false))=some (r1,r2):=by first|(rw [hy264];with_reducible exact H)|(have H2_:=(Option.bind_some _ _).symm.trans H;rw [hy264];with_reducible exact H2_)|(have H2_:=(Option.bind_some _ _).symm.trans H;with_reducible exact H2_)|with_reducible exact H|(rw [hy264];exact H)|exact H
    have Ny264:=Aside0.mk hy264
    clear hy264
    simp only [Option.some.injEq,Prod.mk.injEq] at H
    obtain ⟨rfl,rfl⟩:=H
    go_wp2_with (first|((with_reducible refine gate_dst (N:=18) rfl ?_);(try (refine gate_guard (by rfl) ?_;dsimp only));refine Kd.R_lit k92 _ 92 ?hg (N:=18) ?hd (xs:=([]:List (S92))) (inner:=[]) (ok:=fun _=>True) (okp:=fun _=>True) ?hr ?hp (fun _ hk=>hk) trivial (Below.refl _ _) (Nat.le_refl _) (by simp) ?_;(case hd=>rfl);(case hg=>rfl);(case hr=>first|(go_simp;done)|(go_simp;rfl));(case hp=>exact (Reps.none _ _));intro v265 w10 ho11 hb hg_ hnew_;clear hg_ hnew_;(first|rw [←Ny264.out] at ho11|(simp only [Int.reduceToNat] at ho11;rw [←Ny264.out] at ho11));have n0_:=Aside0.mk (Kd.R_lower ho11 (below_size zb));have n1_:=Aside0.mk (below_step zb hb);clear HB;have HO266:=n0_;have HB:=n1_;clear n0_ n1_;clear hb ho11))
    go_ret2
    exact ⟨_,by first|rfl|(simp [errW_none,errW_some] <;> rfl)|(simp [*,errW_none,errW_some] <;> rfl),zR HO266.out,zb⟩
   ·replace c9:=Bool.eq_false_iff.mpr c9
    subst c9
    have H1:((spec_l7Best.f kj3 l0 a1 l2 (([]:List Int)) (([]:List Int))).bind fun t273=>((spec_l7List.f kj3 l0 a1 l2 t273).bind fun t276=>(some (t276,true))))=some (r1,r2):=by rw [if_neg (show ¬ (false=true) by decide)] at H;exact H
    clear H
    have H:=H1
    clear H1
    obtain ⟨y267,hy267⟩:∃ y_:List Int,y_=(([]:List Int)):=⟨_,rfl⟩
    replace H:((spec_l7Best.f kj3 l0 a1 l2 y267 (([]:List Int))).bind fun t273=>((spec_l7List.f kj3 l0 a1 l2 t273).bind fun t276=>(some (t276,true))))=some (r1,r2):=by first|(rw [hy267];with_reducible exact H)|(have H2_:=(Option.bind_some _ _).symm.trans H;rw [hy267];with_reducible exact H2_)|(have H2_:=(Option.bind_some _ _).symm.trans H;with_reducible exact H2_)|with_reducible exact H|(rw [hy267];exact H)|exact H
    have Ny267:=Aside0.mk hy267
    clear hy267
    obtain ⟨y270,hy270⟩:∃ y_:List Int,y_=(([]:List Int)):=⟨_,rfl⟩
    replace H:((spec_l7Best.f kj3 l0 a1 l2 y267 y270).bind fun t273=>((spec_l7List.f kj3 l0 a1 l2 t273).bind fun t276=>(some (t276,true))))=some (r1,r2):=by first|(rw [hy270];with_reducible exact H)|(have H2_:=(Option.bind_some _ _).symm.trans H;rw [hy270];with_reducible exact H2_)|(have H2_:=(Option.bind_some _ _).symm.trans H;with_reducible exact H2_)|with_reducible exact H|(rw [hy270];exact H)|exact H
    have Ny270:=Aside0.mk hy270
    clear hy270
    replace H:=Option.bind_eq_some_iff.mp H
    obtain ⟨t273,A120,H⟩:=H
    replace H:((spec_l7List.f kj3 l0 a1 l2 t273).bind fun t276=>(some (t276,true)))=some (r1,r2):=H
    have A12:=Aside0.mk A120
    clear A120
    replace H:=Option.bind_eq_some_iff.mp H
    obtain ⟨t276,A130,H⟩:=H
    replace H:(some (t276,true))=some (r1,r2):=H
    have A13:=Aside0.mk A130
    clear A130
    simp only [Option.some.injEq,Prod.mk.injEq] at H
    obtain ⟨rfl,rfl⟩:=H
    go_wp2_with (first|((with_reducible refine gate_dst (N:=25) rfl ?_);(try (refine gate_guard (by rfl) ?_;dsimp only));refine Kd.R_lit (Kd.int .i64) _ 3 ?hg (N:=25) ?hd (xs:=([]:List Int)) (inner:=[]) (ok:=fun _=>True) (okp:=fun _=>True) ?hr ?hp (fun _ hk=>hk) trivial (Below.refl _ _) (Nat.le_refl _) (by simp) ?_;(case hd=>rfl);(case hg=>rfl);(case hr=>first|(go_simp;done)|(go_simp;rfl));(case hp=>exact (Reps.none _ _));intro v268 w14 ho15 hb hg_ hnew_;clear hg_ hnew_;(first|rw [←Ny267.out] at ho15|(simp only [Int.reduceToNat] at ho15;rw [←Ny267.out] at ho15));have n0_:=Aside0.mk (Kd.R_lower ho15 (below_size zb));have n1_:=Aside0.mk (below_step zb hb);clear HB;have HO269:=n0_;have HB:=n1_;clear n0_ n1_;clear hb ho15)|((with_reducible refine gate_dst (N:=26) rfl ?_);(try (refine gate_guard (by rfl) ?_;dsimp only));refine Kd.R_lit (Kd.int .i64) _ 3 ?hg (N:=26) ?hd (xs:=([]:List Int)) (inner:=[]) (ok:=fun _=>True) (okp:=fun _=>True) ?hr ?hp (fun _ hk=>hk) trivial (Below.refl _ _) (Nat.le_refl _) (by simp) ?_;(case hd=>rfl);(case hg=>rfl);(case hr=>first|(go_simp;done)|(go_simp;rfl));(case hp=>exact (Reps.none _ _));intro v271 w16 ho17 hb hg_ hnew_;clear hg_ hnew_;(first|rw [←Ny270.out] at ho17|(simp only [Int.reduceToNat] at ho17;rw [←Ny270.out] at ho17));have n0_:=Aside0.mk (Kd.R_elder' (zR HO269.out) (Kd.R_base ho17) hb);have n1_:=Aside0.mk (Kd.R_lower (Kd.R_new' ho17 (Kd.R_lt (zR HO269.out))) (below_size zb));have n2_:=Aside0.mk (below_step zb hb);clear HO269;clear HB;have HO269:=n0_;have HO272:=n1_;have HB:=n2_;clear n0_ n1_ n2_;clear hb ho17;obtain ⟨Ao18,co18,eo18⟩:=Kd.R_slice HO269.out;subst eo18;obtain ⟨Ao19,co19,eo19⟩:=Kd.R_slice HO272.out;subst eo19)|((with_reducible refine gate_callee (f:=81) rfl ?_);refine goesL_ (some 27) rfl rfl Try.func81 (by kernel_rfl) rfl #[.slice A0 l0.length c0,.int .i64 a1,.slice A2 l2.length c2,.slice Ao18 y267.length co18,.slice Ao19 y270.length co19] rfl zl ?_;(with_reducible refine (spec_l7Best.calls kj3 _ _ l0 a1 _ _ l2 (fun k_=>some k_=(.slice Ao18 y267.length co18:Value).ownBlock) (.slice Ao18 y267.length co18) y267 (fun k_=>some k_=(.slice Ao19 y270.length co19:Value).ownBlock) _ _ y270 t273 w _ ?side1 ?side2 ?side3 ?side4 ?side5 ?side6 ?side7 A12.out).mono ?_);(case side1=>repeat (first|(with_reducible first|exact HB.out|apply below_alloc|apply pw_below_drewN|apply below_drew1)|exact HB.out));(case side2=>exact Kd.C_kept_came k76_heap HR0.out zb (fun k_ hs_=>(fun e_=>Kd.R_base HO269.out k_ e_.symm) hs_));(case side3=>exact HC0.out);(case side4=>exact Kd.C_kept_came k72_heap HR2.out zb (fun k_ hs_=>(fun e_=>Kd.R_base HO269.out k_ e_.symm) hs_));(case side5=>exact HC2.out);(case side6=>exact Kd.R_tight rfl HO269.out);(case side7=>exact Kd.V_mono (Kd.R_V (Kd.R_tight rfl (HO272.out))) (fun k_ hk_=>⟨hk_,((HO272.out).1 k_ hk_.symm).2⟩));rintro e w20 ⟨v274,rfl,ho0,hb,hkp⟩;refine ⟨_,rfl,?_⟩;have n0_:=Aside0.mk (Kd.R_mono (ok':=fun k_=>True) (Kd.R_keptB (HO272.out) hkp (fun k_ hk_ hs_=>(hk_.2) hs_)) (fun k_ hk_=>trivial));have n1_:=Aside0.mk (Kd.V_mono (ok':=fun k_=>True) ho0 (fun k_ hk_=>trivial));have n2_:=Aside0.mk (hb);clear HO272;clear HB;clear HO269;have HO272:=n0_;have HO275:=n1_;have HB:=n2_;clear n0_ n1_ n2_;(try clear hb);(try clear hkp);(try clear ho0);obtain ⟨Ao21,co21,eo21⟩:=Kd.V_slice HO275.out;subst eo21)|((with_reducible refine gate_callee (f:=57) rfl ?_);refine goesL_ (some 28) rfl rfl Try.func57 (by kernel_rfl) rfl #[.slice A0 l0.length c0,.int .i64 a1,.slice A2 l2.length c2,.slice Ao21 t273.length co21] rfl zl ?_;(with_reducible refine (spec_l7List.calls kj3 _ _ l0 a1 _ _ l2 _ _ t273 t276 _ ?side1 ?side2 ?side3 ?side4 ?side5 ?side6 A13.out).mono ?_);(case side1=>exact zC (Kd.C_below HR0.out HB.out));(case side2=>exact HC0.out);(case side3=>exact zC (Kd.C_below HR2.out HB.out));(case side4=>exact HC2.out);(case side5=>exact zC ((Kd.V_reads' HO275.out).2.2));(case side6=>exact (Kd.V_reads' HO275.out).2.1);rintro e w22 ⟨v277,rfl,ho0,hb⟩;refine ⟨_,rfl,?_⟩;have n0_:=Aside0.mk (Kd.R_below (zR HO272.out) hb);have n1_:=Aside0.mk (Kd.V_elder' (by (with_reducible repeat (first|apply Kd.V_alloc|apply Kd.V_drewN|apply Kd.V_drew));exact HO275.out) (Kd.R_base ho0) hb);have n2_:=Aside0.mk (Kd.R_lower ho0 (below_size zb));have n3_:=Aside0.mk (below_step zb hb);clear HO272;clear HO275;clear HB;have HO272:=n0_;have HO275:=n1_;have HO278:=n2_;have HB:=n3_;clear n0_ n1_ n2_ n3_;(try clear hb);(try clear hb2);(try clear hk);(try clear hi);(try clear ho0)))
    go_ret2
    exact ⟨_,by first|rfl|(simp [errW_none,errW_some] <;> rfl)|(simp [*,errW_none,errW_some] <;> rfl),zR HO278.out,zb⟩

/-! ### impl_within: function 113 -/
def impl_within.f (a0:Int) (a1:Int) (a2:Int):Option (Bool):=if a1≤a0 then (some (decide (a0≤a2))) else (some false)
set_option maxHeartbeats 8000000 in
set_option maxRecDepth 100000 in
theorem impl_within.calls (a0:Int) (a1:Int) (a2:Int) (r:Bool) (w:World) (h:impl_within.f a0 a1 a2=some r) :
  Calls Try.prog 113 #[.int .i64 a0,.int .i64 a1,.int .i64 a2] w fun e w'=>e=.returned (.bool r)∧Drawn0 w w':=by
 have H:(if a1≤a0 then (some (decide (a0≤a2))) else (some false))=some r:=h
 clear h
 by_cases c4:a1≤a0
 ·rw [if_pos c4] at H
  have c4b0:decide (a1≤a0)=true:=decide_eq_true c4
  clear c4
  obtain rfl:=Option.some.inj H
  go_enter Try.func113,Try.ntmps113
  go_wp2
  go_ret
  exact ⟨by first|rfl|(simp;done)|(simp [*];done),by repeat (first|exact Drawn0.refl _|apply Drawn0.step)⟩
 ·rw [if_neg c4] at H
  have c4b0:decide (a1≤a0)=false:=decide_eq_false c4
  clear c4
  obtain rfl:=Option.some.inj H
  go_enter Try.func113,Try.ntmps113
  go_wp2
  go_ret
  exact ⟨by first|rfl|(simp;done)|(simp [*];done),by repeat (first|exact Drawn0.refl _|apply Drawn0.step)⟩

/-! ### impl_isDate: function 153 -/
def impl_isDate.f (a0:Int):Option (Bool):=(impl_within.f a0 0 500).bind fun t279=>(some t279)
set_option maxHeartbeats 8000000 in
set_option maxRecDepth 100000 in
theorem impl_isDate.calls (a0:Int) (r:Bool) (w:World) (h:impl_isDate.f a0=some r) :
  Calls Try.prog 153 #[.int .i64 a0] w fun e w'=>e=.returned (.bool r)∧Drawn0 w w':=by
 have H:((impl_within.f a0 0 500).bind fun t279=>(some t279))=some r:=h
 clear h
 replace H:=Option.bind_eq_some_iff.mp H
 obtain ⟨t279,A20,H⟩:=H
 replace H:(some t279)=some r:=H
 have A2:=Aside0.mk A20
 clear A20
 obtain rfl:=Option.some.inj H
 go_enter Try.func153,Try.ntmps153
 go_wp2_with (first|((with_reducible refine gate_callee (f:=113) rfl ?_);refine goesL_ (some 4) rfl rfl Try.func113 (by kernel_rfl) rfl #[.int .i64 a0,.int .i64 0,.int .i64 500] rfl zl ?_;(with_reducible refine (impl_within.calls a0 0 500 t279 _ A2.out).mono ?_);rintro e w' ⟨rfl,⟨nd,rfl⟩⟩;refine ⟨_,rfl,?_⟩))
 go_ret
 exact ⟨by first|rfl|(simp;done)|(simp [*];done),by repeat (first|exact Drawn0.refl _|apply Drawn0.step)⟩

/-! ### impl_IsJobs: function 101 -/
def impl_IsJobs.l0:Nat→List (S76)→Int→Int→Option (Bool)
 | 0,_,_,_=>none
 | k + 1,x8,x9,x10=>if x10<x9 then (if 0≤x10 then (if x10<(x8.length:Int) then ((impl_within.f ((rd_T76 x8 x10).f0) 1 50).bind fun t282=>(if t282=true then ((impl_within.f ((rd_T76 x8 x10).f1) 0 50).bind fun t283=>(if t283=true then ((impl_isDate.f ((rd_T76 x8 x10).f2)).bind fun t284=>(if t284=true then ((impl_isDate.f ((rd_T76 x8 x10).f3)).bind fun t285=>(if t285=true then (impl_IsJobs.l0 k x8 x9 (wrap64 (x10 + 1))) else (some false))) else (some false))) else (some false))) else (some false))) else (none)) else (none)) else (some true)
def impl_IsJobs.f (k:Nat) (l0:List (S76)):Option (Bool):=if (l0.length:Int)>8 then (some false) else (impl_IsJobs.l0 k l0 (l0.length:Int) 0)
theorem impl_IsJobs.mono_l:∀ k,(∀ y0 y1 y2,LeO (impl_IsJobs.l0 k y0 y1 y2) (impl_IsJobs.l0 (k + 1) y0 y1 y2))
 | 0=>fun _ _ _ r h=>by simp [impl_IsJobs.l0] at h
 | k + 1=>by
  have ih0:=impl_IsJobs.mono_l k
  ·intro y0 y1 y2
   unfold impl_IsJobs.l0
   repeat' first
   | (with_reducible exact ih0 _ _ _)
   | (with_reducible exact LeO.refl _)
   | (with_reducible exact LeO.none _)
   | (with_reducible refine LeO.ite ?_ ?_)
   | (with_reducible refine LeO.bind ?_ (fun _=>?_))
   | exact ih0 _ _ _
   | exact LeO.none _
   | refine LeO.ite ?_ ?_
   | refine LeO.bind ?_ (fun _=>?_)
theorem impl_IsJobs.mono:∀ a0 k,LeO (impl_IsJobs.f k a0) (impl_IsJobs.f (k + 1) a0):=by
 intro a0 k
 have ih0:=impl_IsJobs.mono_l k
 unfold impl_IsJobs.f
 repeat' first
   | (with_reducible exact ih0 _ _ _)
   | (with_reducible exact LeO.refl _)
   | (with_reducible exact LeO.none _)
   | (with_reducible refine LeO.ite ?_ ?_)
   | (with_reducible refine LeO.bind ?_ (fun _=>?_))
   | exact ih0 _ _ _
   | exact LeO.none _
   | refine LeO.ite ?_ ?_
   | refine LeO.bind ?_ (fun _=>?_)
set_option maxHeartbeats 8000000 in
set_option maxRecDepth 100000 in
theorem impl_IsJobs.calls (k:Nat) (A0:Option Addr) (c0:Nat) (l0:List (S76)) (r:Bool) (w:World) (hr0:Kd.C k76 w A0 l0.length l0) (hc0:l0.length≤c0) (h:impl_IsJobs.f k l0=some r) :
  Calls Try.prog 101 #[.slice A0 l0.length c0] w fun e w'=>e=.returned (.bool r)∧Below w.heap.size w w':=by
 have hu76:=Try.underlying76
 have HR0:=Aside0.mk hr0
 have HC0:=Aside0.mk hc0
 clear hr0 hc0
 have HB:=Aside0.mk (Below.refl w.heap.size w)
 have H:(if (l0.length:Int)>8 then (some false) else (impl_IsJobs.l0 k l0 (l0.length:Int) 0))=some r:=h
 clear h
 by_cases c2:(l0.length:Int)>8
 ·rw [if_pos c2] at H
  have c2b0:decide (8<(l0.length:Int))=true:=decide_eq_true c2
  have c2b1:decide (8<l0.length)=true:=decide_eq_true (by omega)
  clear c2
  obtain rfl:=Option.some.inj H
  go_enter Try.func101,Try.ntmps101
  go_wp2
  go_ret
  exact ⟨by first|rfl|(simp [errW_none,errW_some] <;> rfl)|(simp [*,errW_none,errW_some] <;> rfl),zb⟩
 ·rw [if_neg c2] at H
  have c2b0:decide (8<(l0.length:Int))=false:=decide_eq_false c2
  have c2b1:decide (8<l0.length)=false:=decide_eq_false (by omega)
  clear c2
  have H':=Aside0.mk H
  clear H
  go_enter Try.func101,Try.ntmps101
  go_wp2
  go_loopg [10] k (fun kq v10 w'=>∃ (x10_1:Int),v10=.int .i64 x10_1∧Aside0 (impl_IsJobs.l0 kq l0 (l0.length:Int) x10_1=some r)∧Aside0 (kq≤k)∧Aside0 (Below w.heap.size w w'))
  case atStart=>exact ⟨(0),zo,H',⟨Nat.le_refl _⟩,⟨zb⟩⟩
  case round=>
   clear H'
   (try clear c1);(try clear c2);(try clear c2b0);(try clear c2b1);(try clear p2)
   obtain ⟨x10_1,rfl,HA,HK1,HB⟩:=hrel
   cases gk with
   | zero=>exact absurd HA.out (by simp [impl_IsJobs.l0])
   | succ k1=>
    have H:=HA.out
    clear HA
    simp only [impl_IsJobs.l0] at H
    by_cases c3:x10_1<(l0.length:Int)
    ·rw [if_pos c3] at H
     have c3b0:decide (x10_1<(l0.length:Int))=true:=decide_eq_true c3
     clear c3
     by_cases c4:0≤x10_1
     ·rw [if_pos c4] at H
      have c4b0:decide (0≤x10_1)=true:=decide_eq_true c4
      clear c4
      by_cases c5:x10_1<(l0.length:Int)
      ·rw [if_pos c5] at H
       have c5b0:decide (x10_1<(l0.length:Int))=true:=decide_eq_true c5
       clear c5
       replace H:=Option.bind_eq_some_iff.mp H
       obtain ⟨t282,A60,H⟩:=H
       replace H:(if t282=true then ((impl_within.f ((rd_T76 l0 x10_1).f1) 0 50).bind fun t283=>(if t283=true then ((impl_isDate.f ((rd_T76 l0 x10_1).f2)).bind fun t284=>(if t284=true then ((impl_isDate.f ((rd_T76 l0 x10_1).f3)).bind fun t285=>(if t285=true then (impl_IsJobs.l0 k1 l0 (l0.length:Int) (wrap64 (x10_1 + 1))) else (some false))) else (some false))) else (some false))) else (some false))=some r:=H
       have A6:=Aside0.mk A60
       clear A60
       by_cases c7:t282=true
       ·subst c7
        have H1:((impl_within.f ((rd_T76 l0 x10_1).f1) 0 50).bind fun t283=>(if t283=true then ((impl_isDate.f ((rd_T76 l0 x10_1).f2)).bind fun t284=>(if t284=true then ((impl_isDate.f ((rd_T76 l0 x10_1).f3)).bind fun t285=>(if t285=true then (impl_IsJobs.l0 k1 l0 (l0.length:Int) (wrap64 (x10_1 + 1))) else (some false))) else (some false))) else (some false)))=some r:=by rw [if_pos rfl] at H;exact H
        clear H
        have H:=H1
        clear H1
        replace H:=Option.bind_eq_some_iff.mp H
        obtain ⟨t283,A80,H⟩:=H
        replace H:(if t283=true then ((impl_isDate.f ((rd_T76 l0 x10_1).f2)).bind fun t284=>(if t284=true then ((impl_isDate.f ((rd_T76 l0 x10_1).f3)).bind fun t285=>(if t285=true then (impl_IsJobs.l0 k1 l0 (l0.length:Int) (wrap64 (x10_1 + 1))) else (some false))) else (some false))) else (some false))=some r:=H
        have A8:=Aside0.mk A80
        clear A80
        by_cases c9:t283=true
        ·subst c9
         have H1:((impl_isDate.f ((rd_T76 l0 x10_1).f2)).bind fun t284=>(if t284=true then ((impl_isDate.f ((rd_T76 l0 x10_1).f3)).bind fun t285=>(if t285=true then (impl_IsJobs.l0 k1 l0 (l0.length:Int) (wrap64 (x10_1 + 1))) else (some false))) else (some false)))=some r:=by rw [if_pos rfl] at H;exact H
         clear H
         have H:=H1
         clear H1
         replace H:=Option.bind_eq_some_iff.mp H
         obtain ⟨t284,A100,H⟩:=H
         replace H:(if t284=true then ((impl_isDate.f ((rd_T76 l0 x10_1).f3)).bind fun t285=>(if t285=true then (impl_IsJobs.l0 k1 l0 (l0.length:Int) (wrap64 (x10_1 + 1))) else (some false))) else (some false))=some r:=H
         have A10:=Aside0.mk A100
         clear A100
         by_cases c11:t284=true
         ·subst c11
          have H1:((impl_isDate.f ((rd_T76 l0 x10_1).f3)).bind fun t285=>(if t285=true then (impl_IsJobs.l0 k1 l0 (l0.length:Int) (wrap64 (x10_1 + 1))) else (some false)))=some r:=by rw [if_pos rfl] at H;exact H
          clear H
          have H:=H1
          clear H1
          replace H:=Option.bind_eq_some_iff.mp H
          obtain ⟨t285,A120,H⟩:=H
          replace H:(if t285=true then (impl_IsJobs.l0 k1 l0 (l0.length:Int) (wrap64 (x10_1 + 1))) else (some false))=some r:=H
          have A12:=Aside0.mk A120
          clear A120
          by_cases c13:t285=true
          ·subst c13
           have H1:(impl_IsJobs.l0 k1 l0 (l0.length:Int) (wrap64 (x10_1 + 1)))=some r:=by rw [if_pos rfl] at H;exact H
           clear H
           have H:=H1
           clear H1
           have H':=Aside0.mk H
           clear H
           have p280:0≤(x10_1:Int):=of_decide_eq_true za
           have q280:x10_1<(l0.length:Int):=of_decide_eq_true za
           obtain ⟨ad280,e280,hx280_0,hx280_1,hx280_2,hx280_3⟩:=at_T76 HR0.out x10_1 p280 q280
           cases e280
           replace hx280_0:=(HB.out.cell (World.block_lt_of_cell? w _ hx280_0)).trans hx280_0
           replace hx280_1:=(HB.out.cell (World.block_lt_of_cell? w _ hx280_1)).trans hx280_1
           replace hx280_2:=(HB.out.cell (World.block_lt_of_cell? w _ hx280_2)).trans hx280_2
           replace hx280_3:=(HB.out.cell (World.block_lt_of_cell? w _ hx280_3)).trans hx280_3
           replace p280:=eq_true p280
           replace q280:=eq_true q280
           go_wp2_with (first|((with_reducible refine gate_dst (N:=4) rfl ?_);refine box_event ?hg (N:=4) ?hd (cs:=#[.int .i64 0,.int .i64 0,.int .i64 0,.int .i64 0]) (t:=76) ?hr ?_;(case hd=>rfl);(case hg=>rfl);(case hr=>first|(go_simp;done)|(go_simp;rfl));intro gb281 hg w14 hbox hb;have n0_:=Aside0.mk (below_step zb hb);have n1_:=Aside0.mk (hbox);have n2_:=Aside0.mk ((by rw [hg];exact (below_size zb):w.heap.size≤gb281));have n3_:=Aside0.mk ((by rw [hg];exact (below_size zb):w.heap.size≤gb281));clear HB;have HB:=n0_;have BK281:=n1_;have GW281:=n2_;have GE281:=n3_;clear n0_ n1_ n2_ n3_;clear hb hbox hg;have hcz15_0:w14.cell? ⟨gb281,0,none⟩=some (.int .i64 0):=(blk_cell BK281.out 0).trans rfl;have hcz15_1:w14.cell? ⟨gb281,1,none⟩=some (.int .i64 0):=(blk_cell BK281.out 1).trans rfl;have hcz15_2:w14.cell? ⟨gb281,2,none⟩=some (.int .i64 0):=(blk_cell BK281.out 2).trans rfl;have hcz15_3:w14.cell? ⟨gb281,3,none⟩=some (.int .i64 0):=(blk_cell BK281.out 3).trans rfl;have hfz15_0:=blk_frozen BK281.out 0;have hfz15_1:=blk_frozen BK281.out 1;have hfz15_2:=blk_frozen BK281.out 2;have hfz15_3:=blk_frozen BK281.out 3)|((with_reducible refine gate_callee (f:=113) rfl ?_);refine goesL_ (some 16) rfl rfl Try.func113 (by kernel_rfl) rfl #[.int .i64 ((rd_T76 l0 x10_1).f0),.int .i64 1,.int .i64 50] rfl zl ?_;(with_reducible refine (impl_within.calls ((rd_T76 l0 x10_1).f0) 1 50 true _ A6.out).mono ?_);rintro e w' ⟨rfl,⟨nd,rfl⟩⟩;refine ⟨_,rfl,?_⟩)|(go_at_call 113;(with_reducible refine (impl_within.calls ((rd_T76 l0 x10_1).f1) 0 50 true _ A8.out).mono ?_);rintro e w' ⟨rfl,⟨nd,rfl⟩⟩)|(go_at_call 153;(with_reducible refine (impl_isDate.calls ((rd_T76 l0 x10_1).f2) true _ A10.out).mono ?_);rintro e w' ⟨rfl,⟨nd,rfl⟩⟩)|(go_at_call 153;(with_reducible refine (impl_isDate.calls ((rd_T76 l0 x10_1).f3) true _ A12.out).mono ?_);rintro e w' ⟨rfl,⟨nd,rfl⟩⟩))
           go_roundg k1
           case measure=>have:=HK1.out;omega
           case rel=>exact ⟨(wrap64 (x10_1 + 1)),zo,H',⟨by have:=HK1.out;omega⟩,⟨by repeat (first|(with_reducible first|exact HB.out|apply below_alloc|apply pw_below_drewN|apply below_drew1|refine below_set ?_ GE281.out)|exact HB.out)⟩⟩
          ·replace c13:=Bool.eq_false_iff.mpr c13
           subst c13
           have H1:(some false)=some r:=by rw [if_neg (show ¬ (false=true) by decide)] at H;exact H
           clear H
           have H:=H1
           clear H1
           obtain rfl:=Option.some.inj H
           have p280:0≤(x10_1:Int):=of_decide_eq_true za
           have q280:x10_1<(l0.length:Int):=of_decide_eq_true za
           obtain ⟨ad280,e280,hx280_0,hx280_1,hx280_2,hx280_3⟩:=at_T76 HR0.out x10_1 p280 q280
           cases e280
           replace hx280_0:=(HB.out.cell (World.block_lt_of_cell? w _ hx280_0)).trans hx280_0
           replace hx280_1:=(HB.out.cell (World.block_lt_of_cell? w _ hx280_1)).trans hx280_1
           replace hx280_2:=(HB.out.cell (World.block_lt_of_cell? w _ hx280_2)).trans hx280_2
           replace hx280_3:=(HB.out.cell (World.block_lt_of_cell? w _ hx280_3)).trans hx280_3
           replace p280:=eq_true p280
           replace q280:=eq_true q280
           go_wp2_with (first|((with_reducible refine gate_dst (N:=4) rfl ?_);refine box_event ?hg (N:=4) ?hd (cs:=#[.int .i64 0,.int .i64 0,.int .i64 0,.int .i64 0]) (t:=76) ?hr ?_;(case hd=>rfl);(case hg=>rfl);(case hr=>first|(go_simp;done)|(go_simp;rfl));intro gb281 hg w16 hbox hb;have n0_:=Aside0.mk (below_step zb hb);have n1_:=Aside0.mk (hbox);have n2_:=Aside0.mk ((by rw [hg];exact (below_size zb):w.heap.size≤gb281));have n3_:=Aside0.mk ((by rw [hg];exact (below_size zb):w.heap.size≤gb281));clear HB;have HB:=n0_;have BK281:=n1_;have GW281:=n2_;have GE281:=n3_;clear n0_ n1_ n2_ n3_;clear hb hbox hg;have hcz17_0:w16.cell? ⟨gb281,0,none⟩=some (.int .i64 0):=(blk_cell BK281.out 0).trans rfl;have hcz17_1:w16.cell? ⟨gb281,1,none⟩=some (.int .i64 0):=(blk_cell BK281.out 1).trans rfl;have hcz17_2:w16.cell? ⟨gb281,2,none⟩=some (.int .i64 0):=(blk_cell BK281.out 2).trans rfl;have hcz17_3:w16.cell? ⟨gb281,3,none⟩=some (.int .i64 0):=(blk_cell BK281.out 3).trans rfl;have hfz17_0:=blk_frozen BK281.out 0;have hfz17_1:=blk_frozen BK281.out 1;have hfz17_2:=blk_frozen BK281.out 2;have hfz17_3:=blk_frozen BK281.out 3)|((with_reducible refine gate_callee (f:=113) rfl ?_);refine goesL_ (some 16) rfl rfl Try.func113 (by kernel_rfl) rfl #[.int .i64 ((rd_T76 l0 x10_1).f0),.int .i64 1,.int .i64 50] rfl zl ?_;(with_reducible refine (impl_within.calls ((rd_T76 l0 x10_1).f0) 1 50 true _ A6.out).mono ?_);rintro e w' ⟨rfl,⟨nd,rfl⟩⟩;refine ⟨_,rfl,?_⟩)|(go_at_call 113;(with_reducible refine (impl_within.calls ((rd_T76 l0 x10_1).f1) 0 50 true _ A8.out).mono ?_);rintro e w' ⟨rfl,⟨nd,rfl⟩⟩)|(go_at_call 153;(with_reducible refine (impl_isDate.calls ((rd_T76 l0 x10_1).f2) true _ A10.out).mono ?_);rintro e w' ⟨rfl,⟨nd,rfl⟩⟩)|(go_at_call 153;(with_reducible refine (impl_isDate.calls ((rd_T76 l0 x10_1).f3) false _ A12.out).mono ?_);rintro e w' ⟨rfl,⟨nd,rfl⟩⟩))
           go_ret
           exact ⟨by first|rfl|(simp [errW_none,errW_some] <;> rfl)|(simp [*,errW_none,errW_some] <;> rfl),by repeat (first|(with_reducible first|exact HB.out|apply below_alloc|apply pw_below_drewN|apply below_drew1|refine below_set ?_ GE281.out)|exact HB.out)⟩
         ·replace c11:=Bool.eq_false_iff.mpr c11
          subst c11
          have H1:(some false)=some r:=by rw [if_neg (show ¬ (false=true) by decide)] at H;exact H
          clear H
          have H:=H1
          clear H1
          obtain rfl:=Option.some.inj H
          have p280:0≤(x10_1:Int):=of_decide_eq_true za
          have q280:x10_1<(l0.length:Int):=of_decide_eq_true za
          obtain ⟨ad280,e280,hx280_0,hx280_1,hx280_2,hx280_3⟩:=at_T76 HR0.out x10_1 p280 q280
          cases e280
          replace hx280_0:=(HB.out.cell (World.block_lt_of_cell? w _ hx280_0)).trans hx280_0
          replace hx280_1:=(HB.out.cell (World.block_lt_of_cell? w _ hx280_1)).trans hx280_1
          replace hx280_2:=(HB.out.cell (World.block_lt_of_cell? w _ hx280_2)).trans hx280_2
          replace hx280_3:=(HB.out.cell (World.block_lt_of_cell? w _ hx280_3)).trans hx280_3
          replace p280:=eq_true p280
          replace q280:=eq_true q280
          go_wp2_with (first|((with_reducible refine gate_dst (N:=4) rfl ?_);refine box_event ?hg (N:=4) ?hd (cs:=#[.int .i64 0,.int .i64 0,.int .i64 0,.int .i64 0]) (t:=76) ?hr ?_;(case hd=>rfl);(case hg=>rfl);(case hr=>first|(go_simp;done)|(go_simp;rfl));intro gb281 hg w18 hbox hb;have n0_:=Aside0.mk (below_step zb hb);have n1_:=Aside0.mk (hbox);have n2_:=Aside0.mk ((by rw [hg];exact (below_size zb):w.heap.size≤gb281));have n3_:=Aside0.mk ((by rw [hg];exact (below_size zb):w.heap.size≤gb281));clear HB;have HB:=n0_;have BK281:=n1_;have GW281:=n2_;have GE281:=n3_;clear n0_ n1_ n2_ n3_;clear hb hbox hg;have hcz19_0:w18.cell? ⟨gb281,0,none⟩=some (.int .i64 0):=(blk_cell BK281.out 0).trans rfl;have hcz19_1:w18.cell? ⟨gb281,1,none⟩=some (.int .i64 0):=(blk_cell BK281.out 1).trans rfl;have hcz19_2:w18.cell? ⟨gb281,2,none⟩=some (.int .i64 0):=(blk_cell BK281.out 2).trans rfl;have hcz19_3:w18.cell? ⟨gb281,3,none⟩=some (.int .i64 0):=(blk_cell BK281.out 3).trans rfl;have hfz19_0:=blk_frozen BK281.out 0;have hfz19_1:=blk_frozen BK281.out 1;have hfz19_2:=blk_frozen BK281.out 2;have hfz19_3:=blk_frozen BK281.out 3)|((with_reducible refine gate_callee (f:=113) rfl ?_);refine goesL_ (some 16) rfl rfl Try.func113 (by kernel_rfl) rfl #[.int .i64 ((rd_T76 l0 x10_1).f0),.int .i64 1,.int .i64 50] rfl zl ?_;(with_reducible refine (impl_within.calls ((rd_T76 l0 x10_1).f0) 1 50 true _ A6.out).mono ?_);rintro e w' ⟨rfl,⟨nd,rfl⟩⟩;refine ⟨_,rfl,?_⟩)|(go_at_call 113;(with_reducible refine (impl_within.calls ((rd_T76 l0 x10_1).f1) 0 50 true _ A8.out).mono ?_);rintro e w' ⟨rfl,⟨nd,rfl⟩⟩)|(go_at_call 153;(with_reducible refine (impl_isDate.calls ((rd_T76 l0 x10_1).f2) false _ A10.out).mono ?_);rintro e w' ⟨rfl,⟨nd,rfl⟩⟩))
          go_ret
          exact ⟨by first|rfl|(simp [errW_none,errW_some] <;> rfl)|(simp [*,errW_none,errW_some] <;> rfl),by repeat (first|(with_reducible first|exact HB.out|apply below_alloc|apply pw_below_drewN|apply below_drew1|refine below_set ?_ GE281.out)|exact HB.out)⟩
        ·replace c9:=Bool.eq_false_iff.mpr c9
         subst c9
         have H1:(some false)=some r:=by rw [if_neg (show ¬ (false=true) by decide)] at H;exact H
         clear H
         have H:=H1
         clear H1
         obtain rfl:=Option.some.inj H
         have p280:0≤(x10_1:Int):=of_decide_eq_true za
         have q280:x10_1<(l0.length:Int):=of_decide_eq_true za
         obtain ⟨ad280,e280,hx280_0,hx280_1,hx280_2,hx280_3⟩:=at_T76 HR0.out x10_1 p280 q280
         cases e280
         replace hx280_0:=(HB.out.cell (World.block_lt_of_cell? w _ hx280_0)).trans hx280_0
         replace hx280_1:=(HB.out.cell (World.block_lt_of_cell? w _ hx280_1)).trans hx280_1
         replace hx280_2:=(HB.out.cell (World.block_lt_of_cell? w _ hx280_2)).trans hx280_2
         replace hx280_3:=(HB.out.cell (World.block_lt_of_cell? w _ hx280_3)).trans hx280_3
         replace p280:=eq_true p280
         replace q280:=eq_true q280
         go_wp2_with (first|((with_reducible refine gate_dst (N:=4) rfl ?_);refine box_event ?hg (N:=4) ?hd (cs:=#[.int .i64 0,.int .i64 0,.int .i64 0,.int .i64 0]) (t:=76) ?hr ?_;(case hd=>rfl);(case hg=>rfl);(case hr=>first|(go_simp;done)|(go_simp;rfl));intro gb281 hg w20 hbox hb;have n0_:=Aside0.mk (below_step zb hb);have n1_:=Aside0.mk (hbox);have n2_:=Aside0.mk ((by rw [hg];exact (below_size zb):w.heap.size≤gb281));have n3_:=Aside0.mk ((by rw [hg];exact (below_size zb):w.heap.size≤gb281));clear HB;have HB:=n0_;have BK281:=n1_;have GW281:=n2_;have GE281:=n3_;clear n0_ n1_ n2_ n3_;clear hb hbox hg;have hcz21_0:w20.cell? ⟨gb281,0,none⟩=some (.int .i64 0):=(blk_cell BK281.out 0).trans rfl;have hcz21_1:w20.cell? ⟨gb281,1,none⟩=some (.int .i64 0):=(blk_cell BK281.out 1).trans rfl;have hcz21_2:w20.cell? ⟨gb281,2,none⟩=some (.int .i64 0):=(blk_cell BK281.out 2).trans rfl;have hcz21_3:w20.cell? ⟨gb281,3,none⟩=some (.int .i64 0):=(blk_cell BK281.out 3).trans rfl;have hfz21_0:=blk_frozen BK281.out 0;have hfz21_1:=blk_frozen BK281.out 1;have hfz21_2:=blk_frozen BK281.out 2;have hfz21_3:=blk_frozen BK281.out 3)|((with_reducible refine gate_callee (f:=113) rfl ?_);refine goesL_ (some 16) rfl rfl Try.func113 (by kernel_rfl) rfl #[.int .i64 ((rd_T76 l0 x10_1).f0),.int .i64 1,.int .i64 50] rfl zl ?_;(with_reducible refine (impl_within.calls ((rd_T76 l0 x10_1).f0) 1 50 true _ A6.out).mono ?_);rintro e w' ⟨rfl,⟨nd,rfl⟩⟩;refine ⟨_,rfl,?_⟩)|(go_at_call 113;(with_reducible refine (impl_within.calls ((rd_T76 l0 x10_1).f1) 0 50 false _ A8.out).mono ?_);rintro e w' ⟨rfl,⟨nd,rfl⟩⟩))
         go_ret
         exact ⟨by first|rfl|(simp [errW_none,errW_some] <;> rfl)|(simp [*,errW_none,errW_some] <;> rfl),by repeat (first|(with_reducible first|exact HB.out|apply below_alloc|apply pw_below_drewN|apply below_drew1|refine below_set ?_ GE281.out)|exact HB.out)⟩
       ·replace c7:=Bool.eq_false_iff.mpr c7
        subst c7
        have H1:(some false)=some r:=by rw [if_neg (show ¬ (false=true) by decide)] at H;exact H
        clear H
        have H:=H1
        clear H1
        obtain rfl:=Option.some.inj H
        have p280:0≤(x10_1:Int):=of_decide_eq_true za
        have q280:x10_1<(l0.length:Int):=of_decide_eq_true za
        obtain ⟨ad280,e280,hx280_0,hx280_1,hx280_2,hx280_3⟩:=at_T76 HR0.out x10_1 p280 q280
        cases e280
        replace hx280_0:=(HB.out.cell (World.block_lt_of_cell? w _ hx280_0)).trans hx280_0
        replace hx280_1:=(HB.out.cell (World.block_lt_of_cell? w _ hx280_1)).trans hx280_1
        replace hx280_2:=(HB.out.cell (World.block_lt_of_cell? w _ hx280_2)).trans hx280_2
        replace hx280_3:=(HB.out.cell (World.block_lt_of_cell? w _ hx280_3)).trans hx280_3
        replace p280:=eq_true p280
        replace q280:=eq_true q280
        go_wp2_with (first|((with_reducible refine gate_dst (N:=4) rfl ?_);refine box_event ?hg (N:=4) ?hd (cs:=#[.int .i64 0,.int .i64 0,.int .i64 0,.int .i64 0]) (t:=76) ?hr ?_;(case hd=>rfl);(case hg=>rfl);(case hr=>first|(go_simp;done)|(go_simp;rfl));intro gb281 hg w22 hbox hb;have n0_:=Aside0.mk (below_step zb hb);have n1_:=Aside0.mk (hbox);have n2_:=Aside0.mk ((by rw [hg];exact (below_size zb):w.heap.size≤gb281));have n3_:=Aside0.mk ((by rw [hg];exact (below_size zb):w.heap.size≤gb281));clear HB;have HB:=n0_;have BK281:=n1_;have GW281:=n2_;have GE281:=n3_;clear n0_ n1_ n2_ n3_;clear hb hbox hg;have hcz23_0:w22.cell? ⟨gb281,0,none⟩=some (.int .i64 0):=(blk_cell BK281.out 0).trans rfl;have hcz23_1:w22.cell? ⟨gb281,1,none⟩=some (.int .i64 0):=(blk_cell BK281.out 1).trans rfl;have hcz23_2:w22.cell? ⟨gb281,2,none⟩=some (.int .i64 0):=(blk_cell BK281.out 2).trans rfl;have hcz23_3:w22.cell? ⟨gb281,3,none⟩=some (.int .i64 0):=(blk_cell BK281.out 3).trans rfl;have hfz23_0:=blk_frozen BK281.out 0;have hfz23_1:=blk_frozen BK281.out 1;have hfz23_2:=blk_frozen BK281.out 2;have hfz23_3:=blk_frozen BK281.out 3)|((with_reducible refine gate_callee (f:=113) rfl ?_);refine goesL_ (some 16) rfl rfl Try.func113 (by kernel_rfl) rfl #[.int .i64 ((rd_T76 l0 x10_1).f0),.int .i64 1,.int .i64 50] rfl zl ?_;(with_reducible refine (impl_within.calls ((rd_T76 l0 x10_1).f0) 1 50 false _ A6.out).mono ?_);rintro e w' ⟨rfl,⟨nd,rfl⟩⟩;refine ⟨_,rfl,?_⟩))
        go_ret
        exact ⟨by first|rfl|(simp [errW_none,errW_some] <;> rfl)|(simp [*,errW_none,errW_some] <;> rfl),by repeat (first|(with_reducible first|exact HB.out|apply below_alloc|apply pw_below_drewN|apply below_drew1|refine below_set ?_ GE281.out)|exact HB.out)⟩
      ·rw [if_neg c5] at H
       exact absurd H (by simp)
     ·rw [if_neg c4] at H
      exact absurd H (by simp)
    ·rw [if_neg c3] at H
     have c3b0:decide (x10_1<(l0.length:Int))=false:=decide_eq_false c3
     clear c3
     obtain rfl:=Option.some.inj H
     go_wp2
     go_ret
     exact ⟨by first|rfl|(simp [errW_none,errW_some] <;> rfl)|(simp [*,errW_none,errW_some] <;> rfl),zb⟩

end Go.Proofs.Ytbcfmegepkhlpaa.XFnExactBestListPlan
-- minified
