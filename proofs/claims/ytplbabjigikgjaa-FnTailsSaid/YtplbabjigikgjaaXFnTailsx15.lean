-- Written by a program of this session (the kit's print, widened). Proved here: what each function answers, for the arguments that its contract names.
import Derived.Test.YtplbabjigikgjaaXFnTailsx0
import Derived.Test.YtplbabjigikgjaaXFnTailsx6
import Derived.Test.YtplbabjigikgjaaXFnTailsx8
import Derived.Test.YtplbabjigikgjaaXFnTailsx9
import Derived.Test.YtplbabjigikgjaaXFnTailsx14
namespace Go.Proofs.Ytplbabjigikgjaa.XFnTails
open Go.RowKit Go.Proofs.YtplbabjigikgjaaW.PrintWords Go.Proofs.YtplbabjigikgjaaW.PrintLast Go.Proofs.YtplbabjigikgjaaW.PrintMore
attribute [local go_sem] max2_int min2_int max_two min_two max_three min_three max_four min_four   -- for this text's walks alone
attribute [local go_sem] idxA_45_0 idxA_45_1 fldS_94_0 fldS_94_1 fldS_94_2 fldS_125_0 fldS_125_1 fldS_125_2
set_option linter.unusedVariables false
set_option linter.unusedSimpArgs false

/-! ### impl_LongestChain: function 22 -/
mutual
def impl_LongestChain.j0:Nat→List (S47)→List (S45)→Bool→Option (List Int × Bool)
 | 0,_,_,_=>none
 | k + 1,x0,x1,x19=>if x19=true then (some (([]:List Int),false)) else ((impl_closure.f k (x0.length:Int) x1).bind fun t467=>((impl_tailsOf.f k x0 x1).bind fun t470=>((impl_greatestOf.f k t470).bind fun t473=>(impl_LongestChain.l0 k x0 t467 t470 ([]:List Int) t473))))
def impl_LongestChain.l0:Nat→List (S47)→List (List Bool)→List Int→List Int→Int→Option (List Int × Bool)
 | 0,_,_,_,_,_=>none
 | k + 1,x0,x6,x7,x8,x9=>if x9>0 then (impl_LongestChain.l1 k x0 x6 x7 x8 x9 (x0.length:Int) 0) else (some (x8,true))
def impl_LongestChain.l1:Nat→List (S47)→List (List Bool)→List Int→List Int→Int→Int→Int→Option (List Int × Bool)
 | 0,_,_,_,_,_,_,_=>none
 | k + 1,x0,x6,x7,x8,x9,x32,x33=>if x33<x32 then (if 0≤x33 then (if x33<(x7.length:Int) then (if (rd x7 x33)=x9 then (if (x8.length:Int)=0 then (if x8.length<17592186044416 then (if x33<(x0.length:Int) then (impl_LongestChain.l0 k x0 x6 x7 (x8++[x33]) (wrap64 (x9 - ((rd_T47 x0 x33).f0)))) else (none)) else (none)) else (if 0≤(wrap64 ((x8.length:Int) - 1)) then (if (wrap64 ((x8.length:Int) - 1))<(x8.length:Int) then (if 0≤(rd x8 (wrap64 ((x8.length:Int) - 1))) then (if (rd x8 (wrap64 ((x8.length:Int) - 1)))<(x6.length:Int) then (if x33<((rd_L5 x6 (rd x8 (wrap64 ((x8.length:Int) - 1)))).length:Int) then (if rdOf false (rd_L5 x6 (rd x8 (wrap64 ((x8.length:Int) - 1)))) x33=true then (if x8.length<17592186044416 then (if x33<(x0.length:Int) then (impl_LongestChain.l0 k x0 x6 x7 (x8++[x33]) (wrap64 (x9 - ((rd_T47 x0 x33).f0)))) else (none)) else (none)) else (impl_LongestChain.l1 k x0 x6 x7 x8 x9 x32 (wrap64 (x33 + 1)))) else (none)) else (none)) else (none)) else (none)) else (none))) else (impl_LongestChain.l1 k x0 x6 x7 x8 x9 x32 (wrap64 (x33 + 1)))) else (none)) else (none)) else (impl_LongestChain.l0 k x0 x6 x7 x8 x9)
end
def impl_LongestChain.f (k:Nat) (l0:List (S47)) (l1:List (S45)):Option (List Int × Bool):=(impl_isParallel.f k l0 1 l1).bind fun t466=>(if t466=true then (impl_LongestChain.j0 k l0 l1 ((l0.length:Int) == 0)) else (impl_LongestChain.j0 k l0 l1 true))
theorem impl_LongestChain.mono_l:∀ k,(∀ y0 y1 y2,LeO (impl_LongestChain.j0 k y0 y1 y2) (impl_LongestChain.j0 (k + 1) y0 y1 y2))∧(∀ y0 y1 y2 y3 y4,LeO (impl_LongestChain.l0 k y0 y1 y2 y3 y4) (impl_LongestChain.l0 (k + 1) y0 y1 y2 y3 y4))∧(∀ y0 y1 y2 y3 y4 y5 y6,LeO (impl_LongestChain.l1 k y0 y1 y2 y3 y4 y5 y6) (impl_LongestChain.l1 (k + 1) y0 y1 y2 y3 y4 y5 y6))
 | 0=>⟨fun _ _ _ r h=>by simp [impl_LongestChain.j0] at h,fun _ _ _ _ _ r h=>by simp [impl_LongestChain.l0] at h,fun _ _ _ _ _ _ _ r h=>by simp [impl_LongestChain.l1] at h⟩
 | k + 1=>by
  obtain ⟨ih0,ih1,ih2⟩:=impl_LongestChain.mono_l k
  refine ⟨?_,?_,?_⟩
  ·intro y0 y1 y2
   unfold impl_LongestChain.j0
   repeat' first
   | (with_reducible exact ih0 _ _ _)
   | (with_reducible exact ih1 _ _ _ _ _)
   | (with_reducible exact ih2 _ _ _ _ _ _ _)
   | (with_reducible exact impl_closure.mono _ _ _)
   | (with_reducible exact impl_greatestOf.mono _ _)
   | (with_reducible exact impl_isParallel.mono _ _ _ _)
   | (with_reducible exact impl_tailsOf.mono _ _ _)
   | (with_reducible exact LeO.refl _)
   | (with_reducible exact LeO.none _)
   | (with_reducible refine LeO.ite ?_ ?_)
   | (with_reducible refine LeO.bind ?_ (fun _=>?_))
   | exact ih0 _ _ _
   | exact ih1 _ _ _ _ _
   | exact ih2 _ _ _ _ _ _ _
   | exact impl_closure.mono _ _ _
   | exact impl_greatestOf.mono _ _
   | exact impl_isParallel.mono _ _ _ _
   | exact impl_tailsOf.mono _ _ _
   | exact LeO.none _
   | refine LeO.ite ?_ ?_
   | refine LeO.bind ?_ (fun _=>?_)
  ·intro y0 y1 y2 y3 y4
   unfold impl_LongestChain.l0
   repeat' first
   | (with_reducible exact ih0 _ _ _)
   | (with_reducible exact ih1 _ _ _ _ _)
   | (with_reducible exact ih2 _ _ _ _ _ _ _)
   | (with_reducible exact impl_closure.mono _ _ _)
   | (with_reducible exact impl_greatestOf.mono _ _)
   | (with_reducible exact impl_isParallel.mono _ _ _ _)
   | (with_reducible exact impl_tailsOf.mono _ _ _)
   | (with_reducible exact LeO.refl _)
   | (with_reducible exact LeO.none _)
   | (with_reducible refine LeO.ite ?_ ?_)
   | (with_reducible refine LeO.bind ?_ (fun _=>?_))
   | exact ih0 _ _ _
   | exact ih1 _ _ _ _ _
   | exact ih2 _ _ _ _ _ _ _
   | exact impl_closure.mono _ _ _
   | exact impl_greatestOf.mono _ _
   | exact impl_isParallel.mono _ _ _ _
   | exact impl_tailsOf.mono _ _ _
   | exact LeO.none _
   | refine LeO.ite ?_ ?_
   | refine LeO.bind ?_ (fun _=>?_)
  ·intro y0 y1 y2 y3 y4 y5 y6
   unfold impl_LongestChain.l1
   repeat' first
   | (with_reducible exact ih0 _ _ _)
   | (with_reducible exact ih1 _ _ _ _ _)
   | (with_reducible exact ih2 _ _ _ _ _ _ _)
   | (with_reducible exact impl_closure.mono _ _ _)
   | (with_reducible exact impl_greatestOf.mono _ _)
   | (with_reducible exact impl_isParallel.mono _ _ _ _)
   | (with_reducible exact impl_tailsOf.mono _ _ _)
   | (with_reducible exact LeO.refl _)
   | (with_reducible exact LeO.none _)
   | (with_reducible refine LeO.ite ?_ ?_)
   | (with_reducible refine LeO.bind ?_ (fun _=>?_))
   | exact ih0 _ _ _
   | exact ih1 _ _ _ _ _
   | exact ih2 _ _ _ _ _ _ _
   | exact impl_closure.mono _ _ _
   | exact impl_greatestOf.mono _ _
   | exact impl_isParallel.mono _ _ _ _
   | exact impl_tailsOf.mono _ _ _
   | exact LeO.none _
   | refine LeO.ite ?_ ?_
   | refine LeO.bind ?_ (fun _=>?_)
theorem impl_LongestChain.mono:∀ a0 a1 k,LeO (impl_LongestChain.f k a0 a1) (impl_LongestChain.f (k + 1) a0 a1):=by
 intro a0 a1 k
 obtain ⟨ih0,ih1,ih2⟩:=impl_LongestChain.mono_l k
 unfold impl_LongestChain.f
 repeat' first
   | (with_reducible exact ih0 _ _ _)
   | (with_reducible exact ih1 _ _ _ _ _)
   | (with_reducible exact ih2 _ _ _ _ _ _ _)
   | (with_reducible exact impl_closure.mono _ _ _)
   | (with_reducible exact impl_greatestOf.mono _ _)
   | (with_reducible exact impl_isParallel.mono _ _ _ _)
   | (with_reducible exact impl_tailsOf.mono _ _ _)
   | (with_reducible exact LeO.refl _)
   | (with_reducible exact LeO.none _)
   | (with_reducible refine LeO.ite ?_ ?_)
   | (with_reducible refine LeO.bind ?_ (fun _=>?_))
   | exact ih0 _ _ _
   | exact ih1 _ _ _ _ _
   | exact ih2 _ _ _ _ _ _ _
   | exact impl_closure.mono _ _ _
   | exact impl_greatestOf.mono _ _
   | exact impl_isParallel.mono _ _ _ _
   | exact impl_tailsOf.mono _ _ _
   | exact LeO.none _
   | refine LeO.ite ?_ ?_
   | refine LeO.bind ?_ (fun _=>?_)
set_option maxHeartbeats 8000000 in
set_option maxRecDepth 100000 in
theorem impl_LongestChain.calls (k:Nat) (A0:Option Addr) (c0:Nat) (l0:List (S47)) (A1:Option Addr) (c1:Nat) (l1:List (S45)) (r1:List Int) (r2:Bool) (w:World) (hr0:Kd.C k47 w A0 l0.length l0) (hc0:l0.length≤c0) (hr1:Kd.C k45 w A1 l1.length l1) (hc1:l1.length≤c1) (h:impl_LongestChain.f k l0 l1=some (r1,r2)) :
  Calls Try.prog 22 #[.slice A0 l0.length c0,.slice A1 l1.length c1] w fun e w'=>∃ v0_:Value,e=.returned (.tuple #[v0_,.bool r2])∧Kd.R (Kd.int .i64) 3 w' w.heap.size (fun _=>True) v0_ r1∧Below w.heap.size w w':=by
 have HR0:=Aside0.mk hr0
 have HC0:=Aside0.mk hc0
 clear hr0 hc0
 have HR1:=Aside0.mk hr1
 have HC1:=Aside0.mk hc1
 clear hr1 hc1
 have HB:=Aside0.mk (Below.refl w.heap.size w)
 have H:((impl_isParallel.f k l0 1 l1).bind fun t466=>(if t466=true then (impl_LongestChain.j0 k l0 l1 ((l0.length:Int) == 0)) else (impl_LongestChain.j0 k l0 l1 true)))=some (r1,r2):=h
 clear h
 have HC3:=Aside0.mk H
 clear H
 go_enter Try.func22,Try.ntmps22
 go_upto_region 1 with (fail)
 go_cut [19] (fun v19 wc=>∃ (kq:Nat) (x19_2:Bool),v19=.bool x19_2∧Aside0 (impl_LongestChain.j0 kq l0 l1 x19_2=some (r1,r2))∧Aside0 (kq≤k)∧Aside0 (Below w.heap.size w wc))
 case first=>
  have H:=HC3.out
  clear HC3
  replace H:=Option.bind_eq_some_iff.mp H
  obtain ⟨t466,A40,H⟩:=H
  try dsimp only at H
  have A4:=Aside0.mk A40
  clear A40
  by_cases c5:t466=true
  ·subst c5
   rw [if_pos rfl] at H
   have H':=Aside0.mk H
   clear H
   go_wp2_with (first|((with_reducible refine gate_callee (f:=60) rfl ?_);refine goesL_ (some 13) rfl rfl Try.func60 (by kernel_rfl) rfl #[.slice A0 l0.length c0,.int .i64 1,.slice A1 l1.length c1] rfl zl ?_;(with_reducible refine (impl_isParallel.calls k _ _ l0 1 _ _ l1 true _ ?side1 ?side2 ?side3 ?side4 A4.out).mono ?_);(case side1=>exact zC (Kd.C_below HR0.out HB.out));(case side2=>exact HC0.out);(case side3=>exact zC (Kd.C_below HR1.out HB.out));(case side4=>exact HC1.out);rintro e w6 ⟨rfl,hb⟩;refine ⟨_,rfl,?_⟩;replace HB:=Aside0.mk (below_step zb hb);(try clear hb)))
   go_meet
   case rel=>exact ⟨_,(((l0.length:Int) == 0)),zo,H',⟨by first|omega|exact Nat.le_refl _⟩,⟨zb⟩⟩
  ·replace c5:=Bool.eq_false_iff.mpr c5
   subst c5
   rw [if_neg (show ¬ (false=true) by decide)] at H
   have H':=Aside0.mk H
   clear H
   go_wp2_with (first|((with_reducible refine gate_callee (f:=60) rfl ?_);refine goesL_ (some 13) rfl rfl Try.func60 (by kernel_rfl) rfl #[.slice A0 l0.length c0,.int .i64 1,.slice A1 l1.length c1] rfl zl ?_;(with_reducible refine (impl_isParallel.calls k _ _ l0 1 _ _ l1 false _ ?side1 ?side2 ?side3 ?side4 A4.out).mono ?_);(case side1=>exact zC (Kd.C_below HR0.out HB.out));(case side2=>exact HC0.out);(case side3=>exact zC (Kd.C_below HR1.out HB.out));(case side4=>exact HC1.out);rintro e w7 ⟨rfl,hb⟩;refine ⟨_,rfl,?_⟩;replace HB:=Aside0.mk (below_step zb hb);(try clear hb)))
   go_meet
   case rel=>exact ⟨_,(true),zo,H',⟨by first|omega|exact Nat.le_refl _⟩,⟨zb⟩⟩
 case rest=>
  clear HC3
  (try clear c1);(try clear c2);(try clear p2);(try clear c5);(try clear c6)
  obtain ⟨kq,x19_2,rfl,HA,HJ2,HB⟩:=hcut
  cases kq with
  | zero=>exact absurd HA.out (by simp [impl_LongestChain.j0])
  | succ kj2=>
   have H:=HA.out
   clear HA
   simp only [impl_LongestChain.j0] at H
   by_cases c8:x19_2=true
   ·subst c8
    rw [if_pos rfl] at H
    simp only [Option.some.injEq,Prod.mk.injEq] at H
    obtain ⟨rfl,rfl⟩:=H
    go_wp2
    go_ret2
    exact ⟨_,by first|rfl|(simp [errW_none,errW_some] <;> rfl)|(simp [*,errW_none,errW_some] <;> rfl),by first|exact Kd.R_nil _ _ _ _ _|exact Kd.N_nil _ _ _ _ _|exact Kd.V_nil _ _ _ _ _|exact Kd.Q_nil _ _ _ _ _|exact Kd.S_nil _ _ _ _ _,zb⟩
   ·replace c8:=Bool.eq_false_iff.mpr c8
    subst c8
    rw [if_neg (show ¬ (false=true) by decide)] at H
    replace H:=Option.bind_eq_some_iff.mp H
    obtain ⟨t467,A90,H⟩:=H
    try dsimp only at H
    have A9:=Aside0.mk A90
    clear A90
    replace H:=Option.bind_eq_some_iff.mp H
    obtain ⟨t470,A100,H⟩:=H
    try dsimp only at H
    have A10:=Aside0.mk A100
    clear A100
    replace H:=Option.bind_eq_some_iff.mp H
    obtain ⟨t473,A110,H⟩:=H
    try dsimp only at H
    have A11:=Aside0.mk A110
    clear A110
    have H':=Aside0.mk H
    clear H
    go_wp2_with (first|((with_reducible refine gate_callee (f:=71) rfl ?_);refine goesL_ (some 23) rfl rfl Try.func71 (by kernel_rfl) rfl #[.int .i64 (l0.length:Int),.slice A1 l1.length c1] rfl zl ?_;(with_reducible refine (impl_closure.calls kj2 (l0.length:Int) _ _ l1 t467 _ ?side1 ?side2 A9.out).mono ?_);(case side1=>exact zC (Kd.C_below HR1.out HB.out));(case side2=>exact HC1.out);rintro e w12 ⟨v468,rfl,ho0,hb⟩;refine ⟨_,rfl,?_⟩;have HO469:=Aside0.mk (Kd.S_lower ho0 (below_size zb));replace HB:=Aside0.mk (below_step zb hb);(try clear hb);(try clear ho0))|((with_reducible refine gate_callee (f:=69) rfl ?_);refine goesL_ (some 26) rfl rfl Try.func69 (by kernel_rfl) rfl #[.slice A0 l0.length c0,.slice A1 l1.length c1] rfl zl ?_;(with_reducible refine (impl_tailsOf.calls kj2 _ _ l0 _ _ l1 t470 _ ?side1 ?side2 ?side3 ?side4 A10.out).mono ?_);(case side1=>exact zC (Kd.C_below HR0.out HB.out));(case side2=>exact HC0.out);(case side3=>exact zC (Kd.C_below HR1.out HB.out));(case side4=>exact HC1.out);rintro e w13 ⟨v471,rfl,ho0,hb⟩;refine ⟨_,rfl,?_⟩;replace HO469:=Aside0.mk (Kd.S_below (zS HO469.out) hb);have HO472:=Aside0.mk (Kd.R_lower ho0 (below_size zb));replace HB:=Aside0.mk (below_step zb hb);(try clear hb);(try clear ho0);obtain ⟨Ao14,co14,eo14⟩:=Kd.R_slice HO472.out;subst eo14)|((with_reducible refine gate_callee (f:=72) rfl ?_);refine goesL_ (some 28) rfl rfl Try.func72 (by kernel_rfl) rfl #[.slice Ao14 t470.length co14] rfl zl ?_;(with_reducible refine (impl_greatestOf.calls kj2 _ _ t470 t473 _ ?side1 ?side2 A11.out).mono ?_);(case side1=>exact zC ((Kd.R_reads' HO472.out).2.2));(case side2=>exact (Kd.R_reads' HO472.out).2.1);rintro e w15 ⟨rfl,hb⟩;refine ⟨_,rfl,?_⟩;replace HO469:=Aside0.mk (Kd.S_below (zS HO469.out) hb);replace HO472:=Aside0.mk (Kd.R_below (zR HO472.out) hb);replace HB:=Aside0.mk (below_step zb hb);(try clear hb)))
    go_loopg [8,9] kj2 (fun kq v8 v9 w'=>∃ (x8_2:List Int) (x9_2:Int),v9=.int .i64 x9_2∧Aside0 (impl_LongestChain.l0 kq l0 t467 t470 x8_2 x9_2=some (r1,r2))∧Aside0 (kq≤kj2)∧Aside0 (Kd.S (Kd.slice 4 Kd.bool) 101 w' w.heap.size (fun _=>True) v468 t467)∧Aside0 (Kd.R (Kd.int .i64) 3 w' w.heap.size (fun k_=>some k_≠(v8:Value).ownBlock) (.slice Ao14 t470.length co14) t470)∧Aside0 (Kd.R (Kd.int .i64) 3 w' w.heap.size (fun k_=>some k_≠((.slice Ao14 t470.length co14):Value).ownBlock) v8 x8_2)∧Aside0 (Below w.heap.size w w'))
    case atStart=>exact ⟨(([]:List Int)),(t473),zo,H',⟨Nat.le_refl _⟩,⟨zS HO469.out⟩,⟨zR (Kd.R_mono HO472.out (fun _ hk=>(by simp [Value.ownBlock])))⟩,⟨by first|exact Kd.R_nil _ _ _ _ _|exact Kd.N_nil _ _ _ _ _|exact Kd.V_nil _ _ _ _ _|exact Kd.Q_nil _ _ _ _ _|exact Kd.S_nil _ _ _ _ _⟩,⟨zb⟩⟩
    case round=>
     clear H'
     (try clear c1);(try clear c2);(try clear p2);(try clear c5);(try clear c6);(try clear c7);(try clear c8)
     obtain ⟨x8_2,x9_2,rfl,HA,HK2,HO_6,HO_7,HO_8,HB⟩:=hrel
     cases gk with
     | zero=>exact absurd HA.out (by simp [impl_LongestChain.l0])
     | succ k2=>
      have H:=HA.out
      clear HA
      simp only [impl_LongestChain.l0] at H
      by_cases c16:x9_2>0
      ·rw [if_pos c16] at H
       have c16b0:decide (0<x9_2)=true:=decide_eq_true c16
       clear c16
       have H':=Aside0.mk H
       clear H
       go_wp2
       go_loopg [8,9,33] k2 (fun kq v8 v9 v33 w'=>∃ (x8_3:List Int) (x9_3:Int) (x33_3:Int),v9=.int .i64 x9_3∧v33=.int .i64 x33_3∧Aside0 (impl_LongestChain.l1 kq l0 t467 t470 x8_3 x9_3 (l0.length:Int) x33_3=some (r1,r2))∧Aside0 (kq≤k2)∧Aside0 (Kd.S (Kd.slice 4 Kd.bool) 101 w' w.heap.size (fun _=>True) v468 t467)∧Aside0 (Kd.R (Kd.int .i64) 3 w' w.heap.size (fun k_=>some k_≠(v8:Value).ownBlock) (.slice Ao14 t470.length co14) t470)∧Aside0 (Kd.R (Kd.int .i64) 3 w' w.heap.size (fun k_=>some k_≠((.slice Ao14 t470.length co14):Value).ownBlock) v8 x8_3)∧Aside0 (Below w.heap.size w w'))
       case atStart=>exact ⟨(x8_2),(x9_2),(0),zo,zo,H',⟨Nat.le_refl _⟩,⟨zS HO_6.out⟩,⟨zR HO_7.out⟩,⟨zR HO_8.out⟩,⟨zb⟩⟩
       case round=>
        clear H'
        (try clear c1);(try clear c2);(try clear p2);(try clear c5);(try clear c6);(try clear c7);(try clear c8);(try clear c16);(try clear c16b0)
        obtain ⟨x8_3,x9_3,x33_3,rfl,rfl,HA,HK3,HO_6,HO_7,HO_8,HB⟩:=hrel
        cases gk with
        | zero=>exact absurd HA.out (by simp [impl_LongestChain.l1])
        | succ k3=>
         have H:=HA.out
         clear HA
         simp only [impl_LongestChain.l1] at H
         by_cases c17:x33_3<(l0.length:Int)
         ·rw [if_pos c17] at H
          have c17b0:decide (x33_3<(l0.length:Int))=true:=decide_eq_true c17
          clear c17
          by_cases c18:0≤x33_3
          ·rw [if_pos c18] at H
           have c18b0:decide (0≤x33_3)=true:=decide_eq_true c18
           clear c18
           by_cases c19:x33_3<(t470.length:Int)
           ·rw [if_pos c19] at H
            have c19b0:decide (x33_3<(t470.length:Int))=true:=decide_eq_true c19
            clear c19
            by_cases c20:(rd t470 x33_3)=x9_3
            ·rw [if_pos c20] at H
             have c20b0:((rd t470 x33_3) == x9_3)=true:=beq_iff_eq.mpr c20
             have c20b1:((rd t470 x33_3) != x9_3)=false:=bne_eq_false_iff_eq.mpr c20
             clear c20
             by_cases c21:(x8_3.length:Int)=0
             ·rw [if_pos c21] at H
              have c21b0:((x8_3.length:Int) == 0)=true:=beq_iff_eq.mpr c21
              have c21b1:((x8_3.length:Int) != 0)=false:=bne_eq_false_iff_eq.mpr c21
              clear c21
              by_cases c22:x8_3.length<17592186044416
              ·rw [if_pos c22] at H
               have LMc22:=Aside0.mk c22
               clear c22
               obtain ⟨y475,hy475⟩:∃ y_:List Int,y_=(x8_3++[x33_3]):=⟨_,rfl⟩
               replace H:(if x33_3<(l0.length:Int) then (impl_LongestChain.l0 k3 l0 t467 t470 y475 (wrap64 (x9_3 - ((rd_T47 l0 x33_3).f0)))) else (none))=some (r1,r2):=by first|(rw [hy475];with_reducible exact H)|(have H2_:=(Option.bind_some _ _).symm.trans H;rw [hy475];with_reducible exact H2_)|(have H2_:=(Option.bind_some _ _).symm.trans H;with_reducible exact H2_)|with_reducible exact H|(rw [hy475];exact H)|exact H
               have Ny475:=Aside0.mk hy475
               clear hy475
               by_cases c23:x33_3<(l0.length:Int)
               ·rw [if_pos c23] at H
                have c23b0:decide (x33_3<(l0.length:Int))=true:=decide_eq_true c23
                clear c23
                have H':=Aside0.mk H
                clear H
                have p474:0≤(x33_3:Int):=of_decide_eq_true za
                have q474:x33_3<(t470.length:Int):=of_decide_eq_true za
                obtain ⟨ad474,e474,hx474_0⟩:=Kd.at_int (Kd.R_reads' HO_7.out).2.2 x33_3 p474 q474
                cases e474
                replace p474:=eq_true p474
                replace q474:=eq_true q474
                obtain ⟨Ao24,co24,eo24⟩:=Kd.R_slice HO_8.out
                subst eo24
                go_wp2_with (first|((with_reducible refine gate_builtin (b:=.append) (xs:=#[.tmp 61,.tmp 63]) rfl ?_);(try (refine gate_guard (by rfl) ?_;dsimp only));at_builtin;refine Kd.R_append (Kd.int .i64) (w0:=w) w.heap.size rfl (.tmp 61) (.tmp 63) 39 3 (.int .i64 0) 8 rfl Try.underlying39 info3 rfl (by decide) (by omega) (.slice Ao24 x8_3.length co24) x8_3 x33_3 [.int .i64 x33_3] (fun k_=>some k_≠(.slice (some ad474) t470.length co14:Value).ownBlock) (fun _=>False) rfl rfl ?aP (fun _ hk=>hk.elim) ?aF ?aO ?aB ?aS ?aL ?_;(case aP=>exact rfl);(case aB=>exact zb);(case aF=>exact (fun k_ hk=>Kd.fresh' (Kd.R_lt (zR HO_7.out)) k_ hk));(case aO=>exact (zR HO_8.out));(case aS=>exact (below_size zb));(case aL=>have:=LMc22.out;omega);intro v476 w25 ho hb hg hat;rw [←Ny475.out] at ho;replace HO_6:=Aside0.mk (Kd.S_over' (zS HO_6.out) (Kd.R_typed (zR HO_8.out)) (by decide) hg);replace HO_7:=Aside0.mk (Kd.R_after (ok:=(fun _=>True)) (zR (Kd.R_mono HO_7.out (fun _ hk=>⟨trivial,hk⟩))) hg hat);replace HB:=Aside0.mk (hb);have HO477:=Aside0.mk (ho);clear HO_8;clear ho hb hg hat;have p478:0≤(x33_3:Int):=of_decide_eq_true za;have q478:x33_3<(l0.length:Int):=of_decide_eq_true za;obtain ⟨ad478,e478,hx478_0,hx478_1,hx478_2,hx478_3⟩:=at_T47 HR0.out x33_3 p478 q478;cases e478;replace hx478_0:=(HB.out.cell (World.block_lt_of_cell? w _ hx478_0)).trans hx478_0;replace hx478_1:=(HB.out.cell (World.block_lt_of_cell? w _ hx478_1)).trans hx478_1;replace hx478_2:=(HB.out.cell (World.block_lt_of_cell? w _ hx478_2)).trans hx478_2;replace hx478_3:=(HB.out.cell (World.block_lt_of_cell? w _ hx478_3)).trans hx478_3;replace p478:=eq_true p478;replace q478:=eq_true q478))
                go_roundg k3
                case measure=>have:=HJ2.out;have:=HK2.out;have:=HK3.out;omega
                case rel=>exact ⟨(y475),(wrap64 (x9_3 - ((rd_T47 l0 x33_3).f0))),zo,H',⟨by have:=HJ2.out;have:=HK2.out;have:=HK3.out;omega⟩,⟨zS HO_6.out⟩,⟨zR (Kd.R_mono HO_7.out (fun _ hk=>hk.2))⟩,⟨zR HO477.out⟩,⟨zb⟩⟩
               ·rw [if_neg c23] at H
                exact absurd H (by simp)
              ·rw [if_neg c22] at H
               exact absurd H (by simp)
             ·rw [if_neg c21] at H
              have c21b0:((x8_3.length:Int) == 0)=false:=beq_eq_false_iff_ne.mpr c21
              have c21b1:((x8_3.length:Int) != 0)=true:=bne_iff_ne.mpr c21
              have c21b2:¬ (x8_3=[]):=fun h_=>c21 (by rw [h_];rfl)
              obtain ⟨ji26,hji26⟩:∃ j_:Int,(wrap64 ((x8_3.length:Int) - 1))=j_:=⟨_,rfl⟩
              replace H:(if 0≤(ji26) then (if (ji26)<(x8_3.length:Int) then (if 0≤(rd x8_3 (ji26)) then (if (rd x8_3 (ji26))<(t467.length:Int) then (if x33_3<((rd_L5 t467 (rd x8_3 (ji26))).length:Int) then (if rdOf false (rd_L5 t467 (rd x8_3 (ji26))) x33_3=true then (if x8_3.length<17592186044416 then (if x33_3<(l0.length:Int) then (impl_LongestChain.l0 k3 l0 t467 t470 (x8_3++[x33_3]) (wrap64 (x9_3 - ((rd_T47 l0 x33_3).f0)))) else (none)) else (none)) else (impl_LongestChain.l1 k3 l0 t467 t470 x8_3 x9_3 (l0.length:Int) (wrap64 (x33_3 + 1)))) else (none)) else (none)) else (none)) else (none)) else (none))=some (r1,r2):=by first|(rw [hji26] at H;exact H)|(simp only [hji26] at H ⊢;exact H)
              have hji26w:(IntKind.i64.wrap ((x8_3.length:Int) - 1))=ji26:=(i64_w _).trans hji26
              by_cases c27:0≤(ji26)
              ·rw [if_pos c27] at H
               have c27b0:decide (0≤(ji26))=true:=decide_eq_true c27
               clear c27
               by_cases c28:(ji26)<(x8_3.length:Int)
               ·rw [if_pos c28] at H
                have c28b0:decide ((ji26)<(x8_3.length:Int))=true:=decide_eq_true c28
                clear c28
                by_cases c29:0≤(rd x8_3 (ji26))
                ·rw [if_pos c29] at H
                 have c29b0:decide (0≤(rd x8_3 (ji26)))=true:=decide_eq_true c29
                 clear c29
                 by_cases c30:(rd x8_3 (ji26))<(t467.length:Int)
                 ·rw [if_pos c30] at H
                  have c30b0:decide ((rd x8_3 (ji26))<(t467.length:Int))=true:=decide_eq_true c30
                  clear c30
                  by_cases c31:x33_3<((rd_L5 t467 (rd x8_3 (ji26))).length:Int)
                  ·rw [if_pos c31] at H
                   have c31b0:decide (x33_3<((rd_L5 t467 (rd x8_3 (ji26))).length:Int))=true:=decide_eq_true c31
                   clear c31
                   obtain ⟨bq32,hbq32⟩:∃ b_:Bool,b_=(rdOf false (rd_L5 t467 (rd x8_3 (ji26))) x33_3):=⟨_,rfl⟩
                   replace H:(if bq32=true then (if x8_3.length<17592186044416 then (if x33_3<(l0.length:Int) then (impl_LongestChain.l0 k3 l0 t467 t470 (x8_3++[x33_3]) (wrap64 (x9_3 - ((rd_T47 l0 x33_3).f0)))) else (none)) else (none)) else (impl_LongestChain.l1 k3 l0 t467 t470 x8_3 x9_3 (l0.length:Int) (wrap64 (x33_3 + 1))))=some (r1,r2):=by rw [←hbq32] at H;exact H
                   have Nbq32:=Aside0.mk hbq32
                   clear hbq32
                   by_cases c33:bq32=true
                   ·subst c33
                    rw [if_pos rfl] at H
                    by_cases c34:x8_3.length<17592186044416
                    ·rw [if_pos c34] at H
                     have LMc34:=Aside0.mk c34
                     clear c34
                     obtain ⟨y482,hy482⟩:∃ y_:List Int,y_=(x8_3++[x33_3]):=⟨_,rfl⟩
                     replace H:(if x33_3<(l0.length:Int) then (impl_LongestChain.l0 k3 l0 t467 t470 y482 (wrap64 (x9_3 - ((rd_T47 l0 x33_3).f0)))) else (none))=some (r1,r2):=by first|(rw [hy482];with_reducible exact H)|(have H2_:=(Option.bind_some _ _).symm.trans H;rw [hy482];with_reducible exact H2_)|(have H2_:=(Option.bind_some _ _).symm.trans H;with_reducible exact H2_)|with_reducible exact H|(rw [hy482];exact H)|exact H
                     have Ny482:=Aside0.mk hy482
                     clear hy482
                     by_cases c35:x33_3<(l0.length:Int)
                     ·rw [if_pos c35] at H
                      have c35b0:decide (x33_3<(l0.length:Int))=true:=decide_eq_true c35
                      clear c35
                      have H':=Aside0.mk H
                      clear H
                      have p474:0≤(x33_3:Int):=of_decide_eq_true za
                      have q474:x33_3<(t470.length:Int):=of_decide_eq_true za
                      obtain ⟨ad474,e474,hx474_0⟩:=Kd.at_int (Kd.R_reads' HO_7.out).2.2 x33_3 p474 q474
                      cases e474
                      replace p474:=eq_true p474
                      replace q474:=eq_true q474
                      obtain ⟨Ao36,co36,eo36⟩:=Kd.R_slice HO_8.out
                      subst eo36
                      have p479:0≤((ji26):Int):=of_decide_eq_true za
                      have q479:(ji26)<(x8_3.length:Int):=of_decide_eq_true za
                      obtain ⟨ad479,e479,hx479_0⟩:=Kd.at_int (Kd.R_reads' HO_8.out).2.2 (ji26) p479 q479
                      cases e479
                      replace p479:=eq_true p479
                      replace q479:=eq_true q479
                      obtain ⟨Ao37,co37,eo37⟩:=Kd.S_slice HO_6.out
                      subst eo37
                      have p480:0≤((rd x8_3 (ji26)):Int):=of_decide_eq_true za
                      have q480:(rd x8_3 (ji26))<(t467.length:Int):=of_decide_eq_true za
                      obtain ⟨ad480,A480_0,c480_0,e480,hx480_0,hl480_0,hi480_0⟩:=at_L5 (Kd.S_reads' HO_6.out).2.2 (rd x8_3 (ji26)) p480 q480
                      cases e480
                      obtain ⟨ce480,hce480,hMe480,hcc480⟩:=Kd.S_get HO_6.out [] (rd x8_3 (ji26)) p480 (by first|exact q480|exact of_decide_eq_true za|(have e_:=(Kd.S_reads' HO_6.out).1;omega))
                      obtain ⟨ve480_0,rfl,ge480_0⟩:=hMe480
                      have hv480_0:=hcc480 0 _ rfl
                      rw [Nat.add_zero,show ((Kd.slice 4 Kd.bool)).sz=1 from rfl,Nat.mul_one] at hv480_0
                      replace hv480_0:=Option.some.inj (hv480_0.symm.trans hx480_0)
                      rw [hv480_0] at ge480_0
                      have HL480_0:=Aside0.mk (show Kd.R Kd.bool 4 _ _ _ _ (rd_L5 t467 (rd x8_3 (ji26))) from ge480_0)
                      clear hv480_0 ge480_0
                      clear hcc480 hce480
                      have HR480_0:=Aside0.mk hi480_0
                      have HC480_0:=Aside0.mk hl480_0
                      clear hi480_0 hl480_0
                      replace p480:=eq_true p480
                      replace q480:=eq_true q480
                      have p481:0≤(x33_3:Int):=of_decide_eq_true za
                      have q481:x33_3<((rd_L5 t467 (rd x8_3 (ji26))).length:Int):=of_decide_eq_true za
                      obtain ⟨ad481,e481,hx481_0⟩:=Kd.at_bool (by repeat (first|(with_reducible exact HR480_0.out)|(with_reducible refine Kd.C_alloc ?_ _)|(with_reducible refine Kd.C_drewN ?_ _)|(with_reducible refine Kd.C_drew ?_)|exact HR480_0.out)) x33_3 p481 q481
                      (try rw [←Nbq32.out] at hx481_0)
                      cases e481
                      replace p481:=eq_true p481
                      replace q481:=eq_true q481
                      go_wp2_with (first|((with_reducible refine gate_builtin (b:=.append) (xs:=#[.tmp 61,.tmp 63]) rfl ?_);(try (refine gate_guard (by rfl) ?_;dsimp only));at_builtin;refine Kd.R_append (Kd.int .i64) (w0:=w) w.heap.size rfl (.tmp 61) (.tmp 63) 39 3 (.int .i64 0) 8 rfl Try.underlying39 info3 rfl (by decide) (by omega) (.slice (some ad479) x8_3.length co36) x8_3 x33_3 [.int .i64 x33_3] (fun k_=>some k_≠(.slice (some ad474) t470.length co14:Value).ownBlock) (fun _=>False) rfl rfl ?aP (fun _ hk=>hk.elim) ?aF ?aO ?aB ?aS ?aL ?_;(case aP=>exact rfl);(case aB=>exact zb);(case aF=>exact (fun k_ hk=>Kd.fresh' (Kd.R_lt (zR HO_7.out)) k_ hk));(case aO=>exact (zR HO_8.out));(case aS=>exact (below_size zb));(case aL=>have:=LMc34.out;omega);intro v483 w38 ho hb hg hat;rw [←Ny482.out] at ho;replace HO_6:=Aside0.mk (Kd.S_over' (zS HO_6.out) (Kd.R_typed (zR HO_8.out)) (by decide) hg);replace HO_7:=Aside0.mk (Kd.R_after (ok:=(fun _=>True)) (zR (Kd.R_mono HO_7.out (fun _ hk=>⟨trivial,hk⟩))) hg hat);replace HL480_0:=Aside0.mk (Kd.R_over' (zR HL480_0.out) (Kd.R_typed (zR HO_8.out)) (by decide) hg);replace HB:=Aside0.mk (hb);have HO484:=Aside0.mk (ho);clear HO_8;clear ho hb hg hat;have p485:0≤(x33_3:Int):=of_decide_eq_true za;have q485:x33_3<(l0.length:Int):=of_decide_eq_true za;obtain ⟨ad485,e485,hx485_0,hx485_1,hx485_2,hx485_3⟩:=at_T47 HR0.out x33_3 p485 q485;cases e485;replace hx485_0:=(HB.out.cell (World.block_lt_of_cell? w _ hx485_0)).trans hx485_0;replace hx485_1:=(HB.out.cell (World.block_lt_of_cell? w _ hx485_1)).trans hx485_1;replace hx485_2:=(HB.out.cell (World.block_lt_of_cell? w _ hx485_2)).trans hx485_2;replace hx485_3:=(HB.out.cell (World.block_lt_of_cell? w _ hx485_3)).trans hx485_3;replace p485:=eq_true p485;replace q485:=eq_true q485))
                      go_roundg k3
                      case measure=>have:=HJ2.out;have:=HK2.out;have:=HK3.out;omega
                      case rel=>exact ⟨(y482),(wrap64 (x9_3 - ((rd_T47 l0 x33_3).f0))),zo,H',⟨by have:=HJ2.out;have:=HK2.out;have:=HK3.out;omega⟩,⟨zS HO_6.out⟩,⟨zR (Kd.R_mono HO_7.out (fun _ hk=>hk.2))⟩,⟨zR HO484.out⟩,⟨zb⟩⟩
                     ·rw [if_neg c35] at H
                      exact absurd H (by simp)
                    ·rw [if_neg c34] at H
                     exact absurd H (by simp)
                   ·replace c33:=Bool.eq_false_iff.mpr c33
                    subst c33
                    rw [if_neg (show ¬ (false=true) by decide)] at H
                    have H':=Aside0.mk H
                    clear H
                    have p474:0≤(x33_3:Int):=of_decide_eq_true za
                    have q474:x33_3<(t470.length:Int):=of_decide_eq_true za
                    obtain ⟨ad474,e474,hx474_0⟩:=Kd.at_int (Kd.R_reads' HO_7.out).2.2 x33_3 p474 q474
                    cases e474
                    replace p474:=eq_true p474
                    replace q474:=eq_true q474
                    obtain ⟨Ao39,co39,eo39⟩:=Kd.R_slice HO_8.out
                    subst eo39
                    have p479:0≤((ji26):Int):=of_decide_eq_true za
                    have q479:(ji26)<(x8_3.length:Int):=of_decide_eq_true za
                    obtain ⟨ad479,e479,hx479_0⟩:=Kd.at_int (Kd.R_reads' HO_8.out).2.2 (ji26) p479 q479
                    cases e479
                    replace p479:=eq_true p479
                    replace q479:=eq_true q479
                    obtain ⟨Ao40,co40,eo40⟩:=Kd.S_slice HO_6.out
                    subst eo40
                    have p480:0≤((rd x8_3 (ji26)):Int):=of_decide_eq_true za
                    have q480:(rd x8_3 (ji26))<(t467.length:Int):=of_decide_eq_true za
                    obtain ⟨ad480,A480_0,c480_0,e480,hx480_0,hl480_0,hi480_0⟩:=at_L5 (Kd.S_reads' HO_6.out).2.2 (rd x8_3 (ji26)) p480 q480
                    cases e480
                    obtain ⟨ce480,hce480,hMe480,hcc480⟩:=Kd.S_get HO_6.out [] (rd x8_3 (ji26)) p480 (by first|exact q480|exact of_decide_eq_true za|(have e_:=(Kd.S_reads' HO_6.out).1;omega))
                    obtain ⟨ve480_0,rfl,ge480_0⟩:=hMe480
                    have hv480_0:=hcc480 0 _ rfl
                    rw [Nat.add_zero,show ((Kd.slice 4 Kd.bool)).sz=1 from rfl,Nat.mul_one] at hv480_0
                    replace hv480_0:=Option.some.inj (hv480_0.symm.trans hx480_0)
                    rw [hv480_0] at ge480_0
                    have HL480_0:=Aside0.mk (show Kd.R Kd.bool 4 _ _ _ _ (rd_L5 t467 (rd x8_3 (ji26))) from ge480_0)
                    clear hv480_0 ge480_0
                    clear hcc480 hce480
                    have HR480_0:=Aside0.mk hi480_0
                    have HC480_0:=Aside0.mk hl480_0
                    clear hi480_0 hl480_0
                    replace p480:=eq_true p480
                    replace q480:=eq_true q480
                    have p481:0≤(x33_3:Int):=of_decide_eq_true za
                    have q481:x33_3<((rd_L5 t467 (rd x8_3 (ji26))).length:Int):=of_decide_eq_true za
                    obtain ⟨ad481,e481,hx481_0⟩:=Kd.at_bool (by repeat (first|(with_reducible exact HR480_0.out)|(with_reducible refine Kd.C_alloc ?_ _)|(with_reducible refine Kd.C_drewN ?_ _)|(with_reducible refine Kd.C_drew ?_)|exact HR480_0.out)) x33_3 p481 q481
                    (try rw [←Nbq32.out] at hx481_0)
                    cases e481
                    replace p481:=eq_true p481
                    replace q481:=eq_true q481
                    go_wp2
                    go_roundg k3
                    case measure=>have:=HJ2.out;have:=HK2.out;have:=HK3.out;omega
                    case rel=>exact ⟨(x8_3),(x9_3),(wrap64 (x33_3 + 1)),zo,zo,H',⟨by have:=HJ2.out;have:=HK2.out;have:=HK3.out;omega⟩,⟨zS HO_6.out⟩,⟨zR HO_7.out⟩,⟨zR HO_8.out⟩,⟨zb⟩⟩
                  ·rw [if_neg c31] at H
                   exact absurd H (by simp)
                 ·rw [if_neg c30] at H
                  exact absurd H (by simp)
                ·rw [if_neg c29] at H
                 exact absurd H (by simp)
               ·rw [if_neg c28] at H
                exact absurd H (by simp)
              ·rw [if_neg c27] at H
               exact absurd H (by simp)
            ·rw [if_neg c20] at H
             have c20b0:((rd t470 x33_3) == x9_3)=false:=beq_eq_false_iff_ne.mpr c20
             have c20b1:((rd t470 x33_3) != x9_3)=true:=bne_iff_ne.mpr c20
             have H':=Aside0.mk H
             clear H
             have p474:0≤(x33_3:Int):=of_decide_eq_true za
             have q474:x33_3<(t470.length:Int):=of_decide_eq_true za
             obtain ⟨ad474,e474,hx474_0⟩:=Kd.at_int (Kd.R_reads' HO_7.out).2.2 x33_3 p474 q474
             cases e474
             replace p474:=eq_true p474
             replace q474:=eq_true q474
             go_wp2
             go_roundg k3
             case measure=>have:=HJ2.out;have:=HK2.out;have:=HK3.out;omega
             case rel=>exact ⟨(x8_3),(x9_3),(wrap64 (x33_3 + 1)),zo,zo,H',⟨by have:=HJ2.out;have:=HK2.out;have:=HK3.out;omega⟩,⟨zS HO_6.out⟩,⟨zR HO_7.out⟩,⟨zR HO_8.out⟩,⟨zb⟩⟩
           ·rw [if_neg c19] at H
            exact absurd H (by simp)
          ·rw [if_neg c18] at H
           exact absurd H (by simp)
         ·rw [if_neg c17] at H
          have c17b0:decide (x33_3<(l0.length:Int))=false:=decide_eq_false c17
          clear c17
          have H':=Aside0.mk H
          clear H
          go_wp2
          go_roundg k3
          case measure=>have:=HJ2.out;have:=HK2.out;have:=HK3.out;omega
          case rel=>exact ⟨(x8_3),(x9_3),zo,H',⟨by have:=HJ2.out;have:=HK2.out;have:=HK3.out;omega⟩,⟨zS HO_6.out⟩,⟨zR HO_7.out⟩,⟨zR HO_8.out⟩,⟨zb⟩⟩
      ·rw [if_neg c16] at H
       have c16b0:decide (0<x9_2)=false:=decide_eq_false c16
       clear c16
       simp only [Option.some.injEq,Prod.mk.injEq] at H
       obtain ⟨rfl,rfl⟩:=H
       go_wp2
       go_ret2
       exact ⟨_,by first|rfl|(simp [errW_none,errW_some] <;> rfl)|(simp [*,errW_none,errW_some] <;> rfl),zR (Kd.R_mono HO_8.out (fun _ hk=>trivial)),zb⟩

/-! ### spec_l2Last: function 74 -/
def spec_l2Last.l0:Nat→List Int→Int→Int→Option (Int)
 | 0,_,_,_=>none
 | k + 1,x0,x3,x4=>if x4<(x0.length:Int) then (if 0≤x4 then ((spec_l1Most.f x3 (rd x0 x4)).bind fun t487=>(spec_l2Last.l0 k x0 t487 (wrap64 (x4 + 1)))) else (none)) else (some x3)
def spec_l2Last.f (k:Nat) (l0:List Int):Option (Int):=spec_l2Last.l0 k l0 0 0
theorem spec_l2Last.mono_l:∀ k,(∀ y0 y1 y2,LeO (spec_l2Last.l0 k y0 y1 y2) (spec_l2Last.l0 (k + 1) y0 y1 y2))
 | 0=>fun _ _ _ r h=>by simp [spec_l2Last.l0] at h
 | k + 1=>by
  have ih0:=spec_l2Last.mono_l k
  ·intro y0 y1 y2
   unfold spec_l2Last.l0
   repeat' first
   | (with_reducible exact ih0 _ _ _)
   | (with_reducible exact LeO.refl _)
   | (with_reducible exact LeO.none _)
   | (with_reducible refine LeO.ite ?_ ?_)
   | (with_reducible refine LeO.bind ?_ (fun _=>?_))
   | exact ih0 _ _ _
   | exact LeO.none _
   | refine LeO.ite ?_ ?_
   | refine LeO.bind ?_ (fun _=>?_)
theorem spec_l2Last.mono:∀ a0 k,LeO (spec_l2Last.f k a0) (spec_l2Last.f (k + 1) a0):=by
 intro a0 k
 have ih0:=spec_l2Last.mono_l k
 unfold spec_l2Last.f
 repeat' first
   | (with_reducible exact ih0 _ _ _)
   | (with_reducible exact LeO.refl _)
   | (with_reducible exact LeO.none _)
   | (with_reducible refine LeO.ite ?_ ?_)
   | (with_reducible refine LeO.bind ?_ (fun _=>?_))
   | exact ih0 _ _ _
   | exact LeO.none _
   | refine LeO.ite ?_ ?_
   | refine LeO.bind ?_ (fun _=>?_)
set_option maxHeartbeats 8000000 in
set_option maxRecDepth 100000 in
theorem spec_l2Last.calls (k:Nat) (A0:Option Addr) (c0:Nat) (l0:List Int) (r:Int) (w:World) (hr0:Kd.C (Kd.int .i64) w A0 l0.length l0) (hc0:l0.length≤c0) (h:spec_l2Last.f k l0=some r) :
  Calls Try.prog 74 #[.slice A0 l0.length c0] w fun e w'=>e=.returned (.int .i64 r)∧Drawn0 w w':=by
 have HR0:=Aside0.mk hr0
 have HC0:=Aside0.mk hc0
 clear hr0 hc0
 have H:(spec_l2Last.l0 k l0 0 0)=some r:=h
 clear h
 have H':=Aside0.mk H
 clear H
 go_enter Try.func74,Try.ntmps74
 go_wp2
 go_loopg [3,4] k (fun kq v3 v4 w'=>∃ (x3_1:Int) (x4_1:Int),v3=.int .i64 x3_1∧v4=.int .i64 x4_1∧Aside0 (spec_l2Last.l0 kq l0 x3_1 x4_1=some r)∧Aside0 (kq≤k)∧Drawn0 w w')
 case atStart=>exact ⟨(0),(0),zo,zo,H',⟨Nat.le_refl _⟩,by repeat (first|exact Drawn0.refl _|apply Drawn0.step)⟩
 case round=>
  clear H'
  obtain ⟨x3_1,x4_1,rfl,rfl,HA,HK1,⟨m1,rfl⟩⟩:=hrel
  cases gk with
  | zero=>exact absurd HA.out (by simp [spec_l2Last.l0])
  | succ k1=>
   have H:=HA.out
   clear HA
   simp only [spec_l2Last.l0] at H
   by_cases c2:x4_1<(l0.length:Int)
   ·rw [if_pos c2] at H
    have c2b0:decide (x4_1<(l0.length:Int))=true:=decide_eq_true c2
    clear c2
    by_cases c3:0≤x4_1
    ·rw [if_pos c3] at H
     have c3b0:decide (0≤x4_1)=true:=decide_eq_true c3
     clear c3
     replace H:=Option.bind_eq_some_iff.mp H
     obtain ⟨t487,A40,H⟩:=H
     try dsimp only at H
     have A4:=Aside0.mk A40
     clear A40
     have H':=Aside0.mk H
     clear H
     have p486:0≤(x4_1:Int):=of_decide_eq_true za
     have q486:x4_1<(l0.length:Int):=of_decide_eq_true za
     obtain ⟨ad486,e486,hx486_0⟩:=Kd.at_int HR0.out x4_1 p486 q486
     cases e486
     replace p486:=eq_true p486
     replace q486:=eq_true q486
     go_wp2_with (first|((with_reducible refine gate_callee (f:=120) rfl ?_);refine goesL_ (some 16) rfl rfl Try.func120 (by kernel_rfl) rfl #[.int .i64 x3_1,.int .i64 (rd l0 x4_1)] rfl zl ?_;(with_reducible refine (spec_l1Most.calls x3_1 (rd l0 x4_1) t487 _ A4.out).mono ?_);rintro e w' ⟨rfl,⟨nd,rfl⟩⟩;refine ⟨_,rfl,?_⟩))
     go_roundg k1
     case measure=>have:=HK1.out;omega
     case rel=>exact ⟨(t487),(wrap64 (x4_1 + 1)),zo,zo,H',⟨by have:=HK1.out;omega⟩,by repeat (first|exact Drawn0.refl _|apply Drawn0.step)⟩
    ·rw [if_neg c3] at H
     exact absurd H (by simp)
   ·rw [if_neg c2] at H
    have c2b0:decide (x4_1<(l0.length:Int))=false:=decide_eq_false c2
    clear c2
    obtain rfl:=Option.some.inj H
    go_wp2
    go_ret
    exact ⟨by first|rfl|(simp;done)|(simp [*];done),by repeat (first|exact Drawn0.refl _|apply Drawn0.step)⟩

end Go.Proofs.Ytplbabjigikgjaa.XFnTails
-- minified
