-- Written by a program of this session (the kit's print, widened). Proved here: what each function answers, for the arguments that its contract names.
import Derived.Test.YtplbabjigikgjaaXFnTailsx0
import Derived.Test.YtplbabjigikgjaaXFnTailsx11
import Derived.Test.YtplbabjigikgjaaXFnTailsx14
import Derived.Test.YtplbabjigikgjaaXFnTailsx15
namespace Go.Proofs.Ytplbabjigikgjaa.XFnTails
open Go.RowKit Go.Proofs.YtplbabjigikgjaaW.PrintWords Go.Proofs.YtplbabjigikgjaaW.PrintLast Go.Proofs.YtplbabjigikgjaaW.PrintMore
attribute [local go_sem] max2_int min2_int max_two min_two max_three min_three max_four min_four   -- for this text's walks alone
attribute [local go_sem] idxA_45_0 idxA_45_1 fldS_94_0 fldS_94_1 fldS_94_2 fldS_125_0 fldS_125_1 fldS_125_2
set_option linter.unusedVariables false
set_option linter.unusedSimpArgs false

/-! ### spec_LongestChain: function 23 -/
mutual
def spec_LongestChain.j0:Nat→List (S47)→List (S45)→List Int→Bool→Option (List Int × Bool)
 | 0,_,_,_,_=>none
 | k + 1,x0,x1,x6,x20=>if x20=true then (some (x6,false)) else ((spec_l7Tails.f k x0 x1).bind fun t492=>((spec_l4Table.f k (x0.length:Int) x1).bind fun t495=>((spec_l2Last.f k t492).bind fun t498=>(spec_LongestChain.l0 k x0 x6 t492 t495 t498))))
def spec_LongestChain.l0:Nat→List (S47)→List Int→List Int→List (List Bool)→Int→Option (List Int × Bool)
 | 0,_,_,_,_,_=>none
 | k + 1,x0,x6,x7,x8,x9=>if x9>0 then (spec_LongestChain.l1 k x0 x6 x7 x8 x9 0) else (some (x6,true))
def spec_LongestChain.l1:Nat→List (S47)→List Int→List Int→List (List Bool)→Int→Int→Option (List Int × Bool)
 | 0,_,_,_,_,_,_=>none
 | k + 1,x0,x6,x7,x8,x9,x10=>if 0≤x10 then (if x10<(x7.length:Int) then (if (rd x7 x10)=x9 then (if (x6.length:Int)>0 then (if 0≤(wrap64 ((x6.length:Int) - 1)) then (if (wrap64 ((x6.length:Int) - 1))<(x6.length:Int) then (if 0≤(rd x6 (wrap64 ((x6.length:Int) - 1))) then (if (rd x6 (wrap64 ((x6.length:Int) - 1)))<(x8.length:Int) then (if x10<((rd_L5 x8 (rd x6 (wrap64 ((x6.length:Int) - 1)))).length:Int) then (if (rdOf false (rd_L5 x8 (rd x6 (wrap64 ((x6.length:Int) - 1)))) x10=true) then (if x6.length<17592186044416 then (if x10<(x0.length:Int) then (spec_LongestChain.l0 k x0 (x6++[x10]) x7 x8 (wrap64 (x9 - ((rd_T47 x0 x10).f0)))) else (none)) else (none)) else (spec_LongestChain.l1 k x0 x6 x7 x8 x9 (wrap64 (x10 + 1)))) else (none)) else (none)) else (none)) else (none)) else (none)) else (if x6.length<17592186044416 then (if x10<(x0.length:Int) then (spec_LongestChain.l0 k x0 (x6++[x10]) x7 x8 (wrap64 (x9 - ((rd_T47 x0 x10).f0)))) else (none)) else (none))) else (spec_LongestChain.l1 k x0 x6 x7 x8 x9 (wrap64 (x10 + 1)))) else (none)) else (none)
end
def spec_LongestChain.f (k:Nat) (l0:List (S47)) (l1:List (S45)):Option (List Int × Bool):=(some (([]:List Int):List Int)).bind fun y488=>((spec_l7Good.f k l0 1 l1).bind fun t491=>(if t491=true then (spec_LongestChain.j0 k l0 l1 y488 ((l0.length:Int) == 0)) else (spec_LongestChain.j0 k l0 l1 y488 true)))
theorem spec_LongestChain.mono_l:∀ k,(∀ y0 y1 y2 y3,LeO (spec_LongestChain.j0 k y0 y1 y2 y3) (spec_LongestChain.j0 (k + 1) y0 y1 y2 y3))∧(∀ y0 y1 y2 y3 y4,LeO (spec_LongestChain.l0 k y0 y1 y2 y3 y4) (spec_LongestChain.l0 (k + 1) y0 y1 y2 y3 y4))∧(∀ y0 y1 y2 y3 y4 y5,LeO (spec_LongestChain.l1 k y0 y1 y2 y3 y4 y5) (spec_LongestChain.l1 (k + 1) y0 y1 y2 y3 y4 y5))
 | 0=>⟨fun _ _ _ _ r h=>by simp [spec_LongestChain.j0] at h,fun _ _ _ _ _ r h=>by simp [spec_LongestChain.l0] at h,fun _ _ _ _ _ _ r h=>by simp [spec_LongestChain.l1] at h⟩
 | k + 1=>by
  obtain ⟨ih0,ih1,ih2⟩:=spec_LongestChain.mono_l k
  refine ⟨?_,?_,?_⟩
  ·intro y0 y1 y2 y3
   unfold spec_LongestChain.j0
   repeat' first
   | (with_reducible exact ih0 _ _ _ _)
   | (with_reducible exact ih1 _ _ _ _ _)
   | (with_reducible exact ih2 _ _ _ _ _ _)
   | (with_reducible exact spec_l2Last.mono _ _)
   | (with_reducible exact spec_l4Table.mono _ _ _)
   | (with_reducible exact spec_l7Good.mono _ _ _ _)
   | (with_reducible exact spec_l7Tails.mono _ _ _)
   | (with_reducible exact LeO.refl _)
   | (with_reducible exact LeO.none _)
   | (with_reducible refine LeO.ite ?_ ?_)
   | (with_reducible refine LeO.bind ?_ (fun _=>?_))
   | exact ih0 _ _ _ _
   | exact ih1 _ _ _ _ _
   | exact ih2 _ _ _ _ _ _
   | exact spec_l2Last.mono _ _
   | exact spec_l4Table.mono _ _ _
   | exact spec_l7Good.mono _ _ _ _
   | exact spec_l7Tails.mono _ _ _
   | exact LeO.none _
   | refine LeO.ite ?_ ?_
   | refine LeO.bind ?_ (fun _=>?_)
  ·intro y0 y1 y2 y3 y4
   unfold spec_LongestChain.l0
   repeat' first
   | (with_reducible exact ih0 _ _ _ _)
   | (with_reducible exact ih1 _ _ _ _ _)
   | (with_reducible exact ih2 _ _ _ _ _ _)
   | (with_reducible exact spec_l2Last.mono _ _)
   | (with_reducible exact spec_l4Table.mono _ _ _)
   | (with_reducible exact spec_l7Good.mono _ _ _ _)
   | (with_reducible exact spec_l7Tails.mono _ _ _)
   | (with_reducible exact LeO.refl _)
   | (with_reducible exact LeO.none _)
   | (with_reducible refine LeO.ite ?_ ?_)
   | (with_reducible refine LeO.bind ?_ (fun _=>?_))
   | exact ih0 _ _ _ _
   | exact ih1 _ _ _ _ _
   | exact ih2 _ _ _ _ _ _
   | exact spec_l2Last.mono _ _
   | exact spec_l4Table.mono _ _ _
   | exact spec_l7Good.mono _ _ _ _
   | exact spec_l7Tails.mono _ _ _
   | exact LeO.none _
   | refine LeO.ite ?_ ?_
   | refine LeO.bind ?_ (fun _=>?_)
  ·intro y0 y1 y2 y3 y4 y5
   unfold spec_LongestChain.l1
   repeat' first
   | (with_reducible exact ih0 _ _ _ _)
   | (with_reducible exact ih1 _ _ _ _ _)
   | (with_reducible exact ih2 _ _ _ _ _ _)
   | (with_reducible exact spec_l2Last.mono _ _)
   | (with_reducible exact spec_l4Table.mono _ _ _)
   | (with_reducible exact spec_l7Good.mono _ _ _ _)
   | (with_reducible exact spec_l7Tails.mono _ _ _)
   | (with_reducible exact LeO.refl _)
   | (with_reducible exact LeO.none _)
   | (with_reducible refine LeO.ite ?_ ?_)
   | (with_reducible refine LeO.bind ?_ (fun _=>?_))
   | exact ih0 _ _ _ _
   | exact ih1 _ _ _ _ _
   | exact ih2 _ _ _ _ _ _
   | exact spec_l2Last.mono _ _
   | exact spec_l4Table.mono _ _ _
   | exact spec_l7Good.mono _ _ _ _
   | exact spec_l7Tails.mono _ _ _
   | exact LeO.none _
   | refine LeO.ite ?_ ?_
   | refine LeO.bind ?_ (fun _=>?_)
theorem spec_LongestChain.mono:∀ a0 a1 k,LeO (spec_LongestChain.f k a0 a1) (spec_LongestChain.f (k + 1) a0 a1):=by
 intro a0 a1 k
 obtain ⟨ih0,ih1,ih2⟩:=spec_LongestChain.mono_l k
 unfold spec_LongestChain.f
 repeat' first
   | (with_reducible exact ih0 _ _ _ _)
   | (with_reducible exact ih1 _ _ _ _ _)
   | (with_reducible exact ih2 _ _ _ _ _ _)
   | (with_reducible exact spec_l2Last.mono _ _)
   | (with_reducible exact spec_l4Table.mono _ _ _)
   | (with_reducible exact spec_l7Good.mono _ _ _ _)
   | (with_reducible exact spec_l7Tails.mono _ _ _)
   | (with_reducible exact LeO.refl _)
   | (with_reducible exact LeO.none _)
   | (with_reducible refine LeO.ite ?_ ?_)
   | (with_reducible refine LeO.bind ?_ (fun _=>?_))
   | exact ih0 _ _ _ _
   | exact ih1 _ _ _ _ _
   | exact ih2 _ _ _ _ _ _
   | exact spec_l2Last.mono _ _
   | exact spec_l4Table.mono _ _ _
   | exact spec_l7Good.mono _ _ _ _
   | exact spec_l7Tails.mono _ _ _
   | exact LeO.none _
   | refine LeO.ite ?_ ?_
   | refine LeO.bind ?_ (fun _=>?_)
set_option maxHeartbeats 8000000 in
set_option maxRecDepth 100000 in
theorem spec_LongestChain.calls (k:Nat) (A0:Option Addr) (c0:Nat) (l0:List (S47)) (A1:Option Addr) (c1:Nat) (l1:List (S45)) (r1:List Int) (r2:Bool) (w:World) (hr0:Kd.C k47 w A0 l0.length l0) (hc0:l0.length≤c0) (hr1:Kd.C k45 w A1 l1.length l1) (hc1:l1.length≤c1) (h:spec_LongestChain.f k l0 l1=some (r1,r2)) :
  Calls Try.prog 23 #[.slice A0 l0.length c0,.slice A1 l1.length c1] w fun e w'=>∃ v0_:Value,e=.returned (.tuple #[v0_,.bool r2])∧Kd.R (Kd.int .i64) 3 w' w.heap.size (fun _=>True) v0_ r1∧Below w.heap.size w w':=by
 have HR0:=Aside0.mk hr0
 have HC0:=Aside0.mk hc0
 clear hr0 hc0
 have HR1:=Aside0.mk hr1
 have HC1:=Aside0.mk hc1
 clear hr1 hc1
 have HB:=Aside0.mk (Below.refl w.heap.size w)
 have H:((some (([]:List Int):List Int)).bind fun y488=>((spec_l7Good.f k l0 1 l1).bind fun t491=>(if t491=true then (spec_LongestChain.j0 k l0 l1 y488 ((l0.length:Int) == 0)) else (spec_LongestChain.j0 k l0 l1 y488 true))))=some (r1,r2):=h
 clear h
 obtain ⟨y488,hy488⟩:∃ y_:List Int,y_=(([]:List Int)):=⟨_,rfl⟩
 replace H:((spec_l7Good.f k l0 1 l1).bind fun t491=>(if t491=true then (spec_LongestChain.j0 k l0 l1 y488 ((l0.length:Int) == 0)) else (spec_LongestChain.j0 k l0 l1 y488 true)))=some (r1,r2):=by first|(rw [hy488];with_reducible exact H)|(have H2_:=(Option.bind_some _ _).symm.trans H;rw [hy488];with_reducible exact H2_)|(have H2_:=(Option.bind_some _ _).symm.trans H;with_reducible exact H2_)|with_reducible exact H|(rw [hy488];exact H)|exact H
 have Ny488:=Aside0.mk hy488
 clear hy488
 have HC3:=Aside0.mk H
 clear H
 go_enter Try.func23,Try.ntmps23
 go_upto_region 2 with (first|((with_reducible refine gate_dst (N:=11) rfl ?_);(try (refine gate_guard (by rfl) ?_;dsimp only));refine Kd.R_lit (Kd.int .i64) _ 3 ?hg (N:=11) ?hd (xs:=([]:List Int)) (inner:=[]) (ok:=fun _=>True) (okp:=fun _=>True) ?hr ?hp (fun _ hk=>hk) trivial (Below.refl _ _) (Nat.le_refl _) (by simp) ?_;(case hd=>rfl);(case hg=>rfl);(case hr=>first|(go_simp;done)|(go_simp;rfl));(case hp=>exact (Reps.none _ _));intro v489 w4 ho5 hb hg_ hnew_;clear hg_ hnew_;(first|rw [←Ny488.out] at ho5|(simp only [Int.reduceToNat] at ho5;rw [←Ny488.out] at ho5));have HO490:=Aside0.mk (Kd.R_lower ho5 (below_size zb));replace HB:=Aside0.mk (below_step zb hb);clear hb ho5))
 (try simp only [Act.put,List.setIfInBounds_toArray,List.set_cons_zero,List.set_cons_succ])
 go_cut [20] (fun v20 wc=>∃ (kq:Nat) (x20_2:Bool),v20=.bool x20_2∧Aside0 (spec_LongestChain.j0 kq l0 l1 y488 x20_2=some (r1,r2))∧Aside0 (kq≤k)∧Aside0 (Kd.R (Kd.int .i64) 3 wc w.heap.size (fun _=>True) v489 y488)∧Aside0 (Below w.heap.size w wc))
 case first=>
  have H:=HC3.out
  clear HC3
  replace H:=Option.bind_eq_some_iff.mp H
  obtain ⟨t491,A60,H⟩:=H
  try dsimp only at H
  have A6:=Aside0.mk A60
  clear A60
  by_cases c7:t491=true
  ·subst c7
   rw [if_pos rfl] at H
   have H':=Aside0.mk H
   clear H
   go_wp2_with (first|((with_reducible refine gate_callee (f:=55) rfl ?_);refine goesL_ (some 14) rfl rfl Try.func55 (by kernel_rfl) rfl #[.slice A0 l0.length c0,.int .i64 1,.slice A1 l1.length c1] rfl zl ?_;(with_reducible refine (spec_l7Good.calls k _ _ l0 1 _ _ l1 true _ ?side1 ?side2 ?side3 ?side4 A6.out).mono ?_);(case side1=>exact zC (Kd.C_below HR0.out HB.out));(case side2=>exact HC0.out);(case side3=>exact zC (Kd.C_below HR1.out HB.out));(case side4=>exact HC1.out);rintro e w8 ⟨rfl,hb⟩;refine ⟨_,rfl,?_⟩;replace HO490:=Aside0.mk (Kd.R_below (zR HO490.out) hb);replace HB:=Aside0.mk (below_step zb hb);(try clear hb)))
   go_meet
   case rel=>exact ⟨_,(((l0.length:Int) == 0)),zo,H',⟨by first|omega|exact Nat.le_refl _⟩,⟨zR HO490.out⟩,⟨zb⟩⟩
  ·replace c7:=Bool.eq_false_iff.mpr c7
   subst c7
   rw [if_neg (show ¬ (false=true) by decide)] at H
   have H':=Aside0.mk H
   clear H
   go_wp2_with (first|((with_reducible refine gate_callee (f:=55) rfl ?_);refine goesL_ (some 14) rfl rfl Try.func55 (by kernel_rfl) rfl #[.slice A0 l0.length c0,.int .i64 1,.slice A1 l1.length c1] rfl zl ?_;(with_reducible refine (spec_l7Good.calls k _ _ l0 1 _ _ l1 false _ ?side1 ?side2 ?side3 ?side4 A6.out).mono ?_);(case side1=>exact zC (Kd.C_below HR0.out HB.out));(case side2=>exact HC0.out);(case side3=>exact zC (Kd.C_below HR1.out HB.out));(case side4=>exact HC1.out);rintro e w9 ⟨rfl,hb⟩;refine ⟨_,rfl,?_⟩;replace HO490:=Aside0.mk (Kd.R_below (zR HO490.out) hb);replace HB:=Aside0.mk (below_step zb hb);(try clear hb)))
   go_meet
   case rel=>exact ⟨_,(true),zo,H',⟨by first|omega|exact Nat.le_refl _⟩,⟨zR HO490.out⟩,⟨zb⟩⟩
 case rest=>
  clear HC3
  (try clear c1);(try clear c2);(try clear p2);(try clear c5);(try clear c7)
  obtain ⟨kq,x20_2,rfl,HA,HJ2,HO_6,HB⟩:=hcut
  cases kq with
  | zero=>exact absurd HA.out (by simp [spec_LongestChain.j0])
  | succ kj2=>
   have H:=HA.out
   clear HA
   simp only [spec_LongestChain.j0] at H
   by_cases c10:x20_2=true
   ·subst c10
    rw [if_pos rfl] at H
    simp only [Option.some.injEq,Prod.mk.injEq] at H
    obtain ⟨rfl,rfl⟩:=H
    go_wp2
    go_ret2
    exact ⟨_,by first|rfl|(simp [errW_none,errW_some] <;> rfl)|(simp [*,errW_none,errW_some] <;> rfl),zR HO_6.out,zb⟩
   ·replace c10:=Bool.eq_false_iff.mpr c10
    subst c10
    rw [if_neg (show ¬ (false=true) by decide)] at H
    replace H:=Option.bind_eq_some_iff.mp H
    obtain ⟨t492,A110,H⟩:=H
    try dsimp only at H
    have A11:=Aside0.mk A110
    clear A110
    replace H:=Option.bind_eq_some_iff.mp H
    obtain ⟨t495,A120,H⟩:=H
    try dsimp only at H
    have A12:=Aside0.mk A120
    clear A120
    replace H:=Option.bind_eq_some_iff.mp H
    obtain ⟨t498,A130,H⟩:=H
    try dsimp only at H
    have A13:=Aside0.mk A130
    clear A130
    have H':=Aside0.mk H
    clear H
    go_wp2_with (first|((with_reducible refine gate_callee (f:=70) rfl ?_);refine goesL_ (some 24) rfl rfl Try.func70 (by kernel_rfl) rfl #[.slice A0 l0.length c0,.slice A1 l1.length c1] rfl zl ?_;(with_reducible refine (spec_l7Tails.calls kj2 _ _ l0 _ _ l1 t492 _ ?side1 ?side2 ?side3 ?side4 A11.out).mono ?_);(case side1=>exact zC (Kd.C_below HR0.out HB.out));(case side2=>exact HC0.out);(case side3=>exact zC (Kd.C_below HR1.out HB.out));(case side4=>exact HC1.out);rintro e w14 ⟨v493,rfl,ho0,hb⟩;refine ⟨_,rfl,?_⟩;have n0_:=Aside0.mk (Kd.R_elder' (zR HO_6.out) (Kd.R_base ho0) hb);have n1_:=Aside0.mk (Kd.R_lower (Kd.R_new' ho0 (Kd.R_lt (zR HO_6.out))) (below_size zb));have n2_:=Aside0.mk (below_step zb hb);clear HO_6;clear HB;have HO_6:=n0_;have HO494:=n1_;have HB:=n2_;clear n0_ n1_ n2_;(try clear hb);(try clear ho0))|((with_reducible refine gate_callee (f:=73) rfl ?_);refine goesL_ (some 28) rfl rfl Try.func73 (by kernel_rfl) rfl #[.int .i64 (l0.length:Int),.slice A1 l1.length c1] rfl zl ?_;(with_reducible refine (spec_l4Table.calls kj2 (l0.length:Int) _ _ l1 t495 _ ?side1 ?side2 A12.out).mono ?_);(case side1=>exact zC (Kd.C_below HR1.out HB.out));(case side2=>exact HC1.out);rintro e w15 ⟨v496,rfl,ho0,hb⟩;refine ⟨_,rfl,?_⟩;replace HO_6:=Aside0.mk (Kd.R_below (zR HO_6.out) hb);replace HO494:=Aside0.mk (Kd.R_below (zR HO494.out) hb);have HO497:=Aside0.mk (Kd.S_lower ho0 (below_size zb));replace HB:=Aside0.mk (below_step zb hb);(try clear hb);(try clear ho0);obtain ⟨Ao16,co16,eo16⟩:=Kd.R_slice HO494.out;subst eo16)|((with_reducible refine gate_callee (f:=74) rfl ?_);refine goesL_ (some 30) rfl rfl Try.func74 (by kernel_rfl) rfl #[.slice Ao16 t492.length co16] rfl zl ?_;(with_reducible refine (spec_l2Last.calls kj2 _ _ t492 t498 _ ?side1 ?side2 A13.out).mono ?_);(case side1=>exact zC ((Kd.R_reads' HO494.out).2.2));(case side2=>exact (Kd.R_reads' HO494.out).2.1);rintro e w' ⟨rfl,⟨nd,rfl⟩⟩;refine ⟨_,rfl,?_⟩))
    go_loopg [6,9] kj2 (fun kq v6 v9 w'=>∃ (x6_2:List Int) (x9_2:Int),v9=.int .i64 x9_2∧Aside0 (spec_LongestChain.l0 kq l0 x6_2 t492 t495 x9_2=some (r1,r2))∧Aside0 (kq≤kj2)∧Aside0 (Kd.R (Kd.int .i64) 3 w' w.heap.size (fun k_=>some k_≠((.slice Ao16 t492.length co16):Value).ownBlock) v6 x6_2)∧Aside0 (Kd.R (Kd.int .i64) 3 w' w.heap.size (fun k_=>some k_≠(v6:Value).ownBlock) (.slice Ao16 t492.length co16) t492)∧Aside0 (Kd.S (Kd.slice 4 Kd.bool) 101 w' w.heap.size (fun _=>True) v496 t495)∧Aside0 (Below w.heap.size w w'))
    case atStart=>exact ⟨(y488),(t498),zo,H',⟨Nat.le_refl _⟩,⟨zR (Kd.R_mono HO_6.out (fun _ hk=>hk.2))⟩,⟨zR (Kd.R_mono HO494.out (fun _ hk=>hk.2))⟩,⟨zS HO497.out⟩,⟨zb⟩⟩
    case round=>
     clear H'
     (try clear c1);(try clear c2);(try clear p2);(try clear c5);(try clear c7);(try clear c10)
     obtain ⟨x6_2,x9_2,rfl,HA,HK2,HO_6,HO_7,HO_8,HB⟩:=hrel
     cases gk with
     | zero=>exact absurd HA.out (by simp [spec_LongestChain.l0])
     | succ k2=>
      have H:=HA.out
      clear HA
      simp only [spec_LongestChain.l0] at H
      by_cases c17:x9_2>0
      ·rw [if_pos c17] at H
       have c17b0:decide (0<x9_2)=true:=decide_eq_true c17
       clear c17
       have H':=Aside0.mk H
       clear H
       go_wp2
       go_loopg [10] k2 (fun kq v10 w'=>∃ (x10_3:Int),v10=.int .i64 x10_3∧Aside0 (spec_LongestChain.l1 kq l0 x6_2 t492 t495 x9_2 x10_3=some (r1,r2))∧Aside0 (kq≤k2)∧Aside0 (Kd.R (Kd.int .i64) 3 w' w.heap.size (fun k_=>some k_≠((.slice Ao16 t492.length co16):Value).ownBlock) u6 x6_2)∧Aside0 (Kd.R (Kd.int .i64) 3 w' w.heap.size (fun k_=>some k_≠(u6:Value).ownBlock) (.slice Ao16 t492.length co16) t492)∧Aside0 (Kd.S (Kd.slice 4 Kd.bool) 101 w' w.heap.size (fun _=>True) v496 t495)∧Aside0 (Below w.heap.size w w'))
       case atStart=>exact ⟨(0),zo,H',⟨Nat.le_refl _⟩,⟨zR HO_6.out⟩,⟨zR HO_7.out⟩,⟨zS HO_8.out⟩,⟨zb⟩⟩
       case round=>
        clear H'
        (try clear c1);(try clear c2);(try clear p2);(try clear c5);(try clear c7);(try clear c10);(try clear c17);(try clear c17b0)
        obtain ⟨x10_3,rfl,HA,HK3,HO_6,HO_7,HO_8,HB⟩:=hrel
        cases gk with
        | zero=>exact absurd HA.out (by simp [spec_LongestChain.l1])
        | succ k3=>
         have H:=HA.out
         clear HA
         simp only [spec_LongestChain.l1] at H
         by_cases c18:0≤x10_3
         ·rw [if_pos c18] at H
          have c18b0:decide (0≤x10_3)=true:=decide_eq_true c18
          clear c18
          by_cases c19:x10_3<(t492.length:Int)
          ·rw [if_pos c19] at H
           have c19b0:decide (x10_3<(t492.length:Int))=true:=decide_eq_true c19
           clear c19
           by_cases c20:(rd t492 x10_3)=x9_2
           ·rw [if_pos c20] at H
            have c20b0:((rd t492 x10_3) == x9_2)=true:=beq_iff_eq.mpr c20
            have c20b1:((rd t492 x10_3) != x9_2)=false:=bne_eq_false_iff_eq.mpr c20
            clear c20
            by_cases c21:(x6_2.length:Int)>0
            ·rw [if_pos c21] at H
             have c21b0:decide (0<(x6_2.length:Int))=true:=decide_eq_true c21
             have c21b1:decide (0<x6_2.length)=true:=decide_eq_true (by omega)
             clear c21
             obtain ⟨ji22,hji22⟩:∃ j_:Int,(wrap64 ((x6_2.length:Int) - 1))=j_:=⟨_,rfl⟩
             replace H:(if 0≤(ji22) then (if (ji22)<(x6_2.length:Int) then (if 0≤(rd x6_2 (ji22)) then (if (rd x6_2 (ji22))<(t495.length:Int) then (if x10_3<((rd_L5 t495 (rd x6_2 (ji22))).length:Int) then (if (rdOf false (rd_L5 t495 (rd x6_2 (ji22))) x10_3=true) then (if x6_2.length<17592186044416 then (if x10_3<(l0.length:Int) then (spec_LongestChain.l0 k3 l0 (x6_2++[x10_3]) t492 t495 (wrap64 (x9_2 - ((rd_T47 l0 x10_3).f0)))) else (none)) else (none)) else (spec_LongestChain.l1 k3 l0 x6_2 t492 t495 x9_2 (wrap64 (x10_3 + 1)))) else (none)) else (none)) else (none)) else (none)) else (none))=some (r1,r2):=by first|(rw [hji22] at H;exact H)|(simp only [hji22] at H ⊢;exact H)
             have hji22w:(IntKind.i64.wrap ((x6_2.length:Int) - 1))=ji22:=(i64_w _).trans hji22
             by_cases c23:0≤(ji22)
             ·rw [if_pos c23] at H
              have c23b0:decide (0≤(ji22))=true:=decide_eq_true c23
              clear c23
              by_cases c24:(ji22)<(x6_2.length:Int)
              ·rw [if_pos c24] at H
               have c24b0:decide ((ji22)<(x6_2.length:Int))=true:=decide_eq_true c24
               clear c24
               by_cases c25:0≤(rd x6_2 (ji22))
               ·rw [if_pos c25] at H
                have c25b0:decide (0≤(rd x6_2 (ji22)))=true:=decide_eq_true c25
                clear c25
                by_cases c26:(rd x6_2 (ji22))<(t495.length:Int)
                ·rw [if_pos c26] at H
                 have c26b0:decide ((rd x6_2 (ji22))<(t495.length:Int))=true:=decide_eq_true c26
                 clear c26
                 by_cases c27:x10_3<((rd_L5 t495 (rd x6_2 (ji22))).length:Int)
                 ·rw [if_pos c27] at H
                  have c27b0:decide (x10_3<((rd_L5 t495 (rd x6_2 (ji22))).length:Int))=true:=decide_eq_true c27
                  clear c27
                  obtain ⟨bq28,hbq28⟩:∃ b_:Bool,b_=(rdOf false (rd_L5 t495 (rd x6_2 (ji22))) x10_3):=⟨_,rfl⟩
                  replace H:(if (bq28=true) then (if x6_2.length<17592186044416 then (if x10_3<(l0.length:Int) then (spec_LongestChain.l0 k3 l0 (x6_2++[x10_3]) t492 t495 (wrap64 (x9_2 - ((rd_T47 l0 x10_3).f0)))) else (none)) else (none)) else (spec_LongestChain.l1 k3 l0 x6_2 t492 t495 x9_2 (wrap64 (x10_3 + 1))))=some (r1,r2):=by rw [←hbq28] at H;exact H
                  have Nbq28:=Aside0.mk hbq28
                  clear hbq28
                  by_cases c29:(bq28=true)
                  ·subst c29
                   rw [if_pos rfl] at H
                   by_cases c30:x6_2.length<17592186044416
                   ·rw [if_pos c30] at H
                    have LMc30:=Aside0.mk c30
                    clear c30
                    obtain ⟨y503,hy503⟩:∃ y_:List Int,y_=(x6_2++[x10_3]):=⟨_,rfl⟩
                    replace H:(if x10_3<(l0.length:Int) then (spec_LongestChain.l0 k3 l0 y503 t492 t495 (wrap64 (x9_2 - ((rd_T47 l0 x10_3).f0)))) else (none))=some (r1,r2):=by first|(rw [hy503];with_reducible exact H)|(have H2_:=(Option.bind_some _ _).symm.trans H;rw [hy503];with_reducible exact H2_)|(have H2_:=(Option.bind_some _ _).symm.trans H;with_reducible exact H2_)|with_reducible exact H|(rw [hy503];exact H)|exact H
                    have Ny503:=Aside0.mk hy503
                    clear hy503
                    by_cases c31:x10_3<(l0.length:Int)
                    ·rw [if_pos c31] at H
                     have c31b0:decide (x10_3<(l0.length:Int))=true:=decide_eq_true c31
                     clear c31
                     have H':=Aside0.mk H
                     clear H
                     have p499:0≤(x10_3:Int):=of_decide_eq_true za
                     have q499:x10_3<(t492.length:Int):=of_decide_eq_true za
                     obtain ⟨ad499,e499,hx499_0⟩:=Kd.at_int (Kd.R_reads' HO_7.out).2.2 x10_3 p499 q499
                     cases e499
                     replace p499:=eq_true p499
                     replace q499:=eq_true q499
                     obtain ⟨Ao32,co32,eo32⟩:=Kd.R_slice HO_6.out
                     subst eo32
                     have p500:0≤((ji22):Int):=of_decide_eq_true za
                     have q500:(ji22)<(x6_2.length:Int):=of_decide_eq_true za
                     obtain ⟨ad500,e500,hx500_0⟩:=Kd.at_int (Kd.R_reads' HO_6.out).2.2 (ji22) p500 q500
                     cases e500
                     replace p500:=eq_true p500
                     replace q500:=eq_true q500
                     obtain ⟨Ao33,co33,eo33⟩:=Kd.S_slice HO_8.out
                     subst eo33
                     have p501:0≤((rd x6_2 (ji22)):Int):=of_decide_eq_true za
                     have q501:(rd x6_2 (ji22))<(t495.length:Int):=of_decide_eq_true za
                     obtain ⟨ad501,A501_0,c501_0,e501,hx501_0,hl501_0,hi501_0⟩:=at_L5 (Kd.S_reads' HO_8.out).2.2 (rd x6_2 (ji22)) p501 q501
                     cases e501
                     obtain ⟨ce501,hce501,hMe501,hcc501⟩:=Kd.S_get HO_8.out [] (rd x6_2 (ji22)) p501 (by first|exact q501|exact of_decide_eq_true za|(have e_:=(Kd.S_reads' HO_8.out).1;omega))
                     obtain ⟨ve501_0,rfl,ge501_0⟩:=hMe501
                     have hv501_0:=hcc501 0 _ rfl
                     rw [Nat.add_zero,show ((Kd.slice 4 Kd.bool)).sz=1 from rfl,Nat.mul_one] at hv501_0
                     replace hv501_0:=Option.some.inj (hv501_0.symm.trans hx501_0)
                     rw [hv501_0] at ge501_0
                     have HL501_0:=Aside0.mk (show Kd.R Kd.bool 4 _ _ _ _ (rd_L5 t495 (rd x6_2 (ji22))) from ge501_0)
                     clear hv501_0 ge501_0
                     clear hcc501 hce501
                     have HR501_0:=Aside0.mk hi501_0
                     have HC501_0:=Aside0.mk hl501_0
                     clear hi501_0 hl501_0
                     replace p501:=eq_true p501
                     replace q501:=eq_true q501
                     have p502:0≤(x10_3:Int):=of_decide_eq_true za
                     have q502:x10_3<((rd_L5 t495 (rd x6_2 (ji22))).length:Int):=of_decide_eq_true za
                     obtain ⟨ad502,e502,hx502_0⟩:=Kd.at_bool (by repeat (first|(with_reducible exact HR501_0.out)|(with_reducible refine Kd.C_alloc ?_ _)|(with_reducible refine Kd.C_drewN ?_ _)|(with_reducible refine Kd.C_drew ?_)|exact HR501_0.out)) x10_3 p502 q502
                     (try rw [←Nbq28.out] at hx502_0)
                     cases e502
                     replace p502:=eq_true p502
                     replace q502:=eq_true q502
                     go_wp2_with (first|((with_reducible refine gate_builtin (b:=.append) (xs:=#[.tmp 61,.tmp 63]) rfl ?_);(try (refine gate_guard (by rfl) ?_;dsimp only));at_builtin;refine Kd.R_append (Kd.int .i64) (w0:=w) w.heap.size rfl (.tmp 61) (.tmp 63) 39 3 (.int .i64 0) 8 rfl Try.underlying39 info3 rfl (by decide) (by omega) (.slice (some ad500) x6_2.length co32) x6_2 x10_3 [.int .i64 x10_3] (fun k_=>some k_≠(.slice (some ad499) t492.length co16:Value).ownBlock) (fun _=>False) rfl rfl ?aP (fun _ hk=>hk.elim) ?aF ?aO ?aB ?aS ?aL ?_;(case aP=>exact rfl);(case aB=>exact zb);(case aF=>exact (fun k_ hk=>Kd.fresh' (Kd.R_lt (zR HO_7.out)) k_ hk));(case aO=>exact (zR HO_6.out));(case aS=>exact (below_size zb));(case aL=>have:=LMc30.out;omega);intro v504 w34 ho hb hg hat;rw [←Ny503.out] at ho;replace HO_7:=Aside0.mk (Kd.R_after (ok:=(fun _=>True)) (zR (Kd.R_mono HO_7.out (fun _ hk=>⟨trivial,hk⟩))) hg hat);replace HO_8:=Aside0.mk (Kd.S_over' (zS HO_8.out) (Kd.R_typed (zR HO_6.out)) (by decide) hg);replace HL501_0:=Aside0.mk (Kd.R_over' (zR HL501_0.out) (Kd.R_typed (zR HO_6.out)) (by decide) hg);replace HB:=Aside0.mk (hb);have HO505:=Aside0.mk (ho);clear HO_6;clear ho hb hg hat;have p506:0≤(x10_3:Int):=of_decide_eq_true za;have q506:x10_3<(l0.length:Int):=of_decide_eq_true za;obtain ⟨ad506,e506,hx506_0,hx506_1,hx506_2,hx506_3⟩:=at_T47 HR0.out x10_3 p506 q506;cases e506;replace hx506_0:=(HB.out.cell (World.block_lt_of_cell? w _ hx506_0)).trans hx506_0;replace hx506_1:=(HB.out.cell (World.block_lt_of_cell? w _ hx506_1)).trans hx506_1;replace hx506_2:=(HB.out.cell (World.block_lt_of_cell? w _ hx506_2)).trans hx506_2;replace hx506_3:=(HB.out.cell (World.block_lt_of_cell? w _ hx506_3)).trans hx506_3;replace p506:=eq_true p506;replace q506:=eq_true q506))
                     go_roundg k3
                     case measure=>have:=HJ2.out;have:=HK2.out;have:=HK3.out;omega
                     case rel=>exact ⟨(y503),(wrap64 (x9_2 - ((rd_T47 l0 x10_3).f0))),zo,H',⟨by have:=HJ2.out;have:=HK2.out;have:=HK3.out;omega⟩,⟨zR HO505.out⟩,⟨zR (Kd.R_mono HO_7.out (fun _ hk=>hk.2))⟩,⟨zS HO_8.out⟩,⟨zb⟩⟩
                    ·rw [if_neg c31] at H
                     exact absurd H (by simp)
                   ·rw [if_neg c30] at H
                    exact absurd H (by simp)
                  ·replace c29:=Bool.eq_false_iff.mpr c29
                   subst c29
                   rw [if_neg (show ¬ (false=true) by decide)] at H
                   have H':=Aside0.mk H
                   clear H
                   have p499:0≤(x10_3:Int):=of_decide_eq_true za
                   have q499:x10_3<(t492.length:Int):=of_decide_eq_true za
                   obtain ⟨ad499,e499,hx499_0⟩:=Kd.at_int (Kd.R_reads' HO_7.out).2.2 x10_3 p499 q499
                   cases e499
                   replace p499:=eq_true p499
                   replace q499:=eq_true q499
                   obtain ⟨Ao35,co35,eo35⟩:=Kd.R_slice HO_6.out
                   subst eo35
                   have p500:0≤((ji22):Int):=of_decide_eq_true za
                   have q500:(ji22)<(x6_2.length:Int):=of_decide_eq_true za
                   obtain ⟨ad500,e500,hx500_0⟩:=Kd.at_int (Kd.R_reads' HO_6.out).2.2 (ji22) p500 q500
                   cases e500
                   replace p500:=eq_true p500
                   replace q500:=eq_true q500
                   obtain ⟨Ao36,co36,eo36⟩:=Kd.S_slice HO_8.out
                   subst eo36
                   have p501:0≤((rd x6_2 (ji22)):Int):=of_decide_eq_true za
                   have q501:(rd x6_2 (ji22))<(t495.length:Int):=of_decide_eq_true za
                   obtain ⟨ad501,A501_0,c501_0,e501,hx501_0,hl501_0,hi501_0⟩:=at_L5 (Kd.S_reads' HO_8.out).2.2 (rd x6_2 (ji22)) p501 q501
                   cases e501
                   obtain ⟨ce501,hce501,hMe501,hcc501⟩:=Kd.S_get HO_8.out [] (rd x6_2 (ji22)) p501 (by first|exact q501|exact of_decide_eq_true za|(have e_:=(Kd.S_reads' HO_8.out).1;omega))
                   obtain ⟨ve501_0,rfl,ge501_0⟩:=hMe501
                   have hv501_0:=hcc501 0 _ rfl
                   rw [Nat.add_zero,show ((Kd.slice 4 Kd.bool)).sz=1 from rfl,Nat.mul_one] at hv501_0
                   replace hv501_0:=Option.some.inj (hv501_0.symm.trans hx501_0)
                   rw [hv501_0] at ge501_0
                   have HL501_0:=Aside0.mk (show Kd.R Kd.bool 4 _ _ _ _ (rd_L5 t495 (rd x6_2 (ji22))) from ge501_0)
                   clear hv501_0 ge501_0
                   clear hcc501 hce501
                   have HR501_0:=Aside0.mk hi501_0
                   have HC501_0:=Aside0.mk hl501_0
                   clear hi501_0 hl501_0
                   replace p501:=eq_true p501
                   replace q501:=eq_true q501
                   have p502:0≤(x10_3:Int):=of_decide_eq_true za
                   have q502:x10_3<((rd_L5 t495 (rd x6_2 (ji22))).length:Int):=of_decide_eq_true za
                   obtain ⟨ad502,e502,hx502_0⟩:=Kd.at_bool (by repeat (first|(with_reducible exact HR501_0.out)|(with_reducible refine Kd.C_alloc ?_ _)|(with_reducible refine Kd.C_drewN ?_ _)|(with_reducible refine Kd.C_drew ?_)|exact HR501_0.out)) x10_3 p502 q502
                   (try rw [←Nbq28.out] at hx502_0)
                   cases e502
                   replace p502:=eq_true p502
                   replace q502:=eq_true q502
                   go_wp2
                   go_roundg k3
                   case measure=>have:=HJ2.out;have:=HK2.out;have:=HK3.out;omega
                   case rel=>exact ⟨(wrap64 (x10_3 + 1)),zo,H',⟨by have:=HJ2.out;have:=HK2.out;have:=HK3.out;omega⟩,⟨zR HO_6.out⟩,⟨zR HO_7.out⟩,⟨zS HO_8.out⟩,⟨zb⟩⟩
                 ·rw [if_neg c27] at H
                  exact absurd H (by simp)
                ·rw [if_neg c26] at H
                 exact absurd H (by simp)
               ·rw [if_neg c25] at H
                exact absurd H (by simp)
              ·rw [if_neg c24] at H
               exact absurd H (by simp)
             ·rw [if_neg c23] at H
              exact absurd H (by simp)
            ·rw [if_neg c21] at H
             have c21b0:decide (0<(x6_2.length:Int))=false:=decide_eq_false c21
             have c21b1:decide (0<x6_2.length)=false:=decide_eq_false (by omega)
             clear c21
             by_cases c37:x6_2.length<17592186044416
             ·rw [if_pos c37] at H
              have LMc37:=Aside0.mk c37
              clear c37
              obtain ⟨y507,hy507⟩:∃ y_:List Int,y_=(x6_2++[x10_3]):=⟨_,rfl⟩
              replace H:(if x10_3<(l0.length:Int) then (spec_LongestChain.l0 k3 l0 y507 t492 t495 (wrap64 (x9_2 - ((rd_T47 l0 x10_3).f0)))) else (none))=some (r1,r2):=by first|(rw [hy507];with_reducible exact H)|(have H2_:=(Option.bind_some _ _).symm.trans H;rw [hy507];with_reducible exact H2_)|(have H2_:=(Option.bind_some _ _).symm.trans H;with_reducible exact H2_)|with_reducible exact H|(rw [hy507];exact H)|exact H
              have Ny507:=Aside0.mk hy507
              clear hy507
              by_cases c38:x10_3<(l0.length:Int)
              ·rw [if_pos c38] at H
               have c38b0:decide (x10_3<(l0.length:Int))=true:=decide_eq_true c38
               clear c38
               have H':=Aside0.mk H
               clear H
               have p499:0≤(x10_3:Int):=of_decide_eq_true za
               have q499:x10_3<(t492.length:Int):=of_decide_eq_true za
               obtain ⟨ad499,e499,hx499_0⟩:=Kd.at_int (Kd.R_reads' HO_7.out).2.2 x10_3 p499 q499
               cases e499
               replace p499:=eq_true p499
               replace q499:=eq_true q499
               obtain ⟨Ao39,co39,eo39⟩:=Kd.R_slice HO_6.out
               subst eo39
               go_wp2_with (first|((with_reducible refine gate_builtin (b:=.append) (xs:=#[.tmp 61,.tmp 63]) rfl ?_);(try (refine gate_guard (by rfl) ?_;dsimp only));at_builtin;refine Kd.R_append (Kd.int .i64) (w0:=w) w.heap.size rfl (.tmp 61) (.tmp 63) 39 3 (.int .i64 0) 8 rfl Try.underlying39 info3 rfl (by decide) (by omega) (.slice Ao39 x6_2.length co39) x6_2 x10_3 [.int .i64 x10_3] (fun k_=>some k_≠(.slice (some ad499) t492.length co16:Value).ownBlock) (fun _=>False) rfl rfl ?aP (fun _ hk=>hk.elim) ?aF ?aO ?aB ?aS ?aL ?_;(case aP=>exact rfl);(case aB=>exact zb);(case aF=>exact (fun k_ hk=>Kd.fresh' (Kd.R_lt (zR HO_7.out)) k_ hk));(case aO=>exact (zR HO_6.out));(case aS=>exact (below_size zb));(case aL=>have:=LMc37.out;omega);intro v508 w40 ho hb hg hat;rw [←Ny507.out] at ho;replace HO_7:=Aside0.mk (Kd.R_after (ok:=(fun _=>True)) (zR (Kd.R_mono HO_7.out (fun _ hk=>⟨trivial,hk⟩))) hg hat);replace HO_8:=Aside0.mk (Kd.S_over' (zS HO_8.out) (Kd.R_typed (zR HO_6.out)) (by decide) hg);replace HB:=Aside0.mk (hb);have HO509:=Aside0.mk (ho);clear HO_6;clear ho hb hg hat;have p510:0≤(x10_3:Int):=of_decide_eq_true za;have q510:x10_3<(l0.length:Int):=of_decide_eq_true za;obtain ⟨ad510,e510,hx510_0,hx510_1,hx510_2,hx510_3⟩:=at_T47 HR0.out x10_3 p510 q510;cases e510;replace hx510_0:=(HB.out.cell (World.block_lt_of_cell? w _ hx510_0)).trans hx510_0;replace hx510_1:=(HB.out.cell (World.block_lt_of_cell? w _ hx510_1)).trans hx510_1;replace hx510_2:=(HB.out.cell (World.block_lt_of_cell? w _ hx510_2)).trans hx510_2;replace hx510_3:=(HB.out.cell (World.block_lt_of_cell? w _ hx510_3)).trans hx510_3;replace p510:=eq_true p510;replace q510:=eq_true q510))
               go_roundg k3
               case measure=>have:=HJ2.out;have:=HK2.out;have:=HK3.out;omega
               case rel=>exact ⟨(y507),(wrap64 (x9_2 - ((rd_T47 l0 x10_3).f0))),zo,H',⟨by have:=HJ2.out;have:=HK2.out;have:=HK3.out;omega⟩,⟨zR HO509.out⟩,⟨zR (Kd.R_mono HO_7.out (fun _ hk=>hk.2))⟩,⟨zS HO_8.out⟩,⟨zb⟩⟩
              ·rw [if_neg c38] at H
               exact absurd H (by simp)
             ·rw [if_neg c37] at H
              exact absurd H (by simp)
           ·rw [if_neg c20] at H
            have c20b0:((rd t492 x10_3) == x9_2)=false:=beq_eq_false_iff_ne.mpr c20
            have c20b1:((rd t492 x10_3) != x9_2)=true:=bne_iff_ne.mpr c20
            have H':=Aside0.mk H
            clear H
            have p499:0≤(x10_3:Int):=of_decide_eq_true za
            have q499:x10_3<(t492.length:Int):=of_decide_eq_true za
            obtain ⟨ad499,e499,hx499_0⟩:=Kd.at_int (Kd.R_reads' HO_7.out).2.2 x10_3 p499 q499
            cases e499
            replace p499:=eq_true p499
            replace q499:=eq_true q499
            go_wp2
            go_roundg k3
            case measure=>have:=HJ2.out;have:=HK2.out;have:=HK3.out;omega
            case rel=>exact ⟨(wrap64 (x10_3 + 1)),zo,H',⟨by have:=HJ2.out;have:=HK2.out;have:=HK3.out;omega⟩,⟨zR HO_6.out⟩,⟨zR HO_7.out⟩,⟨zS HO_8.out⟩,⟨zb⟩⟩
          ·rw [if_neg c19] at H
           exact absurd H (by simp)
         ·rw [if_neg c18] at H
          exact absurd H (by simp)
      ·rw [if_neg c17] at H
       have c17b0:decide (0<x9_2)=false:=decide_eq_false c17
       clear c17
       simp only [Option.some.injEq,Prod.mk.injEq] at H
       obtain ⟨rfl,rfl⟩:=H
       go_wp2
       go_ret2
       exact ⟨_,by first|rfl|(simp [errW_none,errW_some] <;> rfl)|(simp [*,errW_none,errW_some] <;> rfl),zR (Kd.R_mono HO_6.out (fun _ hk=>trivial)),zb⟩

/-! ### laws_vInts: function 24 -/
def laws_vInts.l0:Nat→List Int→List Int→Int→Option (Bool)
 | 0,_,_,_=>none
 | k + 1,x0,x1,x5=>if x5<(x0.length:Int) then (if 0≤x5 then (if x5<(x1.length:Int) then (if (rd x0 x5)=(rd x1 x5) then (laws_vInts.l0 k x0 x1 (wrap64 (x5 + 1))) else (some false)) else (none)) else (none)) else (some true)
def laws_vInts.f (k:Nat) (l0:List Int) (l1:List Int):Option (Bool):=if (l0.length:Int)=(l1.length:Int) then (laws_vInts.l0 k l0 l1 0) else (some false)
theorem laws_vInts.mono_l:∀ k,(∀ y0 y1 y2,LeO (laws_vInts.l0 k y0 y1 y2) (laws_vInts.l0 (k + 1) y0 y1 y2))
 | 0=>fun _ _ _ r h=>by simp [laws_vInts.l0] at h
 | k + 1=>by
  have ih0:=laws_vInts.mono_l k
  ·intro y0 y1 y2
   unfold laws_vInts.l0
   repeat' first
   | (with_reducible exact ih0 _ _ _)
   | (with_reducible exact LeO.refl _)
   | (with_reducible exact LeO.none _)
   | (with_reducible refine LeO.ite ?_ ?_)
   | (with_reducible refine LeO.bind ?_ (fun _=>?_))
   | exact ih0 _ _ _
   | exact LeO.none _
   | refine LeO.ite ?_ ?_
   | refine LeO.bind ?_ (fun _=>?_)
theorem laws_vInts.mono:∀ a0 a1 k,LeO (laws_vInts.f k a0 a1) (laws_vInts.f (k + 1) a0 a1):=by
 intro a0 a1 k
 have ih0:=laws_vInts.mono_l k
 unfold laws_vInts.f
 repeat' first
   | (with_reducible exact ih0 _ _ _)
   | (with_reducible exact LeO.refl _)
   | (with_reducible exact LeO.none _)
   | (with_reducible refine LeO.ite ?_ ?_)
   | (with_reducible refine LeO.bind ?_ (fun _=>?_))
   | exact ih0 _ _ _
   | exact LeO.none _
   | refine LeO.ite ?_ ?_
   | refine LeO.bind ?_ (fun _=>?_)
set_option maxHeartbeats 8000000 in
set_option maxRecDepth 100000 in
theorem laws_vInts.calls (k:Nat) (A0:Option Addr) (c0:Nat) (l0:List Int) (A1:Option Addr) (c1:Nat) (l1:List Int) (r:Bool) (w:World) (hr0:Kd.C (Kd.int .i64) w A0 l0.length l0) (hc0:l0.length≤c0) (hr1:Kd.C (Kd.int .i64) w A1 l1.length l1) (hc1:l1.length≤c1) (h:laws_vInts.f k l0 l1=some r) :
  Calls Try.prog 24 #[.slice A0 l0.length c0,.slice A1 l1.length c1] w fun e w'=>e=.returned (.bool r)∧Drawn0 w w':=by
 have HR0:=Aside0.mk hr0
 have HC0:=Aside0.mk hc0
 clear hr0 hc0
 have HR1:=Aside0.mk hr1
 have HC1:=Aside0.mk hc1
 clear hr1 hc1
 have H:(if (l0.length:Int)=(l1.length:Int) then (laws_vInts.l0 k l0 l1 0) else (some false))=some r:=h
 clear h
 by_cases c3:(l0.length:Int)=(l1.length:Int)
 ·rw [if_pos c3] at H
  have c3b0:((l0.length:Int) == (l1.length:Int))=true:=beq_iff_eq.mpr c3
  have c3b1:((l0.length:Int) != (l1.length:Int))=false:=bne_eq_false_iff_eq.mpr c3
  have c3b2:(l0.length == l1.length)=true:=by first|simpa using c3|(simp at c3 ⊢;omega)
  clear c3
  have H':=Aside0.mk H
  clear H
  go_enter Try.func24,Try.ntmps24
  go_wp2
  repeat (go_quiet (fail);try go_wp2)
  go_loopg [5] k (fun kq v5 w'=>∃ (x5_1:Int),v5=.int .i64 x5_1∧Aside0 (laws_vInts.l0 kq l0 l1 x5_1=some r)∧Aside0 (kq≤k)∧Drawn0 w w')
  case atStart=>exact ⟨(0),zo,H',⟨Nat.le_refl _⟩,by repeat (first|exact Drawn0.refl _|apply Drawn0.step)⟩
  case round=>
   clear H'
   (try clear c1);(try clear c2);(try clear p2);(try clear c3);(try clear c3b0);(try clear c3b1);(try clear c3b2)
   obtain ⟨x5_1,rfl,HA,HK1,⟨m1,rfl⟩⟩:=hrel
   cases gk with
   | zero=>exact absurd HA.out (by simp [laws_vInts.l0])
   | succ k1=>
    have H:=HA.out
    clear HA
    simp only [laws_vInts.l0] at H
    by_cases c4:x5_1<(l0.length:Int)
    ·rw [if_pos c4] at H
     have c4b0:decide (x5_1<(l0.length:Int))=true:=decide_eq_true c4
     clear c4
     by_cases c5:0≤x5_1
     ·rw [if_pos c5] at H
      have c5b0:decide (0≤x5_1)=true:=decide_eq_true c5
      clear c5
      by_cases c6:x5_1<(l1.length:Int)
      ·rw [if_pos c6] at H
       have c6b0:decide (x5_1<(l1.length:Int))=true:=decide_eq_true c6
       clear c6
       by_cases c7:(rd l0 x5_1)=(rd l1 x5_1)
       ·rw [if_pos c7] at H
        have c7b0:((rd l0 x5_1) == (rd l1 x5_1))=true:=beq_iff_eq.mpr c7
        have c7b1:((rd l0 x5_1) != (rd l1 x5_1))=false:=bne_eq_false_iff_eq.mpr c7
        clear c7
        have H':=Aside0.mk H
        clear H
        have p511:0≤(x5_1:Int):=of_decide_eq_true za
        have q511:x5_1<(l0.length:Int):=of_decide_eq_true za
        obtain ⟨ad511,e511,hx511_0⟩:=Kd.at_int HR0.out x5_1 p511 q511
        cases e511
        replace p511:=eq_true p511
        replace q511:=eq_true q511
        have p512:0≤(x5_1:Int):=of_decide_eq_true za
        have q512:x5_1<(l1.length:Int):=of_decide_eq_true za
        obtain ⟨ad512,e512,hx512_0⟩:=Kd.at_int HR1.out x5_1 p512 q512
        cases e512
        replace p512:=eq_true p512
        replace q512:=eq_true q512
        go_wp2
        repeat (go_quiet (fail);try go_wp2)
        go_roundg k1
        case measure=>have:=HK1.out;omega
        case rel=>exact ⟨(wrap64 (x5_1 + 1)),zo,H',⟨by have:=HK1.out;omega⟩,by repeat (first|exact Drawn0.refl _|apply Drawn0.step)⟩
       ·rw [if_neg c7] at H
        have c7b0:((rd l0 x5_1) == (rd l1 x5_1))=false:=beq_eq_false_iff_ne.mpr c7
        have c7b1:((rd l0 x5_1) != (rd l1 x5_1))=true:=bne_iff_ne.mpr c7
        obtain rfl:=Option.some.inj H
        have p511:0≤(x5_1:Int):=of_decide_eq_true za
        have q511:x5_1<(l0.length:Int):=of_decide_eq_true za
        obtain ⟨ad511,e511,hx511_0⟩:=Kd.at_int HR0.out x5_1 p511 q511
        cases e511
        replace p511:=eq_true p511
        replace q511:=eq_true q511
        have p512:0≤(x5_1:Int):=of_decide_eq_true za
        have q512:x5_1<(l1.length:Int):=of_decide_eq_true za
        obtain ⟨ad512,e512,hx512_0⟩:=Kd.at_int HR1.out x5_1 p512 q512
        cases e512
        replace p512:=eq_true p512
        replace q512:=eq_true q512
        go_wp2
        repeat (go_quiet (fail);try go_wp2)
        go_ret
        exact ⟨by first|rfl|(simp;done)|(simp [*];done),by repeat (first|exact Drawn0.refl _|apply Drawn0.step)⟩
      ·rw [if_neg c6] at H
       exact absurd H (by simp)
     ·rw [if_neg c5] at H
      exact absurd H (by simp)
    ·rw [if_neg c4] at H
     have c4b0:decide (x5_1<(l0.length:Int))=false:=decide_eq_false c4
     clear c4
     obtain rfl:=Option.some.inj H
     go_wp2
     repeat (go_quiet (fail);try go_wp2)
     go_ret
     exact ⟨by first|rfl|(simp;done)|(simp [*];done),by repeat (first|exact Drawn0.refl _|apply Drawn0.step)⟩
 ·rw [if_neg c3] at H
  have c3b0:((l0.length:Int) == (l1.length:Int))=false:=beq_eq_false_iff_ne.mpr c3
  have c3b1:((l0.length:Int) != (l1.length:Int))=true:=bne_iff_ne.mpr c3
  have c3b2:(l0.length == l1.length)=false:=by first|simpa using c3|(simp at c3 ⊢;omega)
  obtain rfl:=Option.some.inj H
  go_enter Try.func24,Try.ntmps24
  go_wp2
  repeat (go_quiet (fail);try go_wp2)
  go_ret
  exact ⟨by first|rfl|(simp;done)|(simp [*];done),by repeat (first|exact Drawn0.refl _|apply Drawn0.step)⟩

/-! ### impl_pairsOf: function 121 -/
mutual
def impl_pairsOf.l0:Nat→List (S45)→List (List Bool)→Int→Int→Option ((List (S45)))
 | 0,_,_,_,_=>none
 | k + 1,x3,x8,x9,x10=>if x10<x9 then (if 0≤x10 then (if x10<(x8.length:Int) then (impl_pairsOf.l1 k x3 x10 x8 x9 x10 (rd_L5 x8 x10) ((rd_L5 x8 x10).length:Int) 0) else (none)) else (none)) else (some x3)
def impl_pairsOf.l1:Nat→List (S45)→Int→List (List Bool)→Int→Int→List Bool→Int→Int→Option ((List (S45)))
 | 0,_,_,_,_,_,_,_,_=>none
 | k + 1,x3,x4,x8,x9,x10,x15,x16,x17=>if x17<x16 then (if 0≤x17 then (if x17<(x15.length:Int) then (if rdOf false x15 x17=true then (if x3.length<8796093022208 then (impl_pairsOf.l1 k (x3++[(⟨x4,x17⟩:S45)]) x4 x8 x9 x10 x15 x16 (wrap64 (x17 + 1))) else (none)) else (impl_pairsOf.l1 k x3 x4 x8 x9 x10 x15 x16 (wrap64 (x17 + 1)))) else (none)) else (none)) else (impl_pairsOf.l0 k x3 x8 x9 (wrap64 (x10 + 1)))
end
def impl_pairsOf.f (k:Nat) (l0:List (List Bool)):Option ((List (S45))):=impl_pairsOf.l0 k ([]:List (S45)) l0 (l0.length:Int) 0
theorem impl_pairsOf.mono_l:∀ k,(∀ y0 y1 y2 y3,LeO (impl_pairsOf.l0 k y0 y1 y2 y3) (impl_pairsOf.l0 (k + 1) y0 y1 y2 y3))∧(∀ y0 y1 y2 y3 y4 y5 y6 y7,LeO (impl_pairsOf.l1 k y0 y1 y2 y3 y4 y5 y6 y7) (impl_pairsOf.l1 (k + 1) y0 y1 y2 y3 y4 y5 y6 y7))
 | 0=>⟨fun _ _ _ _ r h=>by simp [impl_pairsOf.l0] at h,fun _ _ _ _ _ _ _ _ r h=>by simp [impl_pairsOf.l1] at h⟩
 | k + 1=>by
  obtain ⟨ih0,ih1⟩:=impl_pairsOf.mono_l k
  refine ⟨?_,?_⟩
  ·intro y0 y1 y2 y3
   unfold impl_pairsOf.l0
   repeat' first
   | (with_reducible exact ih0 _ _ _ _)
   | (with_reducible exact ih1 _ _ _ _ _ _ _ _)
   | (with_reducible exact LeO.refl _)
   | (with_reducible exact LeO.none _)
   | (with_reducible refine LeO.ite ?_ ?_)
   | (with_reducible refine LeO.bind ?_ (fun _=>?_))
   | exact ih0 _ _ _ _
   | exact ih1 _ _ _ _ _ _ _ _
   | exact LeO.none _
   | refine LeO.ite ?_ ?_
   | refine LeO.bind ?_ (fun _=>?_)
  ·intro y0 y1 y2 y3 y4 y5 y6 y7
   unfold impl_pairsOf.l1
   repeat' first
   | (with_reducible exact ih0 _ _ _ _)
   | (with_reducible exact ih1 _ _ _ _ _ _ _ _)
   | (with_reducible exact LeO.refl _)
   | (with_reducible exact LeO.none _)
   | (with_reducible refine LeO.ite ?_ ?_)
   | (with_reducible refine LeO.bind ?_ (fun _=>?_))
   | exact ih0 _ _ _ _
   | exact ih1 _ _ _ _ _ _ _ _
   | exact LeO.none _
   | refine LeO.ite ?_ ?_
   | refine LeO.bind ?_ (fun _=>?_)
theorem impl_pairsOf.mono:∀ a0 k,LeO (impl_pairsOf.f k a0) (impl_pairsOf.f (k + 1) a0):=by
 intro a0 k
 obtain ⟨ih0,ih1⟩:=impl_pairsOf.mono_l k
 unfold impl_pairsOf.f
 repeat' first
   | (with_reducible exact ih0 _ _ _ _)
   | (with_reducible exact ih1 _ _ _ _ _ _ _ _)
   | (with_reducible exact LeO.refl _)
   | (with_reducible exact LeO.none _)
   | (with_reducible refine LeO.ite ?_ ?_)
   | (with_reducible refine LeO.bind ?_ (fun _=>?_))
   | exact ih0 _ _ _ _
   | exact ih1 _ _ _ _ _ _ _ _
   | exact LeO.none _
   | refine LeO.ite ?_ ?_
   | refine LeO.bind ?_ (fun _=>?_)
set_option maxHeartbeats 8000000 in
set_option maxRecDepth 100000 in
theorem impl_pairsOf.calls (k:Nat) (A0:Option Addr) (c0:Nat) (l0:List (List Bool)) (r:List (S45)) (w:World) (hr0:Kd.C (Kd.slice 4 Kd.bool) w A0 l0.length l0) (hc0:l0.length≤c0) (h:impl_pairsOf.f k l0=some r) :
  Calls Try.prog 121 #[.slice A0 l0.length c0] w fun e w'=>∃ v0_:Value,e=.returned (v0_)∧Kd.R k45 45 w' w.heap.size (fun _=>True) v0_ r∧Below w.heap.size w w':=by
 have hu45:=Try.underlying45
 have HR0:=Aside0.mk hr0
 have HC0:=Aside0.mk hc0
 clear hr0 hc0
 have HB:=Aside0.mk (Below.refl w.heap.size w)
 have H:(impl_pairsOf.l0 k ([]:List (S45)) l0 (l0.length:Int) 0)=some r:=h
 clear h
 have H':=Aside0.mk H
 clear H
 go_enter Try.func121,Try.ntmps121
 go_wp2
 go_loopg [3,10] k (fun kq v3 v10 w'=>∃ (x3_1:List (S45)) (x10_1:Int),v10=.int .i64 x10_1∧Aside0 (impl_pairsOf.l0 kq x3_1 l0 (l0.length:Int) x10_1=some r)∧Aside0 (kq≤k)∧Aside0 (Kd.R k45 45 w' w.heap.size (fun _=>True) v3 x3_1)∧Aside0 (Below w.heap.size w w'))
 case atStart=>exact ⟨(([]:List (S45))),(0),zo,H',⟨Nat.le_refl _⟩,⟨by first|exact Kd.R_nil _ _ _ _ _|exact Kd.N_nil _ _ _ _ _|exact Kd.V_nil _ _ _ _ _|exact Kd.Q_nil _ _ _ _ _|exact Kd.S_nil _ _ _ _ _⟩,⟨zb⟩⟩
 case round=>
  clear H'
  try clear c1
  obtain ⟨x3_1,x10_1,rfl,HA,HK1,HO_3,HB⟩:=hrel
  cases gk with
  | zero=>exact absurd HA.out (by simp [impl_pairsOf.l0])
  | succ k1=>
   have H:=HA.out
   clear HA
   simp only [impl_pairsOf.l0] at H
   by_cases c2:x10_1<(l0.length:Int)
   ·rw [if_pos c2] at H
    have c2b0:decide (x10_1<(l0.length:Int))=true:=decide_eq_true c2
    clear c2
    by_cases c3:0≤x10_1
    ·rw [if_pos c3] at H
     have c3b0:decide (0≤x10_1)=true:=decide_eq_true c3
     clear c3
     by_cases c4:x10_1<(l0.length:Int)
     ·rw [if_pos c4] at H
      have c4b0:decide (x10_1<(l0.length:Int))=true:=decide_eq_true c4
      clear c4
      have H':=Aside0.mk H
      clear H
      have p513:0≤(x10_1:Int):=of_decide_eq_true za
      have q513:x10_1<(l0.length:Int):=of_decide_eq_true za
      obtain ⟨ad513,A513_0,c513_0,e513,hx513_0,hl513_0,hi513_0⟩:=at_L5 HR0.out x10_1 p513 q513
      cases e513
      replace hx513_0:=(HB.out.cell (World.block_lt_of_cell? w _ hx513_0)).trans hx513_0
      have HR513_0:=Aside0.mk hi513_0
      have HC513_0:=Aside0.mk hl513_0
      clear hi513_0 hl513_0
      replace p513:=eq_true p513
      replace q513:=eq_true q513
      go_wp2
      go_loopg [3,17] k1 (fun kq v3 v17 w'=>∃ (x3_2:List (S45)) (x17_2:Int),v17=.int .i64 x17_2∧Aside0 (impl_pairsOf.l1 kq x3_2 x10_1 l0 (l0.length:Int) x10_1 (rd_L5 l0 x10_1) ((rd_L5 l0 x10_1).length:Int) x17_2=some r)∧Aside0 (kq≤k1)∧Aside0 (Kd.R k45 45 w' w.heap.size (fun _=>True) v3 x3_2)∧Aside0 (Below w.heap.size w w'))
      case atStart=>exact ⟨(x3_1),(0),zo,H',⟨Nat.le_refl _⟩,⟨zR HO_3.out⟩,⟨zb⟩⟩
      case round=>
       clear H'
       (try clear c1);(try clear c2);(try clear c2b0);(try clear p2);(try clear c3);(try clear c3b0);(try clear c4);(try clear c4b0);(try clear hx513_0);(try clear p513);(try clear q513)
       obtain ⟨x3_2,x17_2,rfl,HA,HK2,HO_3,HB⟩:=hrel
       cases gk with
       | zero=>exact absurd HA.out (by simp [impl_pairsOf.l1])
       | succ k2=>
        have H:=HA.out
        clear HA
        simp only [impl_pairsOf.l1] at H
        by_cases c5:x17_2<((rd_L5 l0 x10_1).length:Int)
        ·rw [if_pos c5] at H
         have c5b0:decide (x17_2<((rd_L5 l0 x10_1).length:Int))=true:=decide_eq_true c5
         clear c5
         by_cases c6:0≤x17_2
         ·rw [if_pos c6] at H
          have c6b0:decide (0≤x17_2)=true:=decide_eq_true c6
          clear c6
          by_cases c7:x17_2<((rd_L5 l0 x10_1).length:Int)
          ·rw [if_pos c7] at H
           have c7b0:decide (x17_2<((rd_L5 l0 x10_1).length:Int))=true:=decide_eq_true c7
           clear c7
           obtain ⟨bq8,hbq8⟩:∃ b_:Bool,b_=(rdOf false (rd_L5 l0 x10_1) x17_2):=⟨_,rfl⟩
           replace H:(if bq8=true then (if x3_2.length<8796093022208 then (impl_pairsOf.l1 k2 (x3_2++[(⟨x10_1,x17_2⟩:S45)]) x10_1 l0 (l0.length:Int) x10_1 (rd_L5 l0 x10_1) ((rd_L5 l0 x10_1).length:Int) (wrap64 (x17_2 + 1))) else (none)) else (impl_pairsOf.l1 k2 x3_2 x10_1 l0 (l0.length:Int) x10_1 (rd_L5 l0 x10_1) ((rd_L5 l0 x10_1).length:Int) (wrap64 (x17_2 + 1))))=some r:=by rw [←hbq8] at H;exact H
           have Nbq8:=Aside0.mk hbq8
           clear hbq8
           by_cases c9:bq8=true
           ·subst c9
            rw [if_pos rfl] at H
            by_cases c10:x3_2.length<8796093022208
            ·rw [if_pos c10] at H
             have LMc10:=Aside0.mk c10
             clear c10
             obtain ⟨y515,hy515⟩:∃ y_:List (S45),y_=(x3_2++[(⟨x10_1,x17_2⟩:S45)]):=⟨_,rfl⟩
             replace H:(impl_pairsOf.l1 k2 y515 x10_1 l0 (l0.length:Int) x10_1 (rd_L5 l0 x10_1) ((rd_L5 l0 x10_1).length:Int) (wrap64 (x17_2 + 1)))=some r:=by first|(rw [hy515];with_reducible exact H)|(have H2_:=(Option.bind_some _ _).symm.trans H;rw [hy515];with_reducible exact H2_)|(have H2_:=(Option.bind_some _ _).symm.trans H;with_reducible exact H2_)|with_reducible exact H|(rw [hy515];exact H)|exact H
             have Ny515:=Aside0.mk hy515
             clear hy515
             have H':=Aside0.mk H
             clear H
             have p514:0≤(x17_2:Int):=of_decide_eq_true za
             have q514:x17_2<((rd_L5 l0 x10_1).length:Int):=of_decide_eq_true za
             obtain ⟨ad514,e514,hx514_0⟩:=Kd.at_bool HR513_0.out x17_2 p514 q514
             (try rw [←Nbq8.out] at hx514_0)
             cases e514
             replace hx514_0:=(HB.out.cell (World.block_lt_of_cell? w _ hx514_0)).trans hx514_0
             replace p514:=eq_true p514
             replace q514:=eq_true q514
             go_wp2_with (first|((with_reducible refine gate_builtin (b:=.append) (xs:=#[.tmp 23,.tmp 27]) rfl ?_);at_builtin;refine Kd.R_append k45 (w0:=w) w.heap.size rfl (.tmp 23) (.tmp 27) 36 45 (.agg #[(.int .i64 0),(.int .i64 0)]) 16 rfl Try.underlying36 info45 rfl (by decide) (by omega) u3 x3_2 (⟨x10_1,x17_2⟩:S45) [.int .i64 x10_1,.int .i64 x17_2] (fun _=>True) (fun _=>False) rfl rfl ?aP (fun _ hk=>hk.elim) ?aF ?aO ?aB ?aS ?aL ?_;(case aP=>exact k45_mkM _ _ _ (⟨x10_1,x17_2⟩:S45));(case aB=>exact zb);(case aF=>exact (fun _ _=>trivial));(case aO=>exact (zR HO_3.out));(case aS=>exact (below_size zb));(case aL=>have:=LMc10.out;omega);intro v516 w11 ho hb hg hat;rw [←Ny515.out] at ho;replace HB:=Aside0.mk (hb);have HO517:=Aside0.mk (ho);clear HO_3;clear ho hb hg hat))
             go_roundg k2
             case measure=>have:=HK1.out;have:=HK2.out;omega
             case rel=>exact ⟨(y515),(wrap64 (x17_2 + 1)),zo,H',⟨by have:=HK1.out;have:=HK2.out;omega⟩,⟨zR HO517.out⟩,⟨zb⟩⟩
            ·rw [if_neg c10] at H
             exact absurd H (by simp)
           ·replace c9:=Bool.eq_false_iff.mpr c9
            subst c9
            rw [if_neg (show ¬ (false=true) by decide)] at H
            have H':=Aside0.mk H
            clear H
            have p514:0≤(x17_2:Int):=of_decide_eq_true za
            have q514:x17_2<((rd_L5 l0 x10_1).length:Int):=of_decide_eq_true za
            obtain ⟨ad514,e514,hx514_0⟩:=Kd.at_bool HR513_0.out x17_2 p514 q514
            (try rw [←Nbq8.out] at hx514_0)
            cases e514
            replace hx514_0:=(HB.out.cell (World.block_lt_of_cell? w _ hx514_0)).trans hx514_0
            replace p514:=eq_true p514
            replace q514:=eq_true q514
            go_wp2
            go_roundg k2
            case measure=>have:=HK1.out;have:=HK2.out;omega
            case rel=>exact ⟨(x3_2),(wrap64 (x17_2 + 1)),zo,H',⟨by have:=HK1.out;have:=HK2.out;omega⟩,⟨zR HO_3.out⟩,⟨zb⟩⟩
          ·rw [if_neg c7] at H
           exact absurd H (by simp)
         ·rw [if_neg c6] at H
          exact absurd H (by simp)
        ·rw [if_neg c5] at H
         have c5b0:decide (x17_2<((rd_L5 l0 x10_1).length:Int))=false:=decide_eq_false c5
         clear c5
         have H':=Aside0.mk H
         clear H
         go_wp2
         go_roundg k2
         case measure=>have:=HK1.out;have:=HK2.out;omega
         case rel=>exact ⟨(x3_2),(wrap64 (x10_1 + 1)),zo,H',⟨by have:=HK1.out;have:=HK2.out;omega⟩,⟨zR HO_3.out⟩,⟨zb⟩⟩
     ·rw [if_neg c4] at H
      exact absurd H (by simp)
    ·rw [if_neg c3] at H
     exact absurd H (by simp)
   ·rw [if_neg c2] at H
    have c2b0:decide (x10_1<(l0.length:Int))=false:=decide_eq_false c2
    clear c2
    obtain rfl:=Option.some.inj H
    go_wp2
    go_ret
    exact ⟨_,by first|rfl|(simp [errW_none,errW_some] <;> rfl)|(simp [*,errW_none,errW_some] <;> rfl),zR HO_3.out,zb⟩

end Go.Proofs.Ytplbabjigikgjaa.XFnTails
-- minified
