-- Written by a program of this session (the kit's print, widened). Proved here: what each function answers, for the arguments that its contract names.
import Derived.Test.YtbcfmegepkhlpaaXFnExactBestListPlanx0
import Derived.Test.YtbcfmegepkhlpaaXFnExactBestListPlanx15
import Derived.Test.YtbcfmegepkhlpaaXFnExactBestListPlanx16
import Derived.Test.YtbcfmegepkhlpaaXFnExactBestListPlanx17
namespace Go.Proofs.Ytbcfmegepkhlpaa.XFnExactBestListPlan
open Go.RowKit Go.Proofs.YtbcfmegepkhlpaaW.PrintWords Go.Proofs.YtbcfmegepkhlpaaW.PrintLast Go.Proofs.YtbcfmegepkhlpaaW.PrintMore
attribute [local go_sem] max2_int min2_int max_two min_two max_three min_three max_four min_four   -- for this text's walks alone
attribute [local go_sem] idxA_72_0 idxA_72_1 fldS_96_0 fldS_96_1 fldS_96_2 fldS_111_0 fldS_111_1 fldS_111_2
set_option linter.unusedVariables false
set_option linter.unusedSimpArgs false

/-! ### impl_IsPrecedence: function 62 -/
mutual
def impl_IsPrecedence.j0:Nat→Int→List (S72)→Bool→Option (Bool)
 | 0,_,_,_=>none
 | k + 1,x0,x1,x16=>if x16=true then (some false) else (impl_IsPrecedence.l0 k x0 x1 x1 (x1.length:Int) 0)
def impl_IsPrecedence.l0:Nat→Int→List (S72)→List (S72)→Int→Int→Option (Bool)
 | 0,_,_,_,_,_=>none
 | k + 1,x0,x1,x17,x18,x19=>if x19<x18 then (if 0≤x19 then (if x19<(x17.length:Int) then ((impl_isNumber.f ((rd_T72 x17 x19).f0) x0).bind fun t323=>(if t323=true then ((impl_isNumber.f ((rd_T72 x17 x19).f1) x0).bind fun t324=>(if t324=true then (impl_IsPrecedence.j2 k x0 x1 x19 x17 x18 x19 (((rd_T72 x17 x19).f0) == ((rd_T72 x17 x19).f1)) ((rd_T72 x17 x19).f0) ((rd_T72 x17 x19).f1)) else (impl_IsPrecedence.j2 k x0 x1 x19 x17 x18 x19 true ((rd_T72 x17 x19).f0) ((rd_T72 x17 x19).f1)))) else (impl_IsPrecedence.j2 k x0 x1 x19 x17 x18 x19 true ((rd_T72 x17 x19).f0) ((rd_T72 x17 x19).f1)))) else (none)) else (none)) else ((impl_closure.f k x0 x1).bind fun t328=>(impl_IsPrecedence.l1 k t328 (t328.length:Int) 0))
def impl_IsPrecedence.j2:Nat→Int→List (S72)→Int→List (S72)→Int→Int→Bool→Int→Int→Option (Bool)
 | 0,_,_,_,_,_,_,_,_,_=>none
 | k + 1,x0,x1,x5,x17,x18,x19,x42,x323000,x323001=>if x42=true then (some false) else (if x5>0 then (if 0≤(wrap64 (x5 - 1)) then (if (wrap64 (x5 - 1))<(x1.length:Int) then (if ((rd_T72 x1 (wrap64 (x5 - 1))).f0)>x323000 then (some false) else (if ((rd_T72 x1 (wrap64 (x5 - 1))).f0)=x323000 then (if ((rd_T72 x1 (wrap64 (x5 - 1))).f1)≥x323001 then (some false) else (impl_IsPrecedence.l0 k x0 x1 x17 x18 (wrap64 (x19 + 1)))) else (impl_IsPrecedence.l0 k x0 x1 x17 x18 (wrap64 (x19 + 1))))) else (none)) else (none)) else (impl_IsPrecedence.l0 k x0 x1 x17 x18 (wrap64 (x19 + 1))))
def impl_IsPrecedence.l1:Nat→List (List Bool)→Int→Int→Option (Bool)
 | 0,_,_,_=>none
 | k + 1,x7,x83,x84=>if x84<x83 then (if 0≤x84 then (if x84<(x7.length:Int) then (if x84<((rd_L6 x7 x84).length:Int) then (if rdOf false (rd_L6 x7 x84) x84=true then (some false) else (impl_IsPrecedence.l1 k x7 x83 (wrap64 (x84 + 1)))) else (none)) else (none)) else (none)) else (some true)
end
def impl_IsPrecedence.f (k:Nat) (a0:Int) (l1:List (S72)):Option (Bool):=(impl_within.f a0 0 8).bind fun t320=>(if t320=true then (impl_IsPrecedence.j0 k a0 l1 (decide ((l1.length:Int)>28))) else (impl_IsPrecedence.j0 k a0 l1 true))
theorem impl_IsPrecedence.mono_l:∀ k,(∀ y0 y1 y2,LeO (impl_IsPrecedence.j0 k y0 y1 y2) (impl_IsPrecedence.j0 (k + 1) y0 y1 y2))∧(∀ y0 y1 y2 y3 y4,LeO (impl_IsPrecedence.l0 k y0 y1 y2 y3 y4) (impl_IsPrecedence.l0 (k + 1) y0 y1 y2 y3 y4))∧(∀ y0 y1 y2 y3 y4 y5 y6 y7 y8,LeO (impl_IsPrecedence.j2 k y0 y1 y2 y3 y4 y5 y6 y7 y8) (impl_IsPrecedence.j2 (k + 1) y0 y1 y2 y3 y4 y5 y6 y7 y8))∧(∀ y0 y1 y2,LeO (impl_IsPrecedence.l1 k y0 y1 y2) (impl_IsPrecedence.l1 (k + 1) y0 y1 y2))
 | 0=>⟨fun _ _ _ r h=>by simp [impl_IsPrecedence.j0] at h,fun _ _ _ _ _ r h=>by simp [impl_IsPrecedence.l0] at h,fun _ _ _ _ _ _ _ _ _ r h=>by simp [impl_IsPrecedence.j2] at h,fun _ _ _ r h=>by simp [impl_IsPrecedence.l1] at h⟩
 | k + 1=>by
  obtain ⟨ih0,ih1,ih2,ih3⟩:=impl_IsPrecedence.mono_l k
  refine ⟨?_,?_,?_,?_⟩
  ·intro y0 y1 y2
   unfold impl_IsPrecedence.j0
   repeat' first
   | (with_reducible exact ih0 _ _ _)
   | (with_reducible exact ih1 _ _ _ _ _)
   | (with_reducible exact ih2 _ _ _ _ _ _ _ _ _)
   | (with_reducible exact ih3 _ _ _)
   | (with_reducible exact impl_closure.mono _ _ _)
   | (with_reducible exact LeO.refl _)
   | (with_reducible exact LeO.none _)
   | (with_reducible refine LeO.ite ?_ ?_)
   | (with_reducible refine LeO.bind ?_ (fun _=>?_))
   | exact ih0 _ _ _
   | exact ih1 _ _ _ _ _
   | exact ih2 _ _ _ _ _ _ _ _ _
   | exact ih3 _ _ _
   | exact impl_closure.mono _ _ _
   | exact LeO.none _
   | refine LeO.ite ?_ ?_
   | refine LeO.bind ?_ (fun _=>?_)
  ·intro y0 y1 y2 y3 y4
   unfold impl_IsPrecedence.l0
   repeat' first
   | (with_reducible exact ih0 _ _ _)
   | (with_reducible exact ih1 _ _ _ _ _)
   | (with_reducible exact ih2 _ _ _ _ _ _ _ _ _)
   | (with_reducible exact ih3 _ _ _)
   | (with_reducible exact impl_closure.mono _ _ _)
   | (with_reducible exact LeO.refl _)
   | (with_reducible exact LeO.none _)
   | (with_reducible refine LeO.ite ?_ ?_)
   | (with_reducible refine LeO.bind ?_ (fun _=>?_))
   | exact ih0 _ _ _
   | exact ih1 _ _ _ _ _
   | exact ih2 _ _ _ _ _ _ _ _ _
   | exact ih3 _ _ _
   | exact impl_closure.mono _ _ _
   | exact LeO.none _
   | refine LeO.ite ?_ ?_
   | refine LeO.bind ?_ (fun _=>?_)
  ·intro y0 y1 y2 y3 y4 y5 y6 y7 y8
   unfold impl_IsPrecedence.j2
   repeat' first
   | (with_reducible exact ih0 _ _ _)
   | (with_reducible exact ih1 _ _ _ _ _)
   | (with_reducible exact ih2 _ _ _ _ _ _ _ _ _)
   | (with_reducible exact ih3 _ _ _)
   | (with_reducible exact impl_closure.mono _ _ _)
   | (with_reducible exact LeO.refl _)
   | (with_reducible exact LeO.none _)
   | (with_reducible refine LeO.ite ?_ ?_)
   | (with_reducible refine LeO.bind ?_ (fun _=>?_))
   | exact ih0 _ _ _
   | exact ih1 _ _ _ _ _
   | exact ih2 _ _ _ _ _ _ _ _ _
   | exact ih3 _ _ _
   | exact impl_closure.mono _ _ _
   | exact LeO.none _
   | refine LeO.ite ?_ ?_
   | refine LeO.bind ?_ (fun _=>?_)
  ·intro y0 y1 y2
   unfold impl_IsPrecedence.l1
   repeat' first
   | (with_reducible exact ih0 _ _ _)
   | (with_reducible exact ih1 _ _ _ _ _)
   | (with_reducible exact ih2 _ _ _ _ _ _ _ _ _)
   | (with_reducible exact ih3 _ _ _)
   | (with_reducible exact impl_closure.mono _ _ _)
   | (with_reducible exact LeO.refl _)
   | (with_reducible exact LeO.none _)
   | (with_reducible refine LeO.ite ?_ ?_)
   | (with_reducible refine LeO.bind ?_ (fun _=>?_))
   | exact ih0 _ _ _
   | exact ih1 _ _ _ _ _
   | exact ih2 _ _ _ _ _ _ _ _ _
   | exact ih3 _ _ _
   | exact impl_closure.mono _ _ _
   | exact LeO.none _
   | refine LeO.ite ?_ ?_
   | refine LeO.bind ?_ (fun _=>?_)
theorem impl_IsPrecedence.mono:∀ a0 a1 k,LeO (impl_IsPrecedence.f k a0 a1) (impl_IsPrecedence.f (k + 1) a0 a1):=by
 intro a0 a1 k
 obtain ⟨ih0,ih1,ih2,ih3⟩:=impl_IsPrecedence.mono_l k
 unfold impl_IsPrecedence.f
 repeat' first
   | (with_reducible exact ih0 _ _ _)
   | (with_reducible exact ih1 _ _ _ _ _)
   | (with_reducible exact ih2 _ _ _ _ _ _ _ _ _)
   | (with_reducible exact ih3 _ _ _)
   | (with_reducible exact impl_closure.mono _ _ _)
   | (with_reducible exact LeO.refl _)
   | (with_reducible exact LeO.none _)
   | (with_reducible refine LeO.ite ?_ ?_)
   | (with_reducible refine LeO.bind ?_ (fun _=>?_))
   | exact ih0 _ _ _
   | exact ih1 _ _ _ _ _
   | exact ih2 _ _ _ _ _ _ _ _ _
   | exact ih3 _ _ _
   | exact impl_closure.mono _ _ _
   | exact LeO.none _
   | refine LeO.ite ?_ ?_
   | refine LeO.bind ?_ (fun _=>?_)
set_option maxHeartbeats 8000000 in
set_option maxRecDepth 100000 in
theorem impl_IsPrecedence.calls (k:Nat) (a0:Int) (A1:Option Addr) (c1:Nat) (l1:List (S72)) (r:Bool) (w:World) (hr1:Kd.C k72 w A1 l1.length l1) (hc1:l1.length≤c1) (h:impl_IsPrecedence.f k a0 l1=some r) :
  Calls Try.prog 62 #[.int .i64 a0,.slice A1 l1.length c1] w fun e w'=>e=.returned (.bool r)∧Below w.heap.size w w':=by
 have hu72:=Try.underlying72
 have HR1:=Aside0.mk hr1
 have HC1:=Aside0.mk hc1
 clear hr1 hc1
 have HB:=Aside0.mk (Below.refl w.heap.size w)
 have H:((impl_within.f a0 0 8).bind fun t320=>(if t320=true then (impl_IsPrecedence.j0 k a0 l1 (decide ((l1.length:Int)>28))) else (impl_IsPrecedence.j0 k a0 l1 true)))=some r:=h
 clear h
 have HC3:=Aside0.mk H
 clear H
 go_enter Try.func62,Try.ntmps62
 go_upto_region 1 with (fail)
 repeat (go_quiet (fail);go_upto_region 1 with (fail))
 go_cut [16] (fun v16 wc=>∃ (kq:Nat) (x16_2:Bool),v16=.bool x16_2∧Aside0 (impl_IsPrecedence.j0 kq a0 l1 x16_2=some r)∧Aside0 (kq≤k)∧Aside0 (Below w.heap.size w wc))
 case first=>
  have H:=HC3.out
  clear HC3
  replace H:=Option.bind_eq_some_iff.mp H
  obtain ⟨t320,A40,H⟩:=H
  replace H:(if t320=true then (impl_IsPrecedence.j0 k a0 l1 (decide ((l1.length:Int)>28))) else (impl_IsPrecedence.j0 k a0 l1 true))=some r:=H
  have A4:=Aside0.mk A40
  clear A40
  by_cases c5:t320=true
  ·subst c5
   have H1:(impl_IsPrecedence.j0 k a0 l1 (decide ((l1.length:Int)>28)))=some r:=by rw [if_pos rfl] at H;exact H
   clear H
   have H:=H1
   clear H1
   have H':=Aside0.mk H
   clear H
   go_wp2_with (first|(go_at_call 113;(with_reducible refine (impl_within.calls a0 0 8 true _ A4.out).mono ?_);rintro e w' ⟨rfl,⟨nd,rfl⟩⟩;(try first|exact ⟨rfl,_,World.drewN_drewN _ _ _⟩|exact ⟨rfl,_,Eq.trans (World.drewN_drewN _ _ _) (congrArg (World.drewN _) (Nat.add_assoc _ _ _))⟩)))
   repeat (go_quiet (first|(go_at_call 113;(with_reducible refine (impl_within.calls a0 0 8 true _ A4.out).mono ?_);rintro e w' ⟨rfl,⟨nd,rfl⟩⟩;(try first|exact ⟨rfl,_,World.drewN_drewN _ _ _⟩|exact ⟨rfl,_,Eq.trans (World.drewN_drewN _ _ _) (congrArg (World.drewN _) (Nat.add_assoc _ _ _))⟩)));try go_wp2_with (first|(go_at_call 113;(with_reducible refine (impl_within.calls a0 0 8 true _ A4.out).mono ?_);rintro e w' ⟨rfl,⟨nd,rfl⟩⟩;(try first|exact ⟨rfl,_,World.drewN_drewN _ _ _⟩|exact ⟨rfl,_,Eq.trans (World.drewN_drewN _ _ _) (congrArg (World.drewN _) (Nat.add_assoc _ _ _))⟩))))
   go_meet
   case rel=>exact ⟨_,(decide ((l1.length:Int)>28)),zo,H',⟨by first|omega|exact Nat.le_refl _⟩,⟨zb⟩⟩
  ·replace c5:=Bool.eq_false_iff.mpr c5
   subst c5
   have H1:(impl_IsPrecedence.j0 k a0 l1 true)=some r:=by rw [if_neg (show ¬ (false=true) by decide)] at H;exact H
   clear H
   have H:=H1
   clear H1
   have H':=Aside0.mk H
   clear H
   go_wp2_with (first|(go_at_call 113;(with_reducible refine (impl_within.calls a0 0 8 false _ A4.out).mono ?_);rintro e w' ⟨rfl,⟨nd,rfl⟩⟩;(try first|exact ⟨rfl,_,World.drewN_drewN _ _ _⟩|exact ⟨rfl,_,Eq.trans (World.drewN_drewN _ _ _) (congrArg (World.drewN _) (Nat.add_assoc _ _ _))⟩)))
   repeat (go_quiet (first|(go_at_call 113;(with_reducible refine (impl_within.calls a0 0 8 false _ A4.out).mono ?_);rintro e w' ⟨rfl,⟨nd,rfl⟩⟩;(try first|exact ⟨rfl,_,World.drewN_drewN _ _ _⟩|exact ⟨rfl,_,Eq.trans (World.drewN_drewN _ _ _) (congrArg (World.drewN _) (Nat.add_assoc _ _ _))⟩)));try go_wp2_with (first|(go_at_call 113;(with_reducible refine (impl_within.calls a0 0 8 false _ A4.out).mono ?_);rintro e w' ⟨rfl,⟨nd,rfl⟩⟩;(try first|exact ⟨rfl,_,World.drewN_drewN _ _ _⟩|exact ⟨rfl,_,Eq.trans (World.drewN_drewN _ _ _) (congrArg (World.drewN _) (Nat.add_assoc _ _ _))⟩))))
   go_meet
   case rel=>exact ⟨_,(true),zo,H',⟨by first|omega|exact Nat.le_refl _⟩,⟨zb⟩⟩
 case rest=>
  clear HC3
  (try clear c1);(try clear p2);(try clear c5)
  obtain ⟨kq,x16_2,rfl,HA,HJ2,HB⟩:=hcut
  cases kq with
  | zero=>exact absurd HA.out (by simp [impl_IsPrecedence.j0])
  | succ kj2=>
   have H:=HA.out
   clear HA
   simp only [impl_IsPrecedence.j0] at H
   by_cases c6:x16_2=true
   ·subst c6
    have H1:(some false)=some r:=by rw [if_pos rfl] at H;exact H
    clear H
    have H:=H1
    clear H1
    obtain rfl:=Option.some.inj H
    go_wp2
    repeat (go_quiet (fail);try go_wp2)
    go_ret
    exact ⟨by first|rfl|(simp [errW_none,errW_some] <;> rfl)|(simp [*,errW_none,errW_some] <;> rfl),zb⟩
   ·replace c6:=Bool.eq_false_iff.mpr c6
    subst c6
    have H1:(impl_IsPrecedence.l0 kj2 a0 l1 l1 (l1.length:Int) 0)=some r:=by rw [if_neg (show ¬ (false=true) by decide)] at H;exact H
    clear H
    have H:=H1
    clear H1
    have H':=Aside0.mk H
    clear H
    go_wp2
    repeat (go_quiet (fail);try go_wp2)
    go_loopg [19] kj2 (fun kq v19 w'=>∃ (x19_2:Int),v19=.int .i64 x19_2∧Aside0 (impl_IsPrecedence.l0 kq a0 l1 l1 (l1.length:Int) x19_2=some r)∧Aside0 (kq≤kj2)∧Aside0 (Below w.heap.size w w'))
    case atStart=>exact ⟨(0),zo,H',⟨Nat.le_refl _⟩,⟨zb⟩⟩
    case round=>
     clear H'
     (try clear c1);(try clear p2);(try clear c5);(try clear c6)
     obtain ⟨x19_2,rfl,HA,HK2,HB⟩:=hrel
     cases gk with
     | zero=>exact absurd HA.out (by simp [impl_IsPrecedence.l0])
     | succ k2=>
      have H:=HA.out
      clear HA
      simp only [impl_IsPrecedence.l0] at H
      by_cases c7:x19_2<(l1.length:Int)
      ·rw [if_pos c7] at H
       have c7b0:decide (x19_2<(l1.length:Int))=true:=decide_eq_true c7
       clear c7
       by_cases c8:0≤x19_2
       ·rw [if_pos c8] at H
        have c8b0:decide (0≤x19_2)=true:=decide_eq_true c8
        clear c8
        by_cases c9:x19_2<(l1.length:Int)
        ·rw [if_pos c9] at H
         have c9b0:decide (x19_2<(l1.length:Int))=true:=decide_eq_true c9
         clear c9
         have HC10:=Aside0.mk H
         clear H
         have p321:0≤(x19_2:Int):=of_decide_eq_true za
         have q321:x19_2<(l1.length:Int):=of_decide_eq_true za
         obtain ⟨ad321,e321,hx321_0,hx321_1⟩:=at_T72 HR1.out x19_2 p321 q321
         cases e321
         replace hx321_0:=(HB.out.cell (World.block_lt_of_cell? w _ hx321_0)).trans hx321_0
         replace hx321_1:=(HB.out.cell (World.block_lt_of_cell? w _ hx321_1)).trans hx321_1
         replace p321:=eq_true p321
         replace q321:=eq_true q321
         go_upto_region 6 with (first|((with_reducible refine gate_dst (N:=6) rfl ?_);(try (refine gate_guard (by rfl) ?_;dsimp only));refine box_event ?hg (N:=6) ?hd (cs:=#[.int .i64 0,.int .i64 0]) (t:=72) ?hr ?_;(case hd=>rfl);(case hg=>rfl);(case hr=>first|(go_simp;done)|(go_simp;rfl));intro gb322 hg w11 hbox hb;have n0_:=Aside0.mk (below_step zb hb);have n1_:=Aside0.mk (hbox);have n2_:=Aside0.mk ((by rw [hg];exact (below_size zb):w.heap.size≤gb322));have n3_:=Aside0.mk ((by rw [hg];exact (below_size zb):w.heap.size≤gb322));clear HB;have HB:=n0_;have BK322:=n1_;have GW322:=n2_;have GE322:=n3_;clear n0_ n1_ n2_ n3_;clear hb hbox hg;have hcz12_0:w11.cell? ⟨gb322,0,none⟩=some (.int .i64 0):=(blk_cell BK322.out 0).trans rfl;have hcz12_1:w11.cell? ⟨gb322,1,none⟩=some (.int .i64 0):=(blk_cell BK322.out 1).trans rfl;have hfz12_0:=blk_frozen BK322.out 0;have hfz12_1:=blk_frozen BK322.out 1))
         repeat (go_quiet (first|((with_reducible refine gate_dst (N:=6) rfl ?_);(try (refine gate_guard (by rfl) ?_;dsimp only));refine box_event ?hg (N:=6) ?hd (cs:=#[.int .i64 0,.int .i64 0]) (t:=72) ?hr ?_;(case hd=>rfl);(case hg=>rfl);(case hr=>first|(go_simp;done)|(go_simp;rfl));intro gb322 hg w11 hbox hb;have n0_:=Aside0.mk (below_step zb hb);have n1_:=Aside0.mk (hbox);have n2_:=Aside0.mk ((by rw [hg];exact (below_size zb):w.heap.size≤gb322));have n3_:=Aside0.mk ((by rw [hg];exact (below_size zb):w.heap.size≤gb322));clear HB;have HB:=n0_;have BK322:=n1_;have GW322:=n2_;have GE322:=n3_;clear n0_ n1_ n2_ n3_;clear hb hbox hg;have hcz12_0:w11.cell? ⟨gb322,0,none⟩=some (.int .i64 0):=(blk_cell BK322.out 0).trans rfl;have hcz12_1:w11.cell? ⟨gb322,1,none⟩=some (.int .i64 0):=(blk_cell BK322.out 1).trans rfl;have hfz12_0:=blk_frozen BK322.out 0;have hfz12_1:=blk_frozen BK322.out 1));go_upto_region 6 with (first|((with_reducible refine gate_dst (N:=6) rfl ?_);(try (refine gate_guard (by rfl) ?_;dsimp only));refine box_event ?hg (N:=6) ?hd (cs:=#[.int .i64 0,.int .i64 0]) (t:=72) ?hr ?_;(case hd=>rfl);(case hg=>rfl);(case hr=>first|(go_simp;done)|(go_simp;rfl));intro gb322 hg w11 hbox hb;have n0_:=Aside0.mk (below_step zb hb);have n1_:=Aside0.mk (hbox);have n2_:=Aside0.mk ((by rw [hg];exact (below_size zb):w.heap.size≤gb322));have n3_:=Aside0.mk ((by rw [hg];exact (below_size zb):w.heap.size≤gb322));clear HB;have HB:=n0_;have BK322:=n1_;have GW322:=n2_;have GE322:=n3_;clear n0_ n1_ n2_ n3_;clear hb hbox hg;have hcz12_0:w11.cell? ⟨gb322,0,none⟩=some (.int .i64 0):=(blk_cell BK322.out 0).trans rfl;have hcz12_1:w11.cell? ⟨gb322,1,none⟩=some (.int .i64 0):=(blk_cell BK322.out 1).trans rfl;have hfz12_0:=blk_frozen BK322.out 0;have hfz12_1:=blk_frozen BK322.out 1)))
         (try simp only [Act.put,List.setIfInBounds_toArray,List.set_cons_zero,List.set_cons_succ])
         go_cut [42] (fun v42 wc=>∃ (kq:Nat) (x42_9:Bool),v42=.bool x42_9∧Aside0 (impl_IsPrecedence.j2 kq a0 l1 x19_2 l1 (l1.length:Int) x19_2 x42_9 ((rd_T72 l1 x19_2).f0) ((rd_T72 l1 x19_2).f1)=some r)∧Aside0 (kq≤k2)∧Aside0 (wc.heap[gb322]?=some (.cells #[.int .i64 ((rd_T72 l1 x19_2).f0),.int .i64 ((rd_T72 l1 x19_2).f1)] 72 (0,0)))∧Aside0 (Below w.heap.size w wc))
         case first=>
          have H:=HC10.out
          clear HC10
          replace H:=Option.bind_eq_some_iff.mp H
          obtain ⟨t323,A130,H⟩:=H
          replace H:(if t323=true then ((impl_isNumber.f ((rd_T72 l1 x19_2).f1) a0).bind fun t324=>(if t324=true then (impl_IsPrecedence.j2 k2 a0 l1 x19_2 l1 (l1.length:Int) x19_2 (((rd_T72 l1 x19_2).f0) == ((rd_T72 l1 x19_2).f1)) ((rd_T72 l1 x19_2).f0) ((rd_T72 l1 x19_2).f1)) else (impl_IsPrecedence.j2 k2 a0 l1 x19_2 l1 (l1.length:Int) x19_2 true ((rd_T72 l1 x19_2).f0) ((rd_T72 l1 x19_2).f1)))) else (impl_IsPrecedence.j2 k2 a0 l1 x19_2 l1 (l1.length:Int) x19_2 true ((rd_T72 l1 x19_2).f0) ((rd_T72 l1 x19_2).f1)))=some r:=H
          have A13:=Aside0.mk A130
          clear A130
          by_cases c14:t323=true
          ·subst c14
           have H1:((impl_isNumber.f ((rd_T72 l1 x19_2).f1) a0).bind fun t324=>(if t324=true then (impl_IsPrecedence.j2 k2 a0 l1 x19_2 l1 (l1.length:Int) x19_2 (((rd_T72 l1 x19_2).f0) == ((rd_T72 l1 x19_2).f1)) ((rd_T72 l1 x19_2).f0) ((rd_T72 l1 x19_2).f1)) else (impl_IsPrecedence.j2 k2 a0 l1 x19_2 l1 (l1.length:Int) x19_2 true ((rd_T72 l1 x19_2).f0) ((rd_T72 l1 x19_2).f1))))=some r:=by rw [if_pos rfl] at H;exact H
           clear H
           have H:=H1
           clear H1
           replace H:=Option.bind_eq_some_iff.mp H
           obtain ⟨t324,A150,H⟩:=H
           replace H:(if t324=true then (impl_IsPrecedence.j2 k2 a0 l1 x19_2 l1 (l1.length:Int) x19_2 (((rd_T72 l1 x19_2).f0) == ((rd_T72 l1 x19_2).f1)) ((rd_T72 l1 x19_2).f0) ((rd_T72 l1 x19_2).f1)) else (impl_IsPrecedence.j2 k2 a0 l1 x19_2 l1 (l1.length:Int) x19_2 true ((rd_T72 l1 x19_2).f0) ((rd_T72 l1 x19_2).f1)))=some r:=H
           have A15:=Aside0.mk A150
           clear A150
           by_cases c16:t324=true
           ·subst c16
            have H1:(impl_IsPrecedence.j2 k2 a0 l1 x19_2 l1 (l1.length:Int) x19_2 (((rd_T72 l1 x19_2).f0) == ((rd_T72 l1 x19_2).f1)) ((rd_T72 l1 x19_2).f0) ((rd_T72 l1 x19_2).f1))=some r:=by rw [if_pos rfl] at H;exact H
            clear H
            have H:=H1
            clear H1
            have H':=Aside0.mk H
            clear H
            have hcz17_0:w11.cell? ⟨gb322,0,none⟩=some (.int .i64 0):=(blk_cell BK322.out 0).trans rfl
            have hcz17_1:w11.cell? ⟨gb322,1,none⟩=some (.int .i64 0):=(blk_cell BK322.out 1).trans rfl
            have hfz17_0:=blk_frozen BK322.out 0
            have hfz17_1:=blk_frozen BK322.out 1
            go_wp2_with (first|(go_at_call 114;(with_reducible refine (impl_isNumber.calls ((rd_T72 l1 x19_2).f0) a0 true _ A13.out).mono ?_);rintro e w' ⟨rfl,⟨nd,rfl⟩⟩;(try first|exact ⟨rfl,_,World.drewN_drewN _ _ _⟩|exact ⟨rfl,_,Eq.trans (World.drewN_drewN _ _ _) (congrArg (World.drewN _) (Nat.add_assoc _ _ _))⟩))|(go_at_call 114;(with_reducible refine (impl_isNumber.calls ((rd_T72 l1 x19_2).f1) a0 true _ A15.out).mono ?_);rintro e w' ⟨rfl,⟨nd,rfl⟩⟩;(try first|exact ⟨rfl,_,World.drewN_drewN _ _ _⟩|exact ⟨rfl,_,Eq.trans (World.drewN_drewN _ _ _) (congrArg (World.drewN _) (Nat.add_assoc _ _ _))⟩)))
            repeat (go_quiet (first|(go_at_call 114;(with_reducible refine (impl_isNumber.calls ((rd_T72 l1 x19_2).f0) a0 true _ A13.out).mono ?_);rintro e w' ⟨rfl,⟨nd,rfl⟩⟩;(try first|exact ⟨rfl,_,World.drewN_drewN _ _ _⟩|exact ⟨rfl,_,Eq.trans (World.drewN_drewN _ _ _) (congrArg (World.drewN _) (Nat.add_assoc _ _ _))⟩))|(go_at_call 114;(with_reducible refine (impl_isNumber.calls ((rd_T72 l1 x19_2).f1) a0 true _ A15.out).mono ?_);rintro e w' ⟨rfl,⟨nd,rfl⟩⟩;(try first|exact ⟨rfl,_,World.drewN_drewN _ _ _⟩|exact ⟨rfl,_,Eq.trans (World.drewN_drewN _ _ _) (congrArg (World.drewN _) (Nat.add_assoc _ _ _))⟩)));try go_wp2_with (first|(go_at_call 114;(with_reducible refine (impl_isNumber.calls ((rd_T72 l1 x19_2).f0) a0 true _ A13.out).mono ?_);rintro e w' ⟨rfl,⟨nd,rfl⟩⟩;(try first|exact ⟨rfl,_,World.drewN_drewN _ _ _⟩|exact ⟨rfl,_,Eq.trans (World.drewN_drewN _ _ _) (congrArg (World.drewN _) (Nat.add_assoc _ _ _))⟩))|(go_at_call 114;(with_reducible refine (impl_isNumber.calls ((rd_T72 l1 x19_2).f1) a0 true _ A15.out).mono ?_);rintro e w' ⟨rfl,⟨nd,rfl⟩⟩;(try first|exact ⟨rfl,_,World.drewN_drewN _ _ _⟩|exact ⟨rfl,_,Eq.trans (World.drewN_drewN _ _ _) (congrArg (World.drewN _) (Nat.add_assoc _ _ _))⟩))))
            go_meet
            case rel=>exact ⟨_,((((rd_T72 l1 x19_2).f0) == ((rd_T72 l1 x19_2).f1))),zo,H',⟨by have:=HJ2.out;have:=HK2.out;first|omega|exact Nat.le_refl _⟩,⟨by (with_reducible repeat (first|refine blk_drewN ?_ _|refine blk_drew ?_|refine blk_alloc ?_ _));refine blk_put (cs:=#[.int .i64 ((rd_T72 l1 x19_2).f0),.int .i64 0]) ?_ 1 _ rfl;(with_reducible repeat (first|refine blk_drewN ?_ _|refine blk_drew ?_|refine blk_alloc ?_ _));refine blk_put (cs:=#[.int .i64 0,.int .i64 0]) ?_ 0 _ rfl;(with_reducible repeat (first|refine blk_drewN ?_ _|refine blk_drew ?_|refine blk_alloc ?_ _));exact BK322.out⟩,⟨by repeat (first|(with_reducible first|exact HB.out|apply below_alloc|apply pw_below_drewN|apply below_drew1|refine below_set ?_ GE322.out)|exact HB.out)⟩⟩
           ·replace c16:=Bool.eq_false_iff.mpr c16
            subst c16
            have H1:(impl_IsPrecedence.j2 k2 a0 l1 x19_2 l1 (l1.length:Int) x19_2 true ((rd_T72 l1 x19_2).f0) ((rd_T72 l1 x19_2).f1))=some r:=by rw [if_neg (show ¬ (false=true) by decide)] at H;exact H
            clear H
            have H:=H1
            clear H1
            have H':=Aside0.mk H
            clear H
            have hcz18_0:w11.cell? ⟨gb322,0,none⟩=some (.int .i64 0):=(blk_cell BK322.out 0).trans rfl
            have hcz18_1:w11.cell? ⟨gb322,1,none⟩=some (.int .i64 0):=(blk_cell BK322.out 1).trans rfl
            have hfz18_0:=blk_frozen BK322.out 0
            have hfz18_1:=blk_frozen BK322.out 1
            go_wp2_with (first|(go_at_call 114;(with_reducible refine (impl_isNumber.calls ((rd_T72 l1 x19_2).f0) a0 true _ A13.out).mono ?_);rintro e w' ⟨rfl,⟨nd,rfl⟩⟩;(try first|exact ⟨rfl,_,World.drewN_drewN _ _ _⟩|exact ⟨rfl,_,Eq.trans (World.drewN_drewN _ _ _) (congrArg (World.drewN _) (Nat.add_assoc _ _ _))⟩))|(go_at_call 114;(with_reducible refine (impl_isNumber.calls ((rd_T72 l1 x19_2).f1) a0 false _ A15.out).mono ?_);rintro e w' ⟨rfl,⟨nd,rfl⟩⟩;(try first|exact ⟨rfl,_,World.drewN_drewN _ _ _⟩|exact ⟨rfl,_,Eq.trans (World.drewN_drewN _ _ _) (congrArg (World.drewN _) (Nat.add_assoc _ _ _))⟩)))
            repeat (go_quiet (first|(go_at_call 114;(with_reducible refine (impl_isNumber.calls ((rd_T72 l1 x19_2).f0) a0 true _ A13.out).mono ?_);rintro e w' ⟨rfl,⟨nd,rfl⟩⟩;(try first|exact ⟨rfl,_,World.drewN_drewN _ _ _⟩|exact ⟨rfl,_,Eq.trans (World.drewN_drewN _ _ _) (congrArg (World.drewN _) (Nat.add_assoc _ _ _))⟩))|(go_at_call 114;(with_reducible refine (impl_isNumber.calls ((rd_T72 l1 x19_2).f1) a0 false _ A15.out).mono ?_);rintro e w' ⟨rfl,⟨nd,rfl⟩⟩;(try first|exact ⟨rfl,_,World.drewN_drewN _ _ _⟩|exact ⟨rfl,_,Eq.trans (World.drewN_drewN _ _ _) (congrArg (World.drewN _) (Nat.add_assoc _ _ _))⟩)));try go_wp2_with (first|(go_at_call 114;(with_reducible refine (impl_isNumber.calls ((rd_T72 l1 x19_2).f0) a0 true _ A13.out).mono ?_);rintro e w' ⟨rfl,⟨nd,rfl⟩⟩;(try first|exact ⟨rfl,_,World.drewN_drewN _ _ _⟩|exact ⟨rfl,_,Eq.trans (World.drewN_drewN _ _ _) (congrArg (World.drewN _) (Nat.add_assoc _ _ _))⟩))|(go_at_call 114;(with_reducible refine (impl_isNumber.calls ((rd_T72 l1 x19_2).f1) a0 false _ A15.out).mono ?_);rintro e w' ⟨rfl,⟨nd,rfl⟩⟩;(try first|exact ⟨rfl,_,World.drewN_drewN _ _ _⟩|exact ⟨rfl,_,Eq.trans (World.drewN_drewN _ _ _) (congrArg (World.drewN _) (Nat.add_assoc _ _ _))⟩))))
            go_meet
            case rel=>exact ⟨_,(true),zo,H',⟨by have:=HJ2.out;have:=HK2.out;first|omega|exact Nat.le_refl _⟩,⟨by (with_reducible repeat (first|refine blk_drewN ?_ _|refine blk_drew ?_|refine blk_alloc ?_ _));refine blk_put (cs:=#[.int .i64 ((rd_T72 l1 x19_2).f0),.int .i64 0]) ?_ 1 _ rfl;(with_reducible repeat (first|refine blk_drewN ?_ _|refine blk_drew ?_|refine blk_alloc ?_ _));refine blk_put (cs:=#[.int .i64 0,.int .i64 0]) ?_ 0 _ rfl;(with_reducible repeat (first|refine blk_drewN ?_ _|refine blk_drew ?_|refine blk_alloc ?_ _));exact BK322.out⟩,⟨by repeat (first|(with_reducible first|exact HB.out|apply below_alloc|apply pw_below_drewN|apply below_drew1|refine below_set ?_ GE322.out)|exact HB.out)⟩⟩
          ·replace c14:=Bool.eq_false_iff.mpr c14
           subst c14
           have H1:(impl_IsPrecedence.j2 k2 a0 l1 x19_2 l1 (l1.length:Int) x19_2 true ((rd_T72 l1 x19_2).f0) ((rd_T72 l1 x19_2).f1))=some r:=by rw [if_neg (show ¬ (false=true) by decide)] at H;exact H
           clear H
           have H:=H1
           clear H1
           have H':=Aside0.mk H
           clear H
           have hcz19_0:w11.cell? ⟨gb322,0,none⟩=some (.int .i64 0):=(blk_cell BK322.out 0).trans rfl
           have hcz19_1:w11.cell? ⟨gb322,1,none⟩=some (.int .i64 0):=(blk_cell BK322.out 1).trans rfl
           have hfz19_0:=blk_frozen BK322.out 0
           have hfz19_1:=blk_frozen BK322.out 1
           go_wp2_with (first|(go_at_call 114;(with_reducible refine (impl_isNumber.calls ((rd_T72 l1 x19_2).f0) a0 false _ A13.out).mono ?_);rintro e w' ⟨rfl,⟨nd,rfl⟩⟩;(try first|exact ⟨rfl,_,World.drewN_drewN _ _ _⟩|exact ⟨rfl,_,Eq.trans (World.drewN_drewN _ _ _) (congrArg (World.drewN _) (Nat.add_assoc _ _ _))⟩)))
           repeat (go_quiet (first|(go_at_call 114;(with_reducible refine (impl_isNumber.calls ((rd_T72 l1 x19_2).f0) a0 false _ A13.out).mono ?_);rintro e w' ⟨rfl,⟨nd,rfl⟩⟩;(try first|exact ⟨rfl,_,World.drewN_drewN _ _ _⟩|exact ⟨rfl,_,Eq.trans (World.drewN_drewN _ _ _) (congrArg (World.drewN _) (Nat.add_assoc _ _ _))⟩)));try go_wp2_with (first|(go_at_call 114;(with_reducible refine (impl_isNumber.calls ((rd_T72 l1 x19_2).f0) a0 false _ A13.out).mono ?_);rintro e w' ⟨rfl,⟨nd,rfl⟩⟩;(try first|exact ⟨rfl,_,World.drewN_drewN _ _ _⟩|exact ⟨rfl,_,Eq.trans (World.drewN_drewN _ _ _) (congrArg (World.drewN _) (Nat.add_assoc _ _ _))⟩))))
           go_meet
           case rel=>exact ⟨_,(true),zo,H',⟨by have:=HJ2.out;have:=HK2.out;first|omega|exact Nat.le_refl _⟩,⟨by (with_reducible repeat (first|refine blk_drewN ?_ _|refine blk_drew ?_|refine blk_alloc ?_ _));refine blk_put (cs:=#[.int .i64 ((rd_T72 l1 x19_2).f0),.int .i64 0]) ?_ 1 _ rfl;(with_reducible repeat (first|refine blk_drewN ?_ _|refine blk_drew ?_|refine blk_alloc ?_ _));refine blk_put (cs:=#[.int .i64 0,.int .i64 0]) ?_ 0 _ rfl;(with_reducible repeat (first|refine blk_drewN ?_ _|refine blk_drew ?_|refine blk_alloc ?_ _));exact BK322.out⟩,⟨by repeat (first|(with_reducible first|exact HB.out|apply below_alloc|apply pw_below_drewN|apply below_drew1|refine below_set ?_ GE322.out)|exact HB.out)⟩⟩
         case rest=>
          clear HC10
          (try clear c1);(try clear p2);(try clear p3);(try clear q3);(try clear hx3);(try clear c5);(try clear c6);(try clear c7);(try clear c7b0);(try clear c8);(try clear c8b0);(try clear c9);(try clear c9b0);(try clear c14);(try clear c16);(try clear hcz12_0);(try clear hcz12_1);(try clear hcz17_0);(try clear hcz17_1);(try clear hcz18_0);(try clear hcz18_1);(try clear hcz19_0);(try clear hcz19_1);(try clear hfz12_0);(try clear hfz12_1);(try clear hfz17_0);(try clear hfz17_1);(try clear hfz18_0);(try clear hfz18_1);(try clear hfz19_0);(try clear hfz19_1);(try clear hx321_0);(try clear hx321_1);(try clear p321);(try clear q321)
          obtain ⟨kq,x42_9,rfl,HA,HJ9,BK322,HB⟩:=hcut
          cases kq with
          | zero=>exact absurd HA.out (by simp [impl_IsPrecedence.j2])
          | succ kj9=>
           have H:=HA.out
           clear HA
           simp only [impl_IsPrecedence.j2] at H
           by_cases c20:x42_9=true
           ·subst c20
            have H1:(some false)=some r:=by rw [if_pos rfl] at H;exact H
            clear H
            have H:=H1
            clear H1
            obtain rfl:=Option.some.inj H
            go_wp2
            repeat (go_quiet (fail);try go_wp2)
            go_ret
            exact ⟨by first|rfl|(simp [errW_none,errW_some] <;> rfl)|(simp [*,errW_none,errW_some] <;> rfl),by repeat (first|(with_reducible first|exact HB.out|apply below_alloc|apply pw_below_drewN|apply below_drew1|refine below_set ?_ GE322.out)|exact HB.out)⟩
           ·replace c20:=Bool.eq_false_iff.mpr c20
            subst c20
            have H1:(if x19_2>0 then (if 0≤(wrap64 (x19_2 - 1)) then (if (wrap64 (x19_2 - 1))<(l1.length:Int) then (if ((rd_T72 l1 (wrap64 (x19_2 - 1))).f0)>((rd_T72 l1 x19_2).f0) then (some false) else (if ((rd_T72 l1 (wrap64 (x19_2 - 1))).f0)=((rd_T72 l1 x19_2).f0) then (if ((rd_T72 l1 (wrap64 (x19_2 - 1))).f1)≥((rd_T72 l1 x19_2).f1) then (some false) else (impl_IsPrecedence.l0 kj9 a0 l1 l1 (l1.length:Int) (wrap64 (x19_2 + 1)))) else (impl_IsPrecedence.l0 kj9 a0 l1 l1 (l1.length:Int) (wrap64 (x19_2 + 1))))) else (none)) else (none)) else (impl_IsPrecedence.l0 kj9 a0 l1 l1 (l1.length:Int) (wrap64 (x19_2 + 1))))=some r:=by rw [if_neg (show ¬ (false=true) by decide)] at H;exact H
            clear H
            have H:=H1
            clear H1
            by_cases c21:x19_2>0
            ·rw [if_pos c21] at H
             have c21b0:decide (0<x19_2)=true:=decide_eq_true c21
             clear c21
             obtain ⟨ji22,hji22⟩:∃ j_:Int,(wrap64 (x19_2 - 1))=j_:=⟨_,rfl⟩
             replace H:(if 0≤(ji22) then (if (ji22)<(l1.length:Int) then (if ((rd_T72 l1 (ji22)).f0)>((rd_T72 l1 x19_2).f0) then (some false) else (if ((rd_T72 l1 (ji22)).f0)=((rd_T72 l1 x19_2).f0) then (if ((rd_T72 l1 (ji22)).f1)≥((rd_T72 l1 x19_2).f1) then (some false) else (impl_IsPrecedence.l0 kj9 a0 l1 l1 (l1.length:Int) (wrap64 (x19_2 + 1)))) else (impl_IsPrecedence.l0 kj9 a0 l1 l1 (l1.length:Int) (wrap64 (x19_2 + 1))))) else (none)) else (none))=some r:=by first|(rw [hji22] at H;exact H)|(simp only [hji22] at H ⊢;exact H)
             have hji22w:(IntKind.i64.wrap (x19_2 - 1))=ji22:=(i64_w _).trans hji22
             by_cases c23:0≤(ji22)
             ·rw [if_pos c23] at H
              have c23b0:decide (0≤(ji22))=true:=decide_eq_true c23
              clear c23
              by_cases c24:(ji22)<(l1.length:Int)
              ·rw [if_pos c24] at H
               have c24b0:decide ((ji22)<(l1.length:Int))=true:=decide_eq_true c24
               clear c24
               by_cases c25:((rd_T72 l1 (ji22)).f0)>((rd_T72 l1 x19_2).f0)
               ·rw [if_pos c25] at H
                have c25b0:decide (((rd_T72 l1 x19_2).f0)<((rd_T72 l1 (ji22)).f0))=true:=decide_eq_true c25
                clear c25
                obtain rfl:=Option.some.inj H
                have p325:0≤((ji22):Int):=of_decide_eq_true za
                have q325:(ji22)<(l1.length:Int):=of_decide_eq_true za
                obtain ⟨ad325,e325,hx325_0,hx325_1⟩:=at_T72 HR1.out (ji22) p325 q325
                obtain rfl:ad321=ad325:=(by injection e325)
                replace hx325_0:=(HB.out.cell (World.block_lt_of_cell? w _ hx325_0)).trans hx325_0
                replace hx325_1:=(HB.out.cell (World.block_lt_of_cell? w _ hx325_1)).trans hx325_1
                replace p325:=eq_true p325
                replace q325:=eq_true q325
                have hcz26_0:wc.cell? ⟨gb322,0,none⟩=some (.int .i64 ((rd_T72 l1 x19_2).f0)):=(blk_cell BK322.out 0).trans rfl
                have hcz26_1:wc.cell? ⟨gb322,1,none⟩=some (.int .i64 ((rd_T72 l1 x19_2).f1)):=(blk_cell BK322.out 1).trans rfl
                have hfz26_0:=blk_frozen BK322.out 0
                have hfz26_1:=blk_frozen BK322.out 1
                go_wp2
                repeat (go_quiet (fail);try go_wp2)
                go_ret
                exact ⟨by first|rfl|(simp [errW_none,errW_some] <;> rfl)|(simp only [←hji22];first|rfl|(simp [errW_none,errW_some] <;> rfl))|(simp [*,errW_none,errW_some] <;> rfl),by repeat (first|(with_reducible first|exact HB.out|apply below_alloc|apply pw_below_drewN|apply below_drew1|refine below_set ?_ GE322.out)|exact HB.out)⟩
               ·rw [if_neg c25] at H
                have c25b0:decide (((rd_T72 l1 x19_2).f0)<((rd_T72 l1 (ji22)).f0))=false:=decide_eq_false c25
                clear c25
                by_cases c27:((rd_T72 l1 (ji22)).f0)=((rd_T72 l1 x19_2).f0)
                ·rw [if_pos c27] at H
                 have c27b0:(((rd_T72 l1 (ji22)).f0) == ((rd_T72 l1 x19_2).f0))=true:=beq_iff_eq.mpr c27
                 have c27b1:(((rd_T72 l1 (ji22)).f0) != ((rd_T72 l1 x19_2).f0))=false:=bne_eq_false_iff_eq.mpr c27
                 clear c27
                 by_cases c28:((rd_T72 l1 (ji22)).f1)≥((rd_T72 l1 x19_2).f1)
                 ·rw [if_pos c28] at H
                  have c28b0:decide (((rd_T72 l1 x19_2).f1)≤((rd_T72 l1 (ji22)).f1))=true:=decide_eq_true c28
                  clear c28
                  obtain rfl:=Option.some.inj H
                  have p325:0≤((ji22):Int):=of_decide_eq_true za
                  have q325:(ji22)<(l1.length:Int):=of_decide_eq_true za
                  obtain ⟨ad325,e325,hx325_0,hx325_1⟩:=at_T72 HR1.out (ji22) p325 q325
                  obtain rfl:ad321=ad325:=(by injection e325)
                  replace hx325_0:=(HB.out.cell (World.block_lt_of_cell? w _ hx325_0)).trans hx325_0
                  replace hx325_1:=(HB.out.cell (World.block_lt_of_cell? w _ hx325_1)).trans hx325_1
                  replace p325:=eq_true p325
                  replace q325:=eq_true q325
                  have hcz29_0:wc.cell? ⟨gb322,0,none⟩=some (.int .i64 ((rd_T72 l1 x19_2).f0)):=(blk_cell BK322.out 0).trans rfl
                  have hcz29_1:wc.cell? ⟨gb322,1,none⟩=some (.int .i64 ((rd_T72 l1 x19_2).f1)):=(blk_cell BK322.out 1).trans rfl
                  have hfz29_0:=blk_frozen BK322.out 0
                  have hfz29_1:=blk_frozen BK322.out 1
                  have p326:0≤((ji22):Int):=of_decide_eq_true za
                  have q326:(ji22)<(l1.length:Int):=of_decide_eq_true za
                  obtain ⟨ad326,e326,hx326_0,hx326_1⟩:=at_T72 HR1.out (ji22) p326 q326
                  obtain rfl:ad321=ad326:=(by injection e326)
                  replace hx326_0:=(HB.out.cell (World.block_lt_of_cell? w _ hx326_0)).trans hx326_0
                  replace hx326_1:=(HB.out.cell (World.block_lt_of_cell? w _ hx326_1)).trans hx326_1
                  replace p326:=eq_true p326
                  replace q326:=eq_true q326
                  have p327:0≤((ji22):Int):=of_decide_eq_true za
                  have q327:(ji22)<(l1.length:Int):=of_decide_eq_true za
                  obtain ⟨ad327,e327,hx327_0,hx327_1⟩:=at_T72 HR1.out (ji22) p327 q327
                  obtain rfl:ad321=ad327:=(by injection e327)
                  replace hx327_0:=(HB.out.cell (World.block_lt_of_cell? w _ hx327_0)).trans hx327_0
                  replace hx327_1:=(HB.out.cell (World.block_lt_of_cell? w _ hx327_1)).trans hx327_1
                  replace p327:=eq_true p327
                  replace q327:=eq_true q327
                  go_wp2
                  repeat (go_quiet (fail);try go_wp2)
                  go_ret
                  exact ⟨by first|rfl|(simp [errW_none,errW_some] <;> rfl)|(simp only [←hji22];first|rfl|(simp [errW_none,errW_some] <;> rfl))|(simp [*,errW_none,errW_some] <;> rfl),by repeat (first|(with_reducible first|exact HB.out|apply below_alloc|apply pw_below_drewN|apply below_drew1|refine below_set ?_ GE322.out)|exact HB.out)⟩
                 ·rw [if_neg c28] at H
                  have c28b0:decide (((rd_T72 l1 x19_2).f1)≤((rd_T72 l1 (ji22)).f1))=false:=decide_eq_false c28
                  clear c28
                  have H':=Aside0.mk H
                  clear H
                  have p325:0≤((ji22):Int):=of_decide_eq_true za
                  have q325:(ji22)<(l1.length:Int):=of_decide_eq_true za
                  obtain ⟨ad325,e325,hx325_0,hx325_1⟩:=at_T72 HR1.out (ji22) p325 q325
                  obtain rfl:ad321=ad325:=(by injection e325)
                  replace hx325_0:=(HB.out.cell (World.block_lt_of_cell? w _ hx325_0)).trans hx325_0
                  replace hx325_1:=(HB.out.cell (World.block_lt_of_cell? w _ hx325_1)).trans hx325_1
                  replace p325:=eq_true p325
                  replace q325:=eq_true q325
                  have hcz30_0:wc.cell? ⟨gb322,0,none⟩=some (.int .i64 ((rd_T72 l1 x19_2).f0)):=(blk_cell BK322.out 0).trans rfl
                  have hcz30_1:wc.cell? ⟨gb322,1,none⟩=some (.int .i64 ((rd_T72 l1 x19_2).f1)):=(blk_cell BK322.out 1).trans rfl
                  have hfz30_0:=blk_frozen BK322.out 0
                  have hfz30_1:=blk_frozen BK322.out 1
                  have p326:0≤((ji22):Int):=of_decide_eq_true za
                  have q326:(ji22)<(l1.length:Int):=of_decide_eq_true za
                  obtain ⟨ad326,e326,hx326_0,hx326_1⟩:=at_T72 HR1.out (ji22) p326 q326
                  obtain rfl:ad321=ad326:=(by injection e326)
                  replace hx326_0:=(HB.out.cell (World.block_lt_of_cell? w _ hx326_0)).trans hx326_0
                  replace hx326_1:=(HB.out.cell (World.block_lt_of_cell? w _ hx326_1)).trans hx326_1
                  replace p326:=eq_true p326
                  replace q326:=eq_true q326
                  have p327:0≤((ji22):Int):=of_decide_eq_true za
                  have q327:(ji22)<(l1.length:Int):=of_decide_eq_true za
                  obtain ⟨ad327,e327,hx327_0,hx327_1⟩:=at_T72 HR1.out (ji22) p327 q327
                  obtain rfl:ad321=ad327:=(by injection e327)
                  replace hx327_0:=(HB.out.cell (World.block_lt_of_cell? w _ hx327_0)).trans hx327_0
                  replace hx327_1:=(HB.out.cell (World.block_lt_of_cell? w _ hx327_1)).trans hx327_1
                  replace p327:=eq_true p327
                  replace q327:=eq_true q327
                  go_wp2
                  repeat (go_quiet (fail);try go_wp2)
                  go_roundg kj9
                  case measure=>have:=HJ2.out;have:=HK2.out;have:=HJ9.out;omega
                  case rel=>exact ⟨(wrap64 (x19_2 + 1)),zo,H',⟨by have:=HJ2.out;have:=HK2.out;have:=HJ9.out;omega⟩,⟨by repeat (first|(with_reducible first|exact HB.out|apply below_alloc|apply pw_below_drewN|apply below_drew1|refine below_set ?_ GE322.out)|exact HB.out)⟩⟩
                ·rw [if_neg c27] at H
                 have c27b0:(((rd_T72 l1 (ji22)).f0) == ((rd_T72 l1 x19_2).f0))=false:=beq_eq_false_iff_ne.mpr c27
                 have c27b1:(((rd_T72 l1 (ji22)).f0) != ((rd_T72 l1 x19_2).f0))=true:=bne_iff_ne.mpr c27
                 have H':=Aside0.mk H
                 clear H
                 have p325:0≤((ji22):Int):=of_decide_eq_true za
                 have q325:(ji22)<(l1.length:Int):=of_decide_eq_true za
                 obtain ⟨ad325,e325,hx325_0,hx325_1⟩:=at_T72 HR1.out (ji22) p325 q325
                 obtain rfl:ad321=ad325:=(by injection e325)
                 replace hx325_0:=(HB.out.cell (World.block_lt_of_cell? w _ hx325_0)).trans hx325_0
                 replace hx325_1:=(HB.out.cell (World.block_lt_of_cell? w _ hx325_1)).trans hx325_1
                 replace p325:=eq_true p325
                 replace q325:=eq_true q325
                 have hcz31_0:wc.cell? ⟨gb322,0,none⟩=some (.int .i64 ((rd_T72 l1 x19_2).f0)):=(blk_cell BK322.out 0).trans rfl
                 have hcz31_1:wc.cell? ⟨gb322,1,none⟩=some (.int .i64 ((rd_T72 l1 x19_2).f1)):=(blk_cell BK322.out 1).trans rfl
                 have hfz31_0:=blk_frozen BK322.out 0
                 have hfz31_1:=blk_frozen BK322.out 1
                 have p326:0≤((ji22):Int):=of_decide_eq_true za
                 have q326:(ji22)<(l1.length:Int):=of_decide_eq_true za
                 obtain ⟨ad326,e326,hx326_0,hx326_1⟩:=at_T72 HR1.out (ji22) p326 q326
                 obtain rfl:ad321=ad326:=(by injection e326)
                 replace hx326_0:=(HB.out.cell (World.block_lt_of_cell? w _ hx326_0)).trans hx326_0
                 replace hx326_1:=(HB.out.cell (World.block_lt_of_cell? w _ hx326_1)).trans hx326_1
                 replace p326:=eq_true p326
                 replace q326:=eq_true q326
                 go_wp2
                 repeat (go_quiet (fail);try go_wp2)
                 go_roundg kj9
                 case measure=>have:=HJ2.out;have:=HK2.out;have:=HJ9.out;omega
                 case rel=>exact ⟨(wrap64 (x19_2 + 1)),zo,H',⟨by have:=HJ2.out;have:=HK2.out;have:=HJ9.out;omega⟩,⟨by repeat (first|(with_reducible first|exact HB.out|apply below_alloc|apply pw_below_drewN|apply below_drew1|refine below_set ?_ GE322.out)|exact HB.out)⟩⟩
              ·rw [if_neg c24] at H
               exact absurd H (by simp)
             ·rw [if_neg c23] at H
              exact absurd H (by simp)
            ·rw [if_neg c21] at H
             have c21b0:decide (0<x19_2)=false:=decide_eq_false c21
             clear c21
             have H':=Aside0.mk H
             clear H
             go_wp2
             repeat (go_quiet (fail);try go_wp2)
             go_roundg kj9
             case measure=>have:=HJ2.out;have:=HK2.out;have:=HJ9.out;omega
             case rel=>exact ⟨(wrap64 (x19_2 + 1)),zo,H',⟨by have:=HJ2.out;have:=HK2.out;have:=HJ9.out;omega⟩,⟨by repeat (first|(with_reducible first|exact HB.out|apply below_alloc|apply pw_below_drewN|apply below_drew1|refine below_set ?_ GE322.out)|exact HB.out)⟩⟩
        ·rw [if_neg c9] at H
         exact absurd H (by simp)
       ·rw [if_neg c8] at H
        exact absurd H (by simp)
      ·rw [if_neg c7] at H
       have c7b0:decide (x19_2<(l1.length:Int))=false:=decide_eq_false c7
       clear c7
       replace H:=Option.bind_eq_some_iff.mp H
       obtain ⟨t328,A320,H⟩:=H
       replace H:(impl_IsPrecedence.l1 k2 t328 (t328.length:Int) 0)=some r:=H
       have A32:=Aside0.mk A320
       clear A320
       have H':=Aside0.mk H
       clear H
       go_wp2_with (first|(go_at_call 115;(with_reducible refine (impl_closure.calls k2 a0 _ _ l1 t328 _ ?side1 ?side2 A32.out).mono ?_);(case side1=>exact zC (Kd.C_below HR1.out HB.out));(case side2=>exact HC1.out);rintro e w33 ⟨v329,rfl,ho0,hb⟩;have n0_:=Aside0.mk (Kd.S_lower ho0 (below_size zb));have n1_:=Aside0.mk (below_step zb hb);clear HB;have HO330:=n0_;have HB:=n1_;clear n0_ n1_;(try clear hb);(try clear hb2);(try clear hk);(try clear hi);(try clear ho0);obtain ⟨Ao34,co34,eo34⟩:=Kd.S_slice HO330.out;subst eo34))
       repeat (go_quiet (first|(go_at_call 115;(with_reducible refine (impl_closure.calls k2 a0 _ _ l1 t328 _ ?side1 ?side2 A32.out).mono ?_);(case side1=>exact zC (Kd.C_below HR1.out HB.out));(case side2=>exact HC1.out);rintro e w33 ⟨v329,rfl,ho0,hb⟩;have n0_:=Aside0.mk (Kd.S_lower ho0 (below_size zb));have n1_:=Aside0.mk (below_step zb hb);clear HB;have HO330:=n0_;have HB:=n1_;clear n0_ n1_;(try clear hb);(try clear hb2);(try clear hk);(try clear hi);(try clear ho0);obtain ⟨Ao34,co34,eo34⟩:=Kd.S_slice HO330.out;subst eo34));try go_wp2_with (first|(go_at_call 115;(with_reducible refine (impl_closure.calls k2 a0 _ _ l1 t328 _ ?side1 ?side2 A32.out).mono ?_);(case side1=>exact zC (Kd.C_below HR1.out HB.out));(case side2=>exact HC1.out);rintro e w33 ⟨v329,rfl,ho0,hb⟩;have n0_:=Aside0.mk (Kd.S_lower ho0 (below_size zb));have n1_:=Aside0.mk (below_step zb hb);clear HB;have HO330:=n0_;have HB:=n1_;clear n0_ n1_;(try clear hb);(try clear hb2);(try clear hk);(try clear hi);(try clear ho0);obtain ⟨Ao34,co34,eo34⟩:=Kd.S_slice HO330.out;subst eo34)))
       go_loopg [84] k2 (fun kq v84 w'=>∃ (x84_3:Int),v84=.int .i64 x84_3∧Aside0 (impl_IsPrecedence.l1 kq t328 (t328.length:Int) x84_3=some r)∧Aside0 (kq≤k2)∧Aside0 (Kd.S (Kd.slice 4 Kd.bool) 127 w' w.heap.size (fun _=>True) (.slice Ao34 t328.length co34) t328)∧Aside0 (Below w.heap.size w w'))
       case atStart=>exact ⟨(0),zo,H',⟨Nat.le_refl _⟩,⟨zS HO330.out⟩,⟨zb⟩⟩
       case round=>
        clear H'
        (try clear c1);(try clear c2);(try clear p2);(try clear p3);(try clear q3);(try clear hx3);(try clear c5);(try clear c6);(try clear p6);(try clear c7);(try clear c7b0);(try clear c8);(try clear c8b0);(try clear c9);(try clear c9b0);(try clear c14);(try clear c16);(try clear c20);(try clear c21);(try clear c21b0);(try clear c23);(try clear c23b0);(try clear c24);(try clear c24b0);(try clear c25);(try clear c25b0);(try clear c27);(try clear c27b0);(try clear c27b1);(try clear c28);(try clear c28b0);(try clear p32);(try clear q32);(try clear hx32);(try clear hcz12_0);(try clear hcz12_1);(try clear hcz17_0);(try clear hcz17_1);(try clear hcz18_0);(try clear hcz18_1);(try clear hcz19_0);(try clear hcz19_1);(try clear hcz26_0);(try clear hcz26_1);(try clear hcz29_0);(try clear hcz29_1);(try clear hcz30_0);(try clear hcz30_1);(try clear hcz31_0);(try clear hcz31_1);(try clear hfz12_0);(try clear hfz12_1);(try clear hfz17_0);(try clear hfz17_1);(try clear hfz18_0);(try clear hfz18_1);(try clear hfz19_0);(try clear hfz19_1);(try clear hfz26_0);(try clear hfz26_1);(try clear hfz29_0);(try clear hfz29_1);(try clear hfz30_0);(try clear hfz30_1);(try clear hfz31_0);(try clear hfz31_1);(try clear hx321_0);(try clear hx321_1);(try clear hx325_0);(try clear hx325_1);(try clear hx326_0);(try clear hx326_1);(try clear hx327_0);(try clear hx327_1);(try clear p321);(try clear p325);(try clear p326);(try clear p327);(try clear q321);(try clear q325);(try clear q326);(try clear q327)
        obtain ⟨x84_3,rfl,HA,HK3,HO_7,HB⟩:=hrel
        cases gk with
        | zero=>exact absurd HA.out (by simp [impl_IsPrecedence.l1])
        | succ k3=>
         have H:=HA.out
         clear HA
         simp only [impl_IsPrecedence.l1] at H
         by_cases c35:x84_3<(t328.length:Int)
         ·rw [if_pos c35] at H
          have c35b0:decide (x84_3<(t328.length:Int))=true:=decide_eq_true c35
          clear c35
          by_cases c36:0≤x84_3
          ·rw [if_pos c36] at H
           have c36b0:decide (0≤x84_3)=true:=decide_eq_true c36
           clear c36
           by_cases c37:x84_3<(t328.length:Int)
           ·rw [if_pos c37] at H
            have c37b0:decide (x84_3<(t328.length:Int))=true:=decide_eq_true c37
            clear c37
            by_cases c38:x84_3<((rd_L6 t328 x84_3).length:Int)
            ·rw [if_pos c38] at H
             have c38b0:decide (x84_3<((rd_L6 t328 x84_3).length:Int))=true:=decide_eq_true c38
             clear c38
             obtain ⟨bq39,hbq39⟩:∃ b_:Bool,b_=(rdOf false (rd_L6 t328 x84_3) x84_3):=⟨_,rfl⟩
             replace H:(if bq39=true then (some false) else (impl_IsPrecedence.l1 k3 t328 (t328.length:Int) (wrap64 (x84_3 + 1))))=some r:=by rw [←hbq39] at H;exact H
             have Nbq39:=Aside0.mk hbq39
             clear hbq39
             by_cases c40:bq39=true
             ·subst c40
              have H1:(some false)=some r:=by rw [if_pos rfl] at H;exact H
              clear H
              have H:=H1
              clear H1
              obtain rfl:=Option.some.inj H
              have p331:0≤(x84_3:Int):=of_decide_eq_true za
              have q331:x84_3<(t328.length:Int):=of_decide_eq_true za
              obtain ⟨ad331,A331_0,c331_0,e331,hx331_0,hl331_0,hi331_0⟩:=at_L6 (Kd.S_reads' HO_7.out).2.2 x84_3 p331 q331
              cases e331
              obtain ⟨ce331,hce331,hMe331,hcc331⟩:=Kd.S_get HO_7.out [] x84_3 p331 (by first|exact q331|exact of_decide_eq_true za|(have e_:=(Kd.S_reads' HO_7.out).1;omega))
              obtain ⟨ve331_0,rfl,ge331_0⟩:=hMe331
              have hv331_0:=hcc331 0 _ rfl
              rw [Nat.add_zero,show ((Kd.slice 4 Kd.bool)).sz=1 from rfl,Nat.mul_one] at hv331_0
              replace hv331_0:=Option.some.inj (hv331_0.symm.trans hx331_0)
              rw [hv331_0] at ge331_0
              have HL331_0:=Aside0.mk (show Kd.R Kd.bool 4 _ _ _ _ (rd_L6 t328 x84_3) from ge331_0)
              clear hv331_0 ge331_0
              clear hcc331 hce331
              have HR331_0:=Aside0.mk hi331_0
              have HC331_0:=Aside0.mk hl331_0
              clear hi331_0 hl331_0
              replace p331:=eq_true p331
              replace q331:=eq_true q331
              have p332:0≤(x84_3:Int):=of_decide_eq_true za
              have q332:x84_3<((rd_L6 t328 x84_3).length:Int):=of_decide_eq_true za
              obtain ⟨ad332,e332,hx332_0⟩:=Kd.at_bool (by repeat (first|(with_reducible exact HR331_0.out)|(with_reducible refine Kd.C_alloc ?_ _)|(with_reducible refine Kd.C_drewN ?_ _)|(with_reducible refine Kd.C_drew ?_)|exact HR331_0.out)) x84_3 p332 q332
              (try rw [←Nbq39.out] at hx332_0)
              cases e332
              replace p332:=eq_true p332
              replace q332:=eq_true q332
              go_wp2
              repeat (go_quiet (fail);try go_wp2)
              go_ret
              exact ⟨by first|rfl|(simp [errW_none,errW_some] <;> rfl)|(simp [*,errW_none,errW_some] <;> rfl),zb⟩
             ·replace c40:=Bool.eq_false_iff.mpr c40
              subst c40
              have H1:(impl_IsPrecedence.l1 k3 t328 (t328.length:Int) (wrap64 (x84_3 + 1)))=some r:=by rw [if_neg (show ¬ (false=true) by decide)] at H;exact H
              clear H
              have H:=H1
              clear H1
              have H':=Aside0.mk H
              clear H
              have p331:0≤(x84_3:Int):=of_decide_eq_true za
              have q331:x84_3<(t328.length:Int):=of_decide_eq_true za
              obtain ⟨ad331,A331_0,c331_0,e331,hx331_0,hl331_0,hi331_0⟩:=at_L6 (Kd.S_reads' HO_7.out).2.2 x84_3 p331 q331
              cases e331
              obtain ⟨ce331,hce331,hMe331,hcc331⟩:=Kd.S_get HO_7.out [] x84_3 p331 (by first|exact q331|exact of_decide_eq_true za|(have e_:=(Kd.S_reads' HO_7.out).1;omega))
              obtain ⟨ve331_0,rfl,ge331_0⟩:=hMe331
              have hv331_0:=hcc331 0 _ rfl
              rw [Nat.add_zero,show ((Kd.slice 4 Kd.bool)).sz=1 from rfl,Nat.mul_one] at hv331_0
              replace hv331_0:=Option.some.inj (hv331_0.symm.trans hx331_0)
              rw [hv331_0] at ge331_0
              have HL331_0:=Aside0.mk (show Kd.R Kd.bool 4 _ _ _ _ (rd_L6 t328 x84_3) from ge331_0)
              clear hv331_0 ge331_0
              clear hcc331 hce331
              have HR331_0:=Aside0.mk hi331_0
              have HC331_0:=Aside0.mk hl331_0
              clear hi331_0 hl331_0
              replace p331:=eq_true p331
              replace q331:=eq_true q331
              have p332:0≤(x84_3:Int):=of_decide_eq_true za
              have q332:x84_3<((rd_L6 t328 x84_3).length:Int):=of_decide_eq_true za
              obtain ⟨ad332,e332,hx332_0⟩:=Kd.at_bool (by repeat (first|(with_reducible exact HR331_0.out)|(with_reducible refine Kd.C_alloc ?_ _)|(with_reducible refine Kd.C_drewN ?_ _)|(with_reducible refine Kd.C_drew ?_)|exact HR331_0.out)) x84_3 p332 q332
              (try rw [←Nbq39.out] at hx332_0)
              cases e332
              replace p332:=eq_true p332
              replace q332:=eq_true q332
              go_wp2
              repeat (go_quiet (fail);try go_wp2)
              go_roundg k3
              case measure=>have:=HJ2.out;have:=HK2.out;have:=HK3.out;omega
              case rel=>exact ⟨(wrap64 (x84_3 + 1)),zo,H',⟨by have:=HJ2.out;have:=HK2.out;have:=HK3.out;omega⟩,⟨zS HO_7.out⟩,⟨zb⟩⟩
            ·rw [if_neg c38] at H
             exact absurd H (by simp)
           ·rw [if_neg c37] at H
            exact absurd H (by simp)
          ·rw [if_neg c36] at H
           exact absurd H (by simp)
         ·rw [if_neg c35] at H
          have c35b0:decide (x84_3<(t328.length:Int))=false:=decide_eq_false c35
          clear c35
          obtain rfl:=Option.some.inj H
          go_wp2
          repeat (go_quiet (fail);try go_wp2)
          go_ret
          exact ⟨by first|rfl|(simp [errW_none,errW_some] <;> rfl)|(simp [*,errW_none,errW_some] <;> rfl),zb⟩

/-! ### impl_isParallel: function 78 -/
def impl_isParallel.f (k:Nat) (l0:List (S76)) (a1:Int) (l2:List (S72)):Option (Bool):=(impl_IsPlain.f k l0).bind fun t333=>(if t333=true then ((impl_within.f a1 1 4).bind fun t334=>(if t334=true then ((impl_IsPrecedence.f k (l0.length:Int) l2).bind fun t335=>(some t335)) else (some false))) else (some false))
theorem impl_isParallel.mono:∀ a0 a1 a2 k,LeO (impl_isParallel.f k a0 a1 a2) (impl_isParallel.f (k + 1) a0 a1 a2):=by
 intro a0 a1 a2 k
 unfold impl_isParallel.f
 repeat' first
   | (with_reducible exact impl_IsPlain.mono _ _)
   | (with_reducible exact impl_IsPrecedence.mono _ _ _)
   | (with_reducible exact LeO.refl _)
   | (with_reducible exact LeO.none _)
   | (with_reducible refine LeO.ite ?_ ?_)
   | (with_reducible refine LeO.bind ?_ (fun _=>?_))
   | exact impl_IsPlain.mono _ _
   | exact impl_IsPrecedence.mono _ _ _
   | exact LeO.none _
   | refine LeO.ite ?_ ?_
   | refine LeO.bind ?_ (fun _=>?_)
set_option maxHeartbeats 8000000 in
set_option maxRecDepth 100000 in
theorem impl_isParallel.calls (k:Nat) (A0:Option Addr) (c0:Nat) (l0:List (S76)) (a1:Int) (A2:Option Addr) (c2:Nat) (l2:List (S72)) (r:Bool) (w:World) (hr0:Kd.C k76 w A0 l0.length l0) (hc0:l0.length≤c0) (hr2:Kd.C k72 w A2 l2.length l2) (hc2:l2.length≤c2) (h:impl_isParallel.f k l0 a1 l2=some r) :
  Calls Try.prog 78 #[.slice A0 l0.length c0,.int .i64 a1,.slice A2 l2.length c2] w fun e w'=>e=.returned (.bool r)∧Below w.heap.size w w':=by
 have HR0:=Aside0.mk hr0
 have HC0:=Aside0.mk hc0
 clear hr0 hc0
 have HR2:=Aside0.mk hr2
 have HC2:=Aside0.mk hc2
 clear hr2 hc2
 have HB:=Aside0.mk (Below.refl w.heap.size w)
 have H:((impl_IsPlain.f k l0).bind fun t333=>(if t333=true then ((impl_within.f a1 1 4).bind fun t334=>(if t334=true then ((impl_IsPrecedence.f k (l0.length:Int) l2).bind fun t335=>(some t335)) else (some false))) else (some false)))=some r:=h
 clear h
 replace H:=Option.bind_eq_some_iff.mp H
 obtain ⟨t333,A40,H⟩:=H
 replace H:(if t333=true then ((impl_within.f a1 1 4).bind fun t334=>(if t334=true then ((impl_IsPrecedence.f k (l0.length:Int) l2).bind fun t335=>(some t335)) else (some false))) else (some false))=some r:=H
 have A4:=Aside0.mk A40
 clear A40
 by_cases c5:t333=true
 ·subst c5
  have H1:((impl_within.f a1 1 4).bind fun t334=>(if t334=true then ((impl_IsPrecedence.f k (l0.length:Int) l2).bind fun t335=>(some t335)) else (some false)))=some r:=by rw [if_pos rfl] at H;exact H
  clear H
  have H:=H1
  clear H1
  replace H:=Option.bind_eq_some_iff.mp H
  obtain ⟨t334,A60,H⟩:=H
  replace H:(if t334=true then ((impl_IsPrecedence.f k (l0.length:Int) l2).bind fun t335=>(some t335)) else (some false))=some r:=H
  have A6:=Aside0.mk A60
  clear A60
  by_cases c7:t334=true
  ·subst c7
   have H1:((impl_IsPrecedence.f k (l0.length:Int) l2).bind fun t335=>(some t335))=some r:=by rw [if_pos rfl] at H;exact H
   clear H
   have H:=H1
   clear H1
   replace H:=Option.bind_eq_some_iff.mp H
   obtain ⟨t335,A80,H⟩:=H
   replace H:(some t335)=some r:=H
   have A8:=Aside0.mk A80
   clear A80
   obtain rfl:=Option.some.inj H
   go_enter Try.func78,Try.ntmps78
   go_wp2_with (first|((with_reducible refine gate_callee (f:=52) rfl ?_);refine goesL_ (some 8) rfl rfl Try.func52 (by kernel_rfl) rfl #[.slice A0 l0.length c0] rfl zl ?_;(with_reducible refine (impl_IsPlain.calls k _ _ l0 true _ ?side1 ?side2 A4.out).mono ?_);(case side1=>exact zC HR0.out);(case side2=>exact HC0.out);rintro e w9 ⟨rfl,hb⟩;refine ⟨_,rfl,?_⟩;have n0_:=Aside0.mk (below_step zb hb);clear HB;have HB:=n0_;clear n0_;(try clear hb);(try clear hb2);(try clear hk);(try clear hi))|(go_at_call 113;(with_reducible refine (impl_within.calls a1 1 4 true _ A6.out).mono ?_);rintro e w' ⟨rfl,⟨nd,rfl⟩⟩)|(go_at_call 62;(with_reducible refine (impl_IsPrecedence.calls k (l0.length:Int) _ _ l2 t335 _ ?side1 ?side2 A8.out).mono ?_);(case side1=>exact zC (Kd.C_below HR2.out zb));(case side2=>exact HC2.out);rintro e w10 ⟨rfl,hb⟩;have n0_:=Aside0.mk (below_step zb hb);clear HB;have HB:=n0_;clear n0_;(try clear hb);(try clear hb2);(try clear hk);(try clear hi)))
   go_ret
   exact ⟨by first|rfl|(simp [errW_none,errW_some] <;> rfl)|(simp [*,errW_none,errW_some] <;> rfl),zb⟩
  ·replace c7:=Bool.eq_false_iff.mpr c7
   subst c7
   have H1:(some false)=some r:=by rw [if_neg (show ¬ (false=true) by decide)] at H;exact H
   clear H
   have H:=H1
   clear H1
   obtain rfl:=Option.some.inj H
   go_enter Try.func78,Try.ntmps78
   go_wp2_with (first|((with_reducible refine gate_callee (f:=52) rfl ?_);refine goesL_ (some 8) rfl rfl Try.func52 (by kernel_rfl) rfl #[.slice A0 l0.length c0] rfl zl ?_;(with_reducible refine (impl_IsPlain.calls k _ _ l0 true _ ?side1 ?side2 A4.out).mono ?_);(case side1=>exact zC HR0.out);(case side2=>exact HC0.out);rintro e w11 ⟨rfl,hb⟩;refine ⟨_,rfl,?_⟩;have n0_:=Aside0.mk (below_step zb hb);clear HB;have HB:=n0_;clear n0_;(try clear hb);(try clear hb2);(try clear hk);(try clear hi))|(go_at_call 113;(with_reducible refine (impl_within.calls a1 1 4 false _ A6.out).mono ?_);rintro e w' ⟨rfl,⟨nd,rfl⟩⟩))
   go_ret
   exact ⟨by first|rfl|(simp [errW_none,errW_some] <;> rfl)|(simp [*,errW_none,errW_some] <;> rfl),zb⟩
 ·replace c5:=Bool.eq_false_iff.mpr c5
  subst c5
  have H1:(some false)=some r:=by rw [if_neg (show ¬ (false=true) by decide)] at H;exact H
  clear H
  have H:=H1
  clear H1
  obtain rfl:=Option.some.inj H
  go_enter Try.func78,Try.ntmps78
  go_wp2_with (first|((with_reducible refine gate_callee (f:=52) rfl ?_);refine goesL_ (some 8) rfl rfl Try.func52 (by kernel_rfl) rfl #[.slice A0 l0.length c0] rfl zl ?_;(with_reducible refine (impl_IsPlain.calls k _ _ l0 false _ ?side1 ?side2 A4.out).mono ?_);(case side1=>exact zC HR0.out);(case side2=>exact HC0.out);rintro e w12 ⟨rfl,hb⟩;refine ⟨_,rfl,?_⟩;have n0_:=Aside0.mk (below_step zb hb);clear HB;have HB:=n0_;clear n0_;(try clear hb);(try clear hb2);(try clear hk);(try clear hi)))
  go_ret
  exact ⟨by first|rfl|(simp [errW_none,errW_some] <;> rfl)|(simp [*,errW_none,errW_some] <;> rfl),zb⟩

end Go.Proofs.Ytbcfmegepkhlpaa.XFnExactBestListPlan
-- minified
