-- Written by a program of this session (the kit's print, widened). Proved here: what each function answers, for the arguments that its contract names.
import Derived.Test.YtbcfmegepkhlpaaXFnExactLabelPlanx0
import Derived.Test.YtbcfmegepkhlpaaXFnExactLabelPlanx14
import Derived.Test.YtbcfmegepkhlpaaXFnExactLabelPlanx15
namespace Go.Proofs.Ytbcfmegepkhlpaa.XFnExactLabelPlan
open Go.RowKit Go.Proofs.YtbcfmegepkhlpaaW.PrintWords Go.Proofs.YtbcfmegepkhlpaaW.PrintLast Go.Proofs.YtbcfmegepkhlpaaW.PrintMore
attribute [local go_sem] max2_int min2_int max_two min_two max_three min_three max_four min_four   -- for this text's walks alone
attribute [local go_sem] idxA_72_0 idxA_72_1 fldS_96_0 fldS_96_1 fldS_96_2 fldS_111_0 fldS_111_1 fldS_111_2
set_option linter.unusedVariables false
set_option linter.unusedSimpArgs false

/-! ### impl_IsPrecedence: function 62 -/
mutual
def impl_IsPrecedence.j0:Nat→Int→List (S72)→Bool→Option (Bool)
 | 0,_,_,_=>none
 | k + 1,x0,x1,x16=>if x16=true then (some false) else (impl_IsPrecedence.l0 k x0 x1 x1 (x1.length:Int) 0)
def impl_IsPrecedence.l0:Nat→Int→List (S72)→List (S72)→Int→Int→Option (Bool)
 | 0,_,_,_,_,_=>none
 | k + 1,x0,x1,x17,x18,x19=>if x19<x18 then (if 0≤x19 then (if x19<(x17.length:Int) then ((impl_isNumber.f ((rd_T72 x17 x19).f0) x0).bind fun t342=>(if t342=true then ((impl_isNumber.f ((rd_T72 x17 x19).f1) x0).bind fun t343=>(if t343=true then (impl_IsPrecedence.j2 k x0 x1 x19 x17 x18 x19 (((rd_T72 x17 x19).f0) == ((rd_T72 x17 x19).f1)) ((rd_T72 x17 x19).f0) ((rd_T72 x17 x19).f1)) else (impl_IsPrecedence.j2 k x0 x1 x19 x17 x18 x19 true ((rd_T72 x17 x19).f0) ((rd_T72 x17 x19).f1)))) else (impl_IsPrecedence.j2 k x0 x1 x19 x17 x18 x19 true ((rd_T72 x17 x19).f0) ((rd_T72 x17 x19).f1)))) else (none)) else (none)) else ((impl_closure.f k x0 x1).bind fun t347=>(impl_IsPrecedence.l1 k t347 (t347.length:Int) 0))
def impl_IsPrecedence.j2:Nat→Int→List (S72)→Int→List (S72)→Int→Int→Bool→Int→Int→Option (Bool)
 | 0,_,_,_,_,_,_,_,_,_=>none
 | k + 1,x0,x1,x5,x17,x18,x19,x42,x342000,x342001=>if x42=true then (some false) else (if x5>0 then (if 0≤(wrap64 (x5 - 1)) then (if (wrap64 (x5 - 1))<(x1.length:Int) then (if ((rd_T72 x1 (wrap64 (x5 - 1))).f0)>x342000 then (some false) else (if ((rd_T72 x1 (wrap64 (x5 - 1))).f0)=x342000 then (if ((rd_T72 x1 (wrap64 (x5 - 1))).f1)≥x342001 then (some false) else (impl_IsPrecedence.l0 k x0 x1 x17 x18 (wrap64 (x19 + 1)))) else (impl_IsPrecedence.l0 k x0 x1 x17 x18 (wrap64 (x19 + 1))))) else (none)) else (none)) else (impl_IsPrecedence.l0 k x0 x1 x17 x18 (wrap64 (x19 + 1))))
def impl_IsPrecedence.l1:Nat→List (List Bool)→Int→Int→Option (Bool)
 | 0,_,_,_=>none
 | k + 1,x7,x83,x84=>if x84<x83 then (if 0≤x84 then (if x84<(x7.length:Int) then (if x84<((rd_L3 x7 x84).length:Int) then (if rdOf false (rd_L3 x7 x84) x84=true then (some false) else (impl_IsPrecedence.l1 k x7 x83 (wrap64 (x84 + 1)))) else (none)) else (none)) else (none)) else (some true)
end
def impl_IsPrecedence.f (k:Nat) (a0:Int) (l1:List (S72)):Option (Bool):=(impl_within.f a0 0 8).bind fun t339=>(if t339=true then (impl_IsPrecedence.j0 k a0 l1 (decide ((l1.length:Int)>28))) else (impl_IsPrecedence.j0 k a0 l1 true))
theorem impl_IsPrecedence.mono_l:∀ k,(∀ y0 y1 y2,LeO (impl_IsPrecedence.j0 k y0 y1 y2) (impl_IsPrecedence.j0 (k + 1) y0 y1 y2))∧(∀ y0 y1 y2 y3 y4,LeO (impl_IsPrecedence.l0 k y0 y1 y2 y3 y4) (impl_IsPrecedence.l0 (k + 1) y0 y1 y2 y3 y4))∧(∀ y0 y1 y2 y3 y4 y5 y6 y7 y8,LeO (impl_IsPrecedence.j2 k y0 y1 y2 y3 y4 y5 y6 y7 y8) (impl_IsPrecedence.j2 (k + 1) y0 y1 y2 y3 y4 y5 y6 y7 y8))∧(∀ y0 y1 y2,LeO (impl_IsPrecedence.l1 k y0 y1 y2) (impl_IsPrecedence.l1 (k + 1) y0 y1 y2))
 | 0=>⟨fun _ _ _ r h=>by simp [impl_IsPrecedence.j0] at h,fun _ _ _ _ _ r h=>by simp [impl_IsPrecedence.l0] at h,fun _ _ _ _ _ _ _ _ _ r h=>by simp [impl_IsPrecedence.j2] at h,fun _ _ _ r h=>by simp [impl_IsPrecedence.l1] at h⟩
 | k + 1=>by
  obtain ⟨ih0,ih1,ih2,ih3⟩:=impl_IsPrecedence.mono_l k
  refine ⟨?_,?_,?_,?_⟩
  ·intro y0 y1 y2
   unfold impl_IsPrecedence.j0
   repeat' first
   | (with_reducible exact ih0 _ _ _)
   | (with_reducible exact ih1 _ _ _ _ _)
   | (with_reducible exact ih2 _ _ _ _ _ _ _ _ _)
   | (with_reducible exact ih3 _ _ _)
   | (with_reducible exact impl_closure.mono _ _ _)
   | (with_reducible exact LeO.refl _)
   | (with_reducible exact LeO.none _)
   | (with_reducible refine LeO.ite ?_ ?_)
   | (with_reducible refine LeO.bind ?_ (fun _=>?_))
   | exact ih0 _ _ _
   | exact ih1 _ _ _ _ _
   | exact ih2 _ _ _ _ _ _ _ _ _
   | exact ih3 _ _ _
   | exact impl_closure.mono _ _ _
   | exact LeO.none _
   | refine LeO.ite ?_ ?_
   | refine LeO.bind ?_ (fun _=>?_)
  ·intro y0 y1 y2 y3 y4
   unfold impl_IsPrecedence.l0
   repeat' first
   | (with_reducible exact ih0 _ _ _)
   | (with_reducible exact ih1 _ _ _ _ _)
   | (with_reducible exact ih2 _ _ _ _ _ _ _ _ _)
   | (with_reducible exact ih3 _ _ _)
   | (with_reducible exact impl_closure.mono _ _ _)
   | (with_reducible exact LeO.refl _)
   | (with_reducible exact LeO.none _)
   | (with_reducible refine LeO.ite ?_ ?_)
   | (with_reducible refine LeO.bind ?_ (fun _=>?_))
   | exact ih0 _ _ _
   | exact ih1 _ _ _ _ _
   | exact ih2 _ _ _ _ _ _ _ _ _
   | exact ih3 _ _ _
   | exact impl_closure.mono _ _ _
   | exact LeO.none _
   | refine LeO.ite ?_ ?_
   | refine LeO.bind ?_ (fun _=>?_)
  ·intro y0 y1 y2 y3 y4 y5 y6 y7 y8
   unfold impl_IsPrecedence.j2
   repeat' first
   | (with_reducible exact ih0 _ _ _)
   | (with_reducible exact ih1 _ _ _ _ _)
   | (with_reducible exact ih2 _ _ _ _ _ _ _ _ _)
   | (with_reducible exact ih3 _ _ _)
   | (with_reducible exact impl_closure.mono _ _ _)
   | (with_reducible exact LeO.refl _)
   | (with_reducible exact LeO.none _)
   | (with_reducible refine LeO.ite ?_ ?_)
   | (with_reducible refine LeO.bind ?_ (fun _=>?_))
   | exact ih0 _ _ _
   | exact ih1 _ _ _ _ _
   | exact ih2 _ _ _ _ _ _ _ _ _
   | exact ih3 _ _ _
   | exact impl_closure.mono _ _ _
   | exact LeO.none _
   | refine LeO.ite ?_ ?_
   | refine LeO.bind ?_ (fun _=>?_)
  ·intro y0 y1 y2
   unfold impl_IsPrecedence.l1
   repeat' first
   | (with_reducible exact ih0 _ _ _)
   | (with_reducible exact ih1 _ _ _ _ _)
   | (with_reducible exact ih2 _ _ _ _ _ _ _ _ _)
   | (with_reducible exact ih3 _ _ _)
   | (with_reducible exact impl_closure.mono _ _ _)
   | (with_reducible exact LeO.refl _)
   | (with_reducible exact LeO.none _)
   | (with_reducible refine LeO.ite ?_ ?_)
   | (with_reducible refine LeO.bind ?_ (fun _=>?_))
   | exact ih0 _ _ _
   | exact ih1 _ _ _ _ _
   | exact ih2 _ _ _ _ _ _ _ _ _
   | exact ih3 _ _ _
   | exact impl_closure.mono _ _ _
   | exact LeO.none _
   | refine LeO.ite ?_ ?_
   | refine LeO.bind ?_ (fun _=>?_)
theorem impl_IsPrecedence.mono:∀ a0 a1 k,LeO (impl_IsPrecedence.f k a0 a1) (impl_IsPrecedence.f (k + 1) a0 a1):=by
 intro a0 a1 k
 obtain ⟨ih0,ih1,ih2,ih3⟩:=impl_IsPrecedence.mono_l k
 unfold impl_IsPrecedence.f
 repeat' first
   | (with_reducible exact ih0 _ _ _)
   | (with_reducible exact ih1 _ _ _ _ _)
   | (with_reducible exact ih2 _ _ _ _ _ _ _ _ _)
   | (with_reducible exact ih3 _ _ _)
   | (with_reducible exact impl_closure.mono _ _ _)
   | (with_reducible exact LeO.refl _)
   | (with_reducible exact LeO.none _)
   | (with_reducible refine LeO.ite ?_ ?_)
   | (with_reducible refine LeO.bind ?_ (fun _=>?_))
   | exact ih0 _ _ _
   | exact ih1 _ _ _ _ _
   | exact ih2 _ _ _ _ _ _ _ _ _
   | exact ih3 _ _ _
   | exact impl_closure.mono _ _ _
   | exact LeO.none _
   | refine LeO.ite ?_ ?_
   | refine LeO.bind ?_ (fun _=>?_)
set_option maxHeartbeats 8000000 in
set_option maxRecDepth 100000 in
theorem impl_IsPrecedence.calls (k:Nat) (a0:Int) (A1:Option Addr) (c1:Nat) (l1:List (S72)) (r:Bool) (w:World) (hr1:Kd.C k72 w A1 l1.length l1) (hc1:l1.length≤c1) (h:impl_IsPrecedence.f k a0 l1=some r) :
  Calls Try.prog 62 #[.int .i64 a0,.slice A1 l1.length c1] w fun e w'=>e=.returned (.bool r)∧Below w.heap.size w w':=by
 have hu72:=Try.underlying72
 have HR1:=Aside0.mk hr1
 have HC1:=Aside0.mk hc1
 clear hr1 hc1
 have HB:=Aside0.mk (Below.refl w.heap.size w)
 have H:((impl_within.f a0 0 8).bind fun t339=>(if t339=true then (impl_IsPrecedence.j0 k a0 l1 (decide ((l1.length:Int)>28))) else (impl_IsPrecedence.j0 k a0 l1 true)))=some r:=h
 clear h
 have HC3:=Aside0.mk H
 clear H
 go_enter Try.func62,Try.ntmps62
 go_upto_region 1 with (fail)
 repeat (go_quiet (fail);go_upto_region 1 with (fail))
 go_cut [16] (fun v16 wc=>∃ (kq:Nat) (x16_2:Bool),v16=.bool x16_2∧Aside0 (impl_IsPrecedence.j0 kq a0 l1 x16_2=some r)∧Aside0 (kq≤k)∧Aside0 (Below w.heap.size w wc))
 case first=>
  have H:=HC3.out
  clear HC3
  replace H:=Option.bind_eq_some_iff.mp H
  obtain ⟨t339,A40,H⟩:=H
  replace H:(if t339=true then (impl_IsPrecedence.j0 k a0 l1 (decide ((l1.length:Int)>28))) else (impl_IsPrecedence.j0 k a0 l1 true))=some r:=H
  have A4:=Aside0.mk A40
  clear A40
  by_cases c5:t339=true
  ·subst c5
   have H1:(impl_IsPrecedence.j0 k a0 l1 (decide ((l1.length:Int)>28)))=some r:=by rw [if_pos rfl] at H;exact H
   clear H
   have H:=H1
   clear H1
   have H':=Aside0.mk H
   clear H
   go_wp2_with (first|(go_at_call 113;(with_reducible refine (impl_within.calls a0 0 8 true _ A4.out).mono ?_);rintro e w' ⟨rfl,⟨nd,rfl⟩⟩;(try first|exact ⟨rfl,_,World.drewN_drewN _ _ _⟩|exact ⟨rfl,_,Eq.trans (World.drewN_drewN _ _ _) (congrArg (World.drewN _) (Nat.add_assoc _ _ _))⟩)))
   repeat (go_quiet (first|(go_at_call 113;(with_reducible refine (impl_within.calls a0 0 8 true _ A4.out).mono ?_);rintro e w' ⟨rfl,⟨nd,rfl⟩⟩;(try first|exact ⟨rfl,_,World.drewN_drewN _ _ _⟩|exact ⟨rfl,_,Eq.trans (World.drewN_drewN _ _ _) (congrArg (World.drewN _) (Nat.add_assoc _ _ _))⟩)));try go_wp2_with (first|(go_at_call 113;(with_reducible refine (impl_within.calls a0 0 8 true _ A4.out).mono ?_);rintro e w' ⟨rfl,⟨nd,rfl⟩⟩;(try first|exact ⟨rfl,_,World.drewN_drewN _ _ _⟩|exact ⟨rfl,_,Eq.trans (World.drewN_drewN _ _ _) (congrArg (World.drewN _) (Nat.add_assoc _ _ _))⟩))))
   go_meet
   case rel=>exact ⟨_,(decide ((l1.length:Int)>28)),zo,H',⟨by first|omega|exact Nat.le_refl _⟩,⟨zb⟩⟩
  ·replace c5:=Bool.eq_false_iff.mpr c5
   subst c5
   have H1:(impl_IsPrecedence.j0 k a0 l1 true)=some r:=by rw [if_neg (show ¬ (false=true) by decide)] at H;exact H
   clear H
   have H:=H1
   clear H1
   have H':=Aside0.mk H
   clear H
   go_wp2_with (first|(go_at_call 113;(with_reducible refine (impl_within.calls a0 0 8 false _ A4.out).mono ?_);rintro e w' ⟨rfl,⟨nd,rfl⟩⟩;(try first|exact ⟨rfl,_,World.drewN_drewN _ _ _⟩|exact ⟨rfl,_,Eq.trans (World.drewN_drewN _ _ _) (congrArg (World.drewN _) (Nat.add_assoc _ _ _))⟩)))
   repeat (go_quiet (first|(go_at_call 113;(with_reducible refine (impl_within.calls a0 0 8 false _ A4.out).mono ?_);rintro e w' ⟨rfl,⟨nd,rfl⟩⟩;(try first|exact ⟨rfl,_,World.drewN_drewN _ _ _⟩|exact ⟨rfl,_,Eq.trans (World.drewN_drewN _ _ _) (congrArg (World.drewN _) (Nat.add_assoc _ _ _))⟩)));try go_wp2_with (first|(go_at_call 113;(with_reducible refine (impl_within.calls a0 0 8 false _ A4.out).mono ?_);rintro e w' ⟨rfl,⟨nd,rfl⟩⟩;(try first|exact ⟨rfl,_,World.drewN_drewN _ _ _⟩|exact ⟨rfl,_,Eq.trans (World.drewN_drewN _ _ _) (congrArg (World.drewN _) (Nat.add_assoc _ _ _))⟩))))
   go_meet
   case rel=>exact ⟨_,(true),zo,H',⟨by first|omega|exact Nat.le_refl _⟩,⟨zb⟩⟩
 case rest=>
  clear HC3
  (try clear c1);(try clear p2);(try clear c5)
  obtain ⟨kq,x16_2,rfl,HA,HJ2,HB⟩:=hcut
  cases kq with
  | zero=>exact absurd HA.out (by simp [impl_IsPrecedence.j0])
  | succ kj2=>
   have H:=HA.out
   clear HA
   simp only [impl_IsPrecedence.j0] at H
   by_cases c6:x16_2=true
   ·subst c6
    have H1:(some false)=some r:=by rw [if_pos rfl] at H;exact H
    clear H
    have H:=H1
    clear H1
    obtain rfl:=Option.some.inj H
    go_wp2
    repeat (go_quiet (fail);try go_wp2)
    go_ret
    exact ⟨by first|rfl|(simp [errW_none,errW_some] <;> rfl)|(simp [*,errW_none,errW_some] <;> rfl),zb⟩
   ·replace c6:=Bool.eq_false_iff.mpr c6
    subst c6
    have H1:(impl_IsPrecedence.l0 kj2 a0 l1 l1 (l1.length:Int) 0)=some r:=by rw [if_neg (show ¬ (false=true) by decide)] at H;exact H
    clear H
    have H:=H1
    clear H1
    have H':=Aside0.mk H
    clear H
    go_wp2
    repeat (go_quiet (fail);try go_wp2)
    go_loopg [19] kj2 (fun kq v19 w'=>∃ (x19_2:Int),v19=.int .i64 x19_2∧Aside0 (impl_IsPrecedence.l0 kq a0 l1 l1 (l1.length:Int) x19_2=some r)∧Aside0 (kq≤kj2)∧Aside0 (Below w.heap.size w w'))
    case atStart=>exact ⟨(0),zo,H',⟨Nat.le_refl _⟩,⟨zb⟩⟩
    case round=>
     clear H'
     (try clear c1);(try clear p2);(try clear c5);(try clear c6)
     obtain ⟨x19_2,rfl,HA,HK2,HB⟩:=hrel
     cases gk with
     | zero=>exact absurd HA.out (by simp [impl_IsPrecedence.l0])
     | succ k2=>
      have H:=HA.out
      clear HA
      simp only [impl_IsPrecedence.l0] at H
      by_cases c7:x19_2<(l1.length:Int)
      ·rw [if_pos c7] at H
       have c7b0:decide (x19_2<(l1.length:Int))=true:=decide_eq_true c7
       clear c7
       by_cases c8:0≤x19_2
       ·rw [if_pos c8] at H
        have c8b0:decide (0≤x19_2)=true:=decide_eq_true c8
        clear c8
        by_cases c9:x19_2<(l1.length:Int)
        ·rw [if_pos c9] at H
         have c9b0:decide (x19_2<(l1.length:Int))=true:=decide_eq_true c9
         clear c9
         have HC10:=Aside0.mk H
         clear H
         have p340:0≤(x19_2:Int):=of_decide_eq_true za
         have q340:x19_2<(l1.length:Int):=of_decide_eq_true za
         obtain ⟨ad340,e340,hx340_0,hx340_1⟩:=at_T72 HR1.out x19_2 p340 q340
         cases e340
         replace hx340_0:=(HB.out.cell (World.block_lt_of_cell? w _ hx340_0)).trans hx340_0
         replace hx340_1:=(HB.out.cell (World.block_lt_of_cell? w _ hx340_1)).trans hx340_1
         replace p340:=eq_true p340
         replace q340:=eq_true q340
         go_upto_region 6 with (first|((with_reducible refine gate_dst (N:=6) rfl ?_);(try (refine gate_guard (by rfl) ?_;dsimp only));refine box_event ?hg (N:=6) ?hd (cs:=#[.int .i64 0,.int .i64 0]) (t:=72) ?hr ?_;(case hd=>rfl);(case hg=>rfl);(case hr=>first|(go_simp;done)|(go_simp;rfl));intro gb341 hg w11 hbox hb;have n0_:=Aside0.mk (below_step zb hb);have n1_:=Aside0.mk (hbox);have n2_:=Aside0.mk ((by rw [hg];exact (below_size zb):w.heap.size≤gb341));have n3_:=Aside0.mk ((by rw [hg];exact (below_size zb):w.heap.size≤gb341));clear HB;have HB:=n0_;have BK341:=n1_;have GW341:=n2_;have GE341:=n3_;clear n0_ n1_ n2_ n3_;clear hb hbox hg;have hcz12_0:w11.cell? ⟨gb341,0,none⟩=some (.int .i64 0):=(blk_cell BK341.out 0).trans rfl;have hcz12_1:w11.cell? ⟨gb341,1,none⟩=some (.int .i64 0):=(blk_cell BK341.out 1).trans rfl;have hfz12_0:=blk_frozen BK341.out 0;have hfz12_1:=blk_frozen BK341.out 1))
         repeat (go_quiet (first|((with_reducible refine gate_dst (N:=6) rfl ?_);(try (refine gate_guard (by rfl) ?_;dsimp only));refine box_event ?hg (N:=6) ?hd (cs:=#[.int .i64 0,.int .i64 0]) (t:=72) ?hr ?_;(case hd=>rfl);(case hg=>rfl);(case hr=>first|(go_simp;done)|(go_simp;rfl));intro gb341 hg w11 hbox hb;have n0_:=Aside0.mk (below_step zb hb);have n1_:=Aside0.mk (hbox);have n2_:=Aside0.mk ((by rw [hg];exact (below_size zb):w.heap.size≤gb341));have n3_:=Aside0.mk ((by rw [hg];exact (below_size zb):w.heap.size≤gb341));clear HB;have HB:=n0_;have BK341:=n1_;have GW341:=n2_;have GE341:=n3_;clear n0_ n1_ n2_ n3_;clear hb hbox hg;have hcz12_0:w11.cell? ⟨gb341,0,none⟩=some (.int .i64 0):=(blk_cell BK341.out 0).trans rfl;have hcz12_1:w11.cell? ⟨gb341,1,none⟩=some (.int .i64 0):=(blk_cell BK341.out 1).trans rfl;have hfz12_0:=blk_frozen BK341.out 0;have hfz12_1:=blk_frozen BK341.out 1));go_upto_region 6 with (first|((with_reducible refine gate_dst (N:=6) rfl ?_);(try (refine gate_guard (by rfl) ?_;dsimp only));refine box_event ?hg (N:=6) ?hd (cs:=#[.int .i64 0,.int .i64 0]) (t:=72) ?hr ?_;(case hd=>rfl);(case hg=>rfl);(case hr=>first|(go_simp;done)|(go_simp;rfl));intro gb341 hg w11 hbox hb;have n0_:=Aside0.mk (below_step zb hb);have n1_:=Aside0.mk (hbox);have n2_:=Aside0.mk ((by rw [hg];exact (below_size zb):w.heap.size≤gb341));have n3_:=Aside0.mk ((by rw [hg];exact (below_size zb):w.heap.size≤gb341));clear HB;have HB:=n0_;have BK341:=n1_;have GW341:=n2_;have GE341:=n3_;clear n0_ n1_ n2_ n3_;clear hb hbox hg;have hcz12_0:w11.cell? ⟨gb341,0,none⟩=some (.int .i64 0):=(blk_cell BK341.out 0).trans rfl;have hcz12_1:w11.cell? ⟨gb341,1,none⟩=some (.int .i64 0):=(blk_cell BK341.out 1).trans rfl;have hfz12_0:=blk_frozen BK341.out 0;have hfz12_1:=blk_frozen BK341.out 1)))
         (try simp only [Act.put,List.setIfInBounds_toArray,List.set_cons_zero,List.set_cons_succ])
         go_cut [42] (fun v42 wc=>∃ (kq:Nat) (x42_9:Bool),v42=.bool x42_9∧Aside0 (impl_IsPrecedence.j2 kq a0 l1 x19_2 l1 (l1.length:Int) x19_2 x42_9 ((rd_T72 l1 x19_2).f0) ((rd_T72 l1 x19_2).f1)=some r)∧Aside0 (kq≤k2)∧Aside0 (wc.heap[gb341]?=some (.cells #[.int .i64 ((rd_T72 l1 x19_2).f0),.int .i64 ((rd_T72 l1 x19_2).f1)] 72 (0,0)))∧Aside0 (Below w.heap.size w wc))
         case first=>
          have H:=HC10.out
          clear HC10
          replace H:=Option.bind_eq_some_iff.mp H
          obtain ⟨t342,A130,H⟩:=H
          replace H:(if t342=true then ((impl_isNumber.f ((rd_T72 l1 x19_2).f1) a0).bind fun t343=>(if t343=true then (impl_IsPrecedence.j2 k2 a0 l1 x19_2 l1 (l1.length:Int) x19_2 (((rd_T72 l1 x19_2).f0) == ((rd_T72 l1 x19_2).f1)) ((rd_T72 l1 x19_2).f0) ((rd_T72 l1 x19_2).f1)) else (impl_IsPrecedence.j2 k2 a0 l1 x19_2 l1 (l1.length:Int) x19_2 true ((rd_T72 l1 x19_2).f0) ((rd_T72 l1 x19_2).f1)))) else (impl_IsPrecedence.j2 k2 a0 l1 x19_2 l1 (l1.length:Int) x19_2 true ((rd_T72 l1 x19_2).f0) ((rd_T72 l1 x19_2).f1)))=some r:=H
          have A13:=Aside0.mk A130
          clear A130
          by_cases c14:t342=true
          ·subst c14
           have H1:((impl_isNumber.f ((rd_T72 l1 x19_2).f1) a0).bind fun t343=>(if t343=true then (impl_IsPrecedence.j2 k2 a0 l1 x19_2 l1 (l1.length:Int) x19_2 (((rd_T72 l1 x19_2).f0) == ((rd_T72 l1 x19_2).f1)) ((rd_T72 l1 x19_2).f0) ((rd_T72 l1 x19_2).f1)) else (impl_IsPrecedence.j2 k2 a0 l1 x19_2 l1 (l1.length:Int) x19_2 true ((rd_T72 l1 x19_2).f0) ((rd_T72 l1 x19_2).f1))))=some r:=by rw [if_pos rfl] at H;exact H
           clear H
           have H:=H1
           clear H1
           replace H:=Option.bind_eq_some_iff.mp H
           obtain ⟨t343,A150,H⟩:=H
           replace H:(if t343=true then (impl_IsPrecedence.j2 k2 a0 l1 x19_2 l1 (l1.length:Int) x19_2 (((rd_T72 l1 x19_2).f0) == ((rd_T72 l1 x19_2).f1)) ((rd_T72 l1 x19_2).f0) ((rd_T72 l1 x19_2).f1)) else (impl_IsPrecedence.j2 k2 a0 l1 x19_2 l1 (l1.length:Int) x19_2 true ((rd_T72 l1 x19_2).f0) ((rd_T72 l1 x19_2).f1)))=some r:=H
           have A15:=Aside0.mk A150
           clear A150
           by_cases c16:t343=true
           ·subst c16
            have H1:(impl_IsPrecedence.j2 k2 a0 l1 x19_2 l1 (l1.length:Int) x19_2 (((rd_T72 l1 x19_2).f0) == ((rd_T72 l1 x19_2).f1)) ((rd_T72 l1 x19_2).f0) ((rd_T72 l1 x19_2).f1))=some r:=by rw [if_pos rfl] at H;exact H
            clear H
            have H:=H1
            clear H1
            have H':=Aside0.mk H
            clear H
            have hcz17_0:w11.cell? ⟨gb341,0,none⟩=some (.int .i64 0):=(blk_cell BK341.out 0).trans rfl
            have hcz17_1:w11.cell? ⟨gb341,1,none⟩=some (.int .i64 0):=(blk_cell BK341.out 1).trans rfl
            have hfz17_0:=blk_frozen BK341.out 0
            have hfz17_1:=blk_frozen BK341.out 1
            go_wp2_with (first|(go_at_call 114;(with_reducible refine (impl_isNumber.calls ((rd_T72 l1 x19_2).f0) a0 true _ A13.out).mono ?_);rintro e w' ⟨rfl,⟨nd,rfl⟩⟩;(try first|exact ⟨rfl,_,World.drewN_drewN _ _ _⟩|exact ⟨rfl,_,Eq.trans (World.drewN_drewN _ _ _) (congrArg (World.drewN _) (Nat.add_assoc _ _ _))⟩))|(go_at_call 114;(with_reducible refine (impl_isNumber.calls ((rd_T72 l1 x19_2).f1) a0 true _ A15.out).mono ?_);rintro e w' ⟨rfl,⟨nd,rfl⟩⟩;(try first|exact ⟨rfl,_,World.drewN_drewN _ _ _⟩|exact ⟨rfl,_,Eq.trans (World.drewN_drewN _ _ _) (congrArg (World.drewN _) (Nat.add_assoc _ _ _))⟩)))
            repeat (go_quiet (first|(go_at_call 114;(with_reducible refine (impl_isNumber.calls ((rd_T72 l1 x19_2).f0) a0 true _ A13.out).mono ?_);rintro e w' ⟨rfl,⟨nd,rfl⟩⟩;(try first|exact ⟨rfl,_,World.drewN_drewN _ _ _⟩|exact ⟨rfl,_,Eq.trans (World.drewN_drewN _ _ _) (congrArg (World.drewN _) (Nat.add_assoc _ _ _))⟩))|(go_at_call 114;(with_reducible refine (impl_isNumber.calls ((rd_T72 l1 x19_2).f1) a0 true _ A15.out).mono ?_);rintro e w' ⟨rfl,⟨nd,rfl⟩⟩;(try first|exact ⟨rfl,_,World.drewN_drewN _ _ _⟩|exact ⟨rfl,_,Eq.trans (World.drewN_drewN _ _ _) (congrArg (World.drewN _) (Nat.add_assoc _ _ _))⟩)));try go_wp2_with (first|(go_at_call 114;(with_reducible refine (impl_isNumber.calls ((rd_T72 l1 x19_2).f0) a0 true _ A13.out).mono ?_);rintro e w' ⟨rfl,⟨nd,rfl⟩⟩;(try first|exact ⟨rfl,_,World.drewN_drewN _ _ _⟩|exact ⟨rfl,_,Eq.trans (World.drewN_drewN _ _ _) (congrArg (World.drewN _) (Nat.add_assoc _ _ _))⟩))|(go_at_call 114;(with_reducible refine (impl_isNumber.calls ((rd_T72 l1 x19_2).f1) a0 true _ A15.out).mono ?_);rintro e w' ⟨rfl,⟨nd,rfl⟩⟩;(try first|exact ⟨rfl,_,World.drewN_drewN _ _ _⟩|exact ⟨rfl,_,Eq.trans (World.drewN_drewN _ _ _) (congrArg (World.drewN _) (Nat.add_assoc _ _ _))⟩))))
            go_meet
            case rel=>exact ⟨_,((((rd_T72 l1 x19_2).f0) == ((rd_T72 l1 x19_2).f1))),zo,H',⟨by have:=HJ2.out;have:=HK2.out;first|omega|exact Nat.le_refl _⟩,⟨by (with_reducible repeat (first|refine blk_drewN ?_ _|refine blk_drew ?_|refine blk_alloc ?_ _));refine blk_put (cs:=#[.int .i64 ((rd_T72 l1 x19_2).f0),.int .i64 0]) ?_ 1 _ rfl;(with_reducible repeat (first|refine blk_drewN ?_ _|refine blk_drew ?_|refine blk_alloc ?_ _));refine blk_put (cs:=#[.int .i64 0,.int .i64 0]) ?_ 0 _ rfl;(with_reducible repeat (first|refine blk_drewN ?_ _|refine blk_drew ?_|refine blk_alloc ?_ _));exact BK341.out⟩,⟨by repeat (first|(with_reducible first|exact HB.out|apply below_alloc|apply pw_below_drewN|apply below_drew1|refine below_set ?_ GE341.out)|exact HB.out)⟩⟩
           ·replace c16:=Bool.eq_false_iff.mpr c16
            subst c16
            have H1:(impl_IsPrecedence.j2 k2 a0 l1 x19_2 l1 (l1.length:Int) x19_2 true ((rd_T72 l1 x19_2).f0) ((rd_T72 l1 x19_2).f1))=some r:=by rw [if_neg (show ¬ (false=true) by decide)] at H;exact H
            clear H
            have H:=H1
            clear H1
            have H':=Aside0.mk H
            clear H
            have hcz18_0:w11.cell? ⟨gb341,0,none⟩=some (.int .i64 0):=(blk_cell BK341.out 0).trans rfl
            have hcz18_1:w11.cell? ⟨gb341,1,none⟩=some (.int .i64 0):=(blk_cell BK341.out 1).trans rfl
            have hfz18_0:=blk_frozen BK341.out 0
            have hfz18_1:=blk_frozen BK341.out 1
            go_wp2_with (first|(go_at_call 114;(with_reducible refine (impl_isNumber.calls ((rd_T72 l1 x19_2).f0) a0 true _ A13.out).mono ?_);rintro e w' ⟨rfl,⟨nd,rfl⟩⟩;(try first|exact ⟨rfl,_,World.drewN_drewN _ _ _⟩|exact ⟨rfl,_,Eq.trans (World.drewN_drewN _ _ _) (congrArg (World.drewN _) (Nat.add_assoc _ _ _))⟩))|(go_at_call 114;(with_reducible refine (impl_isNumber.calls ((rd_T72 l1 x19_2).f1) a0 false _ A15.out).mono ?_);rintro e w' ⟨rfl,⟨nd,rfl⟩⟩;(try first|exact ⟨rfl,_,World.drewN_drewN _ _ _⟩|exact ⟨rfl,_,Eq.trans (World.drewN_drewN _ _ _) (congrArg (World.drewN _) (Nat.add_assoc _ _ _))⟩)))
            repeat (go_quiet (first|(go_at_call 114;(with_reducible refine (impl_isNumber.calls ((rd_T72 l1 x19_2).f0) a0 true _ A13.out).mono ?_);rintro e w' ⟨rfl,⟨nd,rfl⟩⟩;(try first|exact ⟨rfl,_,World.drewN_drewN _ _ _⟩|exact ⟨rfl,_,Eq.trans (World.drewN_drewN _ _ _) (congrArg (World.drewN _) (Nat.add_assoc _ _ _))⟩))|(go_at_call 114;(with_reducible refine (impl_isNumber.calls ((rd_T72 l1 x19_2).f1) a0 false _ A15.out).mono ?_);rintro e w' ⟨rfl,⟨nd,rfl⟩⟩;(try first|exact ⟨rfl,_,World.drewN_drewN _ _ _⟩|exact ⟨rfl,_,Eq.trans (World.drewN_drewN _ _ _) (congrArg (World.drewN _) (Nat.add_assoc _ _ _))⟩)));try go_wp2_with (first|(go_at_call 114;(with_reducible refine (impl_isNumber.calls ((rd_T72 l1 x19_2).f0) a0 true _ A13.out).mono ?_);rintro e w' ⟨rfl,⟨nd,rfl⟩⟩;(try first|exact ⟨rfl,_,World.drewN_drewN _ _ _⟩|exact ⟨rfl,_,Eq.trans (World.drewN_drewN _ _ _) (congrArg (World.drewN _) (Nat.add_assoc _ _ _))⟩))|(go_at_call 114;(with_reducible refine (impl_isNumber.calls ((rd_T72 l1 x19_2).f1) a0 false _ A15.out).mono ?_);rintro e w' ⟨rfl,⟨nd,rfl⟩⟩;(try first|exact ⟨rfl,_,World.drewN_drewN _ _ _⟩|exact ⟨rfl,_,Eq.trans (World.drewN_drewN _ _ _) (congrArg (World.drewN _) (Nat.add_assoc _ _ _))⟩))))
            go_meet
            case rel=>exact ⟨_,(true),zo,H',⟨by have:=HJ2.out;have:=HK2.out;first|omega|exact Nat.le_refl _⟩,⟨by (with_reducible repeat (first|refine blk_drewN ?_ _|refine blk_drew ?_|refine blk_alloc ?_ _));refine blk_put (cs:=#[.int .i64 ((rd_T72 l1 x19_2).f0),.int .i64 0]) ?_ 1 _ rfl;(with_reducible repeat (first|refine blk_drewN ?_ _|refine blk_drew ?_|refine blk_alloc ?_ _));refine blk_put (cs:=#[.int .i64 0,.int .i64 0]) ?_ 0 _ rfl;(with_reducible repeat (first|refine blk_drewN ?_ _|refine blk_drew ?_|refine blk_alloc ?_ _));exact BK341.out⟩,⟨by repeat (first|(with_reducible first|exact HB.out|apply below_alloc|apply pw_below_drewN|apply below_drew1|refine below_set ?_ GE341.out)|exact HB.out)⟩⟩
          ·replace c14:=Bool.eq_false_iff.mpr c14
           subst c14
           have H1:(impl_IsPrecedence.j2 k2 a0 l1 x19_2 l1 (l1.length:Int) x19_2 true ((rd_T72 l1 x19_2).f0) ((rd_T72 l1 x19_2).f1))=some r:=by rw [if_neg (show ¬ (false=true) by decide)] at H;exact H
           clear H
           have H:=H1
           clear H1
           have H':=Aside0.mk H
           clear H
           have hcz19_0:w11.cell? ⟨gb341,0,none⟩=some (.int .i64 0):=(blk_cell BK341.out 0).trans rfl
           have hcz19_1:w11.cell? ⟨gb341,1,none⟩=some (.int .i64 0):=(blk_cell BK341.out 1).trans rfl
           have hfz19_0:=blk_frozen BK341.out 0
           have hfz19_1:=blk_frozen BK341.out 1
           go_wp2_with (first|(go_at_call 114;(with_reducible refine (impl_isNumber.calls ((rd_T72 l1 x19_2).f0) a0 false _ A13.out).mono ?_);rintro e w' ⟨rfl,⟨nd,rfl⟩⟩;(try first|exact ⟨rfl,_,World.drewN_drewN _ _ _⟩|exact ⟨rfl,_,Eq.trans (World.drewN_drewN _ _ _) (congrArg (World.drewN _) (Nat.add_assoc _ _ _))⟩)))
           repeat (go_quiet (first|(go_at_call 114;(with_reducible refine (impl_isNumber.calls ((rd_T72 l1 x19_2).f0) a0 false _ A13.out).mono ?_);rintro e w' ⟨rfl,⟨nd,rfl⟩⟩;(try first|exact ⟨rfl,_,World.drewN_drewN _ _ _⟩|exact ⟨rfl,_,Eq.trans (World.drewN_drewN _ _ _) (congrArg (World.drewN _) (Nat.add_assoc _ _ _))⟩)));try go_wp2_with (first|(go_at_call 114;(with_reducible refine (impl_isNumber.calls ((rd_T72 l1 x19_2).f0) a0 false _ A13.out).mono ?_);rintro e w' ⟨rfl,⟨nd,rfl⟩⟩;(try first|exact ⟨rfl,_,World.drewN_drewN _ _ _⟩|exact ⟨rfl,_,Eq.trans (World.drewN_drewN _ _ _) (congrArg (World.drewN _) (Nat.add_assoc _ _ _))⟩))))
           go_meet
           case rel=>exact ⟨_,(true),zo,H',⟨by have:=HJ2.out;have:=HK2.out;first|omega|exact Nat.le_refl _⟩,⟨by (with_reducible repeat (first|refine blk_drewN ?_ _|refine blk_drew ?_|refine blk_alloc ?_ _));refine blk_put (cs:=#[.int .i64 ((rd_T72 l1 x19_2).f0),.int .i64 0]) ?_ 1 _ rfl;(with_reducible repeat (first|refine blk_drewN ?_ _|refine blk_drew ?_|refine blk_alloc ?_ _));refine blk_put (cs:=#[.int .i64 0,.int .i64 0]) ?_ 0 _ rfl;(with_reducible repeat (first|refine blk_drewN ?_ _|refine blk_drew ?_|refine blk_alloc ?_ _));exact BK341.out⟩,⟨by repeat (first|(with_reducible first|exact HB.out|apply below_alloc|apply pw_below_drewN|apply below_drew1|refine below_set ?_ GE341.out)|exact HB.out)⟩⟩
         case rest=>
          clear HC10
          (try clear c1);(try clear p2);(try clear p3);(try clear q3);(try clear hx3);(try clear c5);(try clear c6);(try clear c7);(try clear c7b0);(try clear c8);(try clear c8b0);(try clear c9);(try clear c9b0);(try clear c14);(try clear c16);(try clear hcz12_0);(try clear hcz12_1);(try clear hcz17_0);(try clear hcz17_1);(try clear hcz18_0);(try clear hcz18_1);(try clear hcz19_0);(try clear hcz19_1);(try clear hfz12_0);(try clear hfz12_1);(try clear hfz17_0);(try clear hfz17_1);(try clear hfz18_0);(try clear hfz18_1);(try clear hfz19_0);(try clear hfz19_1);(try clear hx340_0);(try clear hx340_1);(try clear p340);(try clear q340)
          obtain ⟨kq,x42_9,rfl,HA,HJ9,BK341,HB⟩:=hcut
          cases kq with
          | zero=>exact absurd HA.out (by simp [impl_IsPrecedence.j2])
          | succ kj9=>
           have H:=HA.out
           clear HA
           simp only [impl_IsPrecedence.j2] at H
           by_cases c20:x42_9=true
           ·subst c20
            have H1:(some false)=some r:=by rw [if_pos rfl] at H;exact H
            clear H
            have H:=H1
            clear H1
            obtain rfl:=Option.some.inj H
            go_wp2
            repeat (go_quiet (fail);try go_wp2)
            go_ret
            exact ⟨by first|rfl|(simp [errW_none,errW_some] <;> rfl)|(simp [*,errW_none,errW_some] <;> rfl),by repeat (first|(with_reducible first|exact HB.out|apply below_alloc|apply pw_below_drewN|apply below_drew1|refine below_set ?_ GE341.out)|exact HB.out)⟩
           ·replace c20:=Bool.eq_false_iff.mpr c20
            subst c20
            have H1:(if x19_2>0 then (if 0≤(wrap64 (x19_2 - 1)) then (if (wrap64 (x19_2 - 1))<(l1.length:Int) then (if ((rd_T72 l1 (wrap64 (x19_2 - 1))).f0)>((rd_T72 l1 x19_2).f0) then (some false) else (if ((rd_T72 l1 (wrap64 (x19_2 - 1))).f0)=((rd_T72 l1 x19_2).f0) then (if ((rd_T72 l1 (wrap64 (x19_2 - 1))).f1)≥((rd_T72 l1 x19_2).f1) then (some false) else (impl_IsPrecedence.l0 kj9 a0 l1 l1 (l1.length:Int) (wrap64 (x19_2 + 1)))) else (impl_IsPrecedence.l0 kj9 a0 l1 l1 (l1.length:Int) (wrap64 (x19_2 + 1))))) else (none)) else (none)) else (impl_IsPrecedence.l0 kj9 a0 l1 l1 (l1.length:Int) (wrap64 (x19_2 + 1))))=some r:=by rw [if_neg (show ¬ (false=true) by decide)] at H;exact H
            clear H
            have H:=H1
            clear H1
            by_cases c21:x19_2>0
            ·rw [if_pos c21] at H
             have c21b0:decide (0<x19_2)=true:=decide_eq_true c21
             clear c21
             obtain ⟨ji22,hji22⟩:∃ j_:Int,(wrap64 (x19_2 - 1))=j_:=⟨_,rfl⟩
             replace H:(if 0≤(ji22) then (if (ji22)<(l1.length:Int) then (if ((rd_T72 l1 (ji22)).f0)>((rd_T72 l1 x19_2).f0) then (some false) else (if ((rd_T72 l1 (ji22)).f0)=((rd_T72 l1 x19_2).f0) then (if ((rd_T72 l1 (ji22)).f1)≥((rd_T72 l1 x19_2).f1) then (some false) else (impl_IsPrecedence.l0 kj9 a0 l1 l1 (l1.length:Int) (wrap64 (x19_2 + 1)))) else (impl_IsPrecedence.l0 kj9 a0 l1 l1 (l1.length:Int) (wrap64 (x19_2 + 1))))) else (none)) else (none))=some r:=by first|(rw [hji22] at H;exact H)|(simp only [hji22] at H ⊢;exact H)
             have hji22w:(IntKind.i64.wrap (x19_2 - 1))=ji22:=(i64_w _).trans hji22
             by_cases c23:0≤(ji22)
             ·rw [if_pos c23] at H
              have c23b0:decide (0≤(ji22))=true:=decide_eq_true c23
              clear c23
              by_cases c24:(ji22)<(l1.length:Int)
              ·rw [if_pos c24] at H
               have c24b0:decide ((ji22)<(l1.length:Int))=true:=decide_eq_true c24
               clear c24
               by_cases c25:((rd_T72 l1 (ji22)).f0)>((rd_T72 l1 x19_2).f0)
               ·rw [if_pos c25] at H
                have c25b0:decide (((rd_T72 l1 x19_2).f0)<((rd_T72 l1 (ji22)).f0))=true:=decide_eq_true c25
                clear c25
                obtain rfl:=Option.some.inj H
                have p344:0≤((ji22):Int):=of_decide_eq_true za
                have q344:(ji22)<(l1.length:Int):=of_decide_eq_true za
                obtain ⟨ad344,e344,hx344_0,hx344_1⟩:=at_T72 HR1.out (ji22) p344 q344
                obtain rfl:ad340=ad344:=(by injection e344)
                replace hx344_0:=(HB.out.cell (World.block_lt_of_cell? w _ hx344_0)).trans hx344_0
                replace hx344_1:=(HB.out.cell (World.block_lt_of_cell? w _ hx344_1)).trans hx344_1
                replace p344:=eq_true p344
                replace q344:=eq_true q344
                have hcz26_0:wc.cell? ⟨gb341,0,none⟩=some (.int .i64 ((rd_T72 l1 x19_2).f0)):=(blk_cell BK341.out 0).trans rfl
                have hcz26_1:wc.cell? ⟨gb341,1,none⟩=some (.int .i64 ((rd_T72 l1 x19_2).f1)):=(blk_cell BK341.out 1).trans rfl
                have hfz26_0:=blk_frozen BK341.out 0
                have hfz26_1:=blk_frozen BK341.out 1
                go_wp2
                repeat (go_quiet (fail);try go_wp2)
                go_ret
                exact ⟨by first|rfl|(simp [errW_none,errW_some] <;> rfl)|(simp only [←hji22];first|rfl|(simp [errW_none,errW_some] <;> rfl))|(simp [*,errW_none,errW_some] <;> rfl),by repeat (first|(with_reducible first|exact HB.out|apply below_alloc|apply pw_below_drewN|apply below_drew1|refine below_set ?_ GE341.out)|exact HB.out)⟩
               ·rw [if_neg c25] at H
                have c25b0:decide (((rd_T72 l1 x19_2).f0)<((rd_T72 l1 (ji22)).f0))=false:=decide_eq_false c25
                clear c25
                by_cases c27:((rd_T72 l1 (ji22)).f0)=((rd_T72 l1 x19_2).f0)
                ·rw [if_pos c27] at H
                 have c27b0:(((rd_T72 l1 (ji22)).f0) == ((rd_T72 l1 x19_2).f0))=true:=beq_iff_eq.mpr c27
                 have c27b1:(((rd_T72 l1 (ji22)).f0) != ((rd_T72 l1 x19_2).f0))=false:=bne_eq_false_iff_eq.mpr c27
                 clear c27
                 by_cases c28:((rd_T72 l1 (ji22)).f1)≥((rd_T72 l1 x19_2).f1)
                 ·rw [if_pos c28] at H
                  have c28b0:decide (((rd_T72 l1 x19_2).f1)≤((rd_T72 l1 (ji22)).f1))=true:=decide_eq_true c28
                  clear c28
                  obtain rfl:=Option.some.inj H
                  have p344:0≤((ji22):Int):=of_decide_eq_true za
                  have q344:(ji22)<(l1.length:Int):=of_decide_eq_true za
                  obtain ⟨ad344,e344,hx344_0,hx344_1⟩:=at_T72 HR1.out (ji22) p344 q344
                  obtain rfl:ad340=ad344:=(by injection e344)
                  replace hx344_0:=(HB.out.cell (World.block_lt_of_cell? w _ hx344_0)).trans hx344_0
                  replace hx344_1:=(HB.out.cell (World.block_lt_of_cell? w _ hx344_1)).trans hx344_1
                  replace p344:=eq_true p344
                  replace q344:=eq_true q344
                  have hcz29_0:wc.cell? ⟨gb341,0,none⟩=some (.int .i64 ((rd_T72 l1 x19_2).f0)):=(blk_cell BK341.out 0).trans rfl
                  have hcz29_1:wc.cell? ⟨gb341,1,none⟩=some (.int .i64 ((rd_T72 l1 x19_2).f1)):=(blk_cell BK341.out 1).trans rfl
                  have hfz29_0:=blk_frozen BK341.out 0
                  have hfz29_1:=blk_frozen BK341.out 1
                  have p345:0≤((ji22):Int):=of_decide_eq_true za
                  have q345:(ji22)<(l1.length:Int):=of_decide_eq_true za
                  obtain ⟨ad345,e345,hx345_0,hx345_1⟩:=at_T72 HR1.out (ji22) p345 q345
                  obtain rfl:ad340=ad345:=(by injection e345)
                  replace hx345_0:=(HB.out.cell (World.block_lt_of_cell? w _ hx345_0)).trans hx345_0
                  replace hx345_1:=(HB.out.cell (World.block_lt_of_cell? w _ hx345_1)).trans hx345_1
                  replace p345:=eq_true p345
                  replace q345:=eq_true q345
                  have p346:0≤((ji22):Int):=of_decide_eq_true za
                  have q346:(ji22)<(l1.length:Int):=of_decide_eq_true za
                  obtain ⟨ad346,e346,hx346_0,hx346_1⟩:=at_T72 HR1.out (ji22) p346 q346
                  obtain rfl:ad340=ad346:=(by injection e346)
                  replace hx346_0:=(HB.out.cell (World.block_lt_of_cell? w _ hx346_0)).trans hx346_0
                  replace hx346_1:=(HB.out.cell (World.block_lt_of_cell? w _ hx346_1)).trans hx346_1
                  replace p346:=eq_true p346
                  replace q346:=eq_true q346
                  go_wp2
                  repeat (go_quiet (fail);try go_wp2)
                  go_ret
                  exact ⟨by first|rfl|(simp [errW_none,errW_some] <;> rfl)|(simp only [←hji22];first|rfl|(simp [errW_none,errW_some] <;> rfl))|(simp [*,errW_none,errW_some] <;> rfl),by repeat (first|(with_reducible first|exact HB.out|apply below_alloc|apply pw_below_drewN|apply below_drew1|refine below_set ?_ GE341.out)|exact HB.out)⟩
                 ·rw [if_neg c28] at H
                  have c28b0:decide (((rd_T72 l1 x19_2).f1)≤((rd_T72 l1 (ji22)).f1))=false:=decide_eq_false c28
                  clear c28
                  have H':=Aside0.mk H
                  clear H
                  have p344:0≤((ji22):Int):=of_decide_eq_true za
                  have q344:(ji22)<(l1.length:Int):=of_decide_eq_true za
                  obtain ⟨ad344,e344,hx344_0,hx344_1⟩:=at_T72 HR1.out (ji22) p344 q344
                  obtain rfl:ad340=ad344:=(by injection e344)
                  replace hx344_0:=(HB.out.cell (World.block_lt_of_cell? w _ hx344_0)).trans hx344_0
                  replace hx344_1:=(HB.out.cell (World.block_lt_of_cell? w _ hx344_1)).trans hx344_1
                  replace p344:=eq_true p344
                  replace q344:=eq_true q344
                  have hcz30_0:wc.cell? ⟨gb341,0,none⟩=some (.int .i64 ((rd_T72 l1 x19_2).f0)):=(blk_cell BK341.out 0).trans rfl
                  have hcz30_1:wc.cell? ⟨gb341,1,none⟩=some (.int .i64 ((rd_T72 l1 x19_2).f1)):=(blk_cell BK341.out 1).trans rfl
                  have hfz30_0:=blk_frozen BK341.out 0
                  have hfz30_1:=blk_frozen BK341.out 1
                  have p345:0≤((ji22):Int):=of_decide_eq_true za
                  have q345:(ji22)<(l1.length:Int):=of_decide_eq_true za
                  obtain ⟨ad345,e345,hx345_0,hx345_1⟩:=at_T72 HR1.out (ji22) p345 q345
                  obtain rfl:ad340=ad345:=(by injection e345)
                  replace hx345_0:=(HB.out.cell (World.block_lt_of_cell? w _ hx345_0)).trans hx345_0
                  replace hx345_1:=(HB.out.cell (World.block_lt_of_cell? w _ hx345_1)).trans hx345_1
                  replace p345:=eq_true p345
                  replace q345:=eq_true q345
                  have p346:0≤((ji22):Int):=of_decide_eq_true za
                  have q346:(ji22)<(l1.length:Int):=of_decide_eq_true za
                  obtain ⟨ad346,e346,hx346_0,hx346_1⟩:=at_T72 HR1.out (ji22) p346 q346
                  obtain rfl:ad340=ad346:=(by injection e346)
                  replace hx346_0:=(HB.out.cell (World.block_lt_of_cell? w _ hx346_0)).trans hx346_0
                  replace hx346_1:=(HB.out.cell (World.block_lt_of_cell? w _ hx346_1)).trans hx346_1
                  replace p346:=eq_true p346
                  replace q346:=eq_true q346
                  go_wp2
                  repeat (go_quiet (fail);try go_wp2)
                  go_roundg kj9
                  case measure=>have:=HJ2.out;have:=HK2.out;have:=HJ9.out;omega
                  case rel=>exact ⟨(wrap64 (x19_2 + 1)),zo,H',⟨by have:=HJ2.out;have:=HK2.out;have:=HJ9.out;omega⟩,⟨by repeat (first|(with_reducible first|exact HB.out|apply below_alloc|apply pw_below_drewN|apply below_drew1|refine below_set ?_ GE341.out)|exact HB.out)⟩⟩
                ·rw [if_neg c27] at H
                 have c27b0:(((rd_T72 l1 (ji22)).f0) == ((rd_T72 l1 x19_2).f0))=false:=beq_eq_false_iff_ne.mpr c27
                 have c27b1:(((rd_T72 l1 (ji22)).f0) != ((rd_T72 l1 x19_2).f0))=true:=bne_iff_ne.mpr c27
                 have H':=Aside0.mk H
                 clear H
                 have p344:0≤((ji22):Int):=of_decide_eq_true za
                 have q344:(ji22)<(l1.length:Int):=of_decide_eq_true za
                 obtain ⟨ad344,e344,hx344_0,hx344_1⟩:=at_T72 HR1.out (ji22) p344 q344
                 obtain rfl:ad340=ad344:=(by injection e344)
                 replace hx344_0:=(HB.out.cell (World.block_lt_of_cell? w _ hx344_0)).trans hx344_0
                 replace hx344_1:=(HB.out.cell (World.block_lt_of_cell? w _ hx344_1)).trans hx344_1
                 replace p344:=eq_true p344
                 replace q344:=eq_true q344
                 have hcz31_0:wc.cell? ⟨gb341,0,none⟩=some (.int .i64 ((rd_T72 l1 x19_2).f0)):=(blk_cell BK341.out 0).trans rfl
                 have hcz31_1:wc.cell? ⟨gb341,1,none⟩=some (.int .i64 ((rd_T72 l1 x19_2).f1)):=(blk_cell BK341.out 1).trans rfl
                 have hfz31_0:=blk_frozen BK341.out 0
                 have hfz31_1:=blk_frozen BK341.out 1
                 have p345:0≤((ji22):Int):=of_decide_eq_true za
                 have q345:(ji22)<(l1.length:Int):=of_decide_eq_true za
                 obtain ⟨ad345,e345,hx345_0,hx345_1⟩:=at_T72 HR1.out (ji22) p345 q345
                 obtain rfl:ad340=ad345:=(by injection e345)
                 replace hx345_0:=(HB.out.cell (World.block_lt_of_cell? w _ hx345_0)).trans hx345_0
                 replace hx345_1:=(HB.out.cell (World.block_lt_of_cell? w _ hx345_1)).trans hx345_1
                 replace p345:=eq_true p345
                 replace q345:=eq_true q345
                 go_wp2
                 repeat (go_quiet (fail);try go_wp2)
                 go_roundg kj9
                 case measure=>have:=HJ2.out;have:=HK2.out;have:=HJ9.out;omega
                 case rel=>exact ⟨(wrap64 (x19_2 + 1)),zo,H',⟨by have:=HJ2.out;have:=HK2.out;have:=HJ9.out;omega⟩,⟨by repeat (first|(with_reducible first|exact HB.out|apply below_alloc|apply pw_below_drewN|apply below_drew1|refine below_set ?_ GE341.out)|exact HB.out)⟩⟩
              ·rw [if_neg c24] at H
               exact absurd H (by simp)
             ·rw [if_neg c23] at H
              exact absurd H (by simp)
            ·rw [if_neg c21] at H
             have c21b0:decide (0<x19_2)=false:=decide_eq_false c21
             clear c21
             have H':=Aside0.mk H
             clear H
             go_wp2
             repeat (go_quiet (fail);try go_wp2)
             go_roundg kj9
             case measure=>have:=HJ2.out;have:=HK2.out;have:=HJ9.out;omega
             case rel=>exact ⟨(wrap64 (x19_2 + 1)),zo,H',⟨by have:=HJ2.out;have:=HK2.out;have:=HJ9.out;omega⟩,⟨by repeat (first|(with_reducible first|exact HB.out|apply below_alloc|apply pw_below_drewN|apply below_drew1|refine below_set ?_ GE341.out)|exact HB.out)⟩⟩
        ·rw [if_neg c9] at H
         exact absurd H (by simp)
       ·rw [if_neg c8] at H
        exact absurd H (by simp)
      ·rw [if_neg c7] at H
       have c7b0:decide (x19_2<(l1.length:Int))=false:=decide_eq_false c7
       clear c7
       replace H:=Option.bind_eq_some_iff.mp H
       obtain ⟨t347,A320,H⟩:=H
       replace H:(impl_IsPrecedence.l1 k2 t347 (t347.length:Int) 0)=some r:=H
       have A32:=Aside0.mk A320
       clear A320
       have H':=Aside0.mk H
       clear H
       go_wp2_with (first|(go_at_call 115;(with_reducible refine (impl_closure.calls k2 a0 _ _ l1 t347 _ ?side1 ?side2 A32.out).mono ?_);(case side1=>exact zC (Kd.C_below HR1.out HB.out));(case side2=>exact HC1.out);rintro e w33 ⟨v348,rfl,ho0,hb⟩;have HO349:=Aside0.mk (Kd.S_lower ho0 (below_size zb));replace HB:=Aside0.mk (below_step zb hb);(try clear hb);(try clear ho0);obtain ⟨Ao34,co34,eo34⟩:=Kd.S_slice HO349.out;subst eo34))
       repeat (go_quiet (first|(go_at_call 115;(with_reducible refine (impl_closure.calls k2 a0 _ _ l1 t347 _ ?side1 ?side2 A32.out).mono ?_);(case side1=>exact zC (Kd.C_below HR1.out HB.out));(case side2=>exact HC1.out);rintro e w33 ⟨v348,rfl,ho0,hb⟩;have HO349:=Aside0.mk (Kd.S_lower ho0 (below_size zb));replace HB:=Aside0.mk (below_step zb hb);(try clear hb);(try clear ho0);obtain ⟨Ao34,co34,eo34⟩:=Kd.S_slice HO349.out;subst eo34));try go_wp2_with (first|(go_at_call 115;(with_reducible refine (impl_closure.calls k2 a0 _ _ l1 t347 _ ?side1 ?side2 A32.out).mono ?_);(case side1=>exact zC (Kd.C_below HR1.out HB.out));(case side2=>exact HC1.out);rintro e w33 ⟨v348,rfl,ho0,hb⟩;have HO349:=Aside0.mk (Kd.S_lower ho0 (below_size zb));replace HB:=Aside0.mk (below_step zb hb);(try clear hb);(try clear ho0);obtain ⟨Ao34,co34,eo34⟩:=Kd.S_slice HO349.out;subst eo34)))
       go_loopg [84] k2 (fun kq v84 w'=>∃ (x84_3:Int),v84=.int .i64 x84_3∧Aside0 (impl_IsPrecedence.l1 kq t347 (t347.length:Int) x84_3=some r)∧Aside0 (kq≤k2)∧Aside0 (Kd.S (Kd.slice 4 Kd.bool) 127 w' w.heap.size (fun _=>True) (.slice Ao34 t347.length co34) t347)∧Aside0 (Below w.heap.size w w'))
       case atStart=>exact ⟨(0),zo,H',⟨Nat.le_refl _⟩,⟨zS HO349.out⟩,⟨zb⟩⟩
       case round=>
        clear H'
        (try clear c1);(try clear c2);(try clear p2);(try clear p3);(try clear q3);(try clear hx3);(try clear c5);(try clear c6);(try clear p6);(try clear c7);(try clear c7b0);(try clear c8);(try clear c8b0);(try clear c9);(try clear c9b0);(try clear c14);(try clear c16);(try clear c20);(try clear c21);(try clear c21b0);(try clear c23);(try clear c23b0);(try clear c24);(try clear c24b0);(try clear c25);(try clear c25b0);(try clear c27);(try clear c27b0);(try clear c27b1);(try clear c28);(try clear c28b0);(try clear p34);(try clear q34);(try clear hx34);(try clear hcz12_0);(try clear hcz12_1);(try clear hcz17_0);(try clear hcz17_1);(try clear hcz18_0);(try clear hcz18_1);(try clear hcz19_0);(try clear hcz19_1);(try clear hcz26_0);(try clear hcz26_1);(try clear hcz29_0);(try clear hcz29_1);(try clear hcz30_0);(try clear hcz30_1);(try clear hcz31_0);(try clear hcz31_1);(try clear hfz12_0);(try clear hfz12_1);(try clear hfz17_0);(try clear hfz17_1);(try clear hfz18_0);(try clear hfz18_1);(try clear hfz19_0);(try clear hfz19_1);(try clear hfz26_0);(try clear hfz26_1);(try clear hfz29_0);(try clear hfz29_1);(try clear hfz30_0);(try clear hfz30_1);(try clear hfz31_0);(try clear hfz31_1);(try clear hx340_0);(try clear hx340_1);(try clear hx344_0);(try clear hx344_1);(try clear hx345_0);(try clear hx345_1);(try clear hx346_0);(try clear hx346_1);(try clear p340);(try clear p344);(try clear p345);(try clear p346);(try clear q340);(try clear q344);(try clear q345);(try clear q346)
        obtain ⟨x84_3,rfl,HA,HK3,HO_7,HB⟩:=hrel
        cases gk with
        | zero=>exact absurd HA.out (by simp [impl_IsPrecedence.l1])
        | succ k3=>
         have H:=HA.out
         clear HA
         simp only [impl_IsPrecedence.l1] at H
         by_cases c35:x84_3<(t347.length:Int)
         ·rw [if_pos c35] at H
          have c35b0:decide (x84_3<(t347.length:Int))=true:=decide_eq_true c35
          clear c35
          by_cases c36:0≤x84_3
          ·rw [if_pos c36] at H
           have c36b0:decide (0≤x84_3)=true:=decide_eq_true c36
           clear c36
           by_cases c37:x84_3<(t347.length:Int)
           ·rw [if_pos c37] at H
            have c37b0:decide (x84_3<(t347.length:Int))=true:=decide_eq_true c37
            clear c37
            by_cases c38:x84_3<((rd_L3 t347 x84_3).length:Int)
            ·rw [if_pos c38] at H
             have c38b0:decide (x84_3<((rd_L3 t347 x84_3).length:Int))=true:=decide_eq_true c38
             clear c38
             obtain ⟨bq39,hbq39⟩:∃ b_:Bool,b_=(rdOf false (rd_L3 t347 x84_3) x84_3):=⟨_,rfl⟩
             replace H:(if bq39=true then (some false) else (impl_IsPrecedence.l1 k3 t347 (t347.length:Int) (wrap64 (x84_3 + 1))))=some r:=by rw [←hbq39] at H;exact H
             have Nbq39:=Aside0.mk hbq39
             clear hbq39
             by_cases c40:bq39=true
             ·subst c40
              have H1:(some false)=some r:=by rw [if_pos rfl] at H;exact H
              clear H
              have H:=H1
              clear H1
              obtain rfl:=Option.some.inj H
              have p350:0≤(x84_3:Int):=of_decide_eq_true za
              have q350:x84_3<(t347.length:Int):=of_decide_eq_true za
              obtain ⟨ad350,A350_0,c350_0,e350,hx350_0,hl350_0,hi350_0⟩:=at_L3 (Kd.S_reads' HO_7.out).2.2 x84_3 p350 q350
              cases e350
              obtain ⟨ce350,hce350,hMe350,hcc350⟩:=Kd.S_get HO_7.out [] x84_3 p350 (by first|exact q350|exact of_decide_eq_true za|(have e_:=(Kd.S_reads' HO_7.out).1;omega))
              obtain ⟨ve350_0,rfl,ge350_0⟩:=hMe350
              have hv350_0:=hcc350 0 _ rfl
              rw [Nat.add_zero,show ((Kd.slice 4 Kd.bool)).sz=1 from rfl,Nat.mul_one] at hv350_0
              replace hv350_0:=Option.some.inj (hv350_0.symm.trans hx350_0)
              rw [hv350_0] at ge350_0
              have HL350_0:=Aside0.mk (show Kd.R Kd.bool 4 _ _ _ _ (rd_L3 t347 x84_3) from ge350_0)
              clear hv350_0 ge350_0
              clear hcc350 hce350
              have HR350_0:=Aside0.mk hi350_0
              have HC350_0:=Aside0.mk hl350_0
              clear hi350_0 hl350_0
              replace p350:=eq_true p350
              replace q350:=eq_true q350
              have p351:0≤(x84_3:Int):=of_decide_eq_true za
              have q351:x84_3<((rd_L3 t347 x84_3).length:Int):=of_decide_eq_true za
              obtain ⟨ad351,e351,hx351_0⟩:=Kd.at_bool (by repeat (first|(with_reducible exact HR350_0.out)|(with_reducible refine Kd.C_alloc ?_ _)|(with_reducible refine Kd.C_drewN ?_ _)|(with_reducible refine Kd.C_drew ?_)|exact HR350_0.out)) x84_3 p351 q351
              (try rw [←Nbq39.out] at hx351_0)
              cases e351
              replace p351:=eq_true p351
              replace q351:=eq_true q351
              go_wp2
              repeat (go_quiet (fail);try go_wp2)
              go_ret
              exact ⟨by first|rfl|(simp [errW_none,errW_some] <;> rfl)|(simp [*,errW_none,errW_some] <;> rfl),zb⟩
             ·replace c40:=Bool.eq_false_iff.mpr c40
              subst c40
              have H1:(impl_IsPrecedence.l1 k3 t347 (t347.length:Int) (wrap64 (x84_3 + 1)))=some r:=by rw [if_neg (show ¬ (false=true) by decide)] at H;exact H
              clear H
              have H:=H1
              clear H1
              have H':=Aside0.mk H
              clear H
              have p350:0≤(x84_3:Int):=of_decide_eq_true za
              have q350:x84_3<(t347.length:Int):=of_decide_eq_true za
              obtain ⟨ad350,A350_0,c350_0,e350,hx350_0,hl350_0,hi350_0⟩:=at_L3 (Kd.S_reads' HO_7.out).2.2 x84_3 p350 q350
              cases e350
              obtain ⟨ce350,hce350,hMe350,hcc350⟩:=Kd.S_get HO_7.out [] x84_3 p350 (by first|exact q350|exact of_decide_eq_true za|(have e_:=(Kd.S_reads' HO_7.out).1;omega))
              obtain ⟨ve350_0,rfl,ge350_0⟩:=hMe350
              have hv350_0:=hcc350 0 _ rfl
              rw [Nat.add_zero,show ((Kd.slice 4 Kd.bool)).sz=1 from rfl,Nat.mul_one] at hv350_0
              replace hv350_0:=Option.some.inj (hv350_0.symm.trans hx350_0)
              rw [hv350_0] at ge350_0
              have HL350_0:=Aside0.mk (show Kd.R Kd.bool 4 _ _ _ _ (rd_L3 t347 x84_3) from ge350_0)
              clear hv350_0 ge350_0
              clear hcc350 hce350
              have HR350_0:=Aside0.mk hi350_0
              have HC350_0:=Aside0.mk hl350_0
              clear hi350_0 hl350_0
              replace p350:=eq_true p350
              replace q350:=eq_true q350
              have p351:0≤(x84_3:Int):=of_decide_eq_true za
              have q351:x84_3<((rd_L3 t347 x84_3).length:Int):=of_decide_eq_true za
              obtain ⟨ad351,e351,hx351_0⟩:=Kd.at_bool (by repeat (first|(with_reducible exact HR350_0.out)|(with_reducible refine Kd.C_alloc ?_ _)|(with_reducible refine Kd.C_drewN ?_ _)|(with_reducible refine Kd.C_drew ?_)|exact HR350_0.out)) x84_3 p351 q351
              (try rw [←Nbq39.out] at hx351_0)
              cases e351
              replace p351:=eq_true p351
              replace q351:=eq_true q351
              go_wp2
              repeat (go_quiet (fail);try go_wp2)
              go_roundg k3
              case measure=>have:=HJ2.out;have:=HK2.out;have:=HK3.out;omega
              case rel=>exact ⟨(wrap64 (x84_3 + 1)),zo,H',⟨by have:=HJ2.out;have:=HK2.out;have:=HK3.out;omega⟩,⟨zS HO_7.out⟩,⟨zb⟩⟩
            ·rw [if_neg c38] at H
             exact absurd H (by simp)
           ·rw [if_neg c37] at H
            exact absurd H (by simp)
          ·rw [if_neg c36] at H
           exact absurd H (by simp)
         ·rw [if_neg c35] at H
          have c35b0:decide (x84_3<(t347.length:Int))=false:=decide_eq_false c35
          clear c35
          obtain rfl:=Option.some.inj H
          go_wp2
          repeat (go_quiet (fail);try go_wp2)
          go_ret
          exact ⟨by first|rfl|(simp [errW_none,errW_some] <;> rfl)|(simp [*,errW_none,errW_some] <;> rfl),zb⟩

end Go.Proofs.Ytbcfmegepkhlpaa.XFnExactLabelPlan
-- minified
