-- Written by a program of this session (the kit's print, widened). Proved here: what each function answers, for the arguments that its contract names.
import Derived.Test.YtplbabjigikgjaaXFnTailsx0
import Derived.Test.YtplbabjigikgjaaXFnTailsx9
namespace Go.Proofs.Ytplbabjigikgjaa.XFnTails
open Go.RowKit Go.Proofs.YtplbabjigikgjaaW.PrintWords Go.Proofs.YtplbabjigikgjaaW.PrintLast Go.Proofs.YtplbabjigikgjaaW.PrintMore
attribute [local go_sem] max2_int min2_int max_two min_two max_three min_three max_four min_four   -- for this text's walks alone
attribute [local go_sem] idxA_45_0 idxA_45_1 fldS_94_0 fldS_94_1 fldS_94_2 fldS_125_0 fldS_125_1 fldS_125_2
set_option linter.unusedVariables false
set_option linter.unusedSimpArgs false

/-! ### spec_l2Job: function 122 -/
def spec_l2Job.f (a0_0:Int) (a0_1:Int) (a0_2:Int) (a0_3:Int):Option (Bool):=(spec_l1In.f a0_0 1 50).bind fun t390=>(if t390=true then ((spec_l1In.f a0_1 0 50).bind fun t391=>(if t391=true then ((spec_l1In.f a0_2 0 500).bind fun t392=>(if t392=true then ((spec_l1In.f a0_3 0 500).bind fun t393=>(some t393)) else (some false))) else (some false))) else (some false))
set_option maxHeartbeats 8000000 in
set_option maxRecDepth 100000 in
theorem spec_l2Job.calls (a0_0:Int) (a0_1:Int) (a0_2:Int) (a0_3:Int) (r:Bool) (w:World) (h:spec_l2Job.f a0_0 a0_1 a0_2 a0_3=some r) :
  Calls Try.prog 122 #[.agg #[.int .i64 a0_0,.int .i64 a0_1,.int .i64 a0_2,.int .i64 a0_3]] w fun e w'=>e=.returned (.bool r)∧Below w.heap.size w w':=by
 have hu47:=Try.underlying47
 have HB:=Aside0.mk (Below.refl w.heap.size w)
 have H:((spec_l1In.f a0_0 1 50).bind fun t390=>(if t390=true then ((spec_l1In.f a0_1 0 50).bind fun t391=>(if t391=true then ((spec_l1In.f a0_2 0 500).bind fun t392=>(if t392=true then ((spec_l1In.f a0_3 0 500).bind fun t393=>(some t393)) else (some false))) else (some false))) else (some false)))=some r:=h
 clear h
 replace H:=Option.bind_eq_some_iff.mp H
 obtain ⟨t390,A20,H⟩:=H
 try dsimp only at H
 have A2:=Aside0.mk A20
 clear A20
 by_cases c3:t390=true
 ·subst c3
  rw [if_pos rfl] at H
  replace H:=Option.bind_eq_some_iff.mp H
  obtain ⟨t391,A40,H⟩:=H
  try dsimp only at H
  have A4:=Aside0.mk A40
  clear A40
  by_cases c5:t391=true
  ·subst c5
   rw [if_pos rfl] at H
   replace H:=Option.bind_eq_some_iff.mp H
   obtain ⟨t392,A60,H⟩:=H
   try dsimp only at H
   have A6:=Aside0.mk A60
   clear A60
   by_cases c7:t392=true
   ·subst c7
    rw [if_pos rfl] at H
    replace H:=Option.bind_eq_some_iff.mp H
    obtain ⟨t393,A80,H⟩:=H
    try dsimp only at H
    have A8:=Aside0.mk A80
    clear A80
    obtain rfl:=Option.some.inj H
    go_enter Try.func122,Try.ntmps122
    go_wp2_with (first|((with_reducible refine gate_dst (N:=1) rfl ?_);refine box_event ?hg (N:=1) ?hd (cs:=#[.int .i64 a0_0,.int .i64 a0_1,.int .i64 a0_2,.int .i64 a0_3]) (t:=47) ?hr ?_;(case hd=>rfl);(case hg=>rfl);(case hr=>first|(go_simp;done)|(go_simp;rfl));intro gb389 hg w9 hbox hb;have n0_:=Aside0.mk (below_step zb hb);have n1_:=Aside0.mk (hbox);have n2_:=Aside0.mk ((by rw [hg];exact (below_size zb):w.heap.size≤gb389));have n3_:=Aside0.mk ((by rw [hg];exact (below_size zb):w.heap.size≤gb389));clear HB;have HB:=n0_;have BK389:=n1_;have GW389:=n2_;have GE389:=n3_;clear n0_ n1_ n2_ n3_;clear hb hbox hg;have hcz10_0:w9.cell? ⟨gb389,0,none⟩=some (.int .i64 a0_0):=(blk_cell BK389.out 0).trans rfl;have hcz10_1:w9.cell? ⟨gb389,1,none⟩=some (.int .i64 a0_1):=(blk_cell BK389.out 1).trans rfl;have hcz10_2:w9.cell? ⟨gb389,2,none⟩=some (.int .i64 a0_2):=(blk_cell BK389.out 2).trans rfl;have hcz10_3:w9.cell? ⟨gb389,3,none⟩=some (.int .i64 a0_3):=(blk_cell BK389.out 3).trans rfl;have hfz10_0:=blk_frozen BK389.out 0;have hfz10_1:=blk_frozen BK389.out 1;have hfz10_2:=blk_frozen BK389.out 2;have hfz10_3:=blk_frozen BK389.out 3)|((with_reducible refine gate_callee (f:=107) rfl ?_);refine goesL_ (some 5) rfl rfl Try.func107 (by kernel_rfl) rfl #[.int .i64 a0_0,.int .i64 1,.int .i64 50] rfl zl ?_;(with_reducible refine (spec_l1In.calls a0_0 1 50 true _ A2.out).mono ?_);rintro e w' ⟨rfl,⟨nd,rfl⟩⟩;refine ⟨_,rfl,?_⟩)|(go_at_call 107;(with_reducible refine (spec_l1In.calls a0_1 0 50 true _ A4.out).mono ?_);rintro e w' ⟨rfl,⟨nd,rfl⟩⟩)|(go_at_call 107;(with_reducible refine (spec_l1In.calls a0_2 0 500 true _ A6.out).mono ?_);rintro e w' ⟨rfl,⟨nd,rfl⟩⟩)|(go_at_call 107;(with_reducible refine (spec_l1In.calls a0_3 0 500 t393 _ A8.out).mono ?_);rintro e w' ⟨rfl,⟨nd,rfl⟩⟩))
    go_ret
    exact ⟨by first|rfl|(simp [errW_none,errW_some] <;> rfl)|(simp [*,errW_none,errW_some] <;> rfl),by repeat (first|(with_reducible first|exact HB.out|apply below_alloc|apply pw_below_drewN|apply below_drew1|refine below_set ?_ GE389.out)|exact HB.out)⟩
   ·replace c7:=Bool.eq_false_iff.mpr c7
    subst c7
    rw [if_neg (show ¬ (false=true) by decide)] at H
    obtain rfl:=Option.some.inj H
    go_enter Try.func122,Try.ntmps122
    go_wp2_with (first|((with_reducible refine gate_dst (N:=1) rfl ?_);refine box_event ?hg (N:=1) ?hd (cs:=#[.int .i64 a0_0,.int .i64 a0_1,.int .i64 a0_2,.int .i64 a0_3]) (t:=47) ?hr ?_;(case hd=>rfl);(case hg=>rfl);(case hr=>first|(go_simp;done)|(go_simp;rfl));intro gb389 hg w11 hbox hb;have n0_:=Aside0.mk (below_step zb hb);have n1_:=Aside0.mk (hbox);have n2_:=Aside0.mk ((by rw [hg];exact (below_size zb):w.heap.size≤gb389));have n3_:=Aside0.mk ((by rw [hg];exact (below_size zb):w.heap.size≤gb389));clear HB;have HB:=n0_;have BK389:=n1_;have GW389:=n2_;have GE389:=n3_;clear n0_ n1_ n2_ n3_;clear hb hbox hg;have hcz12_0:w11.cell? ⟨gb389,0,none⟩=some (.int .i64 a0_0):=(blk_cell BK389.out 0).trans rfl;have hcz12_1:w11.cell? ⟨gb389,1,none⟩=some (.int .i64 a0_1):=(blk_cell BK389.out 1).trans rfl;have hcz12_2:w11.cell? ⟨gb389,2,none⟩=some (.int .i64 a0_2):=(blk_cell BK389.out 2).trans rfl;have hcz12_3:w11.cell? ⟨gb389,3,none⟩=some (.int .i64 a0_3):=(blk_cell BK389.out 3).trans rfl;have hfz12_0:=blk_frozen BK389.out 0;have hfz12_1:=blk_frozen BK389.out 1;have hfz12_2:=blk_frozen BK389.out 2;have hfz12_3:=blk_frozen BK389.out 3)|((with_reducible refine gate_callee (f:=107) rfl ?_);refine goesL_ (some 5) rfl rfl Try.func107 (by kernel_rfl) rfl #[.int .i64 a0_0,.int .i64 1,.int .i64 50] rfl zl ?_;(with_reducible refine (spec_l1In.calls a0_0 1 50 true _ A2.out).mono ?_);rintro e w' ⟨rfl,⟨nd,rfl⟩⟩;refine ⟨_,rfl,?_⟩)|(go_at_call 107;(with_reducible refine (spec_l1In.calls a0_1 0 50 true _ A4.out).mono ?_);rintro e w' ⟨rfl,⟨nd,rfl⟩⟩)|(go_at_call 107;(with_reducible refine (spec_l1In.calls a0_2 0 500 false _ A6.out).mono ?_);rintro e w' ⟨rfl,⟨nd,rfl⟩⟩))
    go_ret
    exact ⟨by first|rfl|(simp [errW_none,errW_some] <;> rfl)|(simp [*,errW_none,errW_some] <;> rfl),by repeat (first|(with_reducible first|exact HB.out|apply below_alloc|apply pw_below_drewN|apply below_drew1|refine below_set ?_ GE389.out)|exact HB.out)⟩
  ·replace c5:=Bool.eq_false_iff.mpr c5
   subst c5
   rw [if_neg (show ¬ (false=true) by decide)] at H
   obtain rfl:=Option.some.inj H
   go_enter Try.func122,Try.ntmps122
   go_wp2_with (first|((with_reducible refine gate_dst (N:=1) rfl ?_);refine box_event ?hg (N:=1) ?hd (cs:=#[.int .i64 a0_0,.int .i64 a0_1,.int .i64 a0_2,.int .i64 a0_3]) (t:=47) ?hr ?_;(case hd=>rfl);(case hg=>rfl);(case hr=>first|(go_simp;done)|(go_simp;rfl));intro gb389 hg w13 hbox hb;have n0_:=Aside0.mk (below_step zb hb);have n1_:=Aside0.mk (hbox);have n2_:=Aside0.mk ((by rw [hg];exact (below_size zb):w.heap.size≤gb389));have n3_:=Aside0.mk ((by rw [hg];exact (below_size zb):w.heap.size≤gb389));clear HB;have HB:=n0_;have BK389:=n1_;have GW389:=n2_;have GE389:=n3_;clear n0_ n1_ n2_ n3_;clear hb hbox hg;have hcz14_0:w13.cell? ⟨gb389,0,none⟩=some (.int .i64 a0_0):=(blk_cell BK389.out 0).trans rfl;have hcz14_1:w13.cell? ⟨gb389,1,none⟩=some (.int .i64 a0_1):=(blk_cell BK389.out 1).trans rfl;have hcz14_2:w13.cell? ⟨gb389,2,none⟩=some (.int .i64 a0_2):=(blk_cell BK389.out 2).trans rfl;have hcz14_3:w13.cell? ⟨gb389,3,none⟩=some (.int .i64 a0_3):=(blk_cell BK389.out 3).trans rfl;have hfz14_0:=blk_frozen BK389.out 0;have hfz14_1:=blk_frozen BK389.out 1;have hfz14_2:=blk_frozen BK389.out 2;have hfz14_3:=blk_frozen BK389.out 3)|((with_reducible refine gate_callee (f:=107) rfl ?_);refine goesL_ (some 5) rfl rfl Try.func107 (by kernel_rfl) rfl #[.int .i64 a0_0,.int .i64 1,.int .i64 50] rfl zl ?_;(with_reducible refine (spec_l1In.calls a0_0 1 50 true _ A2.out).mono ?_);rintro e w' ⟨rfl,⟨nd,rfl⟩⟩;refine ⟨_,rfl,?_⟩)|(go_at_call 107;(with_reducible refine (spec_l1In.calls a0_1 0 50 false _ A4.out).mono ?_);rintro e w' ⟨rfl,⟨nd,rfl⟩⟩))
   go_ret
   exact ⟨by first|rfl|(simp [errW_none,errW_some] <;> rfl)|(simp [*,errW_none,errW_some] <;> rfl),by repeat (first|(with_reducible first|exact HB.out|apply below_alloc|apply pw_below_drewN|apply below_drew1|refine below_set ?_ GE389.out)|exact HB.out)⟩
 ·replace c3:=Bool.eq_false_iff.mpr c3
  subst c3
  rw [if_neg (show ¬ (false=true) by decide)] at H
  obtain rfl:=Option.some.inj H
  go_enter Try.func122,Try.ntmps122
  go_wp2_with (first|((with_reducible refine gate_dst (N:=1) rfl ?_);refine box_event ?hg (N:=1) ?hd (cs:=#[.int .i64 a0_0,.int .i64 a0_1,.int .i64 a0_2,.int .i64 a0_3]) (t:=47) ?hr ?_;(case hd=>rfl);(case hg=>rfl);(case hr=>first|(go_simp;done)|(go_simp;rfl));intro gb389 hg w15 hbox hb;have n0_:=Aside0.mk (below_step zb hb);have n1_:=Aside0.mk (hbox);have n2_:=Aside0.mk ((by rw [hg];exact (below_size zb):w.heap.size≤gb389));have n3_:=Aside0.mk ((by rw [hg];exact (below_size zb):w.heap.size≤gb389));clear HB;have HB:=n0_;have BK389:=n1_;have GW389:=n2_;have GE389:=n3_;clear n0_ n1_ n2_ n3_;clear hb hbox hg;have hcz16_0:w15.cell? ⟨gb389,0,none⟩=some (.int .i64 a0_0):=(blk_cell BK389.out 0).trans rfl;have hcz16_1:w15.cell? ⟨gb389,1,none⟩=some (.int .i64 a0_1):=(blk_cell BK389.out 1).trans rfl;have hcz16_2:w15.cell? ⟨gb389,2,none⟩=some (.int .i64 a0_2):=(blk_cell BK389.out 2).trans rfl;have hcz16_3:w15.cell? ⟨gb389,3,none⟩=some (.int .i64 a0_3):=(blk_cell BK389.out 3).trans rfl;have hfz16_0:=blk_frozen BK389.out 0;have hfz16_1:=blk_frozen BK389.out 1;have hfz16_2:=blk_frozen BK389.out 2;have hfz16_3:=blk_frozen BK389.out 3)|((with_reducible refine gate_callee (f:=107) rfl ?_);refine goesL_ (some 5) rfl rfl Try.func107 (by kernel_rfl) rfl #[.int .i64 a0_0,.int .i64 1,.int .i64 50] rfl zl ?_;(with_reducible refine (spec_l1In.calls a0_0 1 50 false _ A2.out).mono ?_);rintro e w' ⟨rfl,⟨nd,rfl⟩⟩;refine ⟨_,rfl,?_⟩))
  go_ret
  exact ⟨by first|rfl|(simp [errW_none,errW_some] <;> rfl)|(simp [*,errW_none,errW_some] <;> rfl),by repeat (first|(with_reducible first|exact HB.out|apply below_alloc|apply pw_below_drewN|apply below_drew1|refine below_set ?_ GE389.out)|exact HB.out)⟩

/-! ### spec_l2Good: function 77 -/
def spec_l2Good.l0:Nat→List (S47)→Int→Option (Bool)
 | 0,_,_=>none
 | k + 1,x0,x3=>if x3<(x0.length:Int) then (if 0≤x3 then ((spec_l2Job.f ((rd_T47 x0 x3).f0) ((rd_T47 x0 x3).f1) ((rd_T47 x0 x3).f2) ((rd_T47 x0 x3).f3)).bind fun t395=>(if t395=true then (spec_l2Good.l0 k x0 (wrap64 (x3 + 1))) else (some false))) else (none)) else (some (decide ((x0.length:Int)≤8)))
def spec_l2Good.f (k:Nat) (l0:List (S47)):Option (Bool):=spec_l2Good.l0 k l0 0
theorem spec_l2Good.mono_l:∀ k,(∀ y0 y1,LeO (spec_l2Good.l0 k y0 y1) (spec_l2Good.l0 (k + 1) y0 y1))
 | 0=>fun _ _ r h=>by simp [spec_l2Good.l0] at h
 | k + 1=>by
  have ih0:=spec_l2Good.mono_l k
  ·intro y0 y1
   unfold spec_l2Good.l0
   repeat' first
   | (with_reducible exact ih0 _ _)
   | (with_reducible exact LeO.refl _)
   | (with_reducible exact LeO.none _)
   | (with_reducible refine LeO.ite ?_ ?_)
   | (with_reducible refine LeO.bind ?_ (fun _=>?_))
   | exact ih0 _ _
   | exact LeO.none _
   | refine LeO.ite ?_ ?_
   | refine LeO.bind ?_ (fun _=>?_)
theorem spec_l2Good.mono:∀ a0 k,LeO (spec_l2Good.f k a0) (spec_l2Good.f (k + 1) a0):=by
 intro a0 k
 have ih0:=spec_l2Good.mono_l k
 unfold spec_l2Good.f
 repeat' first
   | (with_reducible exact ih0 _ _)
   | (with_reducible exact LeO.refl _)
   | (with_reducible exact LeO.none _)
   | (with_reducible refine LeO.ite ?_ ?_)
   | (with_reducible refine LeO.bind ?_ (fun _=>?_))
   | exact ih0 _ _
   | exact LeO.none _
   | refine LeO.ite ?_ ?_
   | refine LeO.bind ?_ (fun _=>?_)
set_option maxHeartbeats 8000000 in
set_option maxRecDepth 100000 in
theorem spec_l2Good.calls (k:Nat) (A0:Option Addr) (c0:Nat) (l0:List (S47)) (r:Bool) (w:World) (hr0:Kd.C k47 w A0 l0.length l0) (hc0:l0.length≤c0) (h:spec_l2Good.f k l0=some r) :
  Calls Try.prog 77 #[.slice A0 l0.length c0] w fun e w'=>e=.returned (.bool r)∧Below w.heap.size w w':=by
 have hu47:=Try.underlying47
 have HR0:=Aside0.mk hr0
 have HC0:=Aside0.mk hc0
 clear hr0 hc0
 have HB:=Aside0.mk (Below.refl w.heap.size w)
 have H:(spec_l2Good.l0 k l0 0)=some r:=h
 clear h
 have H':=Aside0.mk H
 clear H
 go_enter Try.func77,Try.ntmps77
 go_wp2
 go_loopg [3] k (fun kq v3 w'=>∃ (x3_1:Int),v3=.int .i64 x3_1∧Aside0 (spec_l2Good.l0 kq l0 x3_1=some r)∧Aside0 (kq≤k)∧Aside0 (Below w.heap.size w w'))
 case atStart=>exact ⟨(0),zo,H',⟨Nat.le_refl _⟩,⟨zb⟩⟩
 case round=>
  clear H'
  obtain ⟨x3_1,rfl,HA,HK1,HB⟩:=hrel
  cases gk with
  | zero=>exact absurd HA.out (by simp [spec_l2Good.l0])
  | succ k1=>
   have H:=HA.out
   clear HA
   simp only [spec_l2Good.l0] at H
   by_cases c2:x3_1<(l0.length:Int)
   ·rw [if_pos c2] at H
    have c2b0:decide (x3_1<(l0.length:Int))=true:=decide_eq_true c2
    clear c2
    by_cases c3:0≤x3_1
    ·rw [if_pos c3] at H
     have c3b0:decide (0≤x3_1)=true:=decide_eq_true c3
     clear c3
     replace H:=Option.bind_eq_some_iff.mp H
     obtain ⟨t395,A40,H⟩:=H
     try dsimp only at H
     have A4:=Aside0.mk A40
     clear A40
     by_cases c5:t395=true
     ·subst c5
      rw [if_pos rfl] at H
      have H':=Aside0.mk H
      clear H
      have p394:0≤(x3_1:Int):=of_decide_eq_true za
      have q394:x3_1<(l0.length:Int):=of_decide_eq_true za
      obtain ⟨ad394,e394,hx394_0,hx394_1,hx394_2,hx394_3⟩:=at_T47 HR0.out x3_1 p394 q394
      cases e394
      replace hx394_0:=(HB.out.cell (World.block_lt_of_cell? w _ hx394_0)).trans hx394_0
      replace hx394_1:=(HB.out.cell (World.block_lt_of_cell? w _ hx394_1)).trans hx394_1
      replace hx394_2:=(HB.out.cell (World.block_lt_of_cell? w _ hx394_2)).trans hx394_2
      replace hx394_3:=(HB.out.cell (World.block_lt_of_cell? w _ hx394_3)).trans hx394_3
      replace p394:=eq_true p394
      replace q394:=eq_true q394
      go_wp2_with (first|((with_reducible refine gate_callee (f:=122) rfl ?_);refine goesL_ (some 14) rfl rfl Try.func122 (by kernel_rfl) rfl #[.agg #[.int .i64 ((rd_T47 l0 x3_1).f0),.int .i64 ((rd_T47 l0 x3_1).f1),.int .i64 ((rd_T47 l0 x3_1).f2),.int .i64 ((rd_T47 l0 x3_1).f3)]] rfl zl ?_;(with_reducible refine (spec_l2Job.calls ((rd_T47 l0 x3_1).f0) ((rd_T47 l0 x3_1).f1) ((rd_T47 l0 x3_1).f2) ((rd_T47 l0 x3_1).f3) true _ A4.out).mono ?_);rintro e w6 ⟨rfl,hb⟩;refine ⟨_,rfl,?_⟩;replace HB:=Aside0.mk (below_step zb hb);(try clear hb)))
      go_roundg k1
      case measure=>have:=HK1.out;omega
      case rel=>exact ⟨(wrap64 (x3_1 + 1)),zo,H',⟨by have:=HK1.out;omega⟩,⟨zb⟩⟩
     ·replace c5:=Bool.eq_false_iff.mpr c5
      subst c5
      rw [if_neg (show ¬ (false=true) by decide)] at H
      obtain rfl:=Option.some.inj H
      have p394:0≤(x3_1:Int):=of_decide_eq_true za
      have q394:x3_1<(l0.length:Int):=of_decide_eq_true za
      obtain ⟨ad394,e394,hx394_0,hx394_1,hx394_2,hx394_3⟩:=at_T47 HR0.out x3_1 p394 q394
      cases e394
      replace hx394_0:=(HB.out.cell (World.block_lt_of_cell? w _ hx394_0)).trans hx394_0
      replace hx394_1:=(HB.out.cell (World.block_lt_of_cell? w _ hx394_1)).trans hx394_1
      replace hx394_2:=(HB.out.cell (World.block_lt_of_cell? w _ hx394_2)).trans hx394_2
      replace hx394_3:=(HB.out.cell (World.block_lt_of_cell? w _ hx394_3)).trans hx394_3
      replace p394:=eq_true p394
      replace q394:=eq_true q394
      go_wp2_with (first|((with_reducible refine gate_callee (f:=122) rfl ?_);refine goesL_ (some 14) rfl rfl Try.func122 (by kernel_rfl) rfl #[.agg #[.int .i64 ((rd_T47 l0 x3_1).f0),.int .i64 ((rd_T47 l0 x3_1).f1),.int .i64 ((rd_T47 l0 x3_1).f2),.int .i64 ((rd_T47 l0 x3_1).f3)]] rfl zl ?_;(with_reducible refine (spec_l2Job.calls ((rd_T47 l0 x3_1).f0) ((rd_T47 l0 x3_1).f1) ((rd_T47 l0 x3_1).f2) ((rd_T47 l0 x3_1).f3) false _ A4.out).mono ?_);rintro e w7 ⟨rfl,hb⟩;refine ⟨_,rfl,?_⟩;replace HB:=Aside0.mk (below_step zb hb);(try clear hb)))
      go_ret
      exact ⟨by first|rfl|(simp [errW_none,errW_some] <;> rfl)|(simp [*,errW_none,errW_some] <;> rfl),zb⟩
    ·rw [if_neg c3] at H
     exact absurd H (by simp)
   ·rw [if_neg c2] at H
    have c2b0:decide (x3_1<(l0.length:Int))=false:=decide_eq_false c2
    clear c2
    obtain rfl:=Option.some.inj H
    go_wp2
    go_ret
    exact ⟨by first|rfl|(simp [errW_none,errW_some] <;> rfl)|(simp [*,errW_none,errW_some] <;> rfl),zb⟩

/-! ### spec_l3Plain: function 106 -/
def spec_l3Plain.l0:Nat→List (S47)→Int→Option (Bool)
 | 0,_,_=>none
 | k + 1,x0,x3=>if x3<(x0.length:Int) then (if 0≤x3 then (if ((rd_T47 x0 x3).f2)=0 then (spec_l3Plain.l0 k x0 (wrap64 (x3 + 1))) else (some false)) else (none)) else (some true)
def spec_l3Plain.f (k:Nat) (l0:List (S47)):Option (Bool):=spec_l3Plain.l0 k l0 0
theorem spec_l3Plain.mono_l:∀ k,(∀ y0 y1,LeO (spec_l3Plain.l0 k y0 y1) (spec_l3Plain.l0 (k + 1) y0 y1))
 | 0=>fun _ _ r h=>by simp [spec_l3Plain.l0] at h
 | k + 1=>by
  have ih0:=spec_l3Plain.mono_l k
  ·intro y0 y1
   unfold spec_l3Plain.l0
   repeat' first
   | (with_reducible exact ih0 _ _)
   | (with_reducible exact LeO.refl _)
   | (with_reducible exact LeO.none _)
   | (with_reducible refine LeO.ite ?_ ?_)
   | (with_reducible refine LeO.bind ?_ (fun _=>?_))
   | exact ih0 _ _
   | exact LeO.none _
   | refine LeO.ite ?_ ?_
   | refine LeO.bind ?_ (fun _=>?_)
theorem spec_l3Plain.mono:∀ a0 k,LeO (spec_l3Plain.f k a0) (spec_l3Plain.f (k + 1) a0):=by
 intro a0 k
 have ih0:=spec_l3Plain.mono_l k
 unfold spec_l3Plain.f
 repeat' first
   | (with_reducible exact ih0 _ _)
   | (with_reducible exact LeO.refl _)
   | (with_reducible exact LeO.none _)
   | (with_reducible refine LeO.ite ?_ ?_)
   | (with_reducible refine LeO.bind ?_ (fun _=>?_))
   | exact ih0 _ _
   | exact LeO.none _
   | refine LeO.ite ?_ ?_
   | refine LeO.bind ?_ (fun _=>?_)
set_option maxHeartbeats 8000000 in
set_option maxRecDepth 100000 in
theorem spec_l3Plain.calls (k:Nat) (A0:Option Addr) (c0:Nat) (l0:List (S47)) (r:Bool) (w:World) (hr0:Kd.C k47 w A0 l0.length l0) (hc0:l0.length≤c0) (h:spec_l3Plain.f k l0=some r) :
  Calls Try.prog 106 #[.slice A0 l0.length c0] w fun e w'=>e=.returned (.bool r)∧Drawn0 w w':=by
 have HR0:=Aside0.mk hr0
 have HC0:=Aside0.mk hc0
 clear hr0 hc0
 have H:(spec_l3Plain.l0 k l0 0)=some r:=h
 clear h
 have H':=Aside0.mk H
 clear H
 go_enter Try.func106,Try.ntmps106
 go_wp2
 go_loopg [3] k (fun kq v3 w'=>∃ (x3_1:Int),v3=.int .i64 x3_1∧Aside0 (spec_l3Plain.l0 kq l0 x3_1=some r)∧Aside0 (kq≤k)∧Drawn0 w w')
 case atStart=>exact ⟨(0),zo,H',⟨Nat.le_refl _⟩,by repeat (first|exact Drawn0.refl _|apply Drawn0.step)⟩
 case round=>
  clear H'
  try clear c1
  obtain ⟨x3_1,rfl,HA,HK1,⟨m1,rfl⟩⟩:=hrel
  cases gk with
  | zero=>exact absurd HA.out (by simp [spec_l3Plain.l0])
  | succ k1=>
   have H:=HA.out
   clear HA
   simp only [spec_l3Plain.l0] at H
   by_cases c2:x3_1<(l0.length:Int)
   ·rw [if_pos c2] at H
    have c2b0:decide (x3_1<(l0.length:Int))=true:=decide_eq_true c2
    clear c2
    by_cases c3:0≤x3_1
    ·rw [if_pos c3] at H
     have c3b0:decide (0≤x3_1)=true:=decide_eq_true c3
     clear c3
     by_cases c4:((rd_T47 l0 x3_1).f2)=0
     ·rw [if_pos c4] at H
      have c4b0:(((rd_T47 l0 x3_1).f2) == 0)=true:=beq_iff_eq.mpr c4
      have c4b1:(((rd_T47 l0 x3_1).f2) != 0)=false:=bne_eq_false_iff_eq.mpr c4
      clear c4
      have H':=Aside0.mk H
      clear H
      have p396:0≤(x3_1:Int):=of_decide_eq_true za
      have q396:x3_1<(l0.length:Int):=of_decide_eq_true za
      obtain ⟨ad396,e396,hx396_0,hx396_1,hx396_2,hx396_3⟩:=at_T47 HR0.out x3_1 p396 q396
      cases e396
      replace p396:=eq_true p396
      replace q396:=eq_true q396
      go_wp2
      go_roundg k1
      case measure=>have:=HK1.out;omega
      case rel=>exact ⟨(wrap64 (x3_1 + 1)),zo,H',⟨by have:=HK1.out;omega⟩,by repeat (first|exact Drawn0.refl _|apply Drawn0.step)⟩
     ·rw [if_neg c4] at H
      have c4b0:(((rd_T47 l0 x3_1).f2) == 0)=false:=beq_eq_false_iff_ne.mpr c4
      have c4b1:(((rd_T47 l0 x3_1).f2) != 0)=true:=bne_iff_ne.mpr c4
      obtain rfl:=Option.some.inj H
      have p396:0≤(x3_1:Int):=of_decide_eq_true za
      have q396:x3_1<(l0.length:Int):=of_decide_eq_true za
      obtain ⟨ad396,e396,hx396_0,hx396_1,hx396_2,hx396_3⟩:=at_T47 HR0.out x3_1 p396 q396
      cases e396
      replace p396:=eq_true p396
      replace q396:=eq_true q396
      go_wp2
      go_ret
      exact ⟨by first|rfl|(simp;done)|(simp [*];done),by repeat (first|exact Drawn0.refl _|apply Drawn0.step)⟩
    ·rw [if_neg c3] at H
     exact absurd H (by simp)
   ·rw [if_neg c2] at H
    have c2b0:decide (x3_1<(l0.length:Int))=false:=decide_eq_false c2
    clear c2
    obtain rfl:=Option.some.inj H
    go_wp2
    go_ret
    exact ⟨by first|rfl|(simp;done)|(simp [*];done),by repeat (first|exact Drawn0.refl _|apply Drawn0.step)⟩

end Go.Proofs.Ytplbabjigikgjaa.XFnTails
-- minified
