-- Written by a program of this session (the kit's print, widened). Proved here: what each function answers, for the arguments that its contract names.
import Derived.Test.YtbcfmegepkhlpaaXFnSharedx0
namespace Go.Proofs.Ytbcfmegepkhlpaa.XFnShared
open Go.RowKit Go.Proofs.YtbcfmegepkhlpaaW.PrintWords Go.Proofs.YtbcfmegepkhlpaaW.PrintLast Go.Proofs.YtbcfmegepkhlpaaW.PrintMore
attribute [local go_sem] max2_int min2_int max_two min_two max_three min_three max_four min_four   -- for this text's walks alone
attribute [local go_sem] idxA_72_0 idxA_72_1 fldS_96_0 fldS_96_1 fldS_96_2 fldS_111_0 fldS_111_1 fldS_111_2
set_option linter.unusedVariables false
set_option linter.unusedSimpArgs false

/-! ### impl_within: function 113 -/
def impl_within.f (a0:Int) (a1:Int) (a2:Int):Option (Bool):=if a1≤a0 then (some (decide (a0≤a2))) else (some false)
set_option maxHeartbeats 8000000 in
set_option maxRecDepth 100000 in
theorem impl_within.calls (a0:Int) (a1:Int) (a2:Int) (r:Bool) (w:World) (h:impl_within.f a0 a1 a2=some r) :
  Calls Try.prog 113 #[.int .i64 a0,.int .i64 a1,.int .i64 a2] w fun e w'=>e=.returned (.bool r)∧Drawn0 w w':=by
 have H:(if a1≤a0 then (some (decide (a0≤a2))) else (some false))=some r:=h
 clear h
 by_cases c4:a1≤a0
 ·rw [if_pos c4] at H
  have c4b0:=decide_eq_true c4
  clear c4
  obtain rfl:=Option.some.inj H
  go_enter Try.func113,Try.ntmps113
  go_wp2
  go_ret
  exact ⟨zz7,zz6⟩
 rw [if_neg c4] at H
 have c4b0:=decide_eq_false c4
 clear c4
 obtain rfl:=Option.some.inj H
 go_enter Try.func113,Try.ntmps113
 go_wp2
 go_ret
 exact ⟨zz7,zz6⟩

/-! ### impl_isDate: function 153 -/
def impl_isDate.f (a0:Int):Option (Bool):=(impl_within.f a0 0 500).bind fun t430=>(some t430)
set_option maxHeartbeats 8000000 in
set_option maxRecDepth 100000 in
theorem impl_isDate.calls (a0:Int) (r:Bool) (w:World) (h:impl_isDate.f a0=some r) :
  Calls Try.prog 153 #[.int .i64 a0] w fun e w'=>e=.returned (.bool r)∧Drawn0 w w':=by
 have H:((impl_within.f a0 0 500).bind fun t430=>(some t430))=some r:=h
 clear h
 replace H:=Option.bind_eq_some_iff.mp H
 obtain ⟨t430,A20,H⟩:=H
 try dsimp only at H
 have A2:=Aside0.mk A20
 clear A20
 obtain rfl:=Option.some.inj H
 go_enter Try.func153,Try.ntmps153
 go_wp2_with (first|((with_reducible refine gate_callee (f:=113) rfl ?_);refine zgo 4 Try.func113 #[.int .i64 a0,.int .i64 0,.int .i64 500] ?_;(with_reducible refine (impl_within.calls a0 0 500 t430 _ A2.out).mono ?_);rintro e w' ⟨rfl,⟨nd,rfl⟩⟩;refine ⟨_,rfl,?_⟩))
 go_ret
 exact ⟨zz7,zz6⟩

/-! ### impl_IsJobs: function 101 -/
def impl_IsJobs.l0:Nat→List (S76)→Int→Int→Option (Bool)
 | 0,_,_,_=>none
 | k + 1,x8,x9,x10=>if x10<x9 then (if 0≤x10 then (if x10<(x8.length:Int) then ((impl_within.f ((rd_T76 x8 x10).f0) 1 50).bind fun t433=>(if t433=true then ((impl_within.f ((rd_T76 x8 x10).f1) 0 50).bind fun t434=>(if t434=true then ((impl_isDate.f ((rd_T76 x8 x10).f2)).bind fun t435=>(if t435=true then ((impl_isDate.f ((rd_T76 x8 x10).f3)).bind fun t436=>(if t436=true then (impl_IsJobs.l0 k x8 x9 (wrap64 (x10 + 1))) else (some false))) else (some false))) else (some false))) else (some false))) else (none)) else (none)) else (some true)
def impl_IsJobs.f (k:Nat) (l0:List (S76)):Option (Bool):=if (l0.length:Int)>8 then (some false) else (impl_IsJobs.l0 k l0 (l0.length:Int) 0)
theorem impl_IsJobs.mono_l:∀ k,(∀ y0 y1 y2,LeO (impl_IsJobs.l0 k y0 y1 y2) (impl_IsJobs.l0 (k + 1) y0 y1 y2))
 | 0=>fun _ _ _ r h=>by simp [impl_IsJobs.l0] at h
 | k + 1=>by
  have ih0:=impl_IsJobs.mono_l k
  ·intro y0 y1 y2
   unfold impl_IsJobs.l0
   repeat' first|(with_reducible first|apply ih0|exact LeO.refl _|exact LeO.none _|refine LeO.ite ?_ ?_|refine LeO.bind ?_ (fun _=>?_))|apply ih0|exact LeO.none _|refine LeO.ite ?_ ?_|refine LeO.bind ?_ (fun _=>?_)
theorem impl_IsJobs.mono:∀ a0 k,LeO (impl_IsJobs.f k a0) (impl_IsJobs.f (k + 1) a0):=by
 intro a0 k
 have ih0:=impl_IsJobs.mono_l k
 unfold impl_IsJobs.f
 repeat' first|(with_reducible first|apply ih0|exact LeO.refl _|exact LeO.none _|refine LeO.ite ?_ ?_|refine LeO.bind ?_ (fun _=>?_))|apply ih0|exact LeO.none _|refine LeO.ite ?_ ?_|refine LeO.bind ?_ (fun _=>?_)
set_option maxHeartbeats 8000000 in
set_option maxRecDepth 100000 in
theorem impl_IsJobs.calls (k:Nat) (A0:Option Addr) (c0:Nat) (l0:List (S76)) (r:Bool) (w:World) (hr0:Kd.C k76 w A0 l0.length l0) (hc0:l0.length≤c0) (h:impl_IsJobs.f k l0=some r) :
  Calls Try.prog 101 #[.slice A0 l0.length c0] w fun e w'=>e=.returned (.bool r)∧Below w.heap.size w w':=by
 have hu76:=Try.underlying76
 have HR0:=Aside0.mk hr0
 have HC0:=Aside0.mk hc0
 clear hr0 hc0
 have HB:=Aside0.mk (Below.refl w.heap.size w)
 have H:(if (l0.length:Int)>8 then (some false) else (impl_IsJobs.l0 k l0 (l0.length:Int) 0))=some r:=h
 clear h
 by_cases c2:(l0.length:Int)>8
 ·rw [if_pos c2] at H
  have c2b0:=decide_eq_true c2
  have c2b1:decide (8<l0.length)=true:=decide_eq_true (by omega)
  clear c2
  obtain rfl:=Option.some.inj H
  go_enter Try.func101,Try.ntmps101
  go_wp2
  go_ret
  exact ⟨zz1,zb⟩
 rw [if_neg c2] at H
 have c2b0:=decide_eq_false c2
 have c2b1:decide (8<l0.length)=false:=decide_eq_false (by omega)
 clear c2
 have H':=Aside0.mk H
 clear H
 go_enter Try.func101,Try.ntmps101
 go_wp2
 go_loopg [10] k (fun kq v10 w'=>∃ (x10_1:Int),v10=.int .i64 x10_1∧Aside0 (impl_IsJobs.l0 kq l0 (l0.length:Int) x10_1=some r)∧Aside0 (kq≤k)∧Aside0 (Below w.heap.size w w'))
 case atStart=>exact ⟨(0),zo,H',⟨Nat.le_refl _⟩,⟨zb⟩⟩
 case round=>
  clear H'
  obtain ⟨x10_1,rfl,HA,HK1,HB⟩:=hrel
  cases gk with
  | zero=>exact absurd HA.out (by simp [impl_IsJobs.l0])
  | succ k1=>
   have H:=HA.out
   clear HA
   simp only [impl_IsJobs.l0] at H
   by_cases c3:x10_1<(l0.length:Int)
   rotate_left
   ·rw [if_neg c3] at H
    have c3b0:=decide_eq_false c3
    clear c3
    obtain rfl:=Option.some.inj H
    go_wp2
    go_ret
    exact ⟨zz1,zb⟩
   rw [if_pos c3] at H
   have c3b0:=decide_eq_true c3
   clear c3
   by_cases c4:0≤x10_1
   rotate_left
   ·rw [if_neg c4] at H
    exact absurd H (by simp)
   rw [if_pos c4] at H
   have c4b0:=decide_eq_true c4
   clear c4
   by_cases c5:x10_1<(l0.length:Int)
   rotate_left
   ·rw [if_neg c5] at H
    exact absurd H (by simp)
   rw [if_pos c5] at H
   have c5b0:=decide_eq_true c5
   clear c5
   replace H:=Option.bind_eq_some_iff.mp H
   obtain ⟨t433,A60,H⟩:=H
   try dsimp only at H
   have A6:=Aside0.mk A60
   clear A60
   by_cases c7:t433=true
   rotate_left
   ·replace c7:=Bool.eq_false_iff.mpr c7
    subst c7
    rw [if_neg (show ¬ (false=true) by decide)] at H
    obtain rfl:=Option.some.inj H
    have p431:0≤(x10_1:Int):=of_decide_eq_true za
    have q431:x10_1<(l0.length:Int):=of_decide_eq_true za
    obtain ⟨ad431,e431,hx431_0,hx431_1,hx431_2,hx431_3⟩:=at_T76 HR0.out x10_1 p431 q431
    cases e431
    replace hx431_0:=zh_ HB hx431_0
    replace hx431_1:=zh_ HB hx431_1
    replace hx431_2:=zh_ HB hx431_2
    replace hx431_3:=zh_ HB hx431_3
    replace p431:=eq_true p431
    replace q431:=eq_true q431
    go_wp2_with (first|((with_reducible refine gate_dst (N:=4) rfl ?_);refine box_event ?hg (N:=4) ?hd (cs:=#[.int .i64 0,.int .i64 0,.int .i64 0,.int .i64 0]) (t:=76) ?hr ?_;(case hd=>rfl);(case hg=>rfl);(case hr=>first|(go_simp;done)|(go_simp;rfl));intro gb432 hg w22 hbox hb;have n0_:=zb1 hb;have n1_:=Aside0.mk (hbox);have n2_:=Aside0.mk ((by rw [hg];exact (below_size zb):w.heap.size≤gb432));have n3_:=Aside0.mk ((by rw [hg];exact (below_size zb):w.heap.size≤gb432));clear HB;have HB:=n0_;have BK432:=n1_;have GW432:=n2_;have GE432:=n3_;clear n0_ n1_ n2_ n3_;clear hb hbox hg;obtain ⟨hcz23_0,hcz23_1,hcz23_2,hcz23_3,hfz23_0,hfz23_1,hfz23_2,hfz23_3⟩:=zk4 BK432.out)|((with_reducible refine gate_callee (f:=113) rfl ?_);refine zgo 16 Try.func113 #[.int .i64 ((rd_T76 l0 x10_1).f0),.int .i64 1,.int .i64 50] ?_;(with_reducible refine (impl_within.calls ((rd_T76 l0 x10_1).f0) 1 50 false _ A6.out).mono ?_);rintro e w' ⟨rfl,⟨nd,rfl⟩⟩;refine ⟨_,rfl,?_⟩))
    go_ret
    exact ⟨zz1,zz38⟩
   subst c7
   rw [if_pos rfl] at H
   replace H:=Option.bind_eq_some_iff.mp H
   obtain ⟨t434,A80,H⟩:=H
   try dsimp only at H
   have A8:=Aside0.mk A80
   clear A80
   by_cases c9:t434=true
   rotate_left
   ·replace c9:=Bool.eq_false_iff.mpr c9
    subst c9
    rw [if_neg (show ¬ (false=true) by decide)] at H
    obtain rfl:=Option.some.inj H
    have p431:0≤(x10_1:Int):=of_decide_eq_true za
    have q431:x10_1<(l0.length:Int):=of_decide_eq_true za
    obtain ⟨ad431,e431,hx431_0,hx431_1,hx431_2,hx431_3⟩:=at_T76 HR0.out x10_1 p431 q431
    cases e431
    replace hx431_0:=zh_ HB hx431_0
    replace hx431_1:=zh_ HB hx431_1
    replace hx431_2:=zh_ HB hx431_2
    replace hx431_3:=zh_ HB hx431_3
    replace p431:=eq_true p431
    replace q431:=eq_true q431
    go_wp2_with (first|((with_reducible refine gate_dst (N:=4) rfl ?_);refine box_event ?hg (N:=4) ?hd (cs:=#[.int .i64 0,.int .i64 0,.int .i64 0,.int .i64 0]) (t:=76) ?hr ?_;(case hd=>rfl);(case hg=>rfl);(case hr=>first|(go_simp;done)|(go_simp;rfl));intro gb432 hg w20 hbox hb;have n0_:=zb1 hb;have n1_:=Aside0.mk (hbox);have n2_:=Aside0.mk ((by rw [hg];exact (below_size zb):w.heap.size≤gb432));have n3_:=Aside0.mk ((by rw [hg];exact (below_size zb):w.heap.size≤gb432));clear HB;have HB:=n0_;have BK432:=n1_;have GW432:=n2_;have GE432:=n3_;clear n0_ n1_ n2_ n3_;clear hb hbox hg;obtain ⟨hcz21_0,hcz21_1,hcz21_2,hcz21_3,hfz21_0,hfz21_1,hfz21_2,hfz21_3⟩:=zk4 BK432.out)|((with_reducible refine gate_callee (f:=113) rfl ?_);refine zgo 16 Try.func113 #[.int .i64 ((rd_T76 l0 x10_1).f0),.int .i64 1,.int .i64 50] ?_;(with_reducible refine (impl_within.calls ((rd_T76 l0 x10_1).f0) 1 50 true _ A6.out).mono ?_);rintro e w' ⟨rfl,⟨nd,rfl⟩⟩;refine ⟨_,rfl,?_⟩)|(go_at_call 113;(with_reducible refine (impl_within.calls ((rd_T76 l0 x10_1).f1) 0 50 false _ A8.out).mono ?_);rintro e w' ⟨rfl,⟨nd,rfl⟩⟩))
    go_ret
    exact ⟨zz1,zz38⟩
   subst c9
   rw [if_pos rfl] at H
   replace H:=Option.bind_eq_some_iff.mp H
   obtain ⟨t435,A100,H⟩:=H
   try dsimp only at H
   have A10:=Aside0.mk A100
   clear A100
   by_cases c11:t435=true
   rotate_left
   ·replace c11:=Bool.eq_false_iff.mpr c11
    subst c11
    rw [if_neg (show ¬ (false=true) by decide)] at H
    obtain rfl:=Option.some.inj H
    have p431:0≤(x10_1:Int):=of_decide_eq_true za
    have q431:x10_1<(l0.length:Int):=of_decide_eq_true za
    obtain ⟨ad431,e431,hx431_0,hx431_1,hx431_2,hx431_3⟩:=at_T76 HR0.out x10_1 p431 q431
    cases e431
    replace hx431_0:=zh_ HB hx431_0
    replace hx431_1:=zh_ HB hx431_1
    replace hx431_2:=zh_ HB hx431_2
    replace hx431_3:=zh_ HB hx431_3
    replace p431:=eq_true p431
    replace q431:=eq_true q431
    go_wp2_with (first|((with_reducible refine gate_dst (N:=4) rfl ?_);refine box_event ?hg (N:=4) ?hd (cs:=#[.int .i64 0,.int .i64 0,.int .i64 0,.int .i64 0]) (t:=76) ?hr ?_;(case hd=>rfl);(case hg=>rfl);(case hr=>first|(go_simp;done)|(go_simp;rfl));intro gb432 hg w18 hbox hb;have n0_:=zb1 hb;have n1_:=Aside0.mk (hbox);have n2_:=Aside0.mk ((by rw [hg];exact (below_size zb):w.heap.size≤gb432));have n3_:=Aside0.mk ((by rw [hg];exact (below_size zb):w.heap.size≤gb432));clear HB;have HB:=n0_;have BK432:=n1_;have GW432:=n2_;have GE432:=n3_;clear n0_ n1_ n2_ n3_;clear hb hbox hg;obtain ⟨hcz19_0,hcz19_1,hcz19_2,hcz19_3,hfz19_0,hfz19_1,hfz19_2,hfz19_3⟩:=zk4 BK432.out)|((with_reducible refine gate_callee (f:=113) rfl ?_);refine zgo 16 Try.func113 #[.int .i64 ((rd_T76 l0 x10_1).f0),.int .i64 1,.int .i64 50] ?_;(with_reducible refine (impl_within.calls ((rd_T76 l0 x10_1).f0) 1 50 true _ A6.out).mono ?_);rintro e w' ⟨rfl,⟨nd,rfl⟩⟩;refine ⟨_,rfl,?_⟩)|(go_at_call 113;(with_reducible refine (impl_within.calls ((rd_T76 l0 x10_1).f1) 0 50 true _ A8.out).mono ?_);rintro e w' ⟨rfl,⟨nd,rfl⟩⟩)|(go_at_call 153;(with_reducible refine (impl_isDate.calls ((rd_T76 l0 x10_1).f2) false _ A10.out).mono ?_);rintro e w' ⟨rfl,⟨nd,rfl⟩⟩))
    go_ret
    exact ⟨zz1,zz38⟩
   subst c11
   rw [if_pos rfl] at H
   replace H:=Option.bind_eq_some_iff.mp H
   obtain ⟨t436,A120,H⟩:=H
   try dsimp only at H
   have A12:=Aside0.mk A120
   clear A120
   by_cases c13:t436=true
   ·subst c13
    rw [if_pos rfl] at H
    have H':=Aside0.mk H
    clear H
    have p431:0≤(x10_1:Int):=of_decide_eq_true za
    have q431:x10_1<(l0.length:Int):=of_decide_eq_true za
    obtain ⟨ad431,e431,hx431_0,hx431_1,hx431_2,hx431_3⟩:=at_T76 HR0.out x10_1 p431 q431
    cases e431
    replace hx431_0:=zh_ HB hx431_0
    replace hx431_1:=zh_ HB hx431_1
    replace hx431_2:=zh_ HB hx431_2
    replace hx431_3:=zh_ HB hx431_3
    replace p431:=eq_true p431
    replace q431:=eq_true q431
    go_wp2_with (first|((with_reducible refine gate_dst (N:=4) rfl ?_);refine box_event ?hg (N:=4) ?hd (cs:=#[.int .i64 0,.int .i64 0,.int .i64 0,.int .i64 0]) (t:=76) ?hr ?_;(case hd=>rfl);(case hg=>rfl);(case hr=>first|(go_simp;done)|(go_simp;rfl));intro gb432 hg w14 hbox hb;have n0_:=zb1 hb;have n1_:=Aside0.mk (hbox);have n2_:=Aside0.mk ((by rw [hg];exact (below_size zb):w.heap.size≤gb432));have n3_:=Aside0.mk ((by rw [hg];exact (below_size zb):w.heap.size≤gb432));clear HB;have HB:=n0_;have BK432:=n1_;have GW432:=n2_;have GE432:=n3_;clear n0_ n1_ n2_ n3_;clear hb hbox hg;obtain ⟨hcz15_0,hcz15_1,hcz15_2,hcz15_3,hfz15_0,hfz15_1,hfz15_2,hfz15_3⟩:=zk4 BK432.out)|((with_reducible refine gate_callee (f:=113) rfl ?_);refine zgo 16 Try.func113 #[.int .i64 ((rd_T76 l0 x10_1).f0),.int .i64 1,.int .i64 50] ?_;(with_reducible refine (impl_within.calls ((rd_T76 l0 x10_1).f0) 1 50 true _ A6.out).mono ?_);rintro e w' ⟨rfl,⟨nd,rfl⟩⟩;refine ⟨_,rfl,?_⟩)|(go_at_call 113;(with_reducible refine (impl_within.calls ((rd_T76 l0 x10_1).f1) 0 50 true _ A8.out).mono ?_);rintro e w' ⟨rfl,⟨nd,rfl⟩⟩)|(go_at_call 153;(with_reducible refine (impl_isDate.calls ((rd_T76 l0 x10_1).f2) true _ A10.out).mono ?_);rintro e w' ⟨rfl,⟨nd,rfl⟩⟩)|(go_at_call 153;(with_reducible refine (impl_isDate.calls ((rd_T76 l0 x10_1).f3) true _ A12.out).mono ?_);rintro e w' ⟨rfl,⟨nd,rfl⟩⟩))
    go_roundg k1
    case measure=>have:=HK1.out;omega
    case rel=>exact ⟨(wrap64 (x10_1 + 1)),zo,H',⟨by have:=HK1.out;omega⟩,⟨zz38⟩⟩
   replace c13:=Bool.eq_false_iff.mpr c13
   subst c13
   rw [if_neg (show ¬ (false=true) by decide)] at H
   obtain rfl:=Option.some.inj H
   have p431:0≤(x10_1:Int):=of_decide_eq_true za
   have q431:x10_1<(l0.length:Int):=of_decide_eq_true za
   obtain ⟨ad431,e431,hx431_0,hx431_1,hx431_2,hx431_3⟩:=at_T76 HR0.out x10_1 p431 q431
   cases e431
   replace hx431_0:=zh_ HB hx431_0
   replace hx431_1:=zh_ HB hx431_1
   replace hx431_2:=zh_ HB hx431_2
   replace hx431_3:=zh_ HB hx431_3
   replace p431:=eq_true p431
   replace q431:=eq_true q431
   go_wp2_with (first|((with_reducible refine gate_dst (N:=4) rfl ?_);refine box_event ?hg (N:=4) ?hd (cs:=#[.int .i64 0,.int .i64 0,.int .i64 0,.int .i64 0]) (t:=76) ?hr ?_;(case hd=>rfl);(case hg=>rfl);(case hr=>first|(go_simp;done)|(go_simp;rfl));intro gb432 hg w16 hbox hb;have n0_:=zb1 hb;have n1_:=Aside0.mk (hbox);have n2_:=Aside0.mk ((by rw [hg];exact (below_size zb):w.heap.size≤gb432));have n3_:=Aside0.mk ((by rw [hg];exact (below_size zb):w.heap.size≤gb432));clear HB;have HB:=n0_;have BK432:=n1_;have GW432:=n2_;have GE432:=n3_;clear n0_ n1_ n2_ n3_;clear hb hbox hg;obtain ⟨hcz17_0,hcz17_1,hcz17_2,hcz17_3,hfz17_0,hfz17_1,hfz17_2,hfz17_3⟩:=zk4 BK432.out)|((with_reducible refine gate_callee (f:=113) rfl ?_);refine zgo 16 Try.func113 #[.int .i64 ((rd_T76 l0 x10_1).f0),.int .i64 1,.int .i64 50] ?_;(with_reducible refine (impl_within.calls ((rd_T76 l0 x10_1).f0) 1 50 true _ A6.out).mono ?_);rintro e w' ⟨rfl,⟨nd,rfl⟩⟩;refine ⟨_,rfl,?_⟩)|(go_at_call 113;(with_reducible refine (impl_within.calls ((rd_T76 l0 x10_1).f1) 0 50 true _ A8.out).mono ?_);rintro e w' ⟨rfl,⟨nd,rfl⟩⟩)|(go_at_call 153;(with_reducible refine (impl_isDate.calls ((rd_T76 l0 x10_1).f2) true _ A10.out).mono ?_);rintro e w' ⟨rfl,⟨nd,rfl⟩⟩)|(go_at_call 153;(with_reducible refine (impl_isDate.calls ((rd_T76 l0 x10_1).f3) false _ A12.out).mono ?_);rintro e w' ⟨rfl,⟨nd,rfl⟩⟩))
   go_ret
   exact ⟨zz1,zz38⟩

/-! ### impl_isPlain: function 102 -/
def impl_isPlain.l0:Nat→List (S76)→Int→Int→Option (Bool)
 | 0,_,_,_=>none
 | k + 1,x5,x6,x7=>if x7<x6 then (if 0≤x7 then (if x7<(x5.length:Int) then (if ((rd_T76 x5 x7).f2)=0 then (impl_isPlain.l0 k x5 x6 (wrap64 (x7 + 1))) else (some false)) else (none)) else (none)) else (some true)
def impl_isPlain.f (k:Nat) (l0:List (S76)):Option (Bool):=impl_isPlain.l0 k l0 (l0.length:Int) 0
theorem impl_isPlain.mono_l:∀ k,(∀ y0 y1 y2,LeO (impl_isPlain.l0 k y0 y1 y2) (impl_isPlain.l0 (k + 1) y0 y1 y2))
 | 0=>fun _ _ _ r h=>by simp [impl_isPlain.l0] at h
 | k + 1=>by
  have ih0:=impl_isPlain.mono_l k
  ·intro y0 y1 y2
   unfold impl_isPlain.l0
   repeat' first|(with_reducible first|apply ih0|exact LeO.refl _|exact LeO.none _|refine LeO.ite ?_ ?_|refine LeO.bind ?_ (fun _=>?_))|apply ih0|exact LeO.none _|refine LeO.ite ?_ ?_|refine LeO.bind ?_ (fun _=>?_)
theorem impl_isPlain.mono:∀ a0 k,LeO (impl_isPlain.f k a0) (impl_isPlain.f (k + 1) a0):=by
 intro a0 k
 have ih0:=impl_isPlain.mono_l k
 unfold impl_isPlain.f
 repeat' first|(with_reducible first|apply ih0|exact LeO.refl _|exact LeO.none _|refine LeO.ite ?_ ?_|refine LeO.bind ?_ (fun _=>?_))|apply ih0|exact LeO.none _|refine LeO.ite ?_ ?_|refine LeO.bind ?_ (fun _=>?_)
set_option maxHeartbeats 8000000 in
set_option maxRecDepth 100000 in
theorem impl_isPlain.calls (k:Nat) (A0:Option Addr) (c0:Nat) (l0:List (S76)) (r:Bool) (w:World) (hr0:Kd.C k76 w A0 l0.length l0) (hc0:l0.length≤c0) (h:impl_isPlain.f k l0=some r) :
  Calls Try.prog 102 #[.slice A0 l0.length c0] w fun e w'=>e=.returned (.bool r)∧Below w.heap.size w w':=by
 have hu76:=Try.underlying76
 have HR0:=Aside0.mk hr0
 have HC0:=Aside0.mk hc0
 clear hr0 hc0
 have HB:=Aside0.mk (Below.refl w.heap.size w)
 have H:(impl_isPlain.l0 k l0 (l0.length:Int) 0)=some r:=h
 clear h
 have H':=Aside0.mk H
 clear H
 go_enter Try.func102,Try.ntmps102
 go_wp2
 go_loopg [7] k (fun kq v7 w'=>∃ (x7_1:Int),v7=.int .i64 x7_1∧Aside0 (impl_isPlain.l0 kq l0 (l0.length:Int) x7_1=some r)∧Aside0 (kq≤k)∧Aside0 (Below w.heap.size w w'))
 case atStart=>exact ⟨(0),zo,H',⟨Nat.le_refl _⟩,⟨zb⟩⟩
 case round=>
  clear H'
  try clear c1
  obtain ⟨x7_1,rfl,HA,HK1,HB⟩:=hrel
  cases gk with
  | zero=>exact absurd HA.out (by simp [impl_isPlain.l0])
  | succ k1=>
   have H:=HA.out
   clear HA
   simp only [impl_isPlain.l0] at H
   by_cases c2:x7_1<(l0.length:Int)
   rotate_left
   ·rw [if_neg c2] at H
    have c2b0:=decide_eq_false c2
    clear c2
    obtain rfl:=Option.some.inj H
    go_wp2
    go_ret
    exact ⟨zz1,zb⟩
   rw [if_pos c2] at H
   have c2b0:=decide_eq_true c2
   clear c2
   by_cases c3:0≤x7_1
   rotate_left
   ·rw [if_neg c3] at H
    exact absurd H (by simp)
   rw [if_pos c3] at H
   have c3b0:=decide_eq_true c3
   clear c3
   by_cases c4:x7_1<(l0.length:Int)
   rotate_left
   ·rw [if_neg c4] at H
    exact absurd H (by simp)
   rw [if_pos c4] at H
   have c4b0:=decide_eq_true c4
   clear c4
   by_cases c5:((rd_T76 l0 x7_1).f2)=0
   rotate_left
   ·rw [if_neg c5] at H
    have c5b0:(((rd_T76 l0 x7_1).f2) == 0)=false:=beq_eq_false_iff_ne.mpr c5
    have c5b1:(((rd_T76 l0 x7_1).f2) != 0)=true:=bne_iff_ne.mpr c5
    obtain rfl:=Option.some.inj H
    have p437:0≤(x7_1:Int):=of_decide_eq_true za
    have q437:x7_1<(l0.length:Int):=of_decide_eq_true za
    obtain ⟨ad437,e437,hx437_0,hx437_1,hx437_2,hx437_3⟩:=at_T76 HR0.out x7_1 p437 q437
    cases e437
    replace hx437_0:=zh_ HB hx437_0
    replace hx437_1:=zh_ HB hx437_1
    replace hx437_2:=zh_ HB hx437_2
    replace hx437_3:=zh_ HB hx437_3
    replace p437:=eq_true p437
    replace q437:=eq_true q437
    go_wp2_with (first|((with_reducible refine gate_dst (N:=4) rfl ?_);refine box_event ?hg (N:=4) ?hd (cs:=#[.int .i64 0,.int .i64 0,.int .i64 0,.int .i64 0]) (t:=76) ?hr ?_;(case hd=>rfl);(case hg=>rfl);(case hr=>first|(go_simp;done)|(go_simp;rfl));intro gb438 hg w8 hbox hb;have n0_:=zb1 hb;have n1_:=Aside0.mk (hbox);have n2_:=Aside0.mk ((by rw [hg];exact (below_size zb):w.heap.size≤gb438));have n3_:=Aside0.mk ((by rw [hg];exact (below_size zb):w.heap.size≤gb438));clear HB;have HB:=n0_;have BK438:=n1_;have GW438:=n2_;have GE438:=n3_;clear n0_ n1_ n2_ n3_;clear hb hbox hg;obtain ⟨hcz9_0,hcz9_1,hcz9_2,hcz9_3,hfz9_0,hfz9_1,hfz9_2,hfz9_3⟩:=zk4 BK438.out))
    go_ret
    exact ⟨zz1,by repeat (first|(with_reducible first|exact HB.out|apply below_alloc|apply pw_below_drewN|apply below_drew1|refine below_set ?_ GE438.out)|exact HB.out)⟩
   rw [if_pos c5] at H
   have c5b0:(((rd_T76 l0 x7_1).f2) == 0)=true:=beq_iff_eq.mpr c5
   have c5b1:(((rd_T76 l0 x7_1).f2) != 0)=false:=bne_eq_false_iff_eq.mpr c5
   clear c5
   have H':=Aside0.mk H
   clear H
   have p437:0≤(x7_1:Int):=of_decide_eq_true za
   have q437:x7_1<(l0.length:Int):=of_decide_eq_true za
   obtain ⟨ad437,e437,hx437_0,hx437_1,hx437_2,hx437_3⟩:=at_T76 HR0.out x7_1 p437 q437
   cases e437
   replace hx437_0:=zh_ HB hx437_0
   replace hx437_1:=zh_ HB hx437_1
   replace hx437_2:=zh_ HB hx437_2
   replace hx437_3:=zh_ HB hx437_3
   replace p437:=eq_true p437
   replace q437:=eq_true q437
   go_wp2_with (first|((with_reducible refine gate_dst (N:=4) rfl ?_);refine box_event ?hg (N:=4) ?hd (cs:=#[.int .i64 0,.int .i64 0,.int .i64 0,.int .i64 0]) (t:=76) ?hr ?_;(case hd=>rfl);(case hg=>rfl);(case hr=>first|(go_simp;done)|(go_simp;rfl));intro gb438 hg w6 hbox hb;have n0_:=zb1 hb;have n1_:=Aside0.mk (hbox);have n2_:=Aside0.mk ((by rw [hg];exact (below_size zb):w.heap.size≤gb438));have n3_:=Aside0.mk ((by rw [hg];exact (below_size zb):w.heap.size≤gb438));clear HB;have HB:=n0_;have BK438:=n1_;have GW438:=n2_;have GE438:=n3_;clear n0_ n1_ n2_ n3_;clear hb hbox hg;obtain ⟨hcz7_0,hcz7_1,hcz7_2,hcz7_3,hfz7_0,hfz7_1,hfz7_2,hfz7_3⟩:=zk4 BK438.out))
   go_roundg k1
   case measure=>have:=HK1.out;omega
   case rel=>exact ⟨(wrap64 (x7_1 + 1)),zo,H',⟨by have:=HK1.out;omega⟩,⟨by repeat (first|(with_reducible first|exact HB.out|apply below_alloc|apply pw_below_drewN|apply below_drew1|refine below_set ?_ GE438.out)|exact HB.out)⟩⟩

/-! ### impl_IsPlain: function 52 -/
def impl_IsPlain.f (k:Nat) (l0:List (S76)):Option (Bool):=(impl_IsJobs.f k l0).bind fun t439=>(if t439=true then ((impl_isPlain.f k l0).bind fun t440=>(some t440)) else (some false))
theorem impl_IsPlain.mono:∀ a0 k,LeO (impl_IsPlain.f k a0) (impl_IsPlain.f (k + 1) a0):=by
 intro a0 k
 unfold impl_IsPlain.f
 repeat' first|(with_reducible first|exact impl_IsJobs.mono _ _|exact impl_isPlain.mono _ _|exact LeO.refl _|exact LeO.none _|refine LeO.ite ?_ ?_|refine LeO.bind ?_ (fun _=>?_))|exact impl_IsJobs.mono _ _|exact impl_isPlain.mono _ _|exact LeO.none _|refine LeO.ite ?_ ?_|refine LeO.bind ?_ (fun _=>?_)
set_option maxHeartbeats 8000000 in
set_option maxRecDepth 100000 in
theorem impl_IsPlain.calls (k:Nat) (A0:Option Addr) (c0:Nat) (l0:List (S76)) (r:Bool) (w:World) (hr0:Kd.C k76 w A0 l0.length l0) (hc0:l0.length≤c0) (h:impl_IsPlain.f k l0=some r) :
  Calls Try.prog 52 #[.slice A0 l0.length c0] w fun e w'=>e=.returned (.bool r)∧Below w.heap.size w w':=by
 have HR0:=Aside0.mk hr0
 have HC0:=Aside0.mk hc0
 clear hr0 hc0
 have HB:=Aside0.mk (Below.refl w.heap.size w)
 have H:((impl_IsJobs.f k l0).bind fun t439=>(if t439=true then ((impl_isPlain.f k l0).bind fun t440=>(some t440)) else (some false)))=some r:=h
 clear h
 replace H:=Option.bind_eq_some_iff.mp H
 obtain ⟨t439,A20,H⟩:=H
 try dsimp only at H
 have A2:=Aside0.mk A20
 clear A20
 by_cases c3:t439=true
 rotate_left
 ·replace c3:=Bool.eq_false_iff.mpr c3
  subst c3
  rw [if_neg (show ¬ (false=true) by decide)] at H
  obtain rfl:=Option.some.inj H
  go_enter Try.func52,Try.ntmps52
  go_wp2_with (first|((with_reducible refine gate_callee (f:=101) rfl ?_);refine zgo 4 Try.func101 #[.slice A0 l0.length c0] ?_;(with_reducible refine (impl_IsJobs.calls k _ _ l0 false _ ?side1 ?side2 A2.out).mono ?_);(case side1=>exact zC HR0.out);(case side2=>exact HC0.out);rintro e w7 ⟨rfl,hb⟩;refine ⟨_,rfl,?_⟩;replace HB:=zb1 hb;(try clear hb)))
  go_ret
  exact ⟨zz1,zb⟩
 subst c3
 rw [if_pos rfl] at H
 replace H:=Option.bind_eq_some_iff.mp H
 obtain ⟨t440,A40,H⟩:=H
 try dsimp only at H
 have A4:=Aside0.mk A40
 clear A40
 obtain rfl:=Option.some.inj H
 go_enter Try.func52,Try.ntmps52
 go_wp2_with (first|((with_reducible refine gate_callee (f:=101) rfl ?_);refine zgo 4 Try.func101 #[.slice A0 l0.length c0] ?_;(with_reducible refine (impl_IsJobs.calls k _ _ l0 true _ ?side1 ?side2 A2.out).mono ?_);(case side1=>exact zC HR0.out);(case side2=>exact HC0.out);rintro e w5 ⟨rfl,hb⟩;refine ⟨_,rfl,?_⟩;replace HB:=zb1 hb;(try clear hb))|(go_at_call 102;(with_reducible refine (impl_isPlain.calls k _ _ l0 t440 _ ?side1 ?side2 A4.out).mono ?_);(case side1=>exact zC (Kd.C_below HR0.out HB.out));(case side2=>exact HC0.out);rintro e w6 ⟨rfl,hb⟩;replace HB:=zb1 hb;(try clear hb)))
 go_ret
 exact ⟨zz1,zb⟩

/-! ### impl_isNumber: function 114 -/
def impl_isNumber.f (a0:Int) (a1:Int):Option (Bool):=(impl_within.f a0 0 (wrap64 (a1 - 1))).bind fun t441=>(some t441)
set_option maxHeartbeats 8000000 in
set_option maxRecDepth 100000 in
theorem impl_isNumber.calls (a0:Int) (a1:Int) (r:Bool) (w:World) (h:impl_isNumber.f a0 a1=some r) :
  Calls Try.prog 114 #[.int .i64 a0,.int .i64 a1] w fun e w'=>e=.returned (.bool r)∧Drawn0 w w':=by
 have H:((impl_within.f a0 0 (wrap64 (a1 - 1))).bind fun t441=>(some t441))=some r:=h
 clear h
 replace H:=Option.bind_eq_some_iff.mp H
 obtain ⟨t441,A30,H⟩:=H
 try dsimp only at H
 have A3:=Aside0.mk A30
 clear A30
 obtain rfl:=Option.some.inj H
 go_enter Try.func114,Try.ntmps114
 go_wp2_with (first|((with_reducible refine gate_callee (f:=113) rfl ?_);refine zgo 8 Try.func113 #[.int .i64 a0,.int .i64 0,.int .i64 (wrap64 (a1 - 1))] ?_;(with_reducible refine (impl_within.calls a0 0 (wrap64 (a1 - 1)) t441 _ A3.out).mono ?_);rintro e w' ⟨rfl,⟨nd,rfl⟩⟩;refine ⟨_,rfl,?_⟩))
 go_ret
 exact ⟨zz7,zz6⟩

end Go.Proofs.Ytbcfmegepkhlpaa.XFnShared
-- minified
