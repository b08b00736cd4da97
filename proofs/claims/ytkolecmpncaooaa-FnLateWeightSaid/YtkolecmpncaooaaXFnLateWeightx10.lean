-- Written by a program of this session (the kit's print, widened). Proved here: what each function answers, for the arguments that its contract names.
import Derived.Test.YtkolecmpncaooaaXFnLateWeightx0
import Derived.Test.YtkolecmpncaooaaXFnLateWeightx9
namespace Go.Proofs.Ytkolecmpncaooaa.XFnLateWeight
open Go.RowKit Go.Proofs.YtkolecmpncaooaaW.PrintWords Go.Proofs.YtkolecmpncaooaaW.PrintLast Go.Proofs.YtkolecmpncaooaaW.PrintMore
attribute [local go_sem] max2_int min2_int max_two min_two max_three min_three max_four min_four   -- for this text's walks alone
attribute [local go_sem] idxA_51_0 idxA_51_1 fldS_45_0 fldS_45_1 fldS_45_2 fldS_96_0 fldS_96_1 fldS_96_2
set_option linter.unusedVariables false
set_option linter.unusedSimpArgs false

/-! ### spec_l4Free: function 62 -/
def spec_l4Free.l0:Nat→List (S31)→Int→Option (Bool)
 | 0,_,_=>none
 | k + 1,x0,x3=>if x3<(x0.length:Int) then (if 0≤x3 then (if ((rd_T31 x0 x3).f2)>0 then (some false) else (spec_l4Free.l0 k x0 (wrap64 (x3 + 1)))) else (none)) else (some true)
def spec_l4Free.f (k:Nat) (l0:List (S31)):Option (Bool):=spec_l4Free.l0 k l0 0
theorem spec_l4Free.mono_l:∀ k,(∀ y0 y1,LeO (spec_l4Free.l0 k y0 y1) (spec_l4Free.l0 (k + 1) y0 y1))
 | 0=>fun _ _ r h=>by simp [spec_l4Free.l0] at h
 | k + 1=>by
  have ih0:=spec_l4Free.mono_l k
  ·intro y0 y1
   unfold spec_l4Free.l0
   repeat' first|(with_reducible first|apply ih0|exact LeO.refl _|exact LeO.none _|refine LeO.ite ?_ ?_|refine LeO.bind ?_ (fun _=>?_))|apply ih0|exact LeO.none _|refine LeO.ite ?_ ?_|refine LeO.bind ?_ (fun _=>?_)
theorem spec_l4Free.mono:∀ a0 k,LeO (spec_l4Free.f k a0) (spec_l4Free.f (k + 1) a0):=by
 intro a0 k
 have ih0:=spec_l4Free.mono_l k
 unfold spec_l4Free.f
 repeat' first|(with_reducible first|apply ih0|exact LeO.refl _|exact LeO.none _|refine LeO.ite ?_ ?_|refine LeO.bind ?_ (fun _=>?_))|apply ih0|exact LeO.none _|refine LeO.ite ?_ ?_|refine LeO.bind ?_ (fun _=>?_)
set_option maxHeartbeats 8000000 in
set_option maxRecDepth 100000 in
theorem spec_l4Free.calls (k:Nat) (A0:Option Addr) (c0:Nat) (l0:List (S31)) (r:Bool) (w:World) (hr0:Kd.C k31 w A0 l0.length l0) (hc0:l0.length≤c0) (h:spec_l4Free.f k l0=some r) :
  Calls Try.prog 62 #[.slice A0 l0.length c0] w fun e w'=>e=.returned (.bool r)∧Drawn0 w w':=by
 have HR0:=Aside0.mk hr0
 have HC0:=Aside0.mk hc0
 clear hr0 hc0
 have H:(spec_l4Free.l0 k l0 0)=some r:=h
 clear h
 have H':=Aside0.mk H
 clear H
 go_enter Try.func62,Try.ntmps62
 go_wp2
 go_loopg [3] k (fun kq v3 w'=>∃ (x3_1:Int),v3=.int .i64 x3_1∧Aside0 (spec_l4Free.l0 kq l0 x3_1=some r)∧Aside0 (kq≤k)∧Drawn0 w w')
 case atStart=>exact ⟨(0),zo,H',⟨Nat.le_refl _⟩,zz5⟩
 case round=>
  clear H'
  obtain ⟨x3_1,rfl,HA,HK1,⟨m1,rfl⟩⟩:=hrel
  cases gk with
  | zero=>exact absurd HA.out (by simp [spec_l4Free.l0])
  | succ k1=>
   have H:=HA.out
   clear HA
   simp only [spec_l4Free.l0] at H
   by_cases c2:x3_1<(l0.length:Int)
   rotate_left
   ·rw [if_neg c2] at H
    have c2b0:=decide_eq_false c2
    clear c2
    obtain rfl:=Option.some.inj H
    go_wp2
    go_ret
    exact ⟨zz7,zz5⟩
   rw [if_pos c2] at H
   have c2b0:=decide_eq_true c2
   clear c2
   by_cases c3:0≤x3_1
   rotate_left
   ·rw [if_neg c3] at H
    exact absurd H (by simp)
   rw [if_pos c3] at H
   have c3b0:=decide_eq_true c3
   clear c3
   by_cases c4:((rd_T31 l0 x3_1).f2)>0
   ·rw [if_pos c4] at H
    have c4b0:=decide_eq_true c4
    clear c4
    obtain rfl:=Option.some.inj H
    have p309:0≤(x3_1:Int):=of_decide_eq_true za
    have q309:x3_1<(l0.length:Int):=of_decide_eq_true za
    obtain ⟨ad309,e309,hx309_0,hx309_1,hx309_2,hx309_3⟩:=at_T31 HR0.out x3_1 p309 q309
    cases e309
    replace p309:=eq_true p309
    replace q309:=eq_true q309
    go_wp2
    go_ret
    exact ⟨zz7,zz5⟩
   rw [if_neg c4] at H
   have c4b0:=decide_eq_false c4
   clear c4
   have H':=Aside0.mk H
   clear H
   have p309:0≤(x3_1:Int):=of_decide_eq_true za
   have q309:x3_1<(l0.length:Int):=of_decide_eq_true za
   obtain ⟨ad309,e309,hx309_0,hx309_1,hx309_2,hx309_3⟩:=at_T31 HR0.out x3_1 p309 q309
   cases e309
   replace p309:=eq_true p309
   replace q309:=eq_true q309
   go_wp2
   go_roundg k1
   case measure=>have:=HK1.out;omega
   case rel=>exact ⟨(wrap64 (x3_1 + 1)),zo,H',⟨by have:=HK1.out;omega⟩,zz5⟩

/-! ### spec_l6Good: function 28 -/
def spec_l6Good.f (k:Nat) (l0:List (S31)):Option (Bool):=(spec_l2Good.f k l0).bind fun t310=>(if t310=true then ((spec_l4Free.f k l0).bind fun t311=>(some t311)) else (some false))
theorem spec_l6Good.mono:∀ a0 k,LeO (spec_l6Good.f k a0) (spec_l6Good.f (k + 1) a0):=by
 intro a0 k
 unfold spec_l6Good.f
 repeat' first|(with_reducible first|exact spec_l2Good.mono _ _|exact spec_l4Free.mono _ _|exact LeO.refl _|exact LeO.none _|refine LeO.ite ?_ ?_|refine LeO.bind ?_ (fun _=>?_))|exact spec_l2Good.mono _ _|exact spec_l4Free.mono _ _|exact LeO.none _|refine LeO.ite ?_ ?_|refine LeO.bind ?_ (fun _=>?_)
set_option maxHeartbeats 8000000 in
set_option maxRecDepth 100000 in
theorem spec_l6Good.calls (k:Nat) (A0:Option Addr) (c0:Nat) (l0:List (S31)) (r:Bool) (w:World) (hr0:Kd.C k31 w A0 l0.length l0) (hc0:l0.length≤c0) (h:spec_l6Good.f k l0=some r) :
  Calls Try.prog 28 #[.slice A0 l0.length c0] w fun e w'=>e=.returned (.bool r)∧Below w.heap.size w w':=by
 have HR0:=Aside0.mk hr0
 have HC0:=Aside0.mk hc0
 clear hr0 hc0
 have HB:=Aside0.mk (Below.refl w.heap.size w)
 have H:((spec_l2Good.f k l0).bind fun t310=>(if t310=true then ((spec_l4Free.f k l0).bind fun t311=>(some t311)) else (some false)))=some r:=h
 clear h
 replace H:=Option.bind_eq_some_iff.mp H
 obtain ⟨t310,A20,H⟩:=H
 try dsimp only at H
 have A2:=Aside0.mk A20
 clear A20
 by_cases c3:t310=true
 rotate_left
 ·replace c3:=Bool.eq_false_iff.mpr c3
  subst c3
  rw [if_neg (show ¬ (false=true) by decide)] at H
  obtain rfl:=Option.some.inj H
  go_enter Try.func28,Try.ntmps28
  go_wp2_with (first|((with_reducible refine gate_callee (f:=61) rfl ?_);refine zgo 4 Try.func61 #[.slice A0 l0.length c0] ?_;(with_reducible refine (spec_l2Good.calls k _ _ l0 false _ ?side1 ?side2 A2.out).mono ?_);(case side1=>exact zC HR0.out);(case side2=>exact HC0.out);rintro e w6 ⟨rfl,hb⟩;refine ⟨_,rfl,?_⟩;replace HB:=zb1 hb;(try clear hb)))
  go_ret
  exact ⟨zz0,zb⟩
 subst c3
 rw [if_pos rfl] at H
 replace H:=Option.bind_eq_some_iff.mp H
 obtain ⟨t311,A40,H⟩:=H
 try dsimp only at H
 have A4:=Aside0.mk A40
 clear A40
 obtain rfl:=Option.some.inj H
 go_enter Try.func28,Try.ntmps28
 go_wp2_with (first|((with_reducible refine gate_callee (f:=61) rfl ?_);refine zgo 4 Try.func61 #[.slice A0 l0.length c0] ?_;(with_reducible refine (spec_l2Good.calls k _ _ l0 true _ ?side1 ?side2 A2.out).mono ?_);(case side1=>exact zC HR0.out);(case side2=>exact HC0.out);rintro e w5 ⟨rfl,hb⟩;refine ⟨_,rfl,?_⟩;replace HB:=zb1 hb;(try clear hb))|(go_at_call 62;(with_reducible refine (spec_l4Free.calls k _ _ l0 t311 _ ?side1 ?side2 A4.out).mono ?_);(case side1=>exact zC (Kd.C_below HR0.out HB.out));(case side2=>exact HC0.out);rintro e w' ⟨rfl,⟨nd,rfl⟩⟩))
 go_ret
 exact ⟨zz0,zb⟩

/-! ### spec_l1Most: function 63 -/
def spec_l1Most.f (a0:Int) (a1:Int):Option (Int):=if a0>a1 then (some a0) else (some a1)
set_option maxHeartbeats 8000000 in
set_option maxRecDepth 100000 in
theorem spec_l1Most.calls (a0:Int) (a1:Int) (r:Int) (w:World) (h:spec_l1Most.f a0 a1=some r) :
  Calls Try.prog 63 #[.int .i64 a0,.int .i64 a1] w fun e w'=>e=.returned (.int .i64 r)∧Drawn0 w w':=by
 have H:(if a0>a1 then (some a0) else (some a1))=some r:=h
 clear h
 by_cases c3:a0>a1
 ·rw [if_pos c3] at H
  have c3b0:=decide_eq_true c3
  clear c3
  obtain rfl:=Option.some.inj H
  go_enter Try.func63,Try.ntmps63
  go_wp2
  go_ret
  exact ⟨zz7,zz5⟩
 rw [if_neg c3] at H
 have c3b0:=decide_eq_false c3
 clear c3
 obtain rfl:=Option.some.inj H
 go_enter Try.func63,Try.ntmps63
 go_wp2
 go_ret
 exact ⟨zz7,zz5⟩

/-! ### spec_l2Last: function 29 -/
def spec_l2Last.l0:Nat→List Int→Int→Int→Option (Int)
 | 0,_,_,_=>none
 | k + 1,x0,x3,x4=>if x4<(x0.length:Int) then (if 0≤x4 then ((spec_l1Most.f x3 (rd x0 x4)).bind fun t313=>(spec_l2Last.l0 k x0 t313 (wrap64 (x4 + 1)))) else (none)) else (some x3)
def spec_l2Last.f (k:Nat) (l0:List Int):Option (Int):=spec_l2Last.l0 k l0 0 0
theorem spec_l2Last.mono_l:∀ k,(∀ y0 y1 y2,LeO (spec_l2Last.l0 k y0 y1 y2) (spec_l2Last.l0 (k + 1) y0 y1 y2))
 | 0=>fun _ _ _ r h=>by simp [spec_l2Last.l0] at h
 | k + 1=>by
  have ih0:=spec_l2Last.mono_l k
  ·intro y0 y1 y2
   unfold spec_l2Last.l0
   repeat' first|(with_reducible first|apply ih0|exact LeO.refl _|exact LeO.none _|refine LeO.ite ?_ ?_|refine LeO.bind ?_ (fun _=>?_))|apply ih0|exact LeO.none _|refine LeO.ite ?_ ?_|refine LeO.bind ?_ (fun _=>?_)
theorem spec_l2Last.mono:∀ a0 k,LeO (spec_l2Last.f k a0) (spec_l2Last.f (k + 1) a0):=by
 intro a0 k
 have ih0:=spec_l2Last.mono_l k
 unfold spec_l2Last.f
 repeat' first|(with_reducible first|apply ih0|exact LeO.refl _|exact LeO.none _|refine LeO.ite ?_ ?_|refine LeO.bind ?_ (fun _=>?_))|apply ih0|exact LeO.none _|refine LeO.ite ?_ ?_|refine LeO.bind ?_ (fun _=>?_)
set_option maxHeartbeats 8000000 in
set_option maxRecDepth 100000 in
theorem spec_l2Last.calls (k:Nat) (A0:Option Addr) (c0:Nat) (l0:List Int) (r:Int) (w:World) (hr0:Kd.C (Kd.int .i64) w A0 l0.length l0) (hc0:l0.length≤c0) (h:spec_l2Last.f k l0=some r) :
  Calls Try.prog 29 #[.slice A0 l0.length c0] w fun e w'=>e=.returned (.int .i64 r)∧Drawn0 w w':=by
 have HR0:=Aside0.mk hr0
 have HC0:=Aside0.mk hc0
 clear hr0 hc0
 have H:(spec_l2Last.l0 k l0 0 0)=some r:=h
 clear h
 have H':=Aside0.mk H
 clear H
 go_enter Try.func29,Try.ntmps29
 go_wp2
 go_loopg [3,4] k (fun kq v3 v4 w'=>∃ (x3_1:Int) (x4_1:Int),v3=.int .i64 x3_1∧v4=.int .i64 x4_1∧Aside0 (spec_l2Last.l0 kq l0 x3_1 x4_1=some r)∧Aside0 (kq≤k)∧Drawn0 w w')
 case atStart=>exact ⟨(0),(0),zo,zo,H',⟨Nat.le_refl _⟩,zz5⟩
 case round=>
  clear H'
  obtain ⟨x3_1,x4_1,rfl,rfl,HA,HK1,⟨m1,rfl⟩⟩:=hrel
  cases gk with
  | zero=>exact absurd HA.out (by simp [spec_l2Last.l0])
  | succ k1=>
   have H:=HA.out
   clear HA
   simp only [spec_l2Last.l0] at H
   by_cases c2:x4_1<(l0.length:Int)
   rotate_left
   ·rw [if_neg c2] at H
    have c2b0:=decide_eq_false c2
    clear c2
    obtain rfl:=Option.some.inj H
    go_wp2
    go_ret
    exact ⟨zz7,zz5⟩
   rw [if_pos c2] at H
   have c2b0:=decide_eq_true c2
   clear c2
   by_cases c3:0≤x4_1
   rotate_left
   ·rw [if_neg c3] at H
    exact absurd H (by simp)
   rw [if_pos c3] at H
   have c3b0:=decide_eq_true c3
   clear c3
   replace H:=Option.bind_eq_some_iff.mp H
   obtain ⟨t313,A40,H⟩:=H
   try dsimp only at H
   have A4:=Aside0.mk A40
   clear A40
   have H':=Aside0.mk H
   clear H
   have p312:0≤(x4_1:Int):=of_decide_eq_true za
   have q312:x4_1<(l0.length:Int):=of_decide_eq_true za
   obtain ⟨ad312,e312,hx312_0⟩:=Kd.at_int HR0.out x4_1 p312 q312
   cases e312
   replace p312:=eq_true p312
   replace q312:=eq_true q312
   go_wp2_with (first|((with_reducible refine gate_callee (f:=63) rfl ?_);refine zgo 16 Try.func63 #[.int .i64 x3_1,.int .i64 (rd l0 x4_1)] ?_;(with_reducible refine (spec_l1Most.calls x3_1 (rd l0 x4_1) t313 _ A4.out).mono ?_);rintro e w' ⟨rfl,⟨nd,rfl⟩⟩;refine ⟨_,rfl,?_⟩))
   go_roundg k1
   case measure=>have:=HK1.out;omega
   case rel=>exact ⟨(t313),(wrap64 (x4_1 + 1)),zo,zo,H',⟨by have:=HK1.out;omega⟩,zz5⟩

/-! ### spec_l6Sooner: function 99 -/
def spec_l6Sooner.f (l0:List (S31)) (a1:Int) (a2:Int):Option (Bool):=if 0≤a1 then (if a1<(l0.length:Int) then (if 0≤a2 then (if a2<(l0.length:Int) then (if ((rd_T31 l0 a1).f3)=((rd_T31 l0 a2).f3) then (if ((rd_T31 l0 a1).f0)=((rd_T31 l0 a2).f0) then (some (decide (a1<a2))) else (some (decide (((rd_T31 l0 a1).f0)<((rd_T31 l0 a2).f0))))) else (some (decide (((rd_T31 l0 a1).f3)<((rd_T31 l0 a2).f3))))) else (none)) else (none)) else (none)) else (none)
set_option maxHeartbeats 8000000 in
set_option maxRecDepth 100000 in
theorem spec_l6Sooner.calls (A0:Option Addr) (c0:Nat) (l0:List (S31)) (a1:Int) (a2:Int) (r:Bool) (w:World) (hr0:Kd.C k31 w A0 l0.length l0) (hc0:l0.length≤c0) (h:spec_l6Sooner.f l0 a1 a2=some r) :
  Calls Try.prog 99 #[.slice A0 l0.length c0,.int .i64 a1,.int .i64 a2] w fun e w'=>e=.returned (.bool r)∧Drawn0 w w':=by
 have HR0:=Aside0.mk hr0
 have HC0:=Aside0.mk hc0
 clear hr0 hc0
 have H:(if 0≤a1 then (if a1<(l0.length:Int) then (if 0≤a2 then (if a2<(l0.length:Int) then (if ((rd_T31 l0 a1).f3)=((rd_T31 l0 a2).f3) then (if ((rd_T31 l0 a1).f0)=((rd_T31 l0 a2).f0) then (some (decide (a1<a2))) else (some (decide (((rd_T31 l0 a1).f0)<((rd_T31 l0 a2).f0))))) else (some (decide (((rd_T31 l0 a1).f3)<((rd_T31 l0 a2).f3))))) else (none)) else (none)) else (none)) else (none))=some r:=h
 clear h
 by_cases c4:0≤a1
 rotate_left
 ·rw [if_neg c4] at H
  exact absurd H (by simp)
 rw [if_pos c4] at H
 have c4b0:=decide_eq_true c4
 clear c4
 by_cases c5:a1<(l0.length:Int)
 rotate_left
 ·rw [if_neg c5] at H
  exact absurd H (by simp)
 rw [if_pos c5] at H
 have c5b0:=decide_eq_true c5
 clear c5
 by_cases c6:0≤a2
 rotate_left
 ·rw [if_neg c6] at H
  exact absurd H (by simp)
 rw [if_pos c6] at H
 have c6b0:=decide_eq_true c6
 clear c6
 by_cases c7:a2<(l0.length:Int)
 rotate_left
 ·rw [if_neg c7] at H
  exact absurd H (by simp)
 rw [if_pos c7] at H
 have c7b0:=decide_eq_true c7
 clear c7
 by_cases c8:((rd_T31 l0 a1).f3)=((rd_T31 l0 a2).f3)
 rotate_left
 ·rw [if_neg c8] at H
  have c8b0:(((rd_T31 l0 a1).f3) == ((rd_T31 l0 a2).f3))=false:=beq_eq_false_iff_ne.mpr c8
  have c8b1:(((rd_T31 l0 a1).f3) != ((rd_T31 l0 a2).f3))=true:=bne_iff_ne.mpr c8
  obtain rfl:=Option.some.inj H
  have p314:0≤(a1:Int):=of_decide_eq_true za
  have q314:a1<(l0.length:Int):=of_decide_eq_true za
  obtain ⟨ad314,e314,hx314_0,hx314_1,hx314_2,hx314_3⟩:=at_T31 HR0.out a1 p314 q314
  cases e314
  replace p314:=eq_true p314
  replace q314:=eq_true q314
  have p315:0≤(a2:Int):=of_decide_eq_true za
  have q315:a2<(l0.length:Int):=of_decide_eq_true za
  obtain ⟨ad315,e315,hx315_0,hx315_1,hx315_2,hx315_3⟩:=at_T31 HR0.out a2 p315 q315
  obtain rfl:ad314=ad315:=(by injection e315)
  replace p315:=eq_true p315
  replace q315:=eq_true q315
  have p320:0≤(a1:Int):=of_decide_eq_true za
  have q320:a1<(l0.length:Int):=of_decide_eq_true za
  obtain ⟨ad320,e320,hx320_0,hx320_1,hx320_2,hx320_3⟩:=at_T31 HR0.out a1 p320 q320
  obtain rfl:ad314=ad320:=(by injection e320)
  replace p320:=eq_true p320
  replace q320:=eq_true q320
  have p321:0≤(a2:Int):=of_decide_eq_true za
  have q321:a2<(l0.length:Int):=of_decide_eq_true za
  obtain ⟨ad321,e321,hx321_0,hx321_1,hx321_2,hx321_3⟩:=at_T31 HR0.out a2 p321 q321
  obtain rfl:ad314=ad321:=(by injection e321)
  replace p321:=eq_true p321
  replace q321:=eq_true q321
  go_enter Try.func99,Try.ntmps99
  go_wp2
  repeat (go_quiet (fail);try go_wp2)
  go_ret
  exact ⟨zz7,zz5⟩
 rw [if_pos c8] at H
 have c8b0:(((rd_T31 l0 a1).f3) == ((rd_T31 l0 a2).f3))=true:=beq_iff_eq.mpr c8
 have c8b1:(((rd_T31 l0 a1).f3) != ((rd_T31 l0 a2).f3))=false:=bne_eq_false_iff_eq.mpr c8
 clear c8
 by_cases c9:((rd_T31 l0 a1).f0)=((rd_T31 l0 a2).f0)
 ·rw [if_pos c9] at H
  have c9b0:(((rd_T31 l0 a1).f0) == ((rd_T31 l0 a2).f0))=true:=beq_iff_eq.mpr c9
  have c9b1:(((rd_T31 l0 a1).f0) != ((rd_T31 l0 a2).f0))=false:=bne_eq_false_iff_eq.mpr c9
  clear c9
  obtain rfl:=Option.some.inj H
  have p314:0≤(a1:Int):=of_decide_eq_true za
  have q314:a1<(l0.length:Int):=of_decide_eq_true za
  obtain ⟨ad314,e314,hx314_0,hx314_1,hx314_2,hx314_3⟩:=at_T31 HR0.out a1 p314 q314
  cases e314
  replace p314:=eq_true p314
  replace q314:=eq_true q314
  have p315:0≤(a2:Int):=of_decide_eq_true za
  have q315:a2<(l0.length:Int):=of_decide_eq_true za
  obtain ⟨ad315,e315,hx315_0,hx315_1,hx315_2,hx315_3⟩:=at_T31 HR0.out a2 p315 q315
  obtain rfl:ad314=ad315:=(by injection e315)
  replace p315:=eq_true p315
  replace q315:=eq_true q315
  have p316:0≤(a1:Int):=of_decide_eq_true za
  have q316:a1<(l0.length:Int):=of_decide_eq_true za
  obtain ⟨ad316,e316,hx316_0,hx316_1,hx316_2,hx316_3⟩:=at_T31 HR0.out a1 p316 q316
  obtain rfl:ad314=ad316:=(by injection e316)
  replace p316:=eq_true p316
  replace q316:=eq_true q316
  have p317:0≤(a2:Int):=of_decide_eq_true za
  have q317:a2<(l0.length:Int):=of_decide_eq_true za
  obtain ⟨ad317,e317,hx317_0,hx317_1,hx317_2,hx317_3⟩:=at_T31 HR0.out a2 p317 q317
  obtain rfl:ad314=ad317:=(by injection e317)
  replace p317:=eq_true p317
  replace q317:=eq_true q317
  go_enter Try.func99,Try.ntmps99
  go_wp2
  repeat (go_quiet (fail);try go_wp2)
  go_ret
  exact ⟨zz7,zz5⟩
 rw [if_neg c9] at H
 have c9b0:(((rd_T31 l0 a1).f0) == ((rd_T31 l0 a2).f0))=false:=beq_eq_false_iff_ne.mpr c9
 have c9b1:(((rd_T31 l0 a1).f0) != ((rd_T31 l0 a2).f0))=true:=bne_iff_ne.mpr c9
 obtain rfl:=Option.some.inj H
 have p314:0≤(a1:Int):=of_decide_eq_true za
 have q314:a1<(l0.length:Int):=of_decide_eq_true za
 obtain ⟨ad314,e314,hx314_0,hx314_1,hx314_2,hx314_3⟩:=at_T31 HR0.out a1 p314 q314
 cases e314
 replace p314:=eq_true p314
 replace q314:=eq_true q314
 have p315:0≤(a2:Int):=of_decide_eq_true za
 have q315:a2<(l0.length:Int):=of_decide_eq_true za
 obtain ⟨ad315,e315,hx315_0,hx315_1,hx315_2,hx315_3⟩:=at_T31 HR0.out a2 p315 q315
 obtain rfl:ad314=ad315:=(by injection e315)
 replace p315:=eq_true p315
 replace q315:=eq_true q315
 have p316:0≤(a1:Int):=of_decide_eq_true za
 have q316:a1<(l0.length:Int):=of_decide_eq_true za
 obtain ⟨ad316,e316,hx316_0,hx316_1,hx316_2,hx316_3⟩:=at_T31 HR0.out a1 p316 q316
 obtain rfl:ad314=ad316:=(by injection e316)
 replace p316:=eq_true p316
 replace q316:=eq_true q316
 have p317:0≤(a2:Int):=of_decide_eq_true za
 have q317:a2<(l0.length:Int):=of_decide_eq_true za
 obtain ⟨ad317,e317,hx317_0,hx317_1,hx317_2,hx317_3⟩:=at_T31 HR0.out a2 p317 q317
 obtain rfl:ad314=ad317:=(by injection e317)
 replace p317:=eq_true p317
 replace q317:=eq_true q317
 have p318:0≤(a1:Int):=of_decide_eq_true za
 have q318:a1<(l0.length:Int):=of_decide_eq_true za
 obtain ⟨ad318,e318,hx318_0,hx318_1,hx318_2,hx318_3⟩:=at_T31 HR0.out a1 p318 q318
 obtain rfl:ad314=ad318:=(by injection e318)
 replace p318:=eq_true p318
 replace q318:=eq_true q318
 have p319:0≤(a2:Int):=of_decide_eq_true za
 have q319:a2<(l0.length:Int):=of_decide_eq_true za
 obtain ⟨ad319,e319,hx319_0,hx319_1,hx319_2,hx319_3⟩:=at_T31 HR0.out a2 p319 q319
 obtain rfl:ad314=ad319:=(by injection e319)
 replace p319:=eq_true p319
 replace q319:=eq_true q319
 go_enter Try.func99,Try.ntmps99
 go_wp2
 repeat (go_quiet (fail);try go_wp2)
 go_ret
 exact ⟨zz7,zz5⟩

end Go.Proofs.Ytkolecmpncaooaa.XFnLateWeight
-- minified
