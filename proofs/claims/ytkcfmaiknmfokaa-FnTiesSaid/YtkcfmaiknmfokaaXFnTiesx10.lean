-- Written by a program of this session (the kit's print, widened). Proved here: what each function answers, for the arguments that its contract names.
import Derived.Test.YtkcfmaiknmfokaaXFnTiesx0
import Derived.Test.YtkcfmaiknmfokaaXFnTiesx4
import Derived.Test.YtkcfmaiknmfokaaXFnTiesx9
namespace Go.Proofs.Ytkcfmaiknmfokaa.XFnTies
open Go.RowKit Go.Proofs.YtkcfmaiknmfokaaW.PrintWords Go.Proofs.YtkcfmaiknmfokaaW.PrintLast Go.Proofs.YtkcfmaiknmfokaaW.PrintMore
attribute [local go_sem] max2_int min2_int max_two min_two max_three min_three max_four min_four   -- for this text's walks alone
attribute [local go_sem] fldS_52_0 fldS_52_1 fldS_52_2
set_option linter.unusedVariables false
set_option linter.unusedSimpArgs false

/-! ### impl_TieGroups: function 6 -/
def impl_TieGroups.f (k:Nat) (l0:List (S44)) (a1:Int):Option ((List (List Int)) × Bool):=(impl_isRuled.f k l0 a1).bind fun t317=>(if t317=true then ((impl_tieGroups.f k l0 a1).bind fun t318=>(some (t318,true))) else (some (([]:List (List Int)),false)))
theorem impl_TieGroups.mono:∀ a0 a1 k,LeO (impl_TieGroups.f k a0 a1) (impl_TieGroups.f (k + 1) a0 a1):=by
 intro a0 a1 k
 unfold impl_TieGroups.f
 repeat' first|(with_reducible first|exact impl_isRuled.mono _ _ _|exact impl_tieGroups.mono _ _ _|exact LeO.refl _|exact LeO.none _|refine LeO.ite ?_ ?_|refine LeO.bind ?_ (fun _=>?_))|exact impl_isRuled.mono _ _ _|exact impl_tieGroups.mono _ _ _|exact LeO.none _|refine LeO.ite ?_ ?_|refine LeO.bind ?_ (fun _=>?_)
set_option maxHeartbeats 8000000 in
set_option maxRecDepth 100000 in
theorem impl_TieGroups.calls (k:Nat) (A0:Option Addr) (c0:Nat) (l0:List (S44)) (a1:Int) (r1:List (List Int)) (r2:Bool) (w:World) (hr0:Kd.C k44 w A0 l0.length l0) (hc0:l0.length≤c0) (h:impl_TieGroups.f k l0 a1=some (r1,r2)) :
  Calls Try.prog 6 #[.slice A0 l0.length c0,.int .i64 a1] w fun e w'=>∃ v0_:Value,e=.returned (.tuple #[v0_,.bool r2])∧Kd.S (Kd.slice 3 (Kd.int .i64)) 33 w' w.heap.size (fun _=>True) v0_ r1∧Below w.heap.size w w':=by
 have HR0:=Aside0.mk hr0
 have HC0:=Aside0.mk hc0
 clear hr0 hc0
 have HB:=Aside0.mk (Below.refl w.heap.size w)
 have H:((impl_isRuled.f k l0 a1).bind fun t317=>(if t317=true then ((impl_tieGroups.f k l0 a1).bind fun t318=>(some (t318,true))) else (some (([]:List (List Int)),false))))=some (r1,r2):=h
 clear h
 replace H:=Option.bind_eq_some_iff.mp H
 obtain ⟨t317,A30,H⟩:=H
 try dsimp only at H
 have A3:=Aside0.mk A30
 clear A30
 by_cases c4:t317=true
 rotate_left
 ·replace c4:=Bool.eq_false_iff.mpr c4
  subst c4
  rw [if_neg (show ¬ (false=true) by decide)] at H
  simp only [Option.some.injEq,Prod.mk.injEq] at H
  obtain ⟨rfl,rfl⟩:=H
  go_enter Try.func6,Try.ntmps6
  go_wp2_with (first|((with_reducible refine gate_callee (f:=16) rfl ?_);refine zgo 8 Try.func16 #[.slice A0 l0.length c0,.int .i64 a1] ?_;(with_reducible refine (impl_isRuled.calls k _ _ l0 a1 false _ ?side1 ?side2 A3.out).mono ?_);(case side1=>exact zC HR0.out);(case side2=>exact HC0.out);rintro e w8 ⟨rfl,hb⟩;refine ⟨_,rfl,?_⟩;replace HB:=zb1 hb;(try clear hb)))
  go_ret2
  exact ⟨_,zz1,by first|exact Kd.S_nil _ _ _ _ _|exact Kd.N_nil _ _ _ _ _|exact Kd.V_nil _ _ _ _ _|exact Kd.Q_nil _ _ _ _ _|exact Kd.R_nil _ _ _ _ _,zb⟩
 subst c4
 rw [if_pos rfl] at H
 replace H:=Option.bind_eq_some_iff.mp H
 obtain ⟨t318,A50,H⟩:=H
 try dsimp only at H
 have A5:=Aside0.mk A50
 clear A50
 simp only [Option.some.injEq,Prod.mk.injEq] at H
 obtain ⟨rfl,rfl⟩:=H
 go_enter Try.func6,Try.ntmps6
 go_wp2_with (first|((with_reducible refine gate_callee (f:=16) rfl ?_);refine zgo 8 Try.func16 #[.slice A0 l0.length c0,.int .i64 a1] ?_;(with_reducible refine (impl_isRuled.calls k _ _ l0 a1 true _ ?side1 ?side2 A3.out).mono ?_);(case side1=>exact zC HR0.out);(case side2=>exact HC0.out);rintro e w6 ⟨rfl,hb⟩;refine ⟨_,rfl,?_⟩;replace HB:=zb1 hb;(try clear hb))|((with_reducible refine gate_callee (f:=17) rfl ?_);refine zgo 12 Try.func17 #[.slice A0 l0.length c0,.int .i64 a1] ?_;(with_reducible refine (impl_tieGroups.calls k _ _ l0 a1 t318 _ ?side1 ?side2 A5.out).mono ?_);(case side1=>exact zC (Kd.C_below HR0.out HB.out));(case side2=>exact HC0.out);rintro e w7 ⟨v319,rfl,ho0,hb⟩;refine ⟨_,rfl,?_⟩;have HO320:=Aside0.mk (Kd.S_lower ho0 (below_size zb));replace HB:=zb1 hb;(try clear hb);(try clear ho0)))
 go_ret2
 exact ⟨_,zz1,zS HO320.out,zb⟩

/-! ### spec_l1In: function 30 -/
def spec_l1In.f (a0:Int) (a1:Int) (a2:Int):Option (Bool):=if a0≥a1 then (some (decide (a0≤a2))) else (some false)
set_option maxHeartbeats 8000000 in
set_option maxRecDepth 100000 in
theorem spec_l1In.calls (a0:Int) (a1:Int) (a2:Int) (r:Bool) (w:World) (h:spec_l1In.f a0 a1 a2=some r) :
  Calls Try.prog 30 #[.int .i64 a0,.int .i64 a1,.int .i64 a2] w fun e w'=>e=.returned (.bool r)∧Drawn0 w w':=by
 have H:(if a0≥a1 then (some (decide (a0≤a2))) else (some false))=some r:=h
 clear h
 by_cases c4:a0≥a1
 ·rw [if_pos c4] at H
  have c4b0:=decide_eq_true c4
  clear c4
  obtain rfl:=Option.some.inj H
  go_enter Try.func30,Try.ntmps30
  go_wp2
  go_ret
  exact ⟨zz10,zz5⟩
 rw [if_neg c4] at H
 have c4b0:=decide_eq_false c4
 clear c4
 obtain rfl:=Option.some.inj H
 go_enter Try.func30,Try.ntmps30
 go_wp2
 go_ret
 exact ⟨zz10,zz5⟩

/-! ### spec_l2Job: function 47 -/
def spec_l2Job.f (a0_0:Int) (a0_1:Int) (a0_2:Int) (a0_3:Int):Option (Bool):=(spec_l1In.f a0_0 1 50).bind fun t322=>(if t322=true then ((spec_l1In.f a0_1 0 50).bind fun t323=>(if t323=true then ((spec_l1In.f a0_2 0 500).bind fun t324=>(if t324=true then ((spec_l1In.f a0_3 0 500).bind fun t325=>(some t325)) else (some false))) else (some false))) else (some false))
set_option maxHeartbeats 8000000 in
set_option maxRecDepth 100000 in
theorem spec_l2Job.calls (a0_0:Int) (a0_1:Int) (a0_2:Int) (a0_3:Int) (r:Bool) (w:World) (h:spec_l2Job.f a0_0 a0_1 a0_2 a0_3=some r) :
  Calls Try.prog 47 #[.agg #[.int .i64 a0_0,.int .i64 a0_1,.int .i64 a0_2,.int .i64 a0_3]] w fun e w'=>e=.returned (.bool r)∧Below w.heap.size w w':=by
 have hu44:=Try.underlying44
 have HB:=Aside0.mk (Below.refl w.heap.size w)
 have H:((spec_l1In.f a0_0 1 50).bind fun t322=>(if t322=true then ((spec_l1In.f a0_1 0 50).bind fun t323=>(if t323=true then ((spec_l1In.f a0_2 0 500).bind fun t324=>(if t324=true then ((spec_l1In.f a0_3 0 500).bind fun t325=>(some t325)) else (some false))) else (some false))) else (some false)))=some r:=h
 clear h
 replace H:=Option.bind_eq_some_iff.mp H
 obtain ⟨t322,A20,H⟩:=H
 try dsimp only at H
 have A2:=Aside0.mk A20
 clear A20
 by_cases c3:t322=true
 rotate_left
 ·replace c3:=Bool.eq_false_iff.mpr c3
  subst c3
  rw [if_neg (show ¬ (false=true) by decide)] at H
  obtain rfl:=Option.some.inj H
  go_enter Try.func47,Try.ntmps47
  go_wp2_with (first|((with_reducible refine gate_dst (N:=1) rfl ?_);refine box_event ?hg (N:=1) ?hd (cs:=#[.int .i64 a0_0,.int .i64 a0_1,.int .i64 a0_2,.int .i64 a0_3]) (t:=44) ?hr ?_;(case hd=>rfl);(case hg=>rfl);(case hr=>first|(go_simp;done)|(go_simp;rfl));intro gb321 hg w15 hbox hb;have n0_:=zb1 hb;have n1_:=Aside0.mk (hbox);have n2_:=Aside0.mk ((by rw [hg];exact (below_size zb):w.heap.size≤gb321));have n3_:=Aside0.mk ((by rw [hg];exact (below_size zb):w.heap.size≤gb321));clear HB;have HB:=n0_;have BK321:=n1_;have GW321:=n2_;have GE321:=n3_;clear n0_ n1_ n2_ n3_;clear hb hbox hg;obtain ⟨hcz16_0,hcz16_1,hcz16_2,hcz16_3,hfz16_0,hfz16_1,hfz16_2,hfz16_3⟩:=zk4 BK321.out)|((with_reducible refine gate_callee (f:=30) rfl ?_);refine zgo 5 Try.func30 #[.int .i64 a0_0,.int .i64 1,.int .i64 50] ?_;(with_reducible refine (spec_l1In.calls a0_0 1 50 false _ A2.out).mono ?_);rintro e w' ⟨rfl,⟨nd,rfl⟩⟩;refine ⟨_,rfl,?_⟩))
  go_ret
  exact ⟨zz1,zz50⟩
 subst c3
 rw [if_pos rfl] at H
 replace H:=Option.bind_eq_some_iff.mp H
 obtain ⟨t323,A40,H⟩:=H
 try dsimp only at H
 have A4:=Aside0.mk A40
 clear A40
 by_cases c5:t323=true
 rotate_left
 ·replace c5:=Bool.eq_false_iff.mpr c5
  subst c5
  rw [if_neg (show ¬ (false=true) by decide)] at H
  obtain rfl:=Option.some.inj H
  go_enter Try.func47,Try.ntmps47
  go_wp2_with (first|((with_reducible refine gate_dst (N:=1) rfl ?_);refine box_event ?hg (N:=1) ?hd (cs:=#[.int .i64 a0_0,.int .i64 a0_1,.int .i64 a0_2,.int .i64 a0_3]) (t:=44) ?hr ?_;(case hd=>rfl);(case hg=>rfl);(case hr=>first|(go_simp;done)|(go_simp;rfl));intro gb321 hg w13 hbox hb;have n0_:=zb1 hb;have n1_:=Aside0.mk (hbox);have n2_:=Aside0.mk ((by rw [hg];exact (below_size zb):w.heap.size≤gb321));have n3_:=Aside0.mk ((by rw [hg];exact (below_size zb):w.heap.size≤gb321));clear HB;have HB:=n0_;have BK321:=n1_;have GW321:=n2_;have GE321:=n3_;clear n0_ n1_ n2_ n3_;clear hb hbox hg;obtain ⟨hcz14_0,hcz14_1,hcz14_2,hcz14_3,hfz14_0,hfz14_1,hfz14_2,hfz14_3⟩:=zk4 BK321.out)|((with_reducible refine gate_callee (f:=30) rfl ?_);refine zgo 5 Try.func30 #[.int .i64 a0_0,.int .i64 1,.int .i64 50] ?_;(with_reducible refine (spec_l1In.calls a0_0 1 50 true _ A2.out).mono ?_);rintro e w' ⟨rfl,⟨nd,rfl⟩⟩;refine ⟨_,rfl,?_⟩)|(go_at_call 30;(with_reducible refine (spec_l1In.calls a0_1 0 50 false _ A4.out).mono ?_);rintro e w' ⟨rfl,⟨nd,rfl⟩⟩))
  go_ret
  exact ⟨zz1,zz50⟩
 subst c5
 rw [if_pos rfl] at H
 replace H:=Option.bind_eq_some_iff.mp H
 obtain ⟨t324,A60,H⟩:=H
 try dsimp only at H
 have A6:=Aside0.mk A60
 clear A60
 by_cases c7:t324=true
 rotate_left
 ·replace c7:=Bool.eq_false_iff.mpr c7
  subst c7
  rw [if_neg (show ¬ (false=true) by decide)] at H
  obtain rfl:=Option.some.inj H
  go_enter Try.func47,Try.ntmps47
  go_wp2_with (first|((with_reducible refine gate_dst (N:=1) rfl ?_);refine box_event ?hg (N:=1) ?hd (cs:=#[.int .i64 a0_0,.int .i64 a0_1,.int .i64 a0_2,.int .i64 a0_3]) (t:=44) ?hr ?_;(case hd=>rfl);(case hg=>rfl);(case hr=>first|(go_simp;done)|(go_simp;rfl));intro gb321 hg w11 hbox hb;have n0_:=zb1 hb;have n1_:=Aside0.mk (hbox);have n2_:=Aside0.mk ((by rw [hg];exact (below_size zb):w.heap.size≤gb321));have n3_:=Aside0.mk ((by rw [hg];exact (below_size zb):w.heap.size≤gb321));clear HB;have HB:=n0_;have BK321:=n1_;have GW321:=n2_;have GE321:=n3_;clear n0_ n1_ n2_ n3_;clear hb hbox hg;obtain ⟨hcz12_0,hcz12_1,hcz12_2,hcz12_3,hfz12_0,hfz12_1,hfz12_2,hfz12_3⟩:=zk4 BK321.out)|((with_reducible refine gate_callee (f:=30) rfl ?_);refine zgo 5 Try.func30 #[.int .i64 a0_0,.int .i64 1,.int .i64 50] ?_;(with_reducible refine (spec_l1In.calls a0_0 1 50 true _ A2.out).mono ?_);rintro e w' ⟨rfl,⟨nd,rfl⟩⟩;refine ⟨_,rfl,?_⟩)|(go_at_call 30;(with_reducible refine (spec_l1In.calls a0_1 0 50 true _ A4.out).mono ?_);rintro e w' ⟨rfl,⟨nd,rfl⟩⟩)|(go_at_call 30;(with_reducible refine (spec_l1In.calls a0_2 0 500 false _ A6.out).mono ?_);rintro e w' ⟨rfl,⟨nd,rfl⟩⟩))
  go_ret
  exact ⟨zz1,zz50⟩
 subst c7
 rw [if_pos rfl] at H
 replace H:=Option.bind_eq_some_iff.mp H
 obtain ⟨t325,A80,H⟩:=H
 try dsimp only at H
 have A8:=Aside0.mk A80
 clear A80
 obtain rfl:=Option.some.inj H
 go_enter Try.func47,Try.ntmps47
 go_wp2_with (first|((with_reducible refine gate_dst (N:=1) rfl ?_);refine box_event ?hg (N:=1) ?hd (cs:=#[.int .i64 a0_0,.int .i64 a0_1,.int .i64 a0_2,.int .i64 a0_3]) (t:=44) ?hr ?_;(case hd=>rfl);(case hg=>rfl);(case hr=>first|(go_simp;done)|(go_simp;rfl));intro gb321 hg w9 hbox hb;have n0_:=zb1 hb;have n1_:=Aside0.mk (hbox);have n2_:=Aside0.mk ((by rw [hg];exact (below_size zb):w.heap.size≤gb321));have n3_:=Aside0.mk ((by rw [hg];exact (below_size zb):w.heap.size≤gb321));clear HB;have HB:=n0_;have BK321:=n1_;have GW321:=n2_;have GE321:=n3_;clear n0_ n1_ n2_ n3_;clear hb hbox hg;obtain ⟨hcz10_0,hcz10_1,hcz10_2,hcz10_3,hfz10_0,hfz10_1,hfz10_2,hfz10_3⟩:=zk4 BK321.out)|((with_reducible refine gate_callee (f:=30) rfl ?_);refine zgo 5 Try.func30 #[.int .i64 a0_0,.int .i64 1,.int .i64 50] ?_;(with_reducible refine (spec_l1In.calls a0_0 1 50 true _ A2.out).mono ?_);rintro e w' ⟨rfl,⟨nd,rfl⟩⟩;refine ⟨_,rfl,?_⟩)|(go_at_call 30;(with_reducible refine (spec_l1In.calls a0_1 0 50 true _ A4.out).mono ?_);rintro e w' ⟨rfl,⟨nd,rfl⟩⟩)|(go_at_call 30;(with_reducible refine (spec_l1In.calls a0_2 0 500 true _ A6.out).mono ?_);rintro e w' ⟨rfl,⟨nd,rfl⟩⟩)|(go_at_call 30;(with_reducible refine (spec_l1In.calls a0_3 0 500 t325 _ A8.out).mono ?_);rintro e w' ⟨rfl,⟨nd,rfl⟩⟩))
 go_ret
 exact ⟨zz1,zz50⟩

/-! ### spec_l2Good: function 29 -/
def spec_l2Good.l0:Nat→List (S44)→Int→Option (Bool)
 | 0,_,_=>none
 | k + 1,x0,x3=>if x3<(x0.length:Int) then (if 0≤x3 then ((spec_l2Job.f ((rd_T44 x0 x3).f0) ((rd_T44 x0 x3).f1) ((rd_T44 x0 x3).f2) ((rd_T44 x0 x3).f3)).bind fun t327=>(if t327=true then (spec_l2Good.l0 k x0 (wrap64 (x3 + 1))) else (some false))) else (none)) else (some (decide ((x0.length:Int)≤8)))
def spec_l2Good.f (k:Nat) (l0:List (S44)):Option (Bool):=spec_l2Good.l0 k l0 0
theorem spec_l2Good.mono_l:∀ k,(∀ y0 y1,LeO (spec_l2Good.l0 k y0 y1) (spec_l2Good.l0 (k + 1) y0 y1))
 | 0=>fun _ _ r h=>by simp [spec_l2Good.l0] at h
 | k + 1=>by
  have ih0:=spec_l2Good.mono_l k
  ·intro y0 y1
   unfold spec_l2Good.l0
   repeat' first|(with_reducible first|apply ih0|exact LeO.refl _|exact LeO.none _|refine LeO.ite ?_ ?_|refine LeO.bind ?_ (fun _=>?_))|apply ih0|exact LeO.none _|refine LeO.ite ?_ ?_|refine LeO.bind ?_ (fun _=>?_)
theorem spec_l2Good.mono:∀ a0 k,LeO (spec_l2Good.f k a0) (spec_l2Good.f (k + 1) a0):=by
 intro a0 k
 have ih0:=spec_l2Good.mono_l k
 unfold spec_l2Good.f
 repeat' first|(with_reducible first|apply ih0|exact LeO.refl _|exact LeO.none _|refine LeO.ite ?_ ?_|refine LeO.bind ?_ (fun _=>?_))|apply ih0|exact LeO.none _|refine LeO.ite ?_ ?_|refine LeO.bind ?_ (fun _=>?_)
set_option maxHeartbeats 8000000 in
set_option maxRecDepth 100000 in
theorem spec_l2Good.calls (k:Nat) (A0:Option Addr) (c0:Nat) (l0:List (S44)) (r:Bool) (w:World) (hr0:Kd.C k44 w A0 l0.length l0) (hc0:l0.length≤c0) (h:spec_l2Good.f k l0=some r) :
  Calls Try.prog 29 #[.slice A0 l0.length c0] w fun e w'=>e=.returned (.bool r)∧Below w.heap.size w w':=by
 have hu44:=Try.underlying44
 have HR0:=Aside0.mk hr0
 have HC0:=Aside0.mk hc0
 clear hr0 hc0
 have HB:=Aside0.mk (Below.refl w.heap.size w)
 have H:(spec_l2Good.l0 k l0 0)=some r:=h
 clear h
 have H':=Aside0.mk H
 clear H
 go_enter Try.func29,Try.ntmps29
 go_wp2
 go_loopg [3] k (fun kq v3 w'=>∃ (x3_1:Int),v3=.int .i64 x3_1∧Aside0 (spec_l2Good.l0 kq l0 x3_1=some r)∧Aside0 (kq≤k)∧Aside0 (Below w.heap.size w w'))
 case atStart=>exact ⟨(0),zo,H',⟨Nat.le_refl _⟩,⟨zb⟩⟩
 case round=>
  clear H'
  obtain ⟨x3_1,rfl,HA,HK1,HB⟩:=hrel
  cases gk with
  | zero=>exact absurd HA.out (by simp [spec_l2Good.l0])
  | succ k1=>
   have H:=HA.out
   clear HA
   simp only [spec_l2Good.l0] at H
   by_cases c2:x3_1<(l0.length:Int)
   rotate_left
   ·rw [if_neg c2] at H
    have c2b0:=decide_eq_false c2
    clear c2
    obtain rfl:=Option.some.inj H
    go_wp2
    go_ret
    exact ⟨zz1,zb⟩
   rw [if_pos c2] at H
   have c2b0:=decide_eq_true c2
   clear c2
   by_cases c3:0≤x3_1
   rotate_left
   ·rw [if_neg c3] at H
    exact absurd H (by simp)
   rw [if_pos c3] at H
   have c3b0:=decide_eq_true c3
   clear c3
   replace H:=Option.bind_eq_some_iff.mp H
   obtain ⟨t327,A40,H⟩:=H
   try dsimp only at H
   have A4:=Aside0.mk A40
   clear A40
   by_cases c5:t327=true
   ·subst c5
    rw [if_pos rfl] at H
    have H':=Aside0.mk H
    clear H
    have p326:0≤(x3_1:Int):=of_decide_eq_true za
    have q326:x3_1<(l0.length:Int):=of_decide_eq_true za
    obtain ⟨ad326,e326,hx326_0,hx326_1,hx326_2,hx326_3⟩:=at_T44 HR0.out x3_1 p326 q326
    cases e326
    replace hx326_0:=zh_ HB hx326_0
    replace hx326_1:=zh_ HB hx326_1
    replace hx326_2:=zh_ HB hx326_2
    replace hx326_3:=zh_ HB hx326_3
    replace p326:=eq_true p326
    replace q326:=eq_true q326
    go_wp2_with (first|((with_reducible refine gate_callee (f:=47) rfl ?_);refine zgo 14 Try.func47 #[.agg #[.int .i64 ((rd_T44 l0 x3_1).f0),.int .i64 ((rd_T44 l0 x3_1).f1),.int .i64 ((rd_T44 l0 x3_1).f2),.int .i64 ((rd_T44 l0 x3_1).f3)]] ?_;(with_reducible refine (spec_l2Job.calls ((rd_T44 l0 x3_1).f0) ((rd_T44 l0 x3_1).f1) ((rd_T44 l0 x3_1).f2) ((rd_T44 l0 x3_1).f3) true _ A4.out).mono ?_);rintro e w6 ⟨rfl,hb⟩;refine ⟨_,rfl,?_⟩;replace HB:=zb1 hb;(try clear hb)))
    go_roundg k1
    case measure=>have:=HK1.out;omega
    case rel=>exact ⟨(wrap64 (x3_1 + 1)),zo,H',⟨by have:=HK1.out;omega⟩,⟨zb⟩⟩
   replace c5:=Bool.eq_false_iff.mpr c5
   subst c5
   rw [if_neg (show ¬ (false=true) by decide)] at H
   obtain rfl:=Option.some.inj H
   have p326:0≤(x3_1:Int):=of_decide_eq_true za
   have q326:x3_1<(l0.length:Int):=of_decide_eq_true za
   obtain ⟨ad326,e326,hx326_0,hx326_1,hx326_2,hx326_3⟩:=at_T44 HR0.out x3_1 p326 q326
   cases e326
   replace hx326_0:=zh_ HB hx326_0
   replace hx326_1:=zh_ HB hx326_1
   replace hx326_2:=zh_ HB hx326_2
   replace hx326_3:=zh_ HB hx326_3
   replace p326:=eq_true p326
   replace q326:=eq_true q326
   go_wp2_with (first|((with_reducible refine gate_callee (f:=47) rfl ?_);refine zgo 14 Try.func47 #[.agg #[.int .i64 ((rd_T44 l0 x3_1).f0),.int .i64 ((rd_T44 l0 x3_1).f1),.int .i64 ((rd_T44 l0 x3_1).f2),.int .i64 ((rd_T44 l0 x3_1).f3)]] ?_;(with_reducible refine (spec_l2Job.calls ((rd_T44 l0 x3_1).f0) ((rd_T44 l0 x3_1).f1) ((rd_T44 l0 x3_1).f2) ((rd_T44 l0 x3_1).f3) false _ A4.out).mono ?_);rintro e w7 ⟨rfl,hb⟩;refine ⟨_,rfl,?_⟩;replace HB:=zb1 hb;(try clear hb)))
   go_ret
   exact ⟨zz1,zb⟩

/-! ### spec_l3Plain: function 31 -/
def spec_l3Plain.l0:Nat→List (S44)→Int→Option (Bool)
 | 0,_,_=>none
 | k + 1,x0,x3=>if x3<(x0.length:Int) then (if 0≤x3 then (if ((rd_T44 x0 x3).f2)=0 then (spec_l3Plain.l0 k x0 (wrap64 (x3 + 1))) else (some false)) else (none)) else (some true)
def spec_l3Plain.f (k:Nat) (l0:List (S44)):Option (Bool):=spec_l3Plain.l0 k l0 0
theorem spec_l3Plain.mono_l:∀ k,(∀ y0 y1,LeO (spec_l3Plain.l0 k y0 y1) (spec_l3Plain.l0 (k + 1) y0 y1))
 | 0=>fun _ _ r h=>by simp [spec_l3Plain.l0] at h
 | k + 1=>by
  have ih0:=spec_l3Plain.mono_l k
  ·intro y0 y1
   unfold spec_l3Plain.l0
   repeat' first|(with_reducible first|apply ih0|exact LeO.refl _|exact LeO.none _|refine LeO.ite ?_ ?_|refine LeO.bind ?_ (fun _=>?_))|apply ih0|exact LeO.none _|refine LeO.ite ?_ ?_|refine LeO.bind ?_ (fun _=>?_)
theorem spec_l3Plain.mono:∀ a0 k,LeO (spec_l3Plain.f k a0) (spec_l3Plain.f (k + 1) a0):=by
 intro a0 k
 have ih0:=spec_l3Plain.mono_l k
 unfold spec_l3Plain.f
 repeat' first|(with_reducible first|apply ih0|exact LeO.refl _|exact LeO.none _|refine LeO.ite ?_ ?_|refine LeO.bind ?_ (fun _=>?_))|apply ih0|exact LeO.none _|refine LeO.ite ?_ ?_|refine LeO.bind ?_ (fun _=>?_)
set_option maxHeartbeats 8000000 in
set_option maxRecDepth 100000 in
theorem spec_l3Plain.calls (k:Nat) (A0:Option Addr) (c0:Nat) (l0:List (S44)) (r:Bool) (w:World) (hr0:Kd.C k44 w A0 l0.length l0) (hc0:l0.length≤c0) (h:spec_l3Plain.f k l0=some r) :
  Calls Try.prog 31 #[.slice A0 l0.length c0] w fun e w'=>e=.returned (.bool r)∧Drawn0 w w':=by
 have HR0:=Aside0.mk hr0
 have HC0:=Aside0.mk hc0
 clear hr0 hc0
 have H:(spec_l3Plain.l0 k l0 0)=some r:=h
 clear h
 have H':=Aside0.mk H
 clear H
 go_enter Try.func31,Try.ntmps31
 go_wp2
 go_loopg [3] k (fun kq v3 w'=>∃ (x3_1:Int),v3=.int .i64 x3_1∧Aside0 (spec_l3Plain.l0 kq l0 x3_1=some r)∧Aside0 (kq≤k)∧Drawn0 w w')
 case atStart=>exact ⟨(0),zo,H',⟨Nat.le_refl _⟩,zz5⟩
 case round=>
  clear H'
  obtain ⟨x3_1,rfl,HA,HK1,⟨m1,rfl⟩⟩:=hrel
  cases gk with
  | zero=>exact absurd HA.out (by simp [spec_l3Plain.l0])
  | succ k1=>
   have H:=HA.out
   clear HA
   simp only [spec_l3Plain.l0] at H
   by_cases c2:x3_1<(l0.length:Int)
   rotate_left
   ·rw [if_neg c2] at H
    have c2b0:=decide_eq_false c2
    clear c2
    obtain rfl:=Option.some.inj H
    go_wp2
    go_ret
    exact ⟨zz10,zz5⟩
   rw [if_pos c2] at H
   have c2b0:=decide_eq_true c2
   clear c2
   by_cases c3:0≤x3_1
   rotate_left
   ·rw [if_neg c3] at H
    exact absurd H (by simp)
   rw [if_pos c3] at H
   have c3b0:=decide_eq_true c3
   clear c3
   by_cases c4:((rd_T44 l0 x3_1).f2)=0
   rotate_left
   ·rw [if_neg c4] at H
    have c4b0:(((rd_T44 l0 x3_1).f2) == 0)=false:=beq_eq_false_iff_ne.mpr c4
    have c4b1:(((rd_T44 l0 x3_1).f2) != 0)=true:=bne_iff_ne.mpr c4
    obtain rfl:=Option.some.inj H
    have p328:0≤(x3_1:Int):=of_decide_eq_true za
    have q328:x3_1<(l0.length:Int):=of_decide_eq_true za
    obtain ⟨ad328,e328,hx328_0,hx328_1,hx328_2,hx328_3⟩:=at_T44 HR0.out x3_1 p328 q328
    cases e328
    replace p328:=eq_true p328
    replace q328:=eq_true q328
    go_wp2
    go_ret
    exact ⟨zz10,zz5⟩
   rw [if_pos c4] at H
   have c4b0:(((rd_T44 l0 x3_1).f2) == 0)=true:=beq_iff_eq.mpr c4
   have c4b1:(((rd_T44 l0 x3_1).f2) != 0)=false:=bne_eq_false_iff_eq.mpr c4
   clear c4
   have H':=Aside0.mk H
   clear H
   have p328:0≤(x3_1:Int):=of_decide_eq_true za
   have q328:x3_1<(l0.length:Int):=of_decide_eq_true za
   obtain ⟨ad328,e328,hx328_0,hx328_1,hx328_2,hx328_3⟩:=at_T44 HR0.out x3_1 p328 q328
   cases e328
   replace p328:=eq_true p328
   replace q328:=eq_true q328
   go_wp2
   go_roundg k1
   case measure=>have:=HK1.out;omega
   case rel=>exact ⟨(wrap64 (x3_1 + 1)),zo,H',⟨by have:=HK1.out;omega⟩,zz5⟩

/-! ### spec_l3Ruled: function 18 -/
def spec_l3Ruled.f (k:Nat) (l0:List (S44)) (a1:Int):Option (Bool):=(spec_l2Good.f k l0).bind fun t329=>(if t329=true then ((spec_l1In.f a1 1 4).bind fun t330=>(if t330=true then (if a1=1 then (some true) else ((spec_l3Plain.f k l0).bind fun t331=>(some t331))) else (some false))) else (some false))
theorem spec_l3Ruled.mono:∀ a0 a1 k,LeO (spec_l3Ruled.f k a0 a1) (spec_l3Ruled.f (k + 1) a0 a1):=by
 intro a0 a1 k
 unfold spec_l3Ruled.f
 repeat' first|(with_reducible first|exact spec_l2Good.mono _ _|exact spec_l3Plain.mono _ _|exact LeO.refl _|exact LeO.none _|refine LeO.ite ?_ ?_|refine LeO.bind ?_ (fun _=>?_))|exact spec_l2Good.mono _ _|exact spec_l3Plain.mono _ _|exact LeO.none _|refine LeO.ite ?_ ?_|refine LeO.bind ?_ (fun _=>?_)
set_option maxHeartbeats 8000000 in
set_option maxRecDepth 100000 in
theorem spec_l3Ruled.calls (k:Nat) (A0:Option Addr) (c0:Nat) (l0:List (S44)) (a1:Int) (r:Bool) (w:World) (hr0:Kd.C k44 w A0 l0.length l0) (hc0:l0.length≤c0) (h:spec_l3Ruled.f k l0 a1=some r) :
  Calls Try.prog 18 #[.slice A0 l0.length c0,.int .i64 a1] w fun e w'=>e=.returned (.bool r)∧Below w.heap.size w w':=by
 have HR0:=Aside0.mk hr0
 have HC0:=Aside0.mk hc0
 clear hr0 hc0
 have HB:=Aside0.mk (Below.refl w.heap.size w)
 have H:((spec_l2Good.f k l0).bind fun t329=>(if t329=true then ((spec_l1In.f a1 1 4).bind fun t330=>(if t330=true then (if a1=1 then (some true) else ((spec_l3Plain.f k l0).bind fun t331=>(some t331))) else (some false))) else (some false)))=some r:=h
 clear h
 replace H:=Option.bind_eq_some_iff.mp H
 obtain ⟨t329,A30,H⟩:=H
 try dsimp only at H
 have A3:=Aside0.mk A30
 clear A30
 by_cases c4:t329=true
 rotate_left
 ·replace c4:=Bool.eq_false_iff.mpr c4
  subst c4
  rw [if_neg (show ¬ (false=true) by decide)] at H
  obtain rfl:=Option.some.inj H
  go_enter Try.func18,Try.ntmps18
  go_wp2_with (first|((with_reducible refine gate_callee (f:=29) rfl ?_);refine zgo 6 Try.func29 #[.slice A0 l0.length c0] ?_;(with_reducible refine (spec_l2Good.calls k _ _ l0 false _ ?side1 ?side2 A3.out).mono ?_);(case side1=>exact zC HR0.out);(case side2=>exact HC0.out);rintro e w12 ⟨rfl,hb⟩;refine ⟨_,rfl,?_⟩;replace HB:=zb1 hb;(try clear hb)))
  go_ret
  exact ⟨zz1,zb⟩
 subst c4
 rw [if_pos rfl] at H
 replace H:=Option.bind_eq_some_iff.mp H
 obtain ⟨t330,A50,H⟩:=H
 try dsimp only at H
 have A5:=Aside0.mk A50
 clear A50
 by_cases c6:t330=true
 rotate_left
 ·replace c6:=Bool.eq_false_iff.mpr c6
  subst c6
  rw [if_neg (show ¬ (false=true) by decide)] at H
  obtain rfl:=Option.some.inj H
  go_enter Try.func18,Try.ntmps18
  go_wp2_with (first|((with_reducible refine gate_callee (f:=29) rfl ?_);refine zgo 6 Try.func29 #[.slice A0 l0.length c0] ?_;(with_reducible refine (spec_l2Good.calls k _ _ l0 true _ ?side1 ?side2 A3.out).mono ?_);(case side1=>exact zC HR0.out);(case side2=>exact HC0.out);rintro e w11 ⟨rfl,hb⟩;refine ⟨_,rfl,?_⟩;replace HB:=zb1 hb;(try clear hb))|(go_at_call 30;(with_reducible refine (spec_l1In.calls a1 1 4 false _ A5.out).mono ?_);rintro e w' ⟨rfl,⟨nd,rfl⟩⟩))
  go_ret
  exact ⟨zz1,zb⟩
 subst c6
 rw [if_pos rfl] at H
 by_cases c7:a1=1
 ·rw [if_pos c7] at H
  have c7b0:(a1 == 1)=true:=beq_iff_eq.mpr c7
  have c7b1:(a1 != 1)=false:=bne_eq_false_iff_eq.mpr c7
  clear c7
  obtain rfl:=Option.some.inj H
  go_enter Try.func18,Try.ntmps18
  go_wp2_with (first|((with_reducible refine gate_callee (f:=29) rfl ?_);refine zgo 6 Try.func29 #[.slice A0 l0.length c0] ?_;(with_reducible refine (spec_l2Good.calls k _ _ l0 true _ ?side1 ?side2 A3.out).mono ?_);(case side1=>exact zC HR0.out);(case side2=>exact HC0.out);rintro e w8 ⟨rfl,hb⟩;refine ⟨_,rfl,?_⟩;replace HB:=zb1 hb;(try clear hb))|(go_at_call 30;(with_reducible refine (spec_l1In.calls a1 1 4 true _ A5.out).mono ?_);rintro e w' ⟨rfl,⟨nd,rfl⟩⟩))
  go_ret
  exact ⟨zz1,zb⟩
 rw [if_neg c7] at H
 have c7b0:(a1 == 1)=false:=beq_eq_false_iff_ne.mpr c7
 have c7b1:(a1 != 1)=true:=bne_iff_ne.mpr c7
 replace H:=Option.bind_eq_some_iff.mp H
 obtain ⟨t331,A90,H⟩:=H
 try dsimp only at H
 have A9:=Aside0.mk A90
 clear A90
 obtain rfl:=Option.some.inj H
 go_enter Try.func18,Try.ntmps18
 go_wp2_with (first|((with_reducible refine gate_callee (f:=29) rfl ?_);refine zgo 6 Try.func29 #[.slice A0 l0.length c0] ?_;(with_reducible refine (spec_l2Good.calls k _ _ l0 true _ ?side1 ?side2 A3.out).mono ?_);(case side1=>exact zC HR0.out);(case side2=>exact HC0.out);rintro e w10 ⟨rfl,hb⟩;refine ⟨_,rfl,?_⟩;replace HB:=zb1 hb;(try clear hb))|(go_at_call 30;(with_reducible refine (spec_l1In.calls a1 1 4 true _ A5.out).mono ?_);rintro e w' ⟨rfl,⟨nd,rfl⟩⟩)|(go_at_call 31;(with_reducible refine (spec_l3Plain.calls k _ _ l0 t331 _ ?side1 ?side2 A9.out).mono ?_);(case side1=>exact zC (Kd.C_below HR0.out zb));(case side2=>exact HC0.out);rintro e w' ⟨rfl,⟨nd,rfl⟩⟩))
 go_ret
 exact ⟨zz1,zb⟩

end Go.Proofs.Ytkcfmaiknmfokaa.XFnTies
-- minified
