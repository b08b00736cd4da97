-- Written by a program of this session (the kit's print, widened). Proved here: what each function answers, for the arguments that its contract names.
import Derived.Test.YtkcfmaiknmfokaaXFnTiesx0
import Derived.Test.YtkcfmaiknmfokaaXFnTiesx3
namespace Go.Proofs.Ytkcfmaiknmfokaa.XFnTies
open Go.RowKit Go.Proofs.YtkcfmaiknmfokaaW.PrintWords Go.Proofs.YtkcfmaiknmfokaaW.PrintLast Go.Proofs.YtkcfmaiknmfokaaW.PrintMore
attribute [local go_sem] max2_int min2_int max_two min_two max_three min_three max_four min_four   -- for this text's walks alone
attribute [local go_sem] fldS_52_0 fldS_52_1 fldS_52_2
set_option linter.unusedVariables false
set_option linter.unusedSimpArgs false

/-! ### impl_isPlain: function 28 -/
def impl_isPlain.l0:Nat→List (S44)→Int→Int→Option (Bool)
 | 0,_,_,_=>none
 | k + 1,x5,x6,x7=>if x7<x6 then (if 0≤x7 then (if x7<(x5.length:Int) then (if ((rd_T44 x5 x7).f2)=0 then (impl_isPlain.l0 k x5 x6 (wrap64 (x7 + 1))) else (some false)) else (none)) else (none)) else (some true)
def impl_isPlain.f (k:Nat) (l0:List (S44)):Option (Bool):=impl_isPlain.l0 k l0 (l0.length:Int) 0
theorem impl_isPlain.mono_l:∀ k,(∀ y0 y1 y2,LeO (impl_isPlain.l0 k y0 y1 y2) (impl_isPlain.l0 (k + 1) y0 y1 y2))
 | 0=>fun _ _ _ r h=>by simp [impl_isPlain.l0] at h
 | k + 1=>by
  have ih0:=impl_isPlain.mono_l k
  ·intro y0 y1 y2
   unfold impl_isPlain.l0
   repeat' first|(with_reducible first|apply ih0|exact LeO.refl _|exact LeO.none _|refine LeO.ite ?_ ?_|refine LeO.bind ?_ (fun _=>?_))|apply ih0|exact LeO.none _|refine LeO.ite ?_ ?_|refine LeO.bind ?_ (fun _=>?_)
theorem impl_isPlain.mono:∀ a0 k,LeO (impl_isPlain.f k a0) (impl_isPlain.f (k + 1) a0):=by
 intro a0 k
 have ih0:=impl_isPlain.mono_l k
 unfold impl_isPlain.f
 repeat' first|(with_reducible first|apply ih0|exact LeO.refl _|exact LeO.none _|refine LeO.ite ?_ ?_|refine LeO.bind ?_ (fun _=>?_))|apply ih0|exact LeO.none _|refine LeO.ite ?_ ?_|refine LeO.bind ?_ (fun _=>?_)
set_option maxHeartbeats 8000000 in
set_option maxRecDepth 100000 in
theorem impl_isPlain.calls (k:Nat) (A0:Option Addr) (c0:Nat) (l0:List (S44)) (r:Bool) (w:World) (hr0:Kd.C k44 w A0 l0.length l0) (hc0:l0.length≤c0) (h:impl_isPlain.f k l0=some r) :
  Calls Try.prog 28 #[.slice A0 l0.length c0] w fun e w'=>e=.returned (.bool r)∧Below w.heap.size w w':=by
 have hu44:=Try.underlying44
 have HR0:=Aside0.mk hr0
 have HC0:=Aside0.mk hc0
 clear hr0 hc0
 have HB:=Aside0.mk (Below.refl w.heap.size w)
 have H:(impl_isPlain.l0 k l0 (l0.length:Int) 0)=some r:=h
 clear h
 have H':=Aside0.mk H
 clear H
 go_enter Try.func28,Try.ntmps28
 go_wp2
 go_loopg [7] k (fun kq v7 w'=>∃ (x7_1:Int),v7=.int .i64 x7_1∧Aside0 (impl_isPlain.l0 kq l0 (l0.length:Int) x7_1=some r)∧Aside0 (kq≤k)∧Aside0 (Below w.heap.size w w'))
 case atStart=>exact ⟨(0),zo,H',⟨Nat.le_refl _⟩,⟨zb⟩⟩
 case round=>
  clear H'
  obtain ⟨x7_1,rfl,HA,HK1,HB⟩:=hrel
  cases gk with
  | zero=>exact absurd HA.out (by simp [impl_isPlain.l0])
  | succ k1=>
   have H:=HA.out
   clear HA
   simp only [impl_isPlain.l0] at H
   by_cases c2:x7_1<(l0.length:Int)
   rotate_left
   ·rw [if_neg c2] at H
    have c2b0:=decide_eq_false c2
    clear c2
    obtain rfl:=Option.some.inj H
    go_wp2
    go_ret
    exact ⟨zz1,zb⟩
   rw [if_pos c2] at H
   have c2b0:=decide_eq_true c2
   clear c2
   by_cases c3:0≤x7_1
   rotate_left
   ·rw [if_neg c3] at H
    exact absurd H (by simp)
   rw [if_pos c3] at H
   have c3b0:=decide_eq_true c3
   clear c3
   by_cases c4:x7_1<(l0.length:Int)
   rotate_left
   ·rw [if_neg c4] at H
    exact absurd H (by simp)
   rw [if_pos c4] at H
   have c4b0:=decide_eq_true c4
   clear c4
   by_cases c5:((rd_T44 l0 x7_1).f2)=0
   rotate_left
   ·rw [if_neg c5] at H
    have c5b0:(((rd_T44 l0 x7_1).f2) == 0)=false:=beq_eq_false_iff_ne.mpr c5
    have c5b1:(((rd_T44 l0 x7_1).f2) != 0)=true:=bne_iff_ne.mpr c5
    obtain rfl:=Option.some.inj H
    have p278:0≤(x7_1:Int):=of_decide_eq_true za
    have q278:x7_1<(l0.length:Int):=of_decide_eq_true za
    obtain ⟨ad278,e278,hx278_0,hx278_1,hx278_2,hx278_3⟩:=at_T44 HR0.out x7_1 p278 q278
    cases e278
    replace hx278_0:=zh_ HB hx278_0
    replace hx278_1:=zh_ HB hx278_1
    replace hx278_2:=zh_ HB hx278_2
    replace hx278_3:=zh_ HB hx278_3
    replace p278:=eq_true p278
    replace q278:=eq_true q278
    go_wp2_with (first|((with_reducible refine gate_dst (N:=4) rfl ?_);refine box_event ?hg (N:=4) ?hd (cs:=#[.int .i64 0,.int .i64 0,.int .i64 0,.int .i64 0]) (t:=44) ?hr ?_;(case hd=>rfl);(case hg=>rfl);(case hr=>first|(go_simp;done)|(go_simp;rfl));intro gb279 hg w8 hbox hb;have n0_:=zb1 hb;have n1_:=Aside0.mk (hbox);have n2_:=Aside0.mk ((by rw [hg];exact (below_size zb):w.heap.size≤gb279));have n3_:=Aside0.mk ((by rw [hg];exact (below_size zb):w.heap.size≤gb279));clear HB;have HB:=n0_;have BK279:=n1_;have GW279:=n2_;have GE279:=n3_;clear n0_ n1_ n2_ n3_;clear hb hbox hg;obtain ⟨hcz9_0,hcz9_1,hcz9_2,hcz9_3,hfz9_0,hfz9_1,hfz9_2,hfz9_3⟩:=zk4 BK279.out))
    go_ret
    exact ⟨zz1,by repeat (first|(with_reducible first|exact HB.out|apply below_alloc|apply pw_below_drewN|apply below_drew1|refine below_set ?_ GE279.out)|exact HB.out)⟩
   rw [if_pos c5] at H
   have c5b0:(((rd_T44 l0 x7_1).f2) == 0)=true:=beq_iff_eq.mpr c5
   have c5b1:(((rd_T44 l0 x7_1).f2) != 0)=false:=bne_eq_false_iff_eq.mpr c5
   clear c5
   have H':=Aside0.mk H
   clear H
   have p278:0≤(x7_1:Int):=of_decide_eq_true za
   have q278:x7_1<(l0.length:Int):=of_decide_eq_true za
   obtain ⟨ad278,e278,hx278_0,hx278_1,hx278_2,hx278_3⟩:=at_T44 HR0.out x7_1 p278 q278
   cases e278
   replace hx278_0:=zh_ HB hx278_0
   replace hx278_1:=zh_ HB hx278_1
   replace hx278_2:=zh_ HB hx278_2
   replace hx278_3:=zh_ HB hx278_3
   replace p278:=eq_true p278
   replace q278:=eq_true q278
   go_wp2_with (first|((with_reducible refine gate_dst (N:=4) rfl ?_);refine box_event ?hg (N:=4) ?hd (cs:=#[.int .i64 0,.int .i64 0,.int .i64 0,.int .i64 0]) (t:=44) ?hr ?_;(case hd=>rfl);(case hg=>rfl);(case hr=>first|(go_simp;done)|(go_simp;rfl));intro gb279 hg w6 hbox hb;have n0_:=zb1 hb;have n1_:=Aside0.mk (hbox);have n2_:=Aside0.mk ((by rw [hg];exact (below_size zb):w.heap.size≤gb279));have n3_:=Aside0.mk ((by rw [hg];exact (below_size zb):w.heap.size≤gb279));clear HB;have HB:=n0_;have BK279:=n1_;have GW279:=n2_;have GE279:=n3_;clear n0_ n1_ n2_ n3_;clear hb hbox hg;obtain ⟨hcz7_0,hcz7_1,hcz7_2,hcz7_3,hfz7_0,hfz7_1,hfz7_2,hfz7_3⟩:=zk4 BK279.out))
   go_roundg k1
   case measure=>have:=HK1.out;omega
   case rel=>exact ⟨(wrap64 (x7_1 + 1)),zo,H',⟨by have:=HK1.out;omega⟩,⟨by repeat (first|(with_reducible first|exact HB.out|apply below_alloc|apply pw_below_drewN|apply below_drew1|refine below_set ?_ GE279.out)|exact HB.out)⟩⟩

/-! ### impl_isRuled: function 16 -/
def impl_isRuled.f (k:Nat) (l0:List (S44)) (a1:Int):Option (Bool):=(impl_IsJobs.f k l0).bind fun t280=>(if t280=true then (if a1=1 then (some true) else ((impl_within.f a1 2 4).bind fun t281=>(if t281=true then ((impl_isPlain.f k l0).bind fun t282=>(some t282)) else (some false)))) else (some false))
theorem impl_isRuled.mono:∀ a0 a1 k,LeO (impl_isRuled.f k a0 a1) (impl_isRuled.f (k + 1) a0 a1):=by
 intro a0 a1 k
 unfold impl_isRuled.f
 repeat' first|(with_reducible first|exact impl_IsJobs.mono _ _|exact impl_isPlain.mono _ _|exact LeO.refl _|exact LeO.none _|refine LeO.ite ?_ ?_|refine LeO.bind ?_ (fun _=>?_))|exact impl_IsJobs.mono _ _|exact impl_isPlain.mono _ _|exact LeO.none _|refine LeO.ite ?_ ?_|refine LeO.bind ?_ (fun _=>?_)
set_option maxHeartbeats 8000000 in
set_option maxRecDepth 100000 in
theorem impl_isRuled.calls (k:Nat) (A0:Option Addr) (c0:Nat) (l0:List (S44)) (a1:Int) (r:Bool) (w:World) (hr0:Kd.C k44 w A0 l0.length l0) (hc0:l0.length≤c0) (h:impl_isRuled.f k l0 a1=some r) :
  Calls Try.prog 16 #[.slice A0 l0.length c0,.int .i64 a1] w fun e w'=>e=.returned (.bool r)∧Below w.heap.size w w':=by
 have HR0:=Aside0.mk hr0
 have HC0:=Aside0.mk hc0
 clear hr0 hc0
 have HB:=Aside0.mk (Below.refl w.heap.size w)
 have H:((impl_IsJobs.f k l0).bind fun t280=>(if t280=true then (if a1=1 then (some true) else ((impl_within.f a1 2 4).bind fun t281=>(if t281=true then ((impl_isPlain.f k l0).bind fun t282=>(some t282)) else (some false)))) else (some false)))=some r:=h
 clear h
 replace H:=Option.bind_eq_some_iff.mp H
 obtain ⟨t280,A30,H⟩:=H
 try dsimp only at H
 have A3:=Aside0.mk A30
 clear A30
 by_cases c4:t280=true
 rotate_left
 ·replace c4:=Bool.eq_false_iff.mpr c4
  subst c4
  rw [if_neg (show ¬ (false=true) by decide)] at H
  obtain rfl:=Option.some.inj H
  go_enter Try.func16,Try.ntmps16
  go_wp2_with (first|((with_reducible refine gate_callee (f:=23) rfl ?_);refine zgo 6 Try.func23 #[.slice A0 l0.length c0] ?_;(with_reducible refine (impl_IsJobs.calls k _ _ l0 false _ ?side1 ?side2 A3.out).mono ?_);(case side1=>exact zC HR0.out);(case side2=>exact HC0.out);rintro e w13 ⟨rfl,hb⟩;refine ⟨_,rfl,?_⟩;replace HB:=zb1 hb;(try clear hb)))
  go_ret
  exact ⟨zz1,zb⟩
 subst c4
 rw [if_pos rfl] at H
 by_cases c5:a1=1
 ·rw [if_pos c5] at H
  have c5b0:(a1 == 1)=true:=beq_iff_eq.mpr c5
  have c5b1:(a1 != 1)=false:=bne_eq_false_iff_eq.mpr c5
  clear c5
  obtain rfl:=Option.some.inj H
  go_enter Try.func16,Try.ntmps16
  go_wp2_with (first|((with_reducible refine gate_callee (f:=23) rfl ?_);refine zgo 6 Try.func23 #[.slice A0 l0.length c0] ?_;(with_reducible refine (impl_IsJobs.calls k _ _ l0 true _ ?side1 ?side2 A3.out).mono ?_);(case side1=>exact zC HR0.out);(case side2=>exact HC0.out);rintro e w6 ⟨rfl,hb⟩;refine ⟨_,rfl,?_⟩;replace HB:=zb1 hb;(try clear hb)))
  go_ret
  exact ⟨zz1,zb⟩
 rw [if_neg c5] at H
 have c5b0:(a1 == 1)=false:=beq_eq_false_iff_ne.mpr c5
 have c5b1:(a1 != 1)=true:=bne_iff_ne.mpr c5
 replace H:=Option.bind_eq_some_iff.mp H
 obtain ⟨t281,A70,H⟩:=H
 try dsimp only at H
 have A7:=Aside0.mk A70
 clear A70
 by_cases c8:t281=true
 rotate_left
 ·replace c8:=Bool.eq_false_iff.mpr c8
  subst c8
  rw [if_neg (show ¬ (false=true) by decide)] at H
  obtain rfl:=Option.some.inj H
  go_enter Try.func16,Try.ntmps16
  go_wp2_with (first|((with_reducible refine gate_callee (f:=23) rfl ?_);refine zgo 6 Try.func23 #[.slice A0 l0.length c0] ?_;(with_reducible refine (impl_IsJobs.calls k _ _ l0 true _ ?side1 ?side2 A3.out).mono ?_);(case side1=>exact zC HR0.out);(case side2=>exact HC0.out);rintro e w12 ⟨rfl,hb⟩;refine ⟨_,rfl,?_⟩;replace HB:=zb1 hb;(try clear hb))|(go_at_call 27;(with_reducible refine (impl_within.calls a1 2 4 false _ A7.out).mono ?_);rintro e w' ⟨rfl,⟨nd,rfl⟩⟩))
  go_ret
  exact ⟨zz1,zb⟩
 subst c8
 rw [if_pos rfl] at H
 replace H:=Option.bind_eq_some_iff.mp H
 obtain ⟨t282,A90,H⟩:=H
 try dsimp only at H
 have A9:=Aside0.mk A90
 clear A90
 obtain rfl:=Option.some.inj H
 go_enter Try.func16,Try.ntmps16
 go_wp2_with (first|((with_reducible refine gate_callee (f:=23) rfl ?_);refine zgo 6 Try.func23 #[.slice A0 l0.length c0] ?_;(with_reducible refine (impl_IsJobs.calls k _ _ l0 true _ ?side1 ?side2 A3.out).mono ?_);(case side1=>exact zC HR0.out);(case side2=>exact HC0.out);rintro e w10 ⟨rfl,hb⟩;refine ⟨_,rfl,?_⟩;replace HB:=zb1 hb;(try clear hb))|(go_at_call 27;(with_reducible refine (impl_within.calls a1 2 4 true _ A7.out).mono ?_);rintro e w' ⟨rfl,⟨nd,rfl⟩⟩)|(go_at_call 28;(with_reducible refine (impl_isPlain.calls k _ _ l0 t282 _ ?side1 ?side2 A9.out).mono ?_);(case side1=>exact zC (Kd.C_below HR0.out zb));(case side2=>exact HC0.out);rintro e w11 ⟨rfl,hb⟩;replace HB:=zb1 hb;(try clear hb)))
 go_ret
 exact ⟨zz1,zb⟩

end Go.Proofs.Ytkcfmaiknmfokaa.XFnTies
-- minified
