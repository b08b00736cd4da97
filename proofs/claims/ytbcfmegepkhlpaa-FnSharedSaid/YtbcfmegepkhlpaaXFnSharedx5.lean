-- Written by a program of this session (the kit's print, widened). Proved here: what each function answers, for the arguments that its contract names.
import Derived.Test.YtbcfmegepkhlpaaXFnSharedx0
import Derived.Test.YtbcfmegepkhlpaaXFnSharedx2
import Derived.Test.YtbcfmegepkhlpaaXFnSharedx3
import Derived.Test.YtbcfmegepkhlpaaXFnSharedx4
namespace Go.Proofs.Ytbcfmegepkhlpaa.XFnShared
open Go.RowKit Go.Proofs.YtbcfmegepkhlpaaW.PrintWords Go.Proofs.YtbcfmegepkhlpaaW.PrintLast Go.Proofs.YtbcfmegepkhlpaaW.PrintMore
attribute [local go_sem] max2_int min2_int max_two min_two max_three min_three max_four min_four   -- for this text's walks alone
attribute [local go_sem] idxA_72_0 idxA_72_1 fldS_96_0 fldS_96_1 fldS_96_2 fldS_111_0 fldS_111_1 fldS_111_2
set_option linter.unusedVariables false
set_option linter.unusedSimpArgs false

/-! ### spec_l4Good: function 56 -/
def spec_l4Good.l0:Nat→Int→List (List Bool)→Int→Option (Bool)
 | 0,_,_,_=>none
 | k + 1,x0,x5,x6=>if x6<x0 then (if 0≤x6 then (if x6<(x5.length:Int) then (if x6<((rd_L4 x5 x6).length:Int) then (if rdOf false (rd_L4 x5 x6) x6=true then (some false) else (spec_l4Good.l0 k x0 x5 (wrap64 (x6 + 1)))) else (none)) else (none)) else (none)) else (some true)
def spec_l4Good.f (k:Nat) (a0:Int) (l1:List (S72)):Option (Bool):=(spec_l4Pairs.f k a0 l1).bind fun t137=>(if t137=true then ((spec_l4Table.f k a0 l1).bind fun t138=>(spec_l4Good.l0 k a0 t138 0)) else (some false))
theorem spec_l4Good.mono_l:∀ k,(∀ y0 y1 y2,LeO (spec_l4Good.l0 k y0 y1 y2) (spec_l4Good.l0 (k + 1) y0 y1 y2))
 | 0=>fun _ _ _ r h=>by simp [spec_l4Good.l0] at h
 | k + 1=>by
  have ih0:=spec_l4Good.mono_l k
  ·intro y0 y1 y2
   unfold spec_l4Good.l0
   repeat' first|(with_reducible first|apply ih0|exact spec_l4Pairs.mono _ _ _|exact spec_l4Table.mono _ _ _|exact LeO.refl _|exact LeO.none _|refine LeO.ite ?_ ?_|refine LeO.bind ?_ (fun _=>?_))|apply ih0|exact spec_l4Pairs.mono _ _ _|exact spec_l4Table.mono _ _ _|exact LeO.none _|refine LeO.ite ?_ ?_|refine LeO.bind ?_ (fun _=>?_)
theorem spec_l4Good.mono:∀ a0 a1 k,LeO (spec_l4Good.f k a0 a1) (spec_l4Good.f (k + 1) a0 a1):=by
 intro a0 a1 k
 have ih0:=spec_l4Good.mono_l k
 unfold spec_l4Good.f
 repeat' first|(with_reducible first|apply ih0|exact spec_l4Pairs.mono _ _ _|exact spec_l4Table.mono _ _ _|exact LeO.refl _|exact LeO.none _|refine LeO.ite ?_ ?_|refine LeO.bind ?_ (fun _=>?_))|apply ih0|exact spec_l4Pairs.mono _ _ _|exact spec_l4Table.mono _ _ _|exact LeO.none _|refine LeO.ite ?_ ?_|refine LeO.bind ?_ (fun _=>?_)
set_option maxHeartbeats 8000000 in
set_option maxRecDepth 100000 in
theorem spec_l4Good.calls (k:Nat) (a0:Int) (A1:Option Addr) (c1:Nat) (l1:List (S72)) (r:Bool) (w:World) (hr1:Kd.C k72 w A1 l1.length l1) (hc1:l1.length≤c1) (h:spec_l4Good.f k a0 l1=some r) :
  Calls Try.prog 56 #[.int .i64 a0,.slice A1 l1.length c1] w fun e w'=>e=.returned (.bool r)∧Below w.heap.size w w':=by
 have HR1:=Aside0.mk hr1
 have HC1:=Aside0.mk hc1
 clear hr1 hc1
 have HB:=Aside0.mk (Below.refl w.heap.size w)
 have H:((spec_l4Pairs.f k a0 l1).bind fun t137=>(if t137=true then ((spec_l4Table.f k a0 l1).bind fun t138=>(spec_l4Good.l0 k a0 t138 0)) else (some false)))=some r:=h
 clear h
 replace H:=Option.bind_eq_some_iff.mp H
 obtain ⟨t137,A30,H⟩:=H
 try dsimp only at H
 have A3:=Aside0.mk A30
 clear A30
 by_cases c4:t137=true
 rotate_left
 ·replace c4:=Bool.eq_false_iff.mpr c4
  subst c4
  rw [if_neg (show ¬ (false=true) by decide)] at H
  obtain rfl:=Option.some.inj H
  go_enter Try.func56,Try.ntmps56
  go_wp2_with (first|((with_reducible refine gate_callee (f:=106) rfl ?_);refine zgo 9 Try.func106 #[.int .i64 a0,.slice A1 l1.length c1] ?_;(with_reducible refine (spec_l4Pairs.calls k a0 _ _ l1 false _ ?side1 ?side2 A3.out).mono ?_);(case side1=>exact zC HR1.out);(case side2=>exact HC1.out);rintro e w16 ⟨rfl,hb⟩;refine ⟨_,rfl,?_⟩;replace HB:=zb1 hb;(try clear hb)))
  go_ret
  exact ⟨zz1,zb⟩
 subst c4
 rw [if_pos rfl] at H
 replace H:=Option.bind_eq_some_iff.mp H
 obtain ⟨t138,A50,H⟩:=H
 try dsimp only at H
 have A5:=Aside0.mk A50
 clear A50
 have H':=Aside0.mk H
 clear H
 go_enter Try.func56,Try.ntmps56
 go_wp2_with (first|((with_reducible refine gate_callee (f:=106) rfl ?_);refine zgo 9 Try.func106 #[.int .i64 a0,.slice A1 l1.length c1] ?_;(with_reducible refine (spec_l4Pairs.calls k a0 _ _ l1 true _ ?side1 ?side2 A3.out).mono ?_);(case side1=>exact zC HR1.out);(case side2=>exact HC1.out);rintro e w6 ⟨rfl,hb⟩;refine ⟨_,rfl,?_⟩;replace HB:=zb1 hb;(try clear hb))|((with_reducible refine gate_callee (f:=107) rfl ?_);refine zgo 13 Try.func107 #[.int .i64 a0,.slice A1 l1.length c1] ?_;(with_reducible refine (spec_l4Table.calls k a0 _ _ l1 t138 _ ?side1 ?side2 A5.out).mono ?_);(case side1=>exact zC (Kd.C_below HR1.out HB.out));(case side2=>exact HC1.out);rintro e w7 ⟨v139,rfl,ho0,hb⟩;refine ⟨_,rfl,?_⟩;have HO140:=Aside0.mk (Kd.S_lower ho0 (below_size zb));replace HB:=zb1 hb;(try clear hb);(try clear ho0)))
 go_loopg [6] k (fun kq v6 w'=>∃ (x6_1:Int),v6=.int .i64 x6_1∧Aside0 (spec_l4Good.l0 kq a0 t138 x6_1=some r)∧Aside0 (kq≤k)∧Aside0 (Kd.S (Kd.slice 4 Kd.bool) 127 w' w.heap.size (fun _=>True) v139 t138)∧Aside0 (Below w.heap.size w w'))
 case atStart=>exact ⟨(0),zo,H',⟨Nat.le_refl _⟩,⟨zS HO140.out⟩,⟨zb⟩⟩
 case round=>
  clear H'
  obtain ⟨x6_1,rfl,HA,HK1,HO_5,HB⟩:=hrel
  cases gk with
  | zero=>exact absurd HA.out (by simp [spec_l4Good.l0])
  | succ k1=>
   have H:=HA.out
   clear HA
   simp only [spec_l4Good.l0] at H
   by_cases c8:x6_1<a0
   rotate_left
   ·rw [if_neg c8] at H
    have c8b0:=decide_eq_false c8
    clear c8
    obtain rfl:=Option.some.inj H
    go_wp2
    go_ret
    exact ⟨zz1,zb⟩
   rw [if_pos c8] at H
   have c8b0:=decide_eq_true c8
   clear c8
   by_cases c9:0≤x6_1
   rotate_left
   ·rw [if_neg c9] at H
    exact absurd H (by simp)
   rw [if_pos c9] at H
   have c9b0:=decide_eq_true c9
   clear c9
   by_cases c10:x6_1<(t138.length:Int)
   rotate_left
   ·rw [if_neg c10] at H
    exact absurd H (by simp)
   rw [if_pos c10] at H
   have c10b0:=decide_eq_true c10
   clear c10
   by_cases c11:x6_1<((rd_L4 t138 x6_1).length:Int)
   rotate_left
   ·rw [if_neg c11] at H
    exact absurd H (by simp)
   rw [if_pos c11] at H
   have c11b0:=decide_eq_true c11
   clear c11
   obtain ⟨bq12,hbq12⟩:∃ b_:Bool,b_=(rdOf false (rd_L4 t138 x6_1) x6_1):=⟨_,rfl⟩
   replace H:(if bq12=true then (some false) else (spec_l4Good.l0 k1 a0 t138 (wrap64 (x6_1 + 1))))=some r:=by rw [←hbq12] at H;exact H
   have Nbq12:=Aside0.mk hbq12
   clear hbq12
   by_cases c13:bq12=true
   ·subst c13
    rw [if_pos rfl] at H
    obtain rfl:=Option.some.inj H
    obtain ⟨Ao14,co14,eo14⟩:=Kd.S_slice HO_5.out
    subst eo14
    have p141:0≤(x6_1:Int):=of_decide_eq_true za
    have q141:x6_1<(t138.length:Int):=of_decide_eq_true za
    obtain ⟨ad141,A141_0,c141_0,e141,hx141_0,hl141_0,hi141_0⟩:=at_L4 (Kd.S_reads' HO_5.out).2.2 x6_1 p141 q141
    cases e141
    obtain ⟨ce141,hce141,hMe141,hcc141⟩:=Kd.S_get HO_5.out [] x6_1 p141 (by first|exact q141|exact of_decide_eq_true za|(have e_:=(Kd.S_reads' HO_5.out).1;omega))
    obtain ⟨ve141_0,rfl,ge141_0⟩:=hMe141
    have hv141_0:=hcc141 0 _ rfl
    rw [Nat.add_zero,show ((Kd.slice 4 Kd.bool)).sz=1 from rfl,Nat.mul_one] at hv141_0
    replace hv141_0:=Option.some.inj (hv141_0.symm.trans hx141_0)
    rw [hv141_0] at ge141_0
    have HL141_0:=Aside0.mk (show Kd.R Kd.bool 4 _ _ _ _ (rd_L4 t138 x6_1) from ge141_0)
    clear hv141_0 ge141_0
    clear hcc141 hce141
    have HR141_0:=Aside0.mk hi141_0
    have HC141_0:=Aside0.mk hl141_0
    clear hi141_0 hl141_0
    replace p141:=eq_true p141
    replace q141:=eq_true q141
    have p142:0≤(x6_1:Int):=of_decide_eq_true za
    have q142:x6_1<((rd_L4 t138 x6_1).length:Int):=of_decide_eq_true za
    obtain ⟨ad142,e142,hx142_0⟩:=Kd.at_bool (by repeat (first|(with_reducible exact HR141_0.out)|(with_reducible refine Kd.C_alloc ?_ _)|(with_reducible refine Kd.C_drewN ?_ _)|(with_reducible refine Kd.C_drew ?_)|exact HR141_0.out)) x6_1 p142 q142
    (try rw [←Nbq12.out] at hx142_0)
    cases e142
    replace p142:=eq_true p142
    replace q142:=eq_true q142
    go_wp2
    go_ret
    exact ⟨zz1,zb⟩
   replace c13:=Bool.eq_false_iff.mpr c13
   subst c13
   rw [if_neg (show ¬ (false=true) by decide)] at H
   have H':=Aside0.mk H
   clear H
   obtain ⟨Ao15,co15,eo15⟩:=Kd.S_slice HO_5.out
   subst eo15
   have p141:0≤(x6_1:Int):=of_decide_eq_true za
   have q141:x6_1<(t138.length:Int):=of_decide_eq_true za
   obtain ⟨ad141,A141_0,c141_0,e141,hx141_0,hl141_0,hi141_0⟩:=at_L4 (Kd.S_reads' HO_5.out).2.2 x6_1 p141 q141
   cases e141
   obtain ⟨ce141,hce141,hMe141,hcc141⟩:=Kd.S_get HO_5.out [] x6_1 p141 (by first|exact q141|exact of_decide_eq_true za|(have e_:=(Kd.S_reads' HO_5.out).1;omega))
   obtain ⟨ve141_0,rfl,ge141_0⟩:=hMe141
   have hv141_0:=hcc141 0 _ rfl
   rw [Nat.add_zero,show ((Kd.slice 4 Kd.bool)).sz=1 from rfl,Nat.mul_one] at hv141_0
   replace hv141_0:=Option.some.inj (hv141_0.symm.trans hx141_0)
   rw [hv141_0] at ge141_0
   have HL141_0:=Aside0.mk (show Kd.R Kd.bool 4 _ _ _ _ (rd_L4 t138 x6_1) from ge141_0)
   clear hv141_0 ge141_0
   clear hcc141 hce141
   have HR141_0:=Aside0.mk hi141_0
   have HC141_0:=Aside0.mk hl141_0
   clear hi141_0 hl141_0
   replace p141:=eq_true p141
   replace q141:=eq_true q141
   have p142:0≤(x6_1:Int):=of_decide_eq_true za
   have q142:x6_1<((rd_L4 t138 x6_1).length:Int):=of_decide_eq_true za
   obtain ⟨ad142,e142,hx142_0⟩:=Kd.at_bool (by repeat (first|(with_reducible exact HR141_0.out)|(with_reducible refine Kd.C_alloc ?_ _)|(with_reducible refine Kd.C_drewN ?_ _)|(with_reducible refine Kd.C_drew ?_)|exact HR141_0.out)) x6_1 p142 q142
   (try rw [←Nbq12.out] at hx142_0)
   cases e142
   replace p142:=eq_true p142
   replace q142:=eq_true q142
   go_wp2
   go_roundg k1
   case measure=>have:=HK1.out;omega
   case rel=>exact ⟨(wrap64 (x6_1 + 1)),zo,H',⟨by have:=HK1.out;omega⟩,⟨zS HO_5.out⟩,⟨zb⟩⟩

/-! ### spec_l2Job: function 148 -/
def spec_l2Job.f (a0_0:Int) (a0_1:Int) (a0_2:Int) (a0_3:Int):Option (Bool):=(spec_l1In.f a0_0 1 50).bind fun t144=>(if t144=true then ((spec_l1In.f a0_1 0 50).bind fun t145=>(if t145=true then ((spec_l1In.f a0_2 0 500).bind fun t146=>(if t146=true then ((spec_l1In.f a0_3 0 500).bind fun t147=>(some t147)) else (some false))) else (some false))) else (some false))
set_option maxHeartbeats 8000000 in
set_option maxRecDepth 100000 in
theorem spec_l2Job.calls (a0_0:Int) (a0_1:Int) (a0_2:Int) (a0_3:Int) (r:Bool) (w:World) (h:spec_l2Job.f a0_0 a0_1 a0_2 a0_3=some r) :
  Calls Try.prog 148 #[.agg #[.int .i64 a0_0,.int .i64 a0_1,.int .i64 a0_2,.int .i64 a0_3]] w fun e w'=>e=.returned (.bool r)∧Below w.heap.size w w':=by
 have hu76:=Try.underlying76
 have HB:=Aside0.mk (Below.refl w.heap.size w)
 have H:((spec_l1In.f a0_0 1 50).bind fun t144=>(if t144=true then ((spec_l1In.f a0_1 0 50).bind fun t145=>(if t145=true then ((spec_l1In.f a0_2 0 500).bind fun t146=>(if t146=true then ((spec_l1In.f a0_3 0 500).bind fun t147=>(some t147)) else (some false))) else (some false))) else (some false)))=some r:=h
 clear h
 replace H:=Option.bind_eq_some_iff.mp H
 obtain ⟨t144,A20,H⟩:=H
 try dsimp only at H
 have A2:=Aside0.mk A20
 clear A20
 by_cases c3:t144=true
 rotate_left
 ·replace c3:=Bool.eq_false_iff.mpr c3
  subst c3
  rw [if_neg (show ¬ (false=true) by decide)] at H
  obtain rfl:=Option.some.inj H
  go_enter Try.func148,Try.ntmps148
  go_wp2_with (first|((with_reducible refine gate_dst (N:=1) rfl ?_);refine box_event ?hg (N:=1) ?hd (cs:=#[.int .i64 a0_0,.int .i64 a0_1,.int .i64 a0_2,.int .i64 a0_3]) (t:=76) ?hr ?_;(case hd=>rfl);(case hg=>rfl);(case hr=>first|(go_simp;done)|(go_simp;rfl));intro gb143 hg w15 hbox hb;have n0_:=zb1 hb;have n1_:=Aside0.mk (hbox);have n2_:=Aside0.mk ((by rw [hg];exact (below_size zb):w.heap.size≤gb143));have n3_:=Aside0.mk ((by rw [hg];exact (below_size zb):w.heap.size≤gb143));clear HB;have HB:=n0_;have BK143:=n1_;have GW143:=n2_;have GE143:=n3_;clear n0_ n1_ n2_ n3_;clear hb hbox hg;obtain ⟨hcz16_0,hcz16_1,hcz16_2,hcz16_3,hfz16_0,hfz16_1,hfz16_2,hfz16_3⟩:=zk4 BK143.out)|((with_reducible refine gate_callee (f:=120) rfl ?_);refine zgo 5 Try.func120 #[.int .i64 a0_0,.int .i64 1,.int .i64 50] ?_;(with_reducible refine (spec_l1In.calls a0_0 1 50 false _ A2.out).mono ?_);rintro e w' ⟨rfl,⟨nd,rfl⟩⟩;refine ⟨_,rfl,?_⟩))
  go_ret
  exact ⟨zz1,zz46⟩
 subst c3
 rw [if_pos rfl] at H
 replace H:=Option.bind_eq_some_iff.mp H
 obtain ⟨t145,A40,H⟩:=H
 try dsimp only at H
 have A4:=Aside0.mk A40
 clear A40
 by_cases c5:t145=true
 rotate_left
 ·replace c5:=Bool.eq_false_iff.mpr c5
  subst c5
  rw [if_neg (show ¬ (false=true) by decide)] at H
  obtain rfl:=Option.some.inj H
  go_enter Try.func148,Try.ntmps148
  go_wp2_with (first|((with_reducible refine gate_dst (N:=1) rfl ?_);refine box_event ?hg (N:=1) ?hd (cs:=#[.int .i64 a0_0,.int .i64 a0_1,.int .i64 a0_2,.int .i64 a0_3]) (t:=76) ?hr ?_;(case hd=>rfl);(case hg=>rfl);(case hr=>first|(go_simp;done)|(go_simp;rfl));intro gb143 hg w13 hbox hb;have n0_:=zb1 hb;have n1_:=Aside0.mk (hbox);have n2_:=Aside0.mk ((by rw [hg];exact (below_size zb):w.heap.size≤gb143));have n3_:=Aside0.mk ((by rw [hg];exact (below_size zb):w.heap.size≤gb143));clear HB;have HB:=n0_;have BK143:=n1_;have GW143:=n2_;have GE143:=n3_;clear n0_ n1_ n2_ n3_;clear hb hbox hg;obtain ⟨hcz14_0,hcz14_1,hcz14_2,hcz14_3,hfz14_0,hfz14_1,hfz14_2,hfz14_3⟩:=zk4 BK143.out)|((with_reducible refine gate_callee (f:=120) rfl ?_);refine zgo 5 Try.func120 #[.int .i64 a0_0,.int .i64 1,.int .i64 50] ?_;(with_reducible refine (spec_l1In.calls a0_0 1 50 true _ A2.out).mono ?_);rintro e w' ⟨rfl,⟨nd,rfl⟩⟩;refine ⟨_,rfl,?_⟩)|(go_at_call 120;(with_reducible refine (spec_l1In.calls a0_1 0 50 false _ A4.out).mono ?_);rintro e w' ⟨rfl,⟨nd,rfl⟩⟩))
  go_ret
  exact ⟨zz1,zz46⟩
 subst c5
 rw [if_pos rfl] at H
 replace H:=Option.bind_eq_some_iff.mp H
 obtain ⟨t146,A60,H⟩:=H
 try dsimp only at H
 have A6:=Aside0.mk A60
 clear A60
 by_cases c7:t146=true
 rotate_left
 ·replace c7:=Bool.eq_false_iff.mpr c7
  subst c7
  rw [if_neg (show ¬ (false=true) by decide)] at H
  obtain rfl:=Option.some.inj H
  go_enter Try.func148,Try.ntmps148
  go_wp2_with (first|((with_reducible refine gate_dst (N:=1) rfl ?_);refine box_event ?hg (N:=1) ?hd (cs:=#[.int .i64 a0_0,.int .i64 a0_1,.int .i64 a0_2,.int .i64 a0_3]) (t:=76) ?hr ?_;(case hd=>rfl);(case hg=>rfl);(case hr=>first|(go_simp;done)|(go_simp;rfl));intro gb143 hg w11 hbox hb;have n0_:=zb1 hb;have n1_:=Aside0.mk (hbox);have n2_:=Aside0.mk ((by rw [hg];exact (below_size zb):w.heap.size≤gb143));have n3_:=Aside0.mk ((by rw [hg];exact (below_size zb):w.heap.size≤gb143));clear HB;have HB:=n0_;have BK143:=n1_;have GW143:=n2_;have GE143:=n3_;clear n0_ n1_ n2_ n3_;clear hb hbox hg;obtain ⟨hcz12_0,hcz12_1,hcz12_2,hcz12_3,hfz12_0,hfz12_1,hfz12_2,hfz12_3⟩:=zk4 BK143.out)|((with_reducible refine gate_callee (f:=120) rfl ?_);refine zgo 5 Try.func120 #[.int .i64 a0_0,.int .i64 1,.int .i64 50] ?_;(with_reducible refine (spec_l1In.calls a0_0 1 50 true _ A2.out).mono ?_);rintro e w' ⟨rfl,⟨nd,rfl⟩⟩;refine ⟨_,rfl,?_⟩)|(go_at_call 120;(with_reducible refine (spec_l1In.calls a0_1 0 50 true _ A4.out).mono ?_);rintro e w' ⟨rfl,⟨nd,rfl⟩⟩)|(go_at_call 120;(with_reducible refine (spec_l1In.calls a0_2 0 500 false _ A6.out).mono ?_);rintro e w' ⟨rfl,⟨nd,rfl⟩⟩))
  go_ret
  exact ⟨zz1,zz46⟩
 subst c7
 rw [if_pos rfl] at H
 replace H:=Option.bind_eq_some_iff.mp H
 obtain ⟨t147,A80,H⟩:=H
 try dsimp only at H
 have A8:=Aside0.mk A80
 clear A80
 obtain rfl:=Option.some.inj H
 go_enter Try.func148,Try.ntmps148
 go_wp2_with (first|((with_reducible refine gate_dst (N:=1) rfl ?_);refine box_event ?hg (N:=1) ?hd (cs:=#[.int .i64 a0_0,.int .i64 a0_1,.int .i64 a0_2,.int .i64 a0_3]) (t:=76) ?hr ?_;(case hd=>rfl);(case hg=>rfl);(case hr=>first|(go_simp;done)|(go_simp;rfl));intro gb143 hg w9 hbox hb;have n0_:=zb1 hb;have n1_:=Aside0.mk (hbox);have n2_:=Aside0.mk ((by rw [hg];exact (below_size zb):w.heap.size≤gb143));have n3_:=Aside0.mk ((by rw [hg];exact (below_size zb):w.heap.size≤gb143));clear HB;have HB:=n0_;have BK143:=n1_;have GW143:=n2_;have GE143:=n3_;clear n0_ n1_ n2_ n3_;clear hb hbox hg;obtain ⟨hcz10_0,hcz10_1,hcz10_2,hcz10_3,hfz10_0,hfz10_1,hfz10_2,hfz10_3⟩:=zk4 BK143.out)|((with_reducible refine gate_callee (f:=120) rfl ?_);refine zgo 5 Try.func120 #[.int .i64 a0_0,.int .i64 1,.int .i64 50] ?_;(with_reducible refine (spec_l1In.calls a0_0 1 50 true _ A2.out).mono ?_);rintro e w' ⟨rfl,⟨nd,rfl⟩⟩;refine ⟨_,rfl,?_⟩)|(go_at_call 120;(with_reducible refine (spec_l1In.calls a0_1 0 50 true _ A4.out).mono ?_);rintro e w' ⟨rfl,⟨nd,rfl⟩⟩)|(go_at_call 120;(with_reducible refine (spec_l1In.calls a0_2 0 500 true _ A6.out).mono ?_);rintro e w' ⟨rfl,⟨nd,rfl⟩⟩)|(go_at_call 120;(with_reducible refine (spec_l1In.calls a0_3 0 500 t147 _ A8.out).mono ?_);rintro e w' ⟨rfl,⟨nd,rfl⟩⟩))
 go_ret
 exact ⟨zz1,zz46⟩

/-! ### spec_l2Good: function 93 -/
def spec_l2Good.l0:Nat→List (S76)→Int→Option (Bool)
 | 0,_,_=>none
 | k + 1,x0,x3=>if x3<(x0.length:Int) then (if 0≤x3 then ((spec_l2Job.f ((rd_T76 x0 x3).f0) ((rd_T76 x0 x3).f1) ((rd_T76 x0 x3).f2) ((rd_T76 x0 x3).f3)).bind fun t149=>(if t149=true then (spec_l2Good.l0 k x0 (wrap64 (x3 + 1))) else (some false))) else (none)) else (some (decide ((x0.length:Int)≤8)))
def spec_l2Good.f (k:Nat) (l0:List (S76)):Option (Bool):=spec_l2Good.l0 k l0 0
theorem spec_l2Good.mono_l:∀ k,(∀ y0 y1,LeO (spec_l2Good.l0 k y0 y1) (spec_l2Good.l0 (k + 1) y0 y1))
 | 0=>fun _ _ r h=>by simp [spec_l2Good.l0] at h
 | k + 1=>by
  have ih0:=spec_l2Good.mono_l k
  ·intro y0 y1
   unfold spec_l2Good.l0
   repeat' first|(with_reducible first|apply ih0|exact LeO.refl _|exact LeO.none _|refine LeO.ite ?_ ?_|refine LeO.bind ?_ (fun _=>?_))|apply ih0|exact LeO.none _|refine LeO.ite ?_ ?_|refine LeO.bind ?_ (fun _=>?_)
theorem spec_l2Good.mono:∀ a0 k,LeO (spec_l2Good.f k a0) (spec_l2Good.f (k + 1) a0):=by
 intro a0 k
 have ih0:=spec_l2Good.mono_l k
 unfold spec_l2Good.f
 repeat' first|(with_reducible first|apply ih0|exact LeO.refl _|exact LeO.none _|refine LeO.ite ?_ ?_|refine LeO.bind ?_ (fun _=>?_))|apply ih0|exact LeO.none _|refine LeO.ite ?_ ?_|refine LeO.bind ?_ (fun _=>?_)
set_option maxHeartbeats 8000000 in
set_option maxRecDepth 100000 in
theorem spec_l2Good.calls (k:Nat) (A0:Option Addr) (c0:Nat) (l0:List (S76)) (r:Bool) (w:World) (hr0:Kd.C k76 w A0 l0.length l0) (hc0:l0.length≤c0) (h:spec_l2Good.f k l0=some r) :
  Calls Try.prog 93 #[.slice A0 l0.length c0] w fun e w'=>e=.returned (.bool r)∧Below w.heap.size w w':=by
 have hu76:=Try.underlying76
 have HR0:=Aside0.mk hr0
 have HC0:=Aside0.mk hc0
 clear hr0 hc0
 have HB:=Aside0.mk (Below.refl w.heap.size w)
 have H:(spec_l2Good.l0 k l0 0)=some r:=h
 clear h
 have H':=Aside0.mk H
 clear H
 go_enter Try.func93,Try.ntmps93
 go_wp2
 go_loopg [3] k (fun kq v3 w'=>∃ (x3_1:Int),v3=.int .i64 x3_1∧Aside0 (spec_l2Good.l0 kq l0 x3_1=some r)∧Aside0 (kq≤k)∧Aside0 (Below w.heap.size w w'))
 case atStart=>exact ⟨(0),zo,H',⟨Nat.le_refl _⟩,⟨zb⟩⟩
 case round=>
  clear H'
  obtain ⟨x3_1,rfl,HA,HK1,HB⟩:=hrel
  cases gk with
  | zero=>exact absurd HA.out (by simp [spec_l2Good.l0])
  | succ k1=>
   have H:=HA.out
   clear HA
   simp only [spec_l2Good.l0] at H
   by_cases c2:x3_1<(l0.length:Int)
   rotate_left
   ·rw [if_neg c2] at H
    have c2b0:=decide_eq_false c2
    clear c2
    obtain rfl:=Option.some.inj H
    go_wp2
    go_ret
    exact ⟨zz1,zb⟩
   rw [if_pos c2] at H
   have c2b0:=decide_eq_true c2
   clear c2
   by_cases c3:0≤x3_1
   rotate_left
   ·rw [if_neg c3] at H
    exact absurd H (by simp)
   rw [if_pos c3] at H
   have c3b0:=decide_eq_true c3
   clear c3
   replace H:=Option.bind_eq_some_iff.mp H
   obtain ⟨t149,A40,H⟩:=H
   try dsimp only at H
   have A4:=Aside0.mk A40
   clear A40
   by_cases c5:t149=true
   ·subst c5
    rw [if_pos rfl] at H
    have H':=Aside0.mk H
    clear H
    have p148:0≤(x3_1:Int):=of_decide_eq_true za
    have q148:x3_1<(l0.length:Int):=of_decide_eq_true za
    obtain ⟨ad148,e148,hx148_0,hx148_1,hx148_2,hx148_3⟩:=at_T76 HR0.out x3_1 p148 q148
    cases e148
    replace hx148_0:=zh_ HB hx148_0
    replace hx148_1:=zh_ HB hx148_1
    replace hx148_2:=zh_ HB hx148_2
    replace hx148_3:=zh_ HB hx148_3
    replace p148:=eq_true p148
    replace q148:=eq_true q148
    go_wp2_with (first|((with_reducible refine gate_callee (f:=148) rfl ?_);refine zgo 14 Try.func148 #[.agg #[.int .i64 ((rd_T76 l0 x3_1).f0),.int .i64 ((rd_T76 l0 x3_1).f1),.int .i64 ((rd_T76 l0 x3_1).f2),.int .i64 ((rd_T76 l0 x3_1).f3)]] ?_;(with_reducible refine (spec_l2Job.calls ((rd_T76 l0 x3_1).f0) ((rd_T76 l0 x3_1).f1) ((rd_T76 l0 x3_1).f2) ((rd_T76 l0 x3_1).f3) true _ A4.out).mono ?_);rintro e w6 ⟨rfl,hb⟩;refine ⟨_,rfl,?_⟩;replace HB:=zb1 hb;(try clear hb)))
    go_roundg k1
    case measure=>have:=HK1.out;omega
    case rel=>exact ⟨(wrap64 (x3_1 + 1)),zo,H',⟨by have:=HK1.out;omega⟩,⟨zb⟩⟩
   replace c5:=Bool.eq_false_iff.mpr c5
   subst c5
   rw [if_neg (show ¬ (false=true) by decide)] at H
   obtain rfl:=Option.some.inj H
   have p148:0≤(x3_1:Int):=of_decide_eq_true za
   have q148:x3_1<(l0.length:Int):=of_decide_eq_true za
   obtain ⟨ad148,e148,hx148_0,hx148_1,hx148_2,hx148_3⟩:=at_T76 HR0.out x3_1 p148 q148
   cases e148
   replace hx148_0:=zh_ HB hx148_0
   replace hx148_1:=zh_ HB hx148_1
   replace hx148_2:=zh_ HB hx148_2
   replace hx148_3:=zh_ HB hx148_3
   replace p148:=eq_true p148
   replace q148:=eq_true q148
   go_wp2_with (first|((with_reducible refine gate_callee (f:=148) rfl ?_);refine zgo 14 Try.func148 #[.agg #[.int .i64 ((rd_T76 l0 x3_1).f0),.int .i64 ((rd_T76 l0 x3_1).f1),.int .i64 ((rd_T76 l0 x3_1).f2),.int .i64 ((rd_T76 l0 x3_1).f3)]] ?_;(with_reducible refine (spec_l2Job.calls ((rd_T76 l0 x3_1).f0) ((rd_T76 l0 x3_1).f1) ((rd_T76 l0 x3_1).f2) ((rd_T76 l0 x3_1).f3) false _ A4.out).mono ?_);rintro e w7 ⟨rfl,hb⟩;refine ⟨_,rfl,?_⟩;replace HB:=zb1 hb;(try clear hb)))
   go_ret
   exact ⟨zz1,zb⟩

/-! ### spec_l3Plain: function 132 -/
def spec_l3Plain.l0:Nat→List (S76)→Int→Option (Bool)
 | 0,_,_=>none
 | k + 1,x0,x3=>if x3<(x0.length:Int) then (if 0≤x3 then (if ((rd_T76 x0 x3).f2)=0 then (spec_l3Plain.l0 k x0 (wrap64 (x3 + 1))) else (some false)) else (none)) else (some true)
def spec_l3Plain.f (k:Nat) (l0:List (S76)):Option (Bool):=spec_l3Plain.l0 k l0 0
theorem spec_l3Plain.mono_l:∀ k,(∀ y0 y1,LeO (spec_l3Plain.l0 k y0 y1) (spec_l3Plain.l0 (k + 1) y0 y1))
 | 0=>fun _ _ r h=>by simp [spec_l3Plain.l0] at h
 | k + 1=>by
  have ih0:=spec_l3Plain.mono_l k
  ·intro y0 y1
   unfold spec_l3Plain.l0
   repeat' first|(with_reducible first|apply ih0|exact LeO.refl _|exact LeO.none _|refine LeO.ite ?_ ?_|refine LeO.bind ?_ (fun _=>?_))|apply ih0|exact LeO.none _|refine LeO.ite ?_ ?_|refine LeO.bind ?_ (fun _=>?_)
theorem spec_l3Plain.mono:∀ a0 k,LeO (spec_l3Plain.f k a0) (spec_l3Plain.f (k + 1) a0):=by
 intro a0 k
 have ih0:=spec_l3Plain.mono_l k
 unfold spec_l3Plain.f
 repeat' first|(with_reducible first|apply ih0|exact LeO.refl _|exact LeO.none _|refine LeO.ite ?_ ?_|refine LeO.bind ?_ (fun _=>?_))|apply ih0|exact LeO.none _|refine LeO.ite ?_ ?_|refine LeO.bind ?_ (fun _=>?_)
set_option maxHeartbeats 8000000 in
set_option maxRecDepth 100000 in
theorem spec_l3Plain.calls (k:Nat) (A0:Option Addr) (c0:Nat) (l0:List (S76)) (r:Bool) (w:World) (hr0:Kd.C k76 w A0 l0.length l0) (hc0:l0.length≤c0) (h:spec_l3Plain.f k l0=some r) :
  Calls Try.prog 132 #[.slice A0 l0.length c0] w fun e w'=>e=.returned (.bool r)∧Drawn0 w w':=by
 have HR0:=Aside0.mk hr0
 have HC0:=Aside0.mk hc0
 clear hr0 hc0
 have H:(spec_l3Plain.l0 k l0 0)=some r:=h
 clear h
 have H':=Aside0.mk H
 clear H
 go_enter Try.func132,Try.ntmps132
 go_wp2
 go_loopg [3] k (fun kq v3 w'=>∃ (x3_1:Int),v3=.int .i64 x3_1∧Aside0 (spec_l3Plain.l0 kq l0 x3_1=some r)∧Aside0 (kq≤k)∧Drawn0 w w')
 case atStart=>exact ⟨(0),zo,H',⟨Nat.le_refl _⟩,zz6⟩
 case round=>
  clear H'
  try clear c1
  obtain ⟨x3_1,rfl,HA,HK1,⟨m1,rfl⟩⟩:=hrel
  cases gk with
  | zero=>exact absurd HA.out (by simp [spec_l3Plain.l0])
  | succ k1=>
   have H:=HA.out
   clear HA
   simp only [spec_l3Plain.l0] at H
   by_cases c2:x3_1<(l0.length:Int)
   rotate_left
   ·rw [if_neg c2] at H
    have c2b0:=decide_eq_false c2
    clear c2
    obtain rfl:=Option.some.inj H
    go_wp2
    go_ret
    exact ⟨zz7,zz6⟩
   rw [if_pos c2] at H
   have c2b0:=decide_eq_true c2
   clear c2
   by_cases c3:0≤x3_1
   rotate_left
   ·rw [if_neg c3] at H
    exact absurd H (by simp)
   rw [if_pos c3] at H
   have c3b0:=decide_eq_true c3
   clear c3
   by_cases c4:((rd_T76 l0 x3_1).f2)=0
   rotate_left
   ·rw [if_neg c4] at H
    have c4b0:(((rd_T76 l0 x3_1).f2) == 0)=false:=beq_eq_false_iff_ne.mpr c4
    have c4b1:(((rd_T76 l0 x3_1).f2) != 0)=true:=bne_iff_ne.mpr c4
    obtain rfl:=Option.some.inj H
    have p150:0≤(x3_1:Int):=of_decide_eq_true za
    have q150:x3_1<(l0.length:Int):=of_decide_eq_true za
    obtain ⟨ad150,e150,hx150_0,hx150_1,hx150_2,hx150_3⟩:=at_T76 HR0.out x3_1 p150 q150
    cases e150
    replace p150:=eq_true p150
    replace q150:=eq_true q150
    go_wp2
    go_ret
    exact ⟨zz7,zz6⟩
   rw [if_pos c4] at H
   have c4b0:(((rd_T76 l0 x3_1).f2) == 0)=true:=beq_iff_eq.mpr c4
   have c4b1:(((rd_T76 l0 x3_1).f2) != 0)=false:=bne_eq_false_iff_eq.mpr c4
   clear c4
   have H':=Aside0.mk H
   clear H
   have p150:0≤(x3_1:Int):=of_decide_eq_true za
   have q150:x3_1<(l0.length:Int):=of_decide_eq_true za
   obtain ⟨ad150,e150,hx150_0,hx150_1,hx150_2,hx150_3⟩:=at_T76 HR0.out x3_1 p150 q150
   cases e150
   replace p150:=eq_true p150
   replace q150:=eq_true q150
   go_wp2
   go_roundg k1
   case measure=>have:=HK1.out;omega
   case rel=>exact ⟨(wrap64 (x3_1 + 1)),zo,H',⟨by have:=HK1.out;omega⟩,zz6⟩

/-! ### spec_l7Good: function 76 -/
def spec_l7Good.f (k:Nat) (l0:List (S76)) (a1:Int) (l2:List (S72)):Option (Bool):=(spec_l2Good.f k l0).bind fun t151=>(if t151=true then ((spec_l3Plain.f k l0).bind fun t152=>(if t152=true then ((spec_l1In.f a1 1 4).bind fun t153=>(if t153=true then ((spec_l4Good.f k (l0.length:Int) l2).bind fun t154=>(some t154)) else (some false))) else (some false))) else (some false))
theorem spec_l7Good.mono:∀ a0 a1 a2 k,LeO (spec_l7Good.f k a0 a1 a2) (spec_l7Good.f (k + 1) a0 a1 a2):=by
 intro a0 a1 a2 k
 unfold spec_l7Good.f
 repeat' first|(with_reducible first|exact spec_l2Good.mono _ _|exact spec_l3Plain.mono _ _|exact spec_l4Good.mono _ _ _|exact LeO.refl _|exact LeO.none _|refine LeO.ite ?_ ?_|refine LeO.bind ?_ (fun _=>?_))|exact spec_l2Good.mono _ _|exact spec_l3Plain.mono _ _|exact spec_l4Good.mono _ _ _|exact LeO.none _|refine LeO.ite ?_ ?_|refine LeO.bind ?_ (fun _=>?_)
set_option maxHeartbeats 8000000 in
set_option maxRecDepth 100000 in
theorem spec_l7Good.calls (k:Nat) (A0:Option Addr) (c0:Nat) (l0:List (S76)) (a1:Int) (A2:Option Addr) (c2:Nat) (l2:List (S72)) (r:Bool) (w:World) (hr0:Kd.C k76 w A0 l0.length l0) (hc0:l0.length≤c0) (hr2:Kd.C k72 w A2 l2.length l2) (hc2:l2.length≤c2) (h:spec_l7Good.f k l0 a1 l2=some r) :
  Calls Try.prog 76 #[.slice A0 l0.length c0,.int .i64 a1,.slice A2 l2.length c2] w fun e w'=>e=.returned (.bool r)∧Below w.heap.size w w':=by
 have HR0:=Aside0.mk hr0
 have HC0:=Aside0.mk hc0
 clear hr0 hc0
 have HR2:=Aside0.mk hr2
 have HC2:=Aside0.mk hc2
 clear hr2 hc2
 have HB:=Aside0.mk (Below.refl w.heap.size w)
 have H:((spec_l2Good.f k l0).bind fun t151=>(if t151=true then ((spec_l3Plain.f k l0).bind fun t152=>(if t152=true then ((spec_l1In.f a1 1 4).bind fun t153=>(if t153=true then ((spec_l4Good.f k (l0.length:Int) l2).bind fun t154=>(some t154)) else (some false))) else (some false))) else (some false)))=some r:=h
 clear h
 replace H:=Option.bind_eq_some_iff.mp H
 obtain ⟨t151,A40,H⟩:=H
 try dsimp only at H
 have A4:=Aside0.mk A40
 clear A40
 by_cases c5:t151=true
 rotate_left
 ·replace c5:=Bool.eq_false_iff.mpr c5
  subst c5
  rw [if_neg (show ¬ (false=true) by decide)] at H
  obtain rfl:=Option.some.inj H
  go_enter Try.func76,Try.ntmps76
  go_wp2_with (first|((with_reducible refine gate_callee (f:=93) rfl ?_);refine zgo 8 Try.func93 #[.slice A0 l0.length c0] ?_;(with_reducible refine (spec_l2Good.calls k _ _ l0 false _ ?side1 ?side2 A4.out).mono ?_);(case side1=>exact zC HR0.out);(case side2=>exact HC0.out);rintro e w15 ⟨rfl,hb⟩;refine ⟨_,rfl,?_⟩;replace HB:=zb1 hb;(try clear hb)))
  go_ret
  exact ⟨zz1,zb⟩
 subst c5
 rw [if_pos rfl] at H
 replace H:=Option.bind_eq_some_iff.mp H
 obtain ⟨t152,A60,H⟩:=H
 try dsimp only at H
 have A6:=Aside0.mk A60
 clear A60
 by_cases c7:t152=true
 rotate_left
 ·replace c7:=Bool.eq_false_iff.mpr c7
  subst c7
  rw [if_neg (show ¬ (false=true) by decide)] at H
  obtain rfl:=Option.some.inj H
  go_enter Try.func76,Try.ntmps76
  go_wp2_with (first|((with_reducible refine gate_callee (f:=93) rfl ?_);refine zgo 8 Try.func93 #[.slice A0 l0.length c0] ?_;(with_reducible refine (spec_l2Good.calls k _ _ l0 true _ ?side1 ?side2 A4.out).mono ?_);(case side1=>exact zC HR0.out);(case side2=>exact HC0.out);rintro e w14 ⟨rfl,hb⟩;refine ⟨_,rfl,?_⟩;replace HB:=zb1 hb;(try clear hb))|(go_at_call 132;(with_reducible refine (spec_l3Plain.calls k _ _ l0 false _ ?side1 ?side2 A6.out).mono ?_);(case side1=>exact zC (Kd.C_below HR0.out HB.out));(case side2=>exact HC0.out);rintro e w' ⟨rfl,⟨nd,rfl⟩⟩))
  go_ret
  exact ⟨zz1,zb⟩
 subst c7
 rw [if_pos rfl] at H
 replace H:=Option.bind_eq_some_iff.mp H
 obtain ⟨t153,A80,H⟩:=H
 try dsimp only at H
 have A8:=Aside0.mk A80
 clear A80
 by_cases c9:t153=true
 rotate_left
 ·replace c9:=Bool.eq_false_iff.mpr c9
  subst c9
  rw [if_neg (show ¬ (false=true) by decide)] at H
  obtain rfl:=Option.some.inj H
  go_enter Try.func76,Try.ntmps76
  go_wp2_with (first|((with_reducible refine gate_callee (f:=93) rfl ?_);refine zgo 8 Try.func93 #[.slice A0 l0.length c0] ?_;(with_reducible refine (spec_l2Good.calls k _ _ l0 true _ ?side1 ?side2 A4.out).mono ?_);(case side1=>exact zC HR0.out);(case side2=>exact HC0.out);rintro e w13 ⟨rfl,hb⟩;refine ⟨_,rfl,?_⟩;replace HB:=zb1 hb;(try clear hb))|(go_at_call 132;(with_reducible refine (spec_l3Plain.calls k _ _ l0 true _ ?side1 ?side2 A6.out).mono ?_);(case side1=>exact zC (Kd.C_below HR0.out HB.out));(case side2=>exact HC0.out);rintro e w' ⟨rfl,⟨nd,rfl⟩⟩)|(go_at_call 120;(with_reducible refine (spec_l1In.calls a1 1 4 false _ A8.out).mono ?_);rintro e w' ⟨rfl,⟨nd,rfl⟩⟩))
  go_ret
  exact ⟨zz1,zb⟩
 subst c9
 rw [if_pos rfl] at H
 replace H:=Option.bind_eq_some_iff.mp H
 obtain ⟨t154,A100,H⟩:=H
 try dsimp only at H
 have A10:=Aside0.mk A100
 clear A100
 obtain rfl:=Option.some.inj H
 go_enter Try.func76,Try.ntmps76
 go_wp2_with (first|((with_reducible refine gate_callee (f:=93) rfl ?_);refine zgo 8 Try.func93 #[.slice A0 l0.length c0] ?_;(with_reducible refine (spec_l2Good.calls k _ _ l0 true _ ?side1 ?side2 A4.out).mono ?_);(case side1=>exact zC HR0.out);(case side2=>exact HC0.out);rintro e w11 ⟨rfl,hb⟩;refine ⟨_,rfl,?_⟩;replace HB:=zb1 hb;(try clear hb))|(go_at_call 132;(with_reducible refine (spec_l3Plain.calls k _ _ l0 true _ ?side1 ?side2 A6.out).mono ?_);(case side1=>exact zC (Kd.C_below HR0.out HB.out));(case side2=>exact HC0.out);rintro e w' ⟨rfl,⟨nd,rfl⟩⟩)|(go_at_call 120;(with_reducible refine (spec_l1In.calls a1 1 4 true _ A8.out).mono ?_);rintro e w' ⟨rfl,⟨nd,rfl⟩⟩)|(go_at_call 56;(with_reducible refine (spec_l4Good.calls k (l0.length:Int) _ _ l2 t154 _ ?side1 ?side2 A10.out).mono ?_);(case side1=>exact zC (Kd.C_below HR2.out zb));(case side2=>exact HC2.out);rintro e w12 ⟨rfl,hb⟩;replace HB:=zb1 hb;(try clear hb)))
 go_ret
 exact ⟨zz1,zb⟩

/-! ### spec_l1Most: function 145 -/
def spec_l1Most.f (a0:Int) (a1:Int):Option (Int):=if a0>a1 then (some a0) else (some a1)
set_option maxHeartbeats 8000000 in
set_option maxRecDepth 100000 in
theorem spec_l1Most.calls (a0:Int) (a1:Int) (r:Int) (w:World) (h:spec_l1Most.f a0 a1=some r) :
  Calls Try.prog 145 #[.int .i64 a0,.int .i64 a1] w fun e w'=>e=.returned (.int .i64 r)∧Drawn0 w w':=by
 have H:(if a0>a1 then (some a0) else (some a1))=some r:=h
 clear h
 by_cases c3:a0>a1
 ·rw [if_pos c3] at H
  have c3b0:=decide_eq_true c3
  clear c3
  obtain rfl:=Option.some.inj H
  go_enter Try.func145,Try.ntmps145
  go_wp2
  go_ret
  exact ⟨zz7,zz6⟩
 rw [if_neg c3] at H
 have c3b0:=decide_eq_false c3
 clear c3
 obtain rfl:=Option.some.inj H
 go_enter Try.func145,Try.ntmps145
 go_wp2
 go_ret
 exact ⟨zz7,zz6⟩

/-! ### spec_l7Tail: function 133 -/
mutual
def spec_l7Tail.l0:Nat→List (S76)→List (List Bool)→Int→Int→Int→Option (Int)
 | 0,_,_,_,_,_=>none
 | k + 1,x0,x1,x2,x7,x8=>if x8<(x0.length:Int) then (if 0≤x2 then (if x2<(x1.length:Int) then (if 0≤x8 then (if x8<((rd_L4 x1 x2).length:Int) then (if rdOf false (rd_L4 x1 x2) x8=true then ((spec_l7Tail.f k x0 x1 x8).bind fun t158=>((spec_l1Most.f x7 t158).bind fun t159=>(spec_l7Tail.l0 k x0 x1 x2 t159 (wrap64 (x8 + 1))))) else (spec_l7Tail.l0 k x0 x1 x2 x7 (wrap64 (x8 + 1)))) else (none)) else (none)) else (none)) else (none)) else (if 0≤x2 then (if x2<(x0.length:Int) then (some (wrap64 (((rd_T76 x0 x2).f0) + x7))) else (none)) else (none))
def spec_l7Tail.f:Nat→List (S76)→List (List Bool)→Int→Option (Int)
 | 0,_,_,_=>none
 | k + 1,l0,l1,a2=>spec_l7Tail.l0 k l0 l1 a2 0 0
end
theorem spec_l7Tail.mono_l:∀ k,(∀ y0 y1 y2,LeO (spec_l7Tail.f k y0 y1 y2) (spec_l7Tail.f (k + 1) y0 y1 y2))∧(∀ y0 y1 y2 y3 y4,LeO (spec_l7Tail.l0 k y0 y1 y2 y3 y4) (spec_l7Tail.l0 (k + 1) y0 y1 y2 y3 y4))
 | 0=>⟨fun _ _ _ r h=>by simp [spec_l7Tail.f] at h,fun _ _ _ _ _ r h=>by simp [spec_l7Tail.l0] at h⟩
 | k + 1=>by
  obtain ⟨ih0,ih1⟩:=spec_l7Tail.mono_l k
  refine ⟨?_,?_⟩ <;> intros <;> first|unfold spec_l7Tail.f|unfold spec_l7Tail.l0
  all_goals repeat' first|(with_reducible first|apply ih0|apply ih1|exact LeO.refl _|exact LeO.none _|refine LeO.ite ?_ ?_|refine LeO.bind ?_ (fun _=>?_))|apply ih0|apply ih1|exact LeO.none _|refine LeO.ite ?_ ?_|refine LeO.bind ?_ (fun _=>?_)
theorem spec_l7Tail.mono:∀ a0 a1 a2 k,LeO (spec_l7Tail.f k a0 a1 a2) (spec_l7Tail.f (k + 1) a0 a1 a2):=by
 intro a0 a1 a2 k
 obtain ⟨ih0,ih1⟩:=spec_l7Tail.mono_l k
 exact ih0 a0 a1 a2
set_option maxHeartbeats 8000000 in
set_option maxRecDepth 100000 in
theorem spec_l7Tail.calls (k:Nat):∀ (A0:Option Addr) (c0:Nat) (l0:List (S76)) (A1:Option Addr) (c1:Nat) (l1:List (List Bool)) (a2:Int) (r:Int) (w:World) (hr0:Kd.C k76 w A0 l0.length l0) (hc0:l0.length≤c0) (hr1:Kd.C (Kd.slice 4 Kd.bool) w A1 l1.length l1) (hc1:l1.length≤c1) (h:spec_l7Tail.f k l0 l1 a2=some r),
  Calls Try.prog 133 #[.slice A0 l0.length c0,.slice A1 l1.length c1,.int .i64 a2] w fun e w'=>e=.returned (.int .i64 r)∧Drawn0 w w':=by
 induction k using Nat.strongRecOn with
 | _ k ih=>
 intro A0 c0 l0 A1 c1 l1 a2 r w hr0 hc0 hr1 hc1 h
 cases k with
 | zero=>exact absurd h (by simp [spec_l7Tail.f])
 | succ k=>
 simp only [spec_l7Tail.f] at h
 have HR0:=Aside0.mk hr0
 have HC0:=Aside0.mk hc0
 clear hr0 hc0
 have HR1:=Aside0.mk hr1
 have HC1:=Aside0.mk hc1
 clear hr1 hc1
 have H:(spec_l7Tail.l0 k l0 l1 a2 0 0)=some r:=h
 clear h
 have H':=Aside0.mk H
 clear H
 go_enter Try.func133,Try.ntmps133
 go_wp2
 go_loopg [7,8] k (fun kq v7 v8 w'=>∃ (x7_1:Int) (x8_1:Int),v7=.int .i64 x7_1∧v8=.int .i64 x8_1∧Aside0 (spec_l7Tail.l0 kq l0 l1 a2 x7_1 x8_1=some r)∧Aside0 (kq≤k)∧Drawn0 w w')
 case atStart=>exact ⟨(0),(0),zo,zo,H',⟨Nat.le_refl _⟩,zz6⟩
 case round=>
  clear H'
  obtain ⟨x7_1,x8_1,rfl,rfl,HA,HK1,⟨m1,rfl⟩⟩:=hrel
  cases gk with
  | zero=>exact absurd HA.out (by simp [spec_l7Tail.l0])
  | succ k1=>
   have H:=HA.out
   clear HA
   simp only [spec_l7Tail.l0] at H
   by_cases c4:x8_1<(l0.length:Int)
   rotate_left
   ·rw [if_neg c4] at H
    have c4b0:=decide_eq_false c4
    clear c4
    by_cases c13:0≤a2
    rotate_left
    ·rw [if_neg c13] at H
     exact absurd H (by simp)
    rw [if_pos c13] at H
    have c13b0:=decide_eq_true c13
    clear c13
    by_cases c14:a2<(l0.length:Int)
    rotate_left
    ·rw [if_neg c14] at H
     exact absurd H (by simp)
    rw [if_pos c14] at H
    have c14b0:=decide_eq_true c14
    clear c14
    obtain rfl:=Option.some.inj H
    have p155:0≤(a2:Int):=of_decide_eq_true za
    have q155:a2<(l0.length:Int):=of_decide_eq_true za
    obtain ⟨ad155,e155,hx155_0,hx155_1,hx155_2,hx155_3⟩:=at_T76 HR0.out a2 p155 q155
    cases e155
    replace p155:=eq_true p155
    replace q155:=eq_true q155
    go_wp2
    go_ret
    exact ⟨zz7,zz6⟩
   rw [if_pos c4] at H
   have c4b0:=decide_eq_true c4
   clear c4
   by_cases c5:0≤a2
   rotate_left
   ·rw [if_neg c5] at H
    exact absurd H (by simp)
   rw [if_pos c5] at H
   have c5b0:=decide_eq_true c5
   clear c5
   by_cases c6:a2<(l1.length:Int)
   rotate_left
   ·rw [if_neg c6] at H
    exact absurd H (by simp)
   rw [if_pos c6] at H
   have c6b0:=decide_eq_true c6
   clear c6
   by_cases c7:0≤x8_1
   rotate_left
   ·rw [if_neg c7] at H
    exact absurd H (by simp)
   rw [if_pos c7] at H
   have c7b0:=decide_eq_true c7
   clear c7
   by_cases c8:x8_1<((rd_L4 l1 a2).length:Int)
   rotate_left
   ·rw [if_neg c8] at H
    exact absurd H (by simp)
   rw [if_pos c8] at H
   have c8b0:=decide_eq_true c8
   clear c8
   obtain ⟨bq9,hbq9⟩:∃ b_:Bool,b_=(rdOf false (rd_L4 l1 a2) x8_1):=⟨_,rfl⟩
   replace H:(if bq9=true then ((spec_l7Tail.f k1 l0 l1 x8_1).bind fun t158=>((spec_l1Most.f x7_1 t158).bind fun t159=>(spec_l7Tail.l0 k1 l0 l1 a2 t159 (wrap64 (x8_1 + 1))))) else (spec_l7Tail.l0 k1 l0 l1 a2 x7_1 (wrap64 (x8_1 + 1))))=some r:=by rw [←hbq9] at H;exact H
   have Nbq9:=Aside0.mk hbq9
   clear hbq9
   by_cases c10:bq9=true
   rotate_left
   ·replace c10:=Bool.eq_false_iff.mpr c10
    subst c10
    rw [if_neg (show ¬ (false=true) by decide)] at H
    have H':=Aside0.mk H
    clear H
    have p156:0≤(a2:Int):=of_decide_eq_true za
    have q156:a2<(l1.length:Int):=of_decide_eq_true za
    obtain ⟨ad156,A156_0,c156_0,e156,hx156_0,hl156_0,hi156_0⟩:=at_L4 HR1.out a2 p156 q156
    cases e156
    have HR156_0:=Aside0.mk hi156_0
    have HC156_0:=Aside0.mk hl156_0
    clear hi156_0 hl156_0
    replace p156:=eq_true p156
    replace q156:=eq_true q156
    have p157:0≤(x8_1:Int):=of_decide_eq_true za
    have q157:x8_1<((rd_L4 l1 a2).length:Int):=of_decide_eq_true za
    obtain ⟨ad157,e157,hx157_0⟩:=Kd.at_bool HR156_0.out x8_1 p157 q157
    (try rw [←Nbq9.out] at hx157_0)
    cases e157
    replace p157:=eq_true p157
    replace q157:=eq_true q157
    go_wp2
    go_roundg k1
    case measure=>have:=HK1.out;omega
    case rel=>exact ⟨(x7_1),(wrap64 (x8_1 + 1)),zo,zo,H',⟨by have:=HK1.out;omega⟩,zz6⟩
   subst c10
   rw [if_pos rfl] at H
   replace H:=Option.bind_eq_some_iff.mp H
   obtain ⟨t158,A110,H⟩:=H
   try dsimp only at H
   have A11:=Aside0.mk A110
   clear A110
   replace H:=Option.bind_eq_some_iff.mp H
   obtain ⟨t159,A120,H⟩:=H
   try dsimp only at H
   have A12:=Aside0.mk A120
   clear A120
   have H':=Aside0.mk H
   clear H
   have p156:0≤(a2:Int):=of_decide_eq_true za
   have q156:a2<(l1.length:Int):=of_decide_eq_true za
   obtain ⟨ad156,A156_0,c156_0,e156,hx156_0,hl156_0,hi156_0⟩:=at_L4 HR1.out a2 p156 q156
   cases e156
   have HR156_0:=Aside0.mk hi156_0
   have HC156_0:=Aside0.mk hl156_0
   clear hi156_0 hl156_0
   replace p156:=eq_true p156
   replace q156:=eq_true q156
   have p157:0≤(x8_1:Int):=of_decide_eq_true za
   have q157:x8_1<((rd_L4 l1 a2).length:Int):=of_decide_eq_true za
   obtain ⟨ad157,e157,hx157_0⟩:=Kd.at_bool HR156_0.out x8_1 p157 q157
   (try rw [←Nbq9.out] at hx157_0)
   cases e157
   replace p157:=eq_true p157
   replace q157:=eq_true q157
   go_wp2_with (first|((with_reducible refine gate_callee (f:=133) rfl ?_);refine zgo 26 Try.func133 #[.slice A0 l0.length c0,.slice (some ad156) l1.length c1,.int .i64 x8_1] ?_;(with_reducible refine (ih k1 (by have:=HK1.out;omega) _ _ l0 _ _ l1 x8_1 t158 _ ?side1 ?side2 ?side3 ?side4 A11.out).mono ?_);(case side1=>exact zC HR0.out);(case side2=>exact HC0.out);(case side3=>exact zC HR1.out);(case side4=>exact HC1.out);rintro e w' ⟨rfl,⟨nd,rfl⟩⟩;refine ⟨_,rfl,?_⟩)|((with_reducible refine gate_callee (f:=145) rfl ?_);refine zgo 27 Try.func145 #[.int .i64 x7_1,.int .i64 t158] ?_;(with_reducible refine (spec_l1Most.calls x7_1 t158 t159 _ A12.out).mono ?_);rintro e w' ⟨rfl,⟨nd,rfl⟩⟩;refine ⟨_,rfl,?_⟩))
   go_roundg k1
   case measure=>have:=HK1.out;omega
   case rel=>exact ⟨(t159),(wrap64 (x8_1 + 1)),zo,zo,H',⟨by have:=HK1.out;omega⟩,zz6⟩

end Go.Proofs.Ytbcfmegepkhlpaa.XFnShared
-- minified
