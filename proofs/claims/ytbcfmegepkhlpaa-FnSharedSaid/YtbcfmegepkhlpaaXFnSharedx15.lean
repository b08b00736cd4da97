-- Written by a program of this session (the kit's print, widened). Proved here: what each function answers, for the arguments that its contract names.
import Derived.Test.YtbcfmegepkhlpaaXFnSharedx0
import Derived.Test.YtbcfmegepkhlpaaXFnSharedx2
import Derived.Test.YtbcfmegepkhlpaaXFnSharedx13
import Derived.Test.YtbcfmegepkhlpaaXFnSharedx14
namespace Go.Proofs.Ytbcfmegepkhlpaa.XFnShared
open Go.RowKit Go.Proofs.YtbcfmegepkhlpaaW.PrintWords Go.Proofs.YtbcfmegepkhlpaaW.PrintLast Go.Proofs.YtbcfmegepkhlpaaW.PrintMore
attribute [local go_sem] max2_int min2_int max_two min_two max_three min_three max_four min_four   -- for this text's walks alone
attribute [local go_sem] idxA_72_0 idxA_72_1 fldS_96_0 fldS_96_1 fldS_96_2 fldS_111_0 fldS_111_1 fldS_111_2
set_option linter.unusedVariables false
set_option linter.unusedSimpArgs false

/-! ### impl_IsShared: function 40 -/
def impl_IsShared.f (k:Nat) (l0:List (S76)) (a1:Int) (l2:List (List (S116))):Option (Bool × Bool):=(impl_isParallel.f k l0 a1 ([]:List (S72))).bind fun t512=>(if t512=true then (if (l2.length:Int)=a1 then ((impl_isShared.f k l0 l2).bind fun t513=>(some (t513,true))) else (some (false,true))) else (some (false,false)))
theorem impl_IsShared.mono:∀ a0 a1 a2 k,LeO (impl_IsShared.f k a0 a1 a2) (impl_IsShared.f (k + 1) a0 a1 a2):=by
 intro a0 a1 a2 k
 unfold impl_IsShared.f
 repeat' first|(with_reducible first|exact impl_isParallel.mono _ _ _ _|exact impl_isShared.mono _ _ _|exact LeO.refl _|exact LeO.none _|refine LeO.ite ?_ ?_|refine LeO.bind ?_ (fun _=>?_))|exact impl_isParallel.mono _ _ _ _|exact impl_isShared.mono _ _ _|exact LeO.none _|refine LeO.ite ?_ ?_|refine LeO.bind ?_ (fun _=>?_)
set_option maxHeartbeats 8000000 in
set_option maxRecDepth 100000 in
theorem impl_IsShared.calls (k:Nat) (A0:Option Addr) (c0:Nat) (l0:List (S76)) (a1:Int) (A2:Option Addr) (c2:Nat) (l2:List (List (S116))) (r1:Bool) (r2:Bool) (w:World) (hr0:Kd.C k76 w A0 l0.length l0) (hc0:l0.length≤c0) (hr2:Kd.C (Kd.slice 116 k116) w A2 l2.length l2) (hc2:l2.length≤c2) (h:impl_IsShared.f k l0 a1 l2=some (r1,r2)) :
  Calls Try.prog 40 #[.slice A0 l0.length c0,.int .i64 a1,.slice A2 l2.length c2] w fun e w'=>e=.returned (.tuple #[.bool r1,.bool r2])∧Below w.heap.size w w':=by
 have HR0:=Aside0.mk hr0
 have HC0:=Aside0.mk hc0
 clear hr0 hc0
 have HR2:=Aside0.mk hr2
 have HC2:=Aside0.mk hc2
 clear hr2 hc2
 have HB:=Aside0.mk (Below.refl w.heap.size w)
 have H:((impl_isParallel.f k l0 a1 ([]:List (S72))).bind fun t512=>(if t512=true then (if (l2.length:Int)=a1 then ((impl_isShared.f k l0 l2).bind fun t513=>(some (t513,true))) else (some (false,true))) else (some (false,false))))=some (r1,r2):=h
 clear h
 replace H:=Option.bind_eq_some_iff.mp H
 obtain ⟨t512,A40,H⟩:=H
 try dsimp only at H
 have A4:=Aside0.mk A40
 clear A40
 by_cases c5:t512=true
 rotate_left
 ·replace c5:=Bool.eq_false_iff.mpr c5
  subst c5
  rw [if_neg (show ¬ (false=true) by decide)] at H
  simp only [Option.some.injEq,Prod.mk.injEq] at H
  obtain ⟨rfl,rfl⟩:=H
  go_enter Try.func40,Try.ntmps40
  go_wp2_with (first|((with_reducible refine gate_callee (f:=78) rfl ?_);refine zgo 10 Try.func78 #[.slice A0 l0.length c0,.int .i64 a1,.slice none 0 0] ?_;(refine (impl_isParallel.calls k _ _ l0 a1 _ _ ([]:List (S72)) false _ ?side1 ?side2 ?side3 ?side4 A4.out).mono ?_);(case side1=>exact zC HR0.out);(case side2=>exact HC0.out);(case side3=>exact Kd.C_nil _ _);(case side4=>exact Nat.le_refl _);rintro e w11 ⟨rfl,hb⟩;refine ⟨_,rfl,?_⟩;replace HB:=zb1 hb;(try clear hb)))
  go_ret2
  exact ⟨zz1,zb⟩
 subst c5
 rw [if_pos rfl] at H
 by_cases c6:(l2.length:Int)=a1
 rotate_left
 ·rw [if_neg c6] at H
  have c6b0:((l2.length:Int) == a1)=false:=beq_eq_false_iff_ne.mpr c6
  have c6b1:((l2.length:Int) != a1)=true:=bne_iff_ne.mpr c6
  simp only [Option.some.injEq,Prod.mk.injEq] at H
  obtain ⟨rfl,rfl⟩:=H
  go_enter Try.func40,Try.ntmps40
  go_wp2_with (first|((with_reducible refine gate_callee (f:=78) rfl ?_);refine zgo 10 Try.func78 #[.slice A0 l0.length c0,.int .i64 a1,.slice none 0 0] ?_;(refine (impl_isParallel.calls k _ _ l0 a1 _ _ ([]:List (S72)) true _ ?side1 ?side2 ?side3 ?side4 A4.out).mono ?_);(case side1=>exact zC HR0.out);(case side2=>exact HC0.out);(case side3=>exact Kd.C_nil _ _);(case side4=>exact Nat.le_refl _);rintro e w10 ⟨rfl,hb⟩;refine ⟨_,rfl,?_⟩;replace HB:=zb1 hb;(try clear hb)))
  go_ret2
  exact ⟨zz1,zb⟩
 rw [if_pos c6] at H
 have c6b0:((l2.length:Int) == a1)=true:=beq_iff_eq.mpr c6
 have c6b1:((l2.length:Int) != a1)=false:=bne_eq_false_iff_eq.mpr c6
 clear c6
 replace H:=Option.bind_eq_some_iff.mp H
 obtain ⟨t513,A70,H⟩:=H
 try dsimp only at H
 have A7:=Aside0.mk A70
 clear A70
 simp only [Option.some.injEq,Prod.mk.injEq] at H
 obtain ⟨rfl,rfl⟩:=H
 go_enter Try.func40,Try.ntmps40
 go_wp2_with (first|((with_reducible refine gate_callee (f:=78) rfl ?_);refine zgo 10 Try.func78 #[.slice A0 l0.length c0,.int .i64 a1,.slice none 0 0] ?_;(refine (impl_isParallel.calls k _ _ l0 a1 _ _ ([]:List (S72)) true _ ?side1 ?side2 ?side3 ?side4 A4.out).mono ?_);(case side1=>exact zC HR0.out);(case side2=>exact HC0.out);(case side3=>exact Kd.C_nil _ _);(case side4=>exact Nat.le_refl _);rintro e w8 ⟨rfl,hb⟩;refine ⟨_,rfl,?_⟩;replace HB:=zb1 hb;(try clear hb))|(go_at_call 88;(with_reducible refine (impl_isShared.calls k _ _ l0 _ _ l2 t513 _ ?side1 ?side2 ?side3 ?side4 A7.out).mono ?_);(case side1=>exact zC (Kd.C_below HR0.out HB.out));(case side2=>exact HC0.out);(case side3=>exact zC (Kd.C_below HR2.out HB.out));(case side4=>exact HC2.out);rintro e w9 ⟨rfl,hb⟩;replace HB:=zb1 hb;(try clear hb)))
 go_ret2
 exact ⟨zz1,zb⟩

/-! ### spec_l3Job: function 140 -/
def spec_l3Job.f (l0:List (S76)) (a1:Int):Option (Bool):=(spec_l1In.f a1 0 (wrap64 ((l0.length:Int) - 1))).bind fun t514=>(some t514)
set_option maxHeartbeats 8000000 in
set_option maxRecDepth 100000 in
theorem spec_l3Job.calls (A0:Option Addr) (c0:Nat) (l0:List (S76)) (a1:Int) (r:Bool) (w:World) (hr0:Kd.C k76 w A0 l0.length l0) (hc0:l0.length≤c0) (h:spec_l3Job.f l0 a1=some r) :
  Calls Try.prog 140 #[.slice A0 l0.length c0,.int .i64 a1] w fun e w'=>e=.returned (.bool r)∧Drawn0 w w':=by
 have HR0:=Aside0.mk hr0
 have HC0:=Aside0.mk hc0
 clear hr0 hc0
 have H:((spec_l1In.f a1 0 (wrap64 ((l0.length:Int) - 1))).bind fun t514=>(some t514))=some r:=h
 clear h
 replace H:=Option.bind_eq_some_iff.mp H
 obtain ⟨t514,A30,H⟩:=H
 try dsimp only at H
 have A3:=Aside0.mk A30
 clear A30
 obtain rfl:=Option.some.inj H
 go_enter Try.func140,Try.ntmps140
 go_wp2_with (first|((with_reducible refine gate_callee (f:=120) rfl ?_);refine zgo 9 Try.func120 #[.int .i64 a1,.int .i64 0,.int .i64 (wrap64 ((l0.length:Int) - 1))] ?_;(with_reducible refine (spec_l1In.calls a1 0 (wrap64 ((l0.length:Int) - 1)) t514 _ A3.out).mono ?_);rintro e w' ⟨rfl,⟨nd,rfl⟩⟩;refine ⟨_,rfl,?_⟩))
 go_ret
 exact ⟨zz7,zz6⟩

/-! ### spec_l7Apart: function 141 -/
def spec_l7Apart.l0:Nat→List (S116)→Int→Int→Int→Int→Option (Bool)
 | 0,_,_,_,_,_=>none
 | k + 1,x1,x5,x516000,x516001,x516002=>if x5<(x1.length:Int) then (if 0≤x5 then (if ((rd_T116 x1 x5).f0)=x516000 then (if ((rd_T116 x1 x5).f1)<x516002 then (if x516001<((rd_T116 x1 x5).f2) then (some false) else (spec_l7Apart.l0 k x1 (wrap64 (x5 + 1)) x516000 x516001 x516002)) else (spec_l7Apart.l0 k x1 (wrap64 (x5 + 1)) x516000 x516001 x516002)) else (spec_l7Apart.l0 k x1 (wrap64 (x5 + 1)) x516000 x516001 x516002)) else (none)) else (some true)
def spec_l7Apart.f (k:Nat) (a0_0:Int) (a0_1:Int) (a0_2:Int) (l1:List (S116)):Option (Bool):=spec_l7Apart.l0 k l1 0 a0_0 a0_1 a0_2
theorem spec_l7Apart.mono_l:∀ k,(∀ y0 y1 y2 y3 y4,LeO (spec_l7Apart.l0 k y0 y1 y2 y3 y4) (spec_l7Apart.l0 (k + 1) y0 y1 y2 y3 y4))
 | 0=>fun _ _ _ _ _ r h=>by simp [spec_l7Apart.l0] at h
 | k + 1=>by
  have ih0:=spec_l7Apart.mono_l k
  ·intro y0 y1 y2 y3 y4
   unfold spec_l7Apart.l0
   repeat' first|(with_reducible first|apply ih0|exact LeO.refl _|exact LeO.none _|refine LeO.ite ?_ ?_|refine LeO.bind ?_ (fun _=>?_))|apply ih0|exact LeO.none _|refine LeO.ite ?_ ?_|refine LeO.bind ?_ (fun _=>?_)
theorem spec_l7Apart.mono:∀ a0 a1 a2 a3 k,LeO (spec_l7Apart.f k a0 a1 a2 a3) (spec_l7Apart.f (k + 1) a0 a1 a2 a3):=by
 intro a0 a1 a2 a3 k
 have ih0:=spec_l7Apart.mono_l k
 unfold spec_l7Apart.f
 repeat' first|(with_reducible first|apply ih0|exact LeO.refl _|exact LeO.none _|refine LeO.ite ?_ ?_|refine LeO.bind ?_ (fun _=>?_))|apply ih0|exact LeO.none _|refine LeO.ite ?_ ?_|refine LeO.bind ?_ (fun _=>?_)
set_option maxHeartbeats 8000000 in
set_option maxRecDepth 100000 in
theorem spec_l7Apart.calls (k:Nat) (a0_0:Int) (a0_1:Int) (a0_2:Int) (A1:Option Addr) (c1:Nat) (l1:List (S116)) (r:Bool) (w:World) (hr1:Kd.C k116 w A1 l1.length l1) (hc1:l1.length≤c1) (h:spec_l7Apart.f k a0_0 a0_1 a0_2 l1=some r) :
  Calls Try.prog 141 #[.agg #[.int .i64 a0_0,.int .i64 a0_1,.int .i64 a0_2],.slice A1 l1.length c1] w fun e w'=>e=.returned (.bool r)∧Below w.heap.size w w':=by
 have hu116:=Try.underlying116
 have HR1:=Aside0.mk hr1
 have HC1:=Aside0.mk hc1
 clear hr1 hc1
 have HB:=Aside0.mk (Below.refl w.heap.size w)
 have H:(spec_l7Apart.l0 k l1 0 a0_0 a0_1 a0_2)=some r:=h
 clear h
 have H':=Aside0.mk H
 clear H
 go_enter Try.func141,Try.ntmps141
 go_wp2_with (first|((with_reducible refine gate_dst (N:=2) rfl ?_);refine box_event ?hg (N:=2) ?hd (cs:=#[.int .i64 a0_0,.int .i64 a0_1,.int .i64 a0_2]) (t:=116) ?hr ?_;(case hd=>rfl);(case hg=>rfl);(case hr=>first|(go_simp;done)|(go_simp;rfl));intro gb515 hg w3 hbox hb;have n0_:=zb1 hb;have n1_:=Aside0.mk (hbox);have n2_:=Aside0.mk ((by rw [hg];exact (below_size zb):w.heap.size≤gb515));have n3_:=Aside0.mk ((by rw [hg];exact (below_size zb):w.heap.size≤gb515));clear HB;have HB:=n0_;have BK515:=n1_;have GW515:=n2_;have GE515:=n3_;clear n0_ n1_ n2_ n3_;clear hb hbox hg))
 go_loopg [5] k (fun kq v5 w'=>∃ (x5_1:Int),v5=.int .i64 x5_1∧Aside0 (spec_l7Apart.l0 kq l1 x5_1 a0_0 a0_1 a0_2=some r)∧Aside0 (kq≤k)∧Aside0 (w'.heap[gb515]?=some (.cells #[.int .i64 a0_0,.int .i64 a0_1,.int .i64 a0_2] 116 (0,0)))∧Aside0 (Below w.heap.size w w'))
 case atStart=>exact ⟨(0),zo,H',⟨Nat.le_refl _⟩,⟨zz19⟩,⟨zz17⟩⟩
 case round=>
  clear H'
  obtain ⟨x5_1,rfl,HA,HK1,BK515,HB⟩:=hrel
  cases gk with
  | zero=>exact absurd HA.out (by simp [spec_l7Apart.l0])
  | succ k1=>
   have H:=HA.out
   clear HA
   simp only [spec_l7Apart.l0] at H
   by_cases c4:x5_1<(l1.length:Int)
   rotate_left
   ·rw [if_neg c4] at H
    have c4b0:=decide_eq_false c4
    clear c4
    obtain rfl:=Option.some.inj H
    go_wp2
    go_ret
    exact ⟨zz1,zz17⟩
   rw [if_pos c4] at H
   have c4b0:=decide_eq_true c4
   clear c4
   by_cases c5:0≤x5_1
   rotate_left
   ·rw [if_neg c5] at H
    exact absurd H (by simp)
   rw [if_pos c5] at H
   have c5b0:=decide_eq_true c5
   clear c5
   by_cases c6:((rd_T116 l1 x5_1).f0)=a0_0
   rotate_left
   ·rw [if_neg c6] at H
    have c6b0:(((rd_T116 l1 x5_1).f0) == a0_0)=false:=beq_eq_false_iff_ne.mpr c6
    have c6b1:(((rd_T116 l1 x5_1).f0) != a0_0)=true:=bne_iff_ne.mpr c6
    have H':=Aside0.mk H
    clear H
    have p516:0≤(x5_1:Int):=of_decide_eq_true za
    have q516:x5_1<(l1.length:Int):=of_decide_eq_true za
    obtain ⟨ad516,e516,hx516_0,hx516_1,hx516_2⟩:=at_T116 HR1.out x5_1 p516 q516
    cases e516
    replace hx516_0:=zh_ HB hx516_0
    replace hx516_1:=zh_ HB hx516_1
    replace hx516_2:=zh_ HB hx516_2
    replace p516:=eq_true p516
    replace q516:=eq_true q516
    go_wp2_with (first|((with_reducible refine gate_dst (N:=6) rfl ?_);refine box_event ?hg (N:=6) ?hd (cs:=#[.int .i64 0,.int .i64 0,.int .i64 0]) (t:=116) ?hr ?_;(case hd=>rfl);(case hg=>rfl);(case hr=>first|(go_simp;done)|(go_simp;rfl));intro gb517 hg w21 hbox hb;have n0_:=Aside0.mk (blk_below (g:=gb515) (o:=.cells #[.int .i64 a0_0,.int .i64 a0_1,.int .i64 a0_2] 116 (0,0)) zz19 hb);have n1_:=Aside0.mk (below_step zz17 hb);have n2_:=Aside0.mk (hbox);have n3_:=Aside0.mk ((by rw [hg];exact (below_size zz17):w.heap.size≤gb517));have n4_:=Aside0.mk ((by rw [hg];exact (below_size zz17):w.heap.size≤gb517));have n5_:=Aside0.mk ((by rw [hg];exact Nat.ne_of_lt (blk_lt (g:=gb515) (o:=.cells #[.int .i64 a0_0,.int .i64 a0_1,.int .i64 a0_2] 116 (0,0)) zz19):gb515≠gb517));have n6_:=Aside0.mk ((by rw [hg];exact Nat.ne_of_gt (blk_lt (g:=gb515) (o:=.cells #[.int .i64 a0_0,.int .i64 a0_1,.int .i64 a0_2] 116 (0,0)) zz19):gb517≠gb515));clear BK515;clear HB;have BK515:=n0_;have HB:=n1_;have BK517:=n2_;have GW517:=n3_;have GE517:=n4_;have NB515_517:=n5_;have NB517_515:=n6_;clear n0_ n1_ n2_ n3_ n4_ n5_ n6_;clear hb hbox hg;have hnb22:=NB517_515.out;have hnc22:=NB515_517.out;obtain ⟨hcz23_0,hcz23_1,hcz23_2,hfz23_0,hfz23_1,hfz23_2⟩:=zk3 BK517.out;obtain ⟨hcz24_0,hcz24_1,hcz24_2,hfz24_0,hfz24_1,hfz24_2⟩:=zk3 BK515.out))
    go_roundg k1
    case measure=>have:=HK1.out;omega
    case rel=>exact ⟨(wrap64 (x5_1 + 1)),zo,H',⟨by have:=HK1.out;omega⟩,⟨zz55⟩,⟨zz42⟩⟩
   rw [if_pos c6] at H
   have c6b0:(((rd_T116 l1 x5_1).f0) == a0_0)=true:=beq_iff_eq.mpr c6
   have c6b1:(((rd_T116 l1 x5_1).f0) != a0_0)=false:=bne_eq_false_iff_eq.mpr c6
   clear c6
   by_cases c7:((rd_T116 l1 x5_1).f1)<a0_2
   rotate_left
   ·rw [if_neg c7] at H
    have c7b0:=decide_eq_false c7
    clear c7
    have H':=Aside0.mk H
    clear H
    have p516:0≤(x5_1:Int):=of_decide_eq_true za
    have q516:x5_1<(l1.length:Int):=of_decide_eq_true za
    obtain ⟨ad516,e516,hx516_0,hx516_1,hx516_2⟩:=at_T116 HR1.out x5_1 p516 q516
    cases e516
    replace hx516_0:=zh_ HB hx516_0
    replace hx516_1:=zh_ HB hx516_1
    replace hx516_2:=zh_ HB hx516_2
    replace p516:=eq_true p516
    replace q516:=eq_true q516
    go_wp2_with (first|((with_reducible refine gate_dst (N:=6) rfl ?_);refine box_event ?hg (N:=6) ?hd (cs:=#[.int .i64 0,.int .i64 0,.int .i64 0]) (t:=116) ?hr ?_;(case hd=>rfl);(case hg=>rfl);(case hr=>first|(go_simp;done)|(go_simp;rfl));intro gb517 hg w17 hbox hb;have n0_:=Aside0.mk (blk_below (g:=gb515) (o:=.cells #[.int .i64 a0_0,.int .i64 a0_1,.int .i64 a0_2] 116 (0,0)) zz19 hb);have n1_:=Aside0.mk (below_step zz17 hb);have n2_:=Aside0.mk (hbox);have n3_:=Aside0.mk ((by rw [hg];exact (below_size zz17):w.heap.size≤gb517));have n4_:=Aside0.mk ((by rw [hg];exact (below_size zz17):w.heap.size≤gb517));have n5_:=Aside0.mk ((by rw [hg];exact Nat.ne_of_lt (blk_lt (g:=gb515) (o:=.cells #[.int .i64 a0_0,.int .i64 a0_1,.int .i64 a0_2] 116 (0,0)) zz19):gb515≠gb517));have n6_:=Aside0.mk ((by rw [hg];exact Nat.ne_of_gt (blk_lt (g:=gb515) (o:=.cells #[.int .i64 a0_0,.int .i64 a0_1,.int .i64 a0_2] 116 (0,0)) zz19):gb517≠gb515));clear BK515;clear HB;have BK515:=n0_;have HB:=n1_;have BK517:=n2_;have GW517:=n3_;have GE517:=n4_;have NB515_517:=n5_;have NB517_515:=n6_;clear n0_ n1_ n2_ n3_ n4_ n5_ n6_;clear hb hbox hg;have hnb18:=NB517_515.out;have hnc18:=NB515_517.out;obtain ⟨hcz19_0,hcz19_1,hcz19_2,hfz19_0,hfz19_1,hfz19_2⟩:=zk3 BK517.out;obtain ⟨hcz20_0,hcz20_1,hcz20_2,hfz20_0,hfz20_1,hfz20_2⟩:=zk3 BK515.out))
    go_roundg k1
    case measure=>have:=HK1.out;omega
    case rel=>exact ⟨(wrap64 (x5_1 + 1)),zo,H',⟨by have:=HK1.out;omega⟩,⟨zz55⟩,⟨zz42⟩⟩
   rw [if_pos c7] at H
   have c7b0:=decide_eq_true c7
   clear c7
   by_cases c8:a0_1<((rd_T116 l1 x5_1).f2)
   ·rw [if_pos c8] at H
    have c8b0:=decide_eq_true c8
    clear c8
    obtain rfl:=Option.some.inj H
    have p516:0≤(x5_1:Int):=of_decide_eq_true za
    have q516:x5_1<(l1.length:Int):=of_decide_eq_true za
    obtain ⟨ad516,e516,hx516_0,hx516_1,hx516_2⟩:=at_T116 HR1.out x5_1 p516 q516
    cases e516
    replace hx516_0:=zh_ HB hx516_0
    replace hx516_1:=zh_ HB hx516_1
    replace hx516_2:=zh_ HB hx516_2
    replace p516:=eq_true p516
    replace q516:=eq_true q516
    go_wp2_with (first|((with_reducible refine gate_dst (N:=6) rfl ?_);refine box_event ?hg (N:=6) ?hd (cs:=#[.int .i64 0,.int .i64 0,.int .i64 0]) (t:=116) ?hr ?_;(case hd=>rfl);(case hg=>rfl);(case hr=>first|(go_simp;done)|(go_simp;rfl));intro gb517 hg w9 hbox hb;have n0_:=Aside0.mk (blk_below (g:=gb515) (o:=.cells #[.int .i64 a0_0,.int .i64 a0_1,.int .i64 a0_2] 116 (0,0)) zz19 hb);have n1_:=Aside0.mk (below_step zz17 hb);have n2_:=Aside0.mk (hbox);have n3_:=Aside0.mk ((by rw [hg];exact (below_size zz17):w.heap.size≤gb517));have n4_:=Aside0.mk ((by rw [hg];exact (below_size zz17):w.heap.size≤gb517));have n5_:=Aside0.mk ((by rw [hg];exact Nat.ne_of_lt (blk_lt (g:=gb515) (o:=.cells #[.int .i64 a0_0,.int .i64 a0_1,.int .i64 a0_2] 116 (0,0)) zz19):gb515≠gb517));have n6_:=Aside0.mk ((by rw [hg];exact Nat.ne_of_gt (blk_lt (g:=gb515) (o:=.cells #[.int .i64 a0_0,.int .i64 a0_1,.int .i64 a0_2] 116 (0,0)) zz19):gb517≠gb515));clear BK515;clear HB;have BK515:=n0_;have HB:=n1_;have BK517:=n2_;have GW517:=n3_;have GE517:=n4_;have NB515_517:=n5_;have NB517_515:=n6_;clear n0_ n1_ n2_ n3_ n4_ n5_ n6_;clear hb hbox hg;have hnb10:=NB517_515.out;have hnc10:=NB515_517.out;obtain ⟨hcz11_0,hcz11_1,hcz11_2,hfz11_0,hfz11_1,hfz11_2⟩:=zk3 BK517.out;obtain ⟨hcz12_0,hcz12_1,hcz12_2,hfz12_0,hfz12_1,hfz12_2⟩:=zk3 BK515.out))
    go_ret
    exact ⟨zz1,zz42⟩
   rw [if_neg c8] at H
   have c8b0:=decide_eq_false c8
   clear c8
   have H':=Aside0.mk H
   clear H
   have p516:0≤(x5_1:Int):=of_decide_eq_true za
   have q516:x5_1<(l1.length:Int):=of_decide_eq_true za
   obtain ⟨ad516,e516,hx516_0,hx516_1,hx516_2⟩:=at_T116 HR1.out x5_1 p516 q516
   cases e516
   replace hx516_0:=zh_ HB hx516_0
   replace hx516_1:=zh_ HB hx516_1
   replace hx516_2:=zh_ HB hx516_2
   replace p516:=eq_true p516
   replace q516:=eq_true q516
   go_wp2_with (first|((with_reducible refine gate_dst (N:=6) rfl ?_);refine box_event ?hg (N:=6) ?hd (cs:=#[.int .i64 0,.int .i64 0,.int .i64 0]) (t:=116) ?hr ?_;(case hd=>rfl);(case hg=>rfl);(case hr=>first|(go_simp;done)|(go_simp;rfl));intro gb517 hg w13 hbox hb;have n0_:=Aside0.mk (blk_below (g:=gb515) (o:=.cells #[.int .i64 a0_0,.int .i64 a0_1,.int .i64 a0_2] 116 (0,0)) zz19 hb);have n1_:=Aside0.mk (below_step zz17 hb);have n2_:=Aside0.mk (hbox);have n3_:=Aside0.mk ((by rw [hg];exact (below_size zz17):w.heap.size≤gb517));have n4_:=Aside0.mk ((by rw [hg];exact (below_size zz17):w.heap.size≤gb517));have n5_:=Aside0.mk ((by rw [hg];exact Nat.ne_of_lt (blk_lt (g:=gb515) (o:=.cells #[.int .i64 a0_0,.int .i64 a0_1,.int .i64 a0_2] 116 (0,0)) zz19):gb515≠gb517));have n6_:=Aside0.mk ((by rw [hg];exact Nat.ne_of_gt (blk_lt (g:=gb515) (o:=.cells #[.int .i64 a0_0,.int .i64 a0_1,.int .i64 a0_2] 116 (0,0)) zz19):gb517≠gb515));clear BK515;clear HB;have BK515:=n0_;have HB:=n1_;have BK517:=n2_;have GW517:=n3_;have GE517:=n4_;have NB515_517:=n5_;have NB517_515:=n6_;clear n0_ n1_ n2_ n3_ n4_ n5_ n6_;clear hb hbox hg;have hnb14:=NB517_515.out;have hnc14:=NB515_517.out;obtain ⟨hcz15_0,hcz15_1,hcz15_2,hfz15_0,hfz15_1,hfz15_2⟩:=zk3 BK517.out;obtain ⟨hcz16_0,hcz16_1,hcz16_2,hfz16_0,hfz16_1,hfz16_2⟩:=zk3 BK515.out))
   go_roundg k1
   case measure=>have:=HK1.out;omega
   case rel=>exact ⟨(wrap64 (x5_1 + 1)),zo,H',⟨by have:=HK1.out;omega⟩,⟨zz55⟩,⟨zz42⟩⟩

end Go.Proofs.Ytbcfmegepkhlpaa.XFnShared
-- minified
