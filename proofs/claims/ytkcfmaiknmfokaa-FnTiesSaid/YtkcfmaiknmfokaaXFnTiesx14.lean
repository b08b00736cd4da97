-- Written by a program of this session (the kit's print, widened). Proved here: what each function answers, for the arguments that its contract names.
import Derived.Test.YtkcfmaiknmfokaaXFnTiesx0
import Derived.Test.YtkcfmaiknmfokaaXFnTiesx11
import Derived.Test.YtkcfmaiknmfokaaXFnTiesx13
namespace Go.Proofs.Ytkcfmaiknmfokaa.XFnTies
open Go.RowKit Go.Proofs.YtkcfmaiknmfokaaW.PrintWords Go.Proofs.YtkcfmaiknmfokaaW.PrintLast Go.Proofs.YtkcfmaiknmfokaaW.PrintMore
attribute [local go_sem] max2_int min2_int max_two min_two max_three min_three max_four min_four   -- for this text's walks alone
attribute [local go_sem] fldS_52_0 fldS_52_1 fldS_52_2
set_option linter.unusedVariables false
set_option linter.unusedSimpArgs false

/-! ### spec_l3Groups: function 19 -/
def spec_l3Groups.l0:Nat→List (S44)→Int→List (List Int)→List Int→Int→Option ((List (List Int)))
 | 0,_,_,_,_,_=>none
 | k + 1,x0,x1,x5,x6,x7=>if x7<(x6.length:Int) then (if (wrap64 ((x5.length:Int) - 1))≥0 then (if 0≤(wrap64 ((x5.length:Int) - 1)) then (if (wrap64 ((x5.length:Int) - 1))<(x5.length:Int) then (if 0<((rd_L3 x5 (wrap64 ((x5.length:Int) - 1))).length:Int) then (if 0≤x7 then ((spec_l3Gap.f x0 x1 (rd (rd_L3 x5 (wrap64 ((x5.length:Int) - 1))) 0) (rd x6 x7)).bind fun t396=>(if t396=0 then (if (rd_L3 x5 (wrap64 ((x5.length:Int) - 1))).length<17592186044416 then (spec_l3Groups.l0 k x0 x1 (x5.set ((wrap64 ((x5.length:Int) - 1)):Int).toNat ((rd_L3 x5 (wrap64 ((x5.length:Int) - 1)))++[rd x6 x7])) x6 (wrap64 (x7 + 1))) else (none)) else (if x5.length<5864062014805 then (spec_l3Groups.l0 k x0 x1 (x5++[(([rd x6 x7]:List Int))]) x6 (wrap64 (x7 + 1))) else (none)))) else (none)) else (none)) else (none)) else (none)) else (if 0≤x7 then (if x5.length<5864062014805 then (spec_l3Groups.l0 k x0 x1 (x5++[(([rd x6 x7]:List Int))]) x6 (wrap64 (x7 + 1))) else (none)) else (none))) else (some x5)
def spec_l3Groups.f (k:Nat) (l0:List (S44)) (a1:Int):Option ((List (List Int))):=(spec_l3Order.f k l0 a1).bind fun t390=>(spec_l3Groups.l0 k l0 a1 (([]:List (List Int))) t390 0)
theorem spec_l3Groups.mono_l:∀ k,(∀ y0 y1 y2 y3 y4,LeO (spec_l3Groups.l0 k y0 y1 y2 y3 y4) (spec_l3Groups.l0 (k + 1) y0 y1 y2 y3 y4))
 | 0=>fun _ _ _ _ _ r h=>by simp [spec_l3Groups.l0] at h
 | k + 1=>by
  have ih0:=spec_l3Groups.mono_l k
  ·intro y0 y1 y2 y3 y4
   unfold spec_l3Groups.l0
   repeat' first|(with_reducible first|apply ih0|exact spec_l3Order.mono _ _ _|exact LeO.refl _|exact LeO.none _|refine LeO.ite ?_ ?_|refine LeO.bind ?_ (fun _=>?_))|apply ih0|exact spec_l3Order.mono _ _ _|exact LeO.none _|refine LeO.ite ?_ ?_|refine LeO.bind ?_ (fun _=>?_)
theorem spec_l3Groups.mono:∀ a0 a1 k,LeO (spec_l3Groups.f k a0 a1) (spec_l3Groups.f (k + 1) a0 a1):=by
 intro a0 a1 k
 have ih0:=spec_l3Groups.mono_l k
 unfold spec_l3Groups.f
 repeat' first|(with_reducible first|apply ih0|exact spec_l3Order.mono _ _ _|exact LeO.refl _|exact LeO.none _|refine LeO.ite ?_ ?_|refine LeO.bind ?_ (fun _=>?_))|apply ih0|exact spec_l3Order.mono _ _ _|exact LeO.none _|refine LeO.ite ?_ ?_|refine LeO.bind ?_ (fun _=>?_)
def spec_l3Groups.T7:Bool × List (List Nat × List Nat):=(true,[([],[]),([0],[0]),([1],[1]),([2],[2]),([2],[2]),([2],[2]),([2],[2]),([5,6,2],[2,5,6]),([7,2],[2,7]),([8,2],[2,8]),([9,2],[2,9]),([2],[2]),([2],[2]),([11,12,2],[2,11,12]),([13,2],[2,13]),([3,4,10,14,2,2],[2,3,4,10,14]),([15,2],[2,15]),([2,16],[2,16])])
def spec_l3Groups.B7:List Nat:=[0,1,3,7,7,7,7,103,231,487,999,7,7,6151,14343,32767,65535,131071]
theorem spec_l3Groups.tab7:rtab .any (opsOf Try.f19 7)=spec_l3Groups.T7:=by kernel_rfl
theorem spec_l3Groups.bits7:waitsOk spec_l3Groups.T7.2 spec_l3Groups.B7=true:=by kernel_rfl
def spec_l3Groups.T8:Bool × List (List Nat × List Nat):=(true,[([],[]),([],[]),([],[]),([],[]),([2,3],[2,3]),([4],[4]),([],[]),([],[]),([6,7],[6,7]),([8],[8]),([9],[9]),([5,10],[5,10]),([0,1,0,1,2,3,4,5,6,7,8,9,10,11],[0,1]),([12,11,11,0,1,2,3,4,5,6,7,8,9,10,11],[11,12])])
def spec_l3Groups.B8:List Nat:=[0,0,0,0,12,28,0,0,192,448,960,2044,4095,8191]
theorem spec_l3Groups.tab8:rtab .any (opsOf Try.f19 8)=spec_l3Groups.T8:=by kernel_rfl
theorem spec_l3Groups.bits8:waitsOk spec_l3Groups.T8.2 spec_l3Groups.B8=true:=by kernel_rfl
set_option maxHeartbeats 8000000 in
set_option maxRecDepth 100000 in
theorem spec_l3Groups.calls (k:Nat) (A0:Option Addr) (c0:Nat) (l0:List (S44)) (a1:Int) (r:List (List Int)) (w:World) (hr0:Kd.C k44 w A0 l0.length l0) (hc0:l0.length≤c0) (h:spec_l3Groups.f k l0 a1=some r) :
  Calls Try.prog 19 #[.slice A0 l0.length c0,.int .i64 a1] w fun e w'=>∃ v0_:Value,e=.returned (v0_)∧Kd.S (Kd.slice 3 (Kd.int .i64)) 33 w' w.heap.size (fun _=>True) v0_ r∧Below w.heap.size w w':=by
 have HR0:=Aside0.mk hr0
 have HC0:=Aside0.mk hc0
 clear hr0 hc0
 have HB:=Aside0.mk (Below.refl w.heap.size w)
 have H:((spec_l3Order.f k l0 a1).bind fun t390=>(spec_l3Groups.l0 k l0 a1 (([]:List (List Int))) t390 0))=some r:=h
 clear h
 obtain ⟨y387,hy387⟩:∃ y_:List (List Int),y_=(([]:List (List Int))):=⟨_,rfl⟩
 replace H:((spec_l3Order.f k l0 a1).bind fun t390=>(spec_l3Groups.l0 k l0 a1 y387 t390 0))=some r:=by first|(rw [hy387];with_reducible exact H)|(have H2_:=(Option.bind_some _ _).symm.trans H;rw [hy387];with_reducible exact H2_)|(have H2_:=(Option.bind_some _ _).symm.trans H;with_reducible exact H2_)|with_reducible exact H|(rw [hy387];exact H)|exact H
 have Ny387:=Aside0.mk hy387
 clear hy387
 replace H:=Option.bind_eq_some_iff.mp H
 obtain ⟨t390,A30,H⟩:=H
 try dsimp only at H
 have A3:=Aside0.mk A30
 clear A30
 have H':=Aside0.mk H
 clear H
 go_enter Try.func19,Try.ntmps19
 go_wp2_with (first|((with_reducible refine gate_dst (N:=9) rfl ?_);refine Kd.S_lit (Kd.slice 3 (Kd.int .i64)) _ 33 ?hg (N:=9) ?hd (xs:=([]:List (List Int))) (inner:=[]) (ok:=fun _=>True) (okp:=fun _=>True) ?hr ?hp (fun _ hk=>hk) trivial (Below.refl _ _) (Nat.le_refl _) (by simp) ?_;(case hd=>rfl);(case hg=>rfl);(case hr=>first|(go_simp;done)|(go_simp;rfl));(case hp=>exact (Reps.none _ _));intro v388 w4 ho5 hb hg_ hnew_;clear hg_ hnew_;(first|rw [←Ny387.out] at ho5|(simp only [Int.reduceToNat] at ho5;rw [←Ny387.out] at ho5));have HO389:=Aside0.mk (Kd.S_lower ho5 (below_size zb));replace HB:=zb1 hb;clear hb ho5)|((with_reducible refine gate_callee (f:=32) rfl ?_);refine zgo 12 Try.func32 #[.slice A0 l0.length c0,.int .i64 a1] ?_;(with_reducible refine (spec_l3Order.calls k _ _ l0 a1 t390 _ ?side1 ?side2 A3.out).mono ?_);(case side1=>exact zC (Kd.C_below HR0.out HB.out));(case side2=>exact HC0.out);rintro e w6 ⟨v391,rfl,ho0,hb⟩;refine ⟨_,rfl,?_⟩;replace HO389:=Aside0.mk (Kd.S_elder' (zS HO389.out) (Kd.R_base ho0) hb);have HO392:=Aside0.mk (Kd.R_lower ho0 (below_size zb));replace HB:=zb1 hb;(try clear hb);(try clear ho0)))
 go_loopg [5,7] k (fun kq v5 v7 w'=>∃ (x5_1:List (List Int)) (x7_1:Int),v7=.int .i64 x7_1∧Aside0 (spec_l3Groups.l0 kq l0 a1 x5_1 t390 x7_1=some r)∧Aside0 (kq≤k)∧Aside0 (Kd.S (Kd.slice 3 (Kd.int .i64)) 33 w' w.heap.size (fun k_=>some k_≠(v391:Value).ownBlock) v5 x5_1)∧Aside0 (Kd.R (Kd.int .i64) 3 w' w.heap.size (fun _=>True) v391 t390)∧Aside0 (Below w.heap.size w w'))
 case atStart=>exact ⟨(y387),(0),zo,H',⟨Nat.le_refl _⟩,⟨zS (Kd.S_mono HO389.out (fun _ hk=>hk.2))⟩,⟨zR HO392.out⟩,⟨zb⟩⟩
 case round=>
  clear H'
  obtain ⟨x5_1,x7_1,rfl,HA,HK1,HO_5,HO_6,HB⟩:=hrel
  cases gk with
  | zero=>exact absurd HA.out (by simp [spec_l3Groups.l0])
  | succ k1=>
   have H:=HA.out
   clear HA
   simp only [spec_l3Groups.l0] at H
   by_cases c7:x7_1<(t390.length:Int)
   rotate_left
   ·rw [if_neg c7] at H
    have c7b0:=decide_eq_false c7
    clear c7
    obtain rfl:=Option.some.inj H
    obtain ⟨Ao46,co46,eo46⟩:=Kd.R_slice HO_6.out
    subst eo46
    go_wp2
    go_ret
    exact ⟨_,zz1,zS (Kd.S_mono HO_5.out (fun _ hk=>trivial)),zb⟩
   rw [if_pos c7] at H
   have c7b0:=decide_eq_true c7
   clear c7
   by_cases c8:(wrap64 ((x5_1.length:Int) - 1))≥0
   rotate_left
   ·rw [if_neg c8] at H
    have c8b0:=decide_eq_false c8
    clear c8
    by_cases c37:0≤x7_1
    rotate_left
    ·rw [if_neg c37] at H
     exact absurd H (by simp)
    rw [if_pos c37] at H
    have c37b0:=decide_eq_true c37
    clear c37
    obtain ⟨y411,hy411⟩:∃ y_:List Int,y_=(([rd t390 x7_1]:List Int)):=⟨_,rfl⟩
    replace H:(if x5_1.length<5864062014805 then (spec_l3Groups.l0 k1 l0 a1 (x5_1++[y411]) t390 (wrap64 (x7_1 + 1))) else (none))=some r:=by first|(rw [hy411];with_reducible exact H)|(have H2_:=(Option.bind_some _ _).symm.trans H;rw [hy411];with_reducible exact H2_)|(have H2_:=(Option.bind_some _ _).symm.trans H;with_reducible exact H2_)|with_reducible exact H|(rw [hy411];exact H)|exact H
    have Ny411:=Aside0.mk hy411
    clear hy411
    by_cases c38:x5_1.length<5864062014805
    rotate_left
    ·rw [if_neg c38] at H
     exact absurd H (by simp)
    rw [if_pos c38] at H
    have LMc38:=Aside0.mk c38
    clear c38
    obtain ⟨y414,hy414⟩:∃ y_:List (List Int),y_=(x5_1++[y411]):=⟨_,rfl⟩
    replace H:(spec_l3Groups.l0 k1 l0 a1 y414 t390 (wrap64 (x7_1 + 1)))=some r:=by first|(rw [hy414];with_reducible exact H)|(have H2_:=(Option.bind_some _ _).symm.trans H;rw [hy414];with_reducible exact H2_)|(have H2_:=(Option.bind_some _ _).symm.trans H;with_reducible exact H2_)|with_reducible exact H|(rw [hy414];exact H)|exact H
    have Ny414:=Aside0.mk hy414
    clear hy414
    have H':=Aside0.mk H
    clear H
    obtain ⟨Ao39,co39,eo39⟩:=Kd.R_slice HO_6.out
    subst eo39
    obtain ⟨Ao40,co40,eo40⟩:=Kd.S_slice HO_5.out
    subst eo40
    try go_wp2
    replace HO_5:=Aside0.mk (Kd.S_drew HO_5.out)
    replace HO_6:=Aside0.mk (Kd.R_drew HO_6.out)
    replace HB:=Aside0.mk (below_drew1 HB.out)
    refine start_ (n:=18) (S:=fun w'=>True) (ds:=[]) #[false,false,false,false,false,false,false,false,false,false,false,false,false,false,false,false,false,false] (by kernel_rfl) rfl rfl trivial (fun hHeld=>?_);refine with_tabW spec_l3Groups.tab7 spec_l3Groups.bits7 (fun HT_ HW_=>?_)
    generalize wr.drew=w41 at HO_5 HO_6 HB hHeld ⊢
    refine pu_ 0 22 ?_
    refine pu_ 1 23 ?_
    refine pu_ 2 24 ?_
    refine pv_ 3 25 ?_
    refine pv_ 4 26 ?_
    refine pv_ 5 27 ?_
    refine pv_ 6 28 ?_
    refine pv_ 7 29 ?_
    refine pv_ 8 30 ?_
    refine pv_ 9 31 ?_
    refine pv_ 10 32 ?_
    refine pv_ 11 33 ?_
    refine pv_ 12 34 ?_
    refine pv_ 13 35 ?_
    refine pv_ 14 36 ?_
    refine pv_ 15 37 ?_
    refine pv_ 16 38 ?_
    refine pu_ 17 39 ?_
    refine done_ (done_of HT_.out (by kernel_rfl)) ?_
    have p410:0≤(x7_1:Int):=of_decide_eq_true za
    have q410:x7_1<(t390.length:Int):=of_decide_eq_true za
    obtain ⟨ad410,e410,hx410_0⟩:=Kd.at_int (Kd.R_reads' HO_6.out).2.2 x7_1 p410 q410
    cases e410
    replace p410:=eq_true p410
    replace q410:=eq_true q410
    try go_wp2_with (first|((with_reducible refine gate_dst (N:=58) rfl ?_);refine Kd.R_lit (Kd.int .i64) _ 3 ?hg (N:=58) ?hd (xs:=([rd t390 x7_1]:List Int)) (inner:=[.int .i64 (rd t390 x7_1)]) (ok:=fun _=>True) (okp:=fun _=>True) ?hr ?hp (fun _ hk=>hk) trivial (Below.refl _ _) (Nat.le_refl _) (by simp) ?_;(case hd=>rfl);(case hg=>rfl);(case hr=>first|(go_simp;done)|(go_simp;rfl));(case hp=>exact (Reps.one (show Kd.M (Kd.int .i64) _ _ _ (rd t390 x7_1) [.int .i64 (rd t390 x7_1)] from rfl) (Reps.none _ _)));intro v412 w42 ho43 hb hg_ hnew_;clear hg_ hnew_;(first|rw [←Ny411.out] at ho43|(simp only [Int.reduceToNat] at ho43;rw [←Ny411.out] at ho43));have n0_:=Aside0.mk (Kd.S_elder' (zS HO_5.out) (Kd.R_base ho43) hb);have n1_:=Aside0.mk (Kd.R_elder' (zR HO_6.out) (Kd.R_base ho43) hb);have n2_:=Aside0.mk (Kd.R_lower (Kd.R_new' ho43 (Kd.R_lt (zR HO_6.out))) (below_size zb));have n3_:=zb1 hb;clear HO_5;clear HO_6;clear HB;have HO_5:=n0_;have HO_6:=n1_;have HO413:=n2_;have HB:=n3_;clear n0_ n1_ n2_ n3_;clear hb ho43;obtain ⟨Ao45,co45,eo45⟩:=Kd.R_slice HO413.out;subst eo45)|((with_reducible refine gate_builtin (b:=.append) (xs:=#[.tmp 53,.tmp 59]) rfl ?_);at_builtin;refine Kd.S_append (Kd.slice 3 (Kd.int .i64)) (w0:=w) w.heap.size rfl (.tmp 53) (.tmp 59) 27 33 (.slice none 0 0) 24 rfl Try.underlying27 info33 rfl (by decide) (by omega) (.slice Ao40 x5_1.length co40) x5_1 y411 [.slice Ao45 y411.length co45] (fun k_=>some k_≠(.slice (some ad410) t390.length co39:Value).ownBlock) (fun k_=>some k_=(.slice Ao45 y411.length co45:Value).ownBlock) rfl rfl ?aP (fun k_ hk_=>((Kd.R_mono (ok':=fun k_=>((fun k_=>some k_≠(.slice (some ad410) t390.length co39:Value).ownBlock)) k_∧some k_≠(.slice Ao40 x5_1.length co40:Value).ownBlock) (Kd.R_apart' (HO413.out) (Kd.S_typed HO_5.out) (by decide)) (fun k_ hk=>⟨hk.1.2,hk.2⟩))).1 k_ hk_.symm) ?aF ?aO ?aB ?aS ?aL ?_;(case aP=>exact Kd.M_row (Kd.R_mono (Kd.R_tight rfl (Kd.R_mono (ok':=fun k_=>((fun k_=>some k_≠(.slice (some ad410) t390.length co39:Value).ownBlock)) k_∧some k_≠(.slice Ao40 x5_1.length co40:Value).ownBlock) (Kd.R_apart' (HO413.out) (Kd.S_typed HO_5.out) (by decide)) (fun k_ hk=>⟨hk.1.2,hk.2⟩))) (fun _ h_=>h_)));(case aB=>exact zb);(case aF=>exact (fun k_ hk=>Kd.fresh' (Kd.R_lt (zR HO_6.out)) k_ hk));(case aO=>exact (zS (Kd.S_mono HO_5.out (fun k_ hk=>⟨hk.1,fun e_=>hk.2 e_⟩))));(case aS=>exact (below_size zb));(case aL=>have:=LMc38.out;omega);intro v415 w44 ho hb hg hat;rw [←Ny414.out] at ho;replace HO_6:=Aside0.mk (Kd.R_over' (zR HO_6.out) (Kd.S_typed (zS HO_5.out)) (by decide) hg);replace HB:=Aside0.mk (hb);have HO416:=Aside0.mk (ho);clear HO_5 HO413;clear ho hb hg hat))
    go_roundg k1
    case measure=>have:=HK1.out;omega
    case rel=>exact ⟨(y414),(wrap64 (x7_1 + 1)),zo,H',⟨by have:=HK1.out;omega⟩,⟨zS HO416.out⟩,⟨zR (Kd.R_mono HO_6.out (fun _ hk=>trivial))⟩,⟨zb⟩⟩
   rw [if_pos c8] at H
   have c8b0:=decide_eq_true c8
   clear c8
   obtain ⟨ji9,hji9⟩:∃ j_:Int,(wrap64 ((x5_1.length:Int) - 1))=j_:=⟨_,rfl⟩
   replace H:(if 0≤(ji9) then (if (ji9)<(x5_1.length:Int) then (if 0<((rd_L3 x5_1 (ji9)).length:Int) then (if 0≤x7_1 then ((spec_l3Gap.f l0 a1 (rd (rd_L3 x5_1 (ji9)) 0) (rd t390 x7_1)).bind fun t396=>(if t396=0 then (if (rd_L3 x5_1 (ji9)).length<17592186044416 then (spec_l3Groups.l0 k1 l0 a1 (x5_1.set ((ji9):Int).toNat ((rd_L3 x5_1 (ji9))++[rd t390 x7_1])) t390 (wrap64 (x7_1 + 1))) else (none)) else (if x5_1.length<5864062014805 then (spec_l3Groups.l0 k1 l0 a1 (x5_1++[(([rd t390 x7_1]:List Int))]) t390 (wrap64 (x7_1 + 1))) else (none)))) else (none)) else (none)) else (none)) else (none))=some r:=by first|(rw [hji9] at H;exact H)|(simp only [hji9] at H ⊢;exact H)
   (try rw [hji9] at c8b0)
   have hji9w:(IntKind.i64.wrap ((x5_1.length:Int) - 1))=ji9:=(i64_w _).trans hji9
   by_cases c10:0≤(ji9)
   rotate_left
   ·rw [if_neg c10] at H
    exact absurd H (by simp)
   rw [if_pos c10] at H
   have c10b0:=decide_eq_true c10
   clear c10
   by_cases c11:(ji9)<(x5_1.length:Int)
   rotate_left
   ·rw [if_neg c11] at H
    exact absurd H (by simp)
   rw [if_pos c11] at H
   have c11b0:=decide_eq_true c11
   clear c11
   by_cases c12:0<((rd_L3 x5_1 (ji9)).length:Int)
   rotate_left
   ·rw [if_neg c12] at H
    exact absurd H (by simp)
   rw [if_pos c12] at H
   have c12b0:=decide_eq_true c12
   have c12b1:decide (0<(rd_L3 x5_1 (ji9)).length)=true:=decide_eq_true (by omega)
   clear c12
   by_cases c13:0≤x7_1
   rotate_left
   ·rw [if_neg c13] at H
    exact absurd H (by simp)
   rw [if_pos c13] at H
   have c13b0:=decide_eq_true c13
   clear c13
   replace H:=Option.bind_eq_some_iff.mp H
   obtain ⟨t396,A140,H⟩:=H
   try dsimp only at H
   have A14:=Aside0.mk A140
   clear A140
   by_cases c15:t396=0
   rotate_left
   ·rw [if_neg c15] at H
    have c15b0:(t396 == 0)=false:=beq_eq_false_iff_ne.mpr c15
    have c15b1:(t396 != 0)=true:=bne_iff_ne.mpr c15
    obtain ⟨y404,hy404⟩:∃ y_:List Int,y_=(([rd t390 x7_1]:List Int)):=⟨_,rfl⟩
    replace H:(if x5_1.length<5864062014805 then (spec_l3Groups.l0 k1 l0 a1 (x5_1++[y404]) t390 (wrap64 (x7_1 + 1))) else (none))=some r:=by first|(rw [hy404];with_reducible exact H)|(have H2_:=(Option.bind_some _ _).symm.trans H;rw [hy404];with_reducible exact H2_)|(have H2_:=(Option.bind_some _ _).symm.trans H;with_reducible exact H2_)|with_reducible exact H|(rw [hy404];exact H)|exact H
    have Ny404:=Aside0.mk hy404
    clear hy404
    by_cases c28:x5_1.length<5864062014805
    rotate_left
    ·rw [if_neg c28] at H
     exact absurd H (by simp)
    rw [if_pos c28] at H
    have LMc28:=Aside0.mk c28
    clear c28
    obtain ⟨y407,hy407⟩:∃ y_:List (List Int),y_=(x5_1++[y404]):=⟨_,rfl⟩
    replace H:(spec_l3Groups.l0 k1 l0 a1 y407 t390 (wrap64 (x7_1 + 1)))=some r:=by first|(rw [hy407];with_reducible exact H)|(have H2_:=(Option.bind_some _ _).symm.trans H;rw [hy407];with_reducible exact H2_)|(have H2_:=(Option.bind_some _ _).symm.trans H;with_reducible exact H2_)|with_reducible exact H|(rw [hy407];exact H)|exact H
    have Ny407:=Aside0.mk hy407
    clear hy407
    have H':=Aside0.mk H
    clear H
    obtain ⟨Ao29,co29,eo29⟩:=Kd.R_slice HO_6.out
    subst eo29
    obtain ⟨Ao30,co30,eo30⟩:=Kd.S_slice HO_5.out
    subst eo30
    try go_wp2
    replace HO_5:=Aside0.mk (Kd.S_drew HO_5.out)
    replace HO_6:=Aside0.mk (Kd.R_drew HO_6.out)
    replace HB:=Aside0.mk (below_drew1 HB.out)
    have p393:0≤((ji9):Int):=of_decide_eq_true za
    have q393:(ji9)<(x5_1.length:Int):=of_decide_eq_true za
    obtain ⟨ad393,A393_0,c393_0,e393,hx393_0,hl393_0,hi393_0⟩:=at_L3 (Kd.S_reads' HO_5.out).2.2 (ji9) p393 q393
    cases e393
    obtain ⟨ce393,hce393,hMe393,hcc393⟩:=Kd.S_get HO_5.out [] (ji9) p393 (by first|exact q393|exact of_decide_eq_true za|(have e_:=(Kd.S_reads' HO_5.out).1;omega))
    obtain ⟨ve393_0,rfl,ge393_0⟩:=hMe393
    have hv393_0:=hcc393 0 _ rfl
    rw [Nat.add_zero,show ((Kd.slice 3 (Kd.int .i64))).sz=1 from rfl,Nat.mul_one] at hv393_0
    replace hv393_0:=Option.some.inj (hv393_0.symm.trans hx393_0)
    rw [hv393_0] at ge393_0
    have HL393_0:=Aside0.mk (show Kd.R (Kd.int .i64) 3 _ _ _ _ (rd_L3 x5_1 (ji9)) from ge393_0)
    clear hv393_0 ge393_0
    have HX393_0:=Aside0.mk hx393_0
    clear hcc393 hce393
    have HR393_0:=Aside0.mk hi393_0
    have HC393_0:=Aside0.mk hl393_0
    clear hi393_0 hl393_0
    replace p393:=eq_true p393
    replace q393:=eq_true q393
    have p394:0≤(0:Int):=(by omega)
    have q394:0<((rd_L3 x5_1 (ji9)).length:Int):=of_decide_eq_true za
    obtain ⟨ad394,e394,hx394_0⟩:=Kd.at_int zz46 0 p394 q394
    cases e394
    have qi394:(0<(rd_L3 x5_1 (ji9)).length)=True:=eq_true (by omega)
    (try rw [show ((0:Int)).toNat=0 from rfl] at hx394_0)
    (try rw [Addr.add_zero'] at hx394_0)
    replace p394:=eq_true p394
    replace q394:=eq_true q394
    have p395:0≤(x7_1:Int):=of_decide_eq_true za
    have q395:x7_1<(t390.length:Int):=of_decide_eq_true za
    obtain ⟨ad395,e395,hx395_0⟩:=Kd.at_int (Kd.R_reads' HO_6.out).2.2 x7_1 p395 q395
    cases e395
    replace p395:=eq_true p395
    replace q395:=eq_true q395
    refine start_ (n:=18) (S:=fun w'=>w'.cell? (ad393.add ((ji9)).toNat)=some (.slice (some ad394) (rd_L3 x5_1 (ji9)).length c393_0)∧w'.cell? ad394=some (.int .i64 (rd (rd_L3 x5_1 (ji9)) 0))∧w'.cell? (ad395.add (x7_1).toNat)=some (.int .i64 (rd t390 x7_1))) (ds:=[]) #[false,false,false,false,false,false,false,false,false,false,false,false,false,false,false,false,false,false] (by kernel_rfl) rfl rfl ⟨hx393_0,hx394_0,hx395_0⟩ (fun hHeld=>?_);refine with_tabW spec_l3Groups.tab7 spec_l3Groups.bits7 (fun HT_ HW_=>?_)
    generalize wr.drew=w31 at HO_5 HO_6 HB HL393_0 HR393_0 HX393_0 hx393_0 hx394_0 hx395_0 hHeld ⊢
    refine pu_ 0 22 ?_
    refine pu_ 1 23 ?_
    refine pu_ 2 24 ?_
    refine pu_ 3 25 ?_
    refine pu_ 4 26 ?_
    refine pu_ 5 27 ?_
    refine pu_ 6 28 ?_
    refine pu_ 7 29 ?_
    refine pu_ 11 33 ?_
    refine pu_ 12 34 ?_
    refine pu_ 13 35 ?_
    refine tk_ 8 30 hHeld ?_
    refine pu_ 9 31 ?_
    refine tk_ 10 32 hHeld ?_
    refine tk_ 14 36 hHeld ?_
    refine one_ (i:=15) (N:=some 37) #[true,true,true,true,true,true,true,true,true,true,true,true,true,true,true,true,false,false] rfl rfl (one_of HT_.out (by kernel_rfl)) (by decide) (fun K hK=>?_)
    refine goes_ Try.func33 (by kernel_rfl) rfl #[.slice A0 l0.length c0,.int .i64 a1,.int .i64 (rd (rd_L3 x5_1 (ji9)) 0),.int .i64 (rd t390 x7_1)] (by rfl) rfl rfl (by (try simp only [List.map_toArray,List.map_cons,List.map_nil]);first|done|(simp only [hji9];rfl)|rfl|(simp only [List.length_drop,List.length_take];rfl)) ?_
    with_reducible refine (spec_l3Gap.calls _ _ l0 a1 (rd (rd_L3 x5_1 (ji9)) 0) (rd t390 x7_1) t396 _ ?side1 ?side2 A14.out).mono ?_
    (case side1=>exact zC (Kd.C_below HR0.out HB.out))
    (case side2=>exact HC0.out)
    rintro e w32 ⟨rfl,hb⟩
    have HS0_:=(hb.cell (World.block_lt_of_cell? _ _ (hHeld.1))).trans (hHeld.1)
    have HS1_:=(hb.cell (World.block_lt_of_cell? _ _ (hHeld.2.1))).trans (hHeld.2.1)
    have HS2_:=(hb.cell (World.block_lt_of_cell? _ _ (hHeld.2.2))).trans (hHeld.2.2)
    refine ⟨_,rfl,?_⟩
    replace HO_5:=zSb HO_5 hb
    replace HO_6:=zRb HO_6 hb
    replace HL393_0:=zRb HL393_0 hb
    replace HR393_0:=Aside0.mk (Kd.C_below zz46 hb)
    replace HX393_0:=Aside0.mk (pw_cell_below hb HX393_0.out)
    replace HB:=zb1 hb
    refine hK.out _ _ ⟨HS0_,HS1_,HS2_⟩ (fun hHeld=>?_)
    clear hK K
    refine norm_ (a':=?_) ?_ ?_
    rotate_left
    ·show Act.put _ (some 37) _=_
     simp only [Act.put,List.setIfInBounds_toArray,List.set_cons_zero,List.set_cons_succ,i64_w,i32_w]
     rfl
    refine pu_ 16 38 ?_
    refine pu_ 17 39 ?_
    refine done_ (done_of HT_.out (by kernel_rfl)) ?_
    have p403:0≤(x7_1:Int):=of_decide_eq_true za
    have q403:x7_1<(t390.length:Int):=of_decide_eq_true za
    obtain ⟨ad403,e403,hx403_0⟩:=Kd.at_int (Kd.R_reads' HO_6.out).2.2 x7_1 p403 q403
    obtain rfl:ad395=ad403:=(by injection e403)
    replace p403:=eq_true p403
    replace q403:=eq_true q403
    try go_wp2_with (first|((with_reducible refine gate_dst (N:=58) rfl ?_);refine Kd.R_lit (Kd.int .i64) _ 3 ?hg (N:=58) ?hd (xs:=([rd t390 x7_1]:List Int)) (inner:=[.int .i64 (rd t390 x7_1)]) (ok:=fun _=>True) (okp:=fun _=>True) ?hr ?hp (fun _ hk=>hk) trivial (Below.refl _ _) (Nat.le_refl _) (by simp) ?_;(case hd=>rfl);(case hg=>rfl);(case hr=>first|(go_simp;done)|(go_simp;rfl));(case hp=>exact (Reps.one (show Kd.M (Kd.int .i64) _ _ _ (rd t390 x7_1) [.int .i64 (rd t390 x7_1)] from rfl) (Reps.none _ _)));intro v405 w33 ho34 hb hg_ hnew_;clear hg_ hnew_;(first|rw [←Ny404.out] at ho34|(simp only [Int.reduceToNat] at ho34;rw [←Ny404.out] at ho34));have n0_:=Aside0.mk (Kd.S_elder' (zS HO_5.out) (Kd.R_base ho34) hb);have n1_:=Aside0.mk (Kd.R_elder' (zR HO_6.out) (Kd.R_base ho34) hb);have n2_:=Aside0.mk (Kd.R_elder' (zR HL393_0.out) (Kd.R_base ho34) hb);have n3_:=Aside0.mk (Kd.R_lower (Kd.R_new' (Kd.R_new' ho34 (Kd.R_lt (zR HO_6.out))) (Kd.R_lt (zR HL393_0.out))) (below_size zb));have n4_:=Aside0.mk (Kd.C_below zz46 hb);have n5_:=Aside0.mk (pw_cell_below hb HX393_0.out);have n6_:=zb1 hb;clear HO_5;clear HO_6;clear HL393_0;clear HR393_0;clear HX393_0;clear HB;have HO_5:=n0_;have HO_6:=n1_;have HL393_0:=n2_;have HO406:=n3_;have HR393_0:=n4_;have HX393_0:=n5_;have HB:=n6_;clear n0_ n1_ n2_ n3_ n4_ n5_ n6_;clear hb ho34;obtain ⟨Ao36,co36,eo36⟩:=Kd.R_slice HO406.out;subst eo36)|((with_reducible refine gate_builtin (b:=.append) (xs:=#[.tmp 53,.tmp 59]) rfl ?_);at_builtin;refine Kd.S_append (Kd.slice 3 (Kd.int .i64)) (w0:=w) w.heap.size rfl (.tmp 53) (.tmp 59) 27 33 (.slice none 0 0) 24 rfl Try.underlying27 info33 rfl (by decide) (by omega) (.slice (some ad393) x5_1.length co30) x5_1 y404 [.slice Ao36 y404.length co36] (fun k_=>some k_≠(.slice (some ad395) t390.length co29:Value).ownBlock) (fun k_=>some k_=(.slice Ao36 y404.length co36:Value).ownBlock) rfl rfl ?aP (fun k_ hk_=>((Kd.R_mono (ok':=fun k_=>((fun k_=>some k_≠(.slice (some ad395) t390.length co29:Value).ownBlock)) k_∧some k_≠(.slice (some ad393) x5_1.length co30:Value).ownBlock) (Kd.R_apart' (HO406.out) (Kd.S_typed HO_5.out) (by decide)) (fun k_ hk=>⟨hk.1.1.2,hk.2⟩))).1 k_ hk_.symm) ?aF ?aO ?aB ?aS ?aL ?_;(case aP=>exact Kd.M_row (Kd.R_mono (Kd.R_tight rfl (Kd.R_mono (ok':=fun k_=>((fun k_=>some k_≠(.slice (some ad395) t390.length co29:Value).ownBlock)) k_∧some k_≠(.slice (some ad393) x5_1.length co30:Value).ownBlock) (Kd.R_apart' (HO406.out) (Kd.S_typed HO_5.out) (by decide)) (fun k_ hk=>⟨hk.1.1.2,hk.2⟩))) (fun _ h_=>h_)));(case aB=>exact zb);(case aF=>exact (fun k_ hk=>Kd.fresh' (Kd.R_lt (zR HO_6.out)) k_ hk));(case aO=>exact (zS (Kd.S_mono HO_5.out (fun k_ hk=>⟨hk.1,fun e_=>hk.2 e_⟩))));(case aS=>exact (below_size zb));(case aL=>have:=LMc28.out;omega);intro v408 w35 ho hb hg hat;rw [←Ny407.out] at ho;replace HO_6:=Aside0.mk (Kd.R_over' (zR HO_6.out) (Kd.S_typed (zS HO_5.out)) (by decide) hg);replace HL393_0:=Aside0.mk (Kd.R_after (ok:=(fun k_=>some k_≠(.slice (some ad395) t390.length co29:Value).ownBlock∧some k_≠(.slice Ao36 y404.length co36:Value).ownBlock)) (zR (Kd.R_mono HL393_0.out (fun _ hk=>⟨⟨hk.1.1,hk.2⟩,hk.1.2⟩))) hg hat);replace HB:=Aside0.mk (hb);have HO409:=Aside0.mk (ho);clear HO_5 HO406;clear ho hb hg hat))
    go_roundg k1
    case measure=>have:=HK1.out;omega
    case rel=>exact ⟨(y407),(wrap64 (x7_1 + 1)),zo,H',⟨by have:=HK1.out;omega⟩,⟨zS HO409.out⟩,⟨zR (Kd.R_mono HO_6.out (fun _ hk=>trivial))⟩,⟨zb⟩⟩
   rw [if_pos c15] at H
   have c15b0:(t396 == 0)=true:=beq_iff_eq.mpr c15
   have c15b1:(t396 != 0)=false:=bne_eq_false_iff_eq.mpr c15
   clear c15
   by_cases c16:(rd_L3 x5_1 (ji9)).length<17592186044416
   rotate_left
   ·rw [if_neg c16] at H
    exact absurd H (by simp)
   rw [if_pos c16] at H
   have LMc16:=Aside0.mk c16
   clear c16
   obtain ⟨y399,hy399⟩:∃ y_:List Int,y_=((rd_L3 x5_1 (ji9))++[rd t390 x7_1]):=⟨_,rfl⟩
   replace H:(spec_l3Groups.l0 k1 l0 a1 (x5_1.set ((ji9):Int).toNat y399) t390 (wrap64 (x7_1 + 1)))=some r:=by first|(rw [hy399];with_reducible exact H)|(have H2_:=(Option.bind_some _ _).symm.trans H;rw [hy399];with_reducible exact H2_)|(have H2_:=(Option.bind_some _ _).symm.trans H;with_reducible exact H2_)|with_reducible exact H|(rw [hy399];exact H)|exact H
   have Ny399:=Aside0.mk hy399
   clear hy399
   obtain ⟨y402,hy402⟩:∃ y_:List (List Int),y_=(x5_1.set ((ji9):Int).toNat y399):=⟨_,rfl⟩
   replace H:(spec_l3Groups.l0 k1 l0 a1 y402 t390 (wrap64 (x7_1 + 1)))=some r:=by first|(rw [hy402];with_reducible exact H)|(have H2_:=(Option.bind_some _ _).symm.trans H;rw [hy402];with_reducible exact H2_)|(have H2_:=(Option.bind_some _ _).symm.trans H;with_reducible exact H2_)|with_reducible exact H|(rw [hy402];exact H)|exact H
   have Ny402:=Aside0.mk hy402
   clear hy402
   have H':=Aside0.mk H
   clear H
   obtain ⟨Ao18,co18,eo18⟩:=Kd.R_slice HO_6.out
   subst eo18
   obtain ⟨Ao19,co19,eo19⟩:=Kd.S_slice HO_5.out
   subst eo19
   try go_wp2
   replace HO_5:=Aside0.mk (Kd.S_drew HO_5.out)
   replace HO_6:=Aside0.mk (Kd.R_drew HO_6.out)
   replace HB:=Aside0.mk (below_drew1 HB.out)
   have p393:0≤((ji9):Int):=of_decide_eq_true za
   have q393:(ji9)<(x5_1.length:Int):=of_decide_eq_true za
   obtain ⟨ad393,A393_0,c393_0,e393,hx393_0,hl393_0,hi393_0⟩:=at_L3 (Kd.S_reads' HO_5.out).2.2 (ji9) p393 q393
   cases e393
   obtain ⟨ce393,hce393,hMe393,hcc393⟩:=Kd.S_get HO_5.out [] (ji9) p393 (by first|exact q393|exact of_decide_eq_true za|(have e_:=(Kd.S_reads' HO_5.out).1;omega))
   obtain ⟨ve393_0,rfl,ge393_0⟩:=hMe393
   have hv393_0:=hcc393 0 _ rfl
   rw [Nat.add_zero,show ((Kd.slice 3 (Kd.int .i64))).sz=1 from rfl,Nat.mul_one] at hv393_0
   replace hv393_0:=Option.some.inj (hv393_0.symm.trans hx393_0)
   rw [hv393_0] at ge393_0
   have HL393_0:=Aside0.mk (show Kd.R (Kd.int .i64) 3 _ _ _ _ (rd_L3 x5_1 (ji9)) from ge393_0)
   clear hv393_0 ge393_0
   have HX393_0:=Aside0.mk hx393_0
   clear hcc393 hce393
   have HR393_0:=Aside0.mk hi393_0
   have HC393_0:=Aside0.mk hl393_0
   clear hi393_0 hl393_0
   replace p393:=eq_true p393
   replace q393:=eq_true q393
   have p394:0≤(0:Int):=(by omega)
   have q394:0<((rd_L3 x5_1 (ji9)).length:Int):=of_decide_eq_true za
   obtain ⟨ad394,e394,hx394_0⟩:=Kd.at_int zz46 0 p394 q394
   cases e394
   have qi394:(0<(rd_L3 x5_1 (ji9)).length)=True:=eq_true (by omega)
   (try rw [show ((0:Int)).toNat=0 from rfl] at hx394_0)
   (try rw [Addr.add_zero'] at hx394_0)
   replace p394:=eq_true p394
   replace q394:=eq_true q394
   have p395:0≤(x7_1:Int):=of_decide_eq_true za
   have q395:x7_1<(t390.length:Int):=of_decide_eq_true za
   obtain ⟨ad395,e395,hx395_0⟩:=Kd.at_int (Kd.R_reads' HO_6.out).2.2 x7_1 p395 q395
   cases e395
   replace p395:=eq_true p395
   replace q395:=eq_true q395
   refine start_ (n:=18) (S:=fun w'=>w'.cell? (ad393.add ((ji9)).toNat)=some (.slice (some ad394) (rd_L3 x5_1 (ji9)).length c393_0)∧w'.cell? ad394=some (.int .i64 (rd (rd_L3 x5_1 (ji9)) 0))∧w'.cell? (ad395.add (x7_1).toNat)=some (.int .i64 (rd t390 x7_1))) (ds:=[]) #[false,false,false,false,false,false,false,false,false,false,false,false,false,false,false,false,false,false] (by kernel_rfl) rfl rfl ⟨hx393_0,hx394_0,hx395_0⟩ (fun hHeld=>?_);refine with_tabW spec_l3Groups.tab7 spec_l3Groups.bits7 (fun HT_ HW_=>?_)
   generalize wr.drew=w20 at HO_5 HO_6 HB HL393_0 HR393_0 HX393_0 hx393_0 hx394_0 hx395_0 hHeld ⊢
   refine pu_ 0 22 ?_
   refine pu_ 1 23 ?_
   refine pu_ 2 24 ?_
   refine pu_ 3 25 ?_
   refine pu_ 4 26 ?_
   refine pu_ 5 27 ?_
   refine pu_ 6 28 ?_
   refine pu_ 7 29 ?_
   refine pu_ 11 33 ?_
   refine pu_ 12 34 ?_
   refine pu_ 13 35 ?_
   refine tk_ 8 30 hHeld ?_
   refine pu_ 9 31 ?_
   refine tk_ 10 32 hHeld ?_
   refine tk_ 14 36 hHeld ?_
   refine one_ (i:=15) (N:=some 37) #[true,true,true,true,true,true,true,true,true,true,true,true,true,true,true,true,false,false] rfl rfl (one_of HT_.out (by kernel_rfl)) (by decide) (fun K hK=>?_)
   refine goes_ Try.func33 (by kernel_rfl) rfl #[.slice A0 l0.length c0,.int .i64 a1,.int .i64 (rd (rd_L3 x5_1 (ji9)) 0),.int .i64 (rd t390 x7_1)] (by rfl) rfl rfl (by (try simp only [List.map_toArray,List.map_cons,List.map_nil]);first|done|(simp only [hji9];rfl)|rfl|(simp only [List.length_drop,List.length_take];rfl)) ?_
   with_reducible refine (spec_l3Gap.calls _ _ l0 a1 (rd (rd_L3 x5_1 (ji9)) 0) (rd t390 x7_1) t396 _ ?side1 ?side2 A14.out).mono ?_
   (case side1=>exact zC (Kd.C_below HR0.out HB.out))
   (case side2=>exact HC0.out)
   rintro e w21 ⟨rfl,hb⟩
   have HS0_:=(hb.cell (World.block_lt_of_cell? _ _ (hHeld.1))).trans (hHeld.1)
   have HS1_:=(hb.cell (World.block_lt_of_cell? _ _ (hHeld.2.1))).trans (hHeld.2.1)
   have HS2_:=(hb.cell (World.block_lt_of_cell? _ _ (hHeld.2.2))).trans (hHeld.2.2)
   refine ⟨_,rfl,?_⟩
   replace HO_5:=zSb HO_5 hb
   replace HO_6:=zRb HO_6 hb
   replace HL393_0:=zRb HL393_0 hb
   replace HR393_0:=Aside0.mk (Kd.C_below zz46 hb)
   replace HX393_0:=Aside0.mk (pw_cell_below hb HX393_0.out)
   replace HB:=zb1 hb
   refine hK.out _ _ ⟨HS0_,HS1_,HS2_⟩ (fun hHeld=>?_)
   clear hK K
   refine norm_ (a':=?_) ?_ ?_
   rotate_left
   ·show Act.put _ (some 37) _=_
    simp only [Act.put,List.setIfInBounds_toArray,List.set_cons_zero,List.set_cons_succ,i64_w,i32_w]
    rfl
   refine pu_ 16 38 ?_
   refine pu_ 17 39 ?_
   refine done_ (done_of HT_.out (by kernel_rfl)) ?_
   try go_wp2
   replace HO_5:=Aside0.mk (Kd.S_drew HO_5.out)
   replace HO_6:=Aside0.mk (Kd.R_drew HO_6.out)
   replace HL393_0:=Aside0.mk (Kd.R_drew HL393_0.out)
   replace HR393_0:=Aside0.mk (Kd.C_drew HR393_0.out)
   replace HB:=Aside0.mk (below_drew1 HB.out)
   have p397:0≤((ji9):Int):=of_decide_eq_true za
   have q397:(ji9)<(x5_1.length:Int):=of_decide_eq_true za
   obtain ⟨ad397,A397_0,c397_0,e397,hx397_0,hl397_0,hi397_0⟩:=at_L3 (Kd.S_reads' HO_5.out).2.2 (ji9) p397 q397
   obtain rfl:ad393=ad397:=(by injection e397)
   obtain ⟨ce397,hce397,hMe397,hcc397⟩:=Kd.S_get HO_5.out [] (ji9) p397 (by first|exact q397|exact of_decide_eq_true za|(have e_:=(Kd.S_reads' HO_5.out).1;omega))
   obtain ⟨ve397_0,rfl,ge397_0⟩:=hMe397
   have hv397_0:=hcc397 0 _ rfl
   rw [Nat.add_zero,show ((Kd.slice 3 (Kd.int .i64))).sz=1 from rfl,Nat.mul_one] at hv397_0
   replace hv397_0:=Option.some.inj (hv397_0.symm.trans hx397_0)
   rw [hv397_0] at ge397_0
   have HL397_0:=Aside0.mk (show Kd.R (Kd.int .i64) 3 _ _ _ _ (rd_L3 x5_1 (ji9)) from ge397_0)
   clear hv397_0 ge397_0
   have HX397_0:=Aside0.mk hx397_0
   clear hcc397 hce397
   have HR397_0:=Aside0.mk hi397_0
   have HC397_0:=Aside0.mk hl397_0
   clear hi397_0 hl397_0
   replace p397:=eq_true p397
   replace q397:=eq_true q397
   have p398:0≤(x7_1:Int):=of_decide_eq_true za
   have q398:x7_1<(t390.length:Int):=of_decide_eq_true za
   obtain ⟨ad398,e398,hx398_0⟩:=Kd.at_int (Kd.R_reads' HO_6.out).2.2 x7_1 p398 q398
   obtain rfl:ad395=ad398:=(by injection e398)
   replace p398:=eq_true p398
   replace q398:=eq_true q398
   obtain ⟨go23,co23,eo23,gb23,gl23,cl23,HG23⟩:=Kd.S_form HO_5.out (by have h_:((ji9):Int)<((x5_1.length:Int):Int):=of_decide_eq_true za;have h2_:0≤((ji9):Int):=(of_decide_eq_true za);omega)
   (first|cases eo23|(injection eo23 with ea_ en_ ec_;(first|subst ea_|(injection ea_ with ea_;subst ea_));subst ec_;clear en_))
   have GB23:=Aside0.mk gb23
   have GG23:=Aside0.mk HG23
   clear gb23 gl23 HG23
   (first|simp only [add_plain] at hx393_0|skip)
   (first|simp only [add_plain] at hx397_0|skip)
   obtain ⟨oki23,ce23,hcl23,hM23,hcc23,_,_,hH23⟩:=Kd.S_elem HO_5.out [] ((ji9):Int) (of_decide_eq_true za) (by have h_:((ji9):Int)<((x5_1.length:Int):Int):=of_decide_eq_true za;first|exact h_|(have e_:=(Kd.S_reads' HO_5.out).1;omega)|simpa using h_)
   obtain ⟨ve23_0,rfl,ge23_0⟩:=hM23
   have hv23:=hcc23 0 _ rfl
   have hX23:=HX397_0.out
   (try simp only [add_plain] at hX23)
   (try simp only [Nat.add_zero] at hv23)
   (try rw [show ((Kd.slice 3 (Kd.int .i64))).sz=1 from rfl,Nat.mul_one] at hv23)
   replace hv23:=Option.some.inj (hv23.symm.trans hX23)
   subst hv23
   clear hX23 hcc23 hcl23
   have UU23:=Aside0.mk (show Kd.R (Kd.int .i64) 3 _ w.heap.size oki23 (.slice A397_0 (rd_L3 x5_1 (ji9)).length c397_0) (rd_L3 x5_1 (ji9)) from ge23_0)
   have HH23:=Aside0.mk hH23
   have HN23:=Aside0.mk (Kd.S_reads' HO_5.out).1
   clear hH23 ge23_0
   refine start_ (n:=14) (S:=fun w'=>w'.cell? ⟨go23,((ji9)).toNat,none⟩=some (.slice A397_0 (rd_L3 x5_1 (ji9)).length c397_0)∧w'.cell? (ad395.add (x7_1).toNat)=some (.int .i64 (rd t390 x7_1))) (ds:=[11,13]) #[false,false,false,false,false,false,false,false,false,false,false,false,false,false] (by kernel_rfl) rfl rfl ⟨hx397_0,hx398_0⟩ (fun hHeld=>?_);refine with_tabW spec_l3Groups.tab8 spec_l3Groups.bits8 (fun HT_ HW_=>?_)
   generalize w21.drew=w22 at HO_5 HO_6 HL393_0 HR393_0 HB GG23 HH23 HL397_0 HR397_0 HX397_0 UU23 hx393_0 hx397_0 hx398_0 hHeld ⊢
   refine pu_ 0 40 ?_
   refine pu_ 1 41 ?_
   refine pu_ 2 42 ?_
   refine pu_ 3 43 ?_
   refine pu_ 4 44 ?_
   refine pu_ 6 46 ?_
   refine pu_ 7 47 ?_
   refine pu_ 8 48 ?_
   refine tk_ 5 45 hHeld ?_
   refine tk_ 9 49 hHeld ?_
   refine one_ (i:=10) (N:=some 50) #[true,true,true,true,true,true,true,true,true,true,true,false,false,false] rfl rfl (one_of HT_.out (by kernel_rfl)) (by decide) (fun K hK=>?_)
   refine value_ (w1:=?_) (v:=?_) (by rfl) rfl ?_ ?_
   rotate_left 2
   ·go_simp
    constructor
    ·rfl
    ·rfl
   refine hK.out _ _ ⟨(World.cell?_alloc_lt _ _ _ (World.block_lt_of_cell? _ _ (hHeld.1))).trans (hHeld.1),(World.cell?_alloc_lt _ _ _ (World.block_lt_of_cell? _ _ (hHeld.2))).trans (hHeld.2)⟩ (fun hHeld=>?_)
   clear hK K
   refine norm_ (a':=?_) ?_ ?_
   rotate_left
   ·show Act.put _ (some 50) _=_
    simp only [Act.put,List.setIfInBounds_toArray,List.set_cons_zero,List.set_cons_succ,i64_w,i32_w]
    rfl
   refine last_ (i:=11) (N:=some 51) #[true,true,true,true,true,true,true,true,true,true,true,true,false,false] rfl rfl (one_of HT_.out (by kernel_rfl)) (by decide) (fun K hK=>?_)
   refine Kd.R_append_step (Kd.int .i64) (w0:=w) w.heap.size (by rfl) (.tmp 45) (.tmp 50) 33 3 (.int .i64 0) 8 rfl Try.underlying33 info3 rfl (by decide) (by omega) (.slice A397_0 (rd_L3 x5_1 (ji9)).length c397_0) (rd_L3 x5_1 (ji9)) (rd t390 x7_1) [.int .i64 (rd t390 x7_1)] (fun k_=>oki23 k_∨((fun k_=>some k_≠(.slice (some ad395) t390.length co18:Value).ownBlock)) k_∧w22.heap.size≤k_) (fun _=>False) rfl rfl ?aP (fun _ hk=>hk.elim) ?aF ?aO ?aB ?aS ?aL ?_
   (case aP=>exact rfl)
   (case aB=>exact zb)
   (case aF=>exact (fun k_ hk=>.inr ⟨Kd.fresh' (Kd.R_lt (zR HO_6.out)) k_ hk,hk⟩))
   (case aO=>exact (zR (Kd.R_mono UU23.out (fun _ hk=>.inl hk))))
   (case aS=>exact (below_size zb))
   (case aL=>have:=LMc16.out;omega)
   intro v400 w24 ho hb hg hat
   rw [←Ny399.out] at ho
   replace HO_6:=Aside0.mk (Kd.R_grown2 (zR HO_6.out) rfl hg (fun k_ e_=>(HL397_0.out.1 k_ e_).1))
   replace HB:=Aside0.mk (hb)
   replace HH23:=Aside0.mk (Kd.H_grown (Kd.H_widen (by repeat (first|exact HH23.out|refine Kd.H_alloc ?_ _|refine Kd.H_drewN ?_ _|refine Kd.H_drew ?_))) hg (fun k_ e_=>.inl (UU23.out.1 k_ e_)))
   have HO401:=Aside0.mk (ho)
   clear HO_5 UU23 HL393_0 HL397_0
   clear ho hb hg hat
   have p17:0≤((ji9):Int):=of_decide_eq_true za
   have q17:((ji9):Int)<((x5_1.length:Int):Int):=of_decide_eq_true za
   replace p17:=eq_true p17
   replace q17:=eq_true q17
   obtain ⟨Ao27,co27,eo27⟩:=Kd.R_slice HO401.out
   (first|subst eo27|(injection eo27 with f1_ f2_ f3_;have f4_:=f1_.symm;have f5_:=f3_.symm;clear f1_ f2_ f3_;subst f4_;subst f5_))
   obtain ⟨_,_,hraw25,_,_,hcc25,_⟩:=Kd.H_raw HH23.out (of_decide_eq_true za) (by have h_:((ji9):Int)<((x5_1.length:Int):Int):=of_decide_eq_true za;first|exact h_|(have e_:=(HN23.out);omega)|simpa using h_)
   obtain ⟨_,hfr25⟩:=Kd.H_at HH23.out (of_decide_eq_true za) (by have h_:((ji9):Int)<((x5_1.length:Int):Int):=of_decide_eq_true za;first|exact h_|(have e_:=(HN23.out);omega)|simpa using h_)
   have hx25_0:=hcc25 0 _ rfl
   have hf25_0:=hfr25 0
   (try simp only [Nat.add_zero] at hx25_0 hf25_0)
   (try rw [show ((Kd.slice 3 (Kd.int .i64))).sz=1 from rfl,Nat.mul_one] at hx25_0)
   (try rw [show ((Kd.slice 3 (Kd.int .i64))).sz=1 from rfl,Nat.mul_one] at hf25_0)
   have HP25:=Kd.S_seg0 HH23.out (of_decide_eq_true za) (by have h_:((ji9):Int)<((x5_1.length:Int):Int):=of_decide_eq_true za;first|exact h_|(have e_:=(HN23.out);omega)|simpa using h_) (seg:=[.slice Ao27 y399.length co27]) (j:=0) (show 1≤1 from by decide) (x':=y399) (Kd.M_row HO401.out) (fun _ hk=>hk)
   (try simp only [show ((Kd.slice 3 (Kd.int .i64))).sz=1 from rfl,Nat.mul_one,Nat.add_zero] at HP25)
   clear hcc25 hfr25
   have HS25:=HP25.1
   rw [←Ny402.out] at HS25
   have HQ25:=Aside0.mk HS25
   obtain ⟨_,hgg25⟩:=Kd.R_typed hraw25 go23 rfl
   have GG25_:=Aside0.mk hgg25
   clear HP25 HS25 hgg25
   refine hK.out _ _ ?_
   clear hK K
   refine norm_ (a':=?_) ?_ ?_
   rotate_left
   ·show Act.put _ (some 51) _=_
    simp only [Act.put,List.setIfInBounds_toArray,List.set_cons_zero,List.set_cons_succ,i64_w,i32_w]
    rfl
   refine pu_ 12 52 ?_
   refine last_ (i:=13) (N:=none) #[true,true,true,true,true,true,true,true,true,true,true,true,true,true] rfl rfl (one_of HT_.out (by kernel_rfl)) (by decide) (fun K hK=>?_)
   refine skip_ (w1:=?_) (by rfl) rfl ?_ ?_
   rotate_left
   ·go_simp
    rfl
   refine hK.out _ _ ?_
   clear hK K
   refine done_ (done_of HT_.out (by kernel_rfl)) ?_
   try go_wp2
   go_roundg k1
   case measure=>have:=HK1.out;omega
   case rel=>exact ⟨(y402),(wrap64 (x7_1 + 1)),zo,H',⟨by have:=HK1.out;omega⟩,⟨by (with_reducible repeat (first|apply Kd.S_alloc|apply Kd.S_drewN|apply Kd.S_drew));exact HQ25.out⟩,⟨by (with_reducible repeat (first|apply Kd.R_alloc|apply Kd.R_drewN|apply Kd.R_drew));exact Kd.R_mono (Kd.R_far (p:=⟨go23,((ji9):Int).toNat,none⟩) (Kd.R_types HO_6.out GG25_.out (by decide)) (fun _ hk=>hk.2) (.slice Ao27 y399.length co27)) (fun _ hk=>trivial)⟩,⟨by repeat (first|(with_reducible first|exact HB.out|apply below_alloc|apply pw_below_drewN|apply below_drew1|refine below_set ?_ GB23.out)|exact HB.out)⟩⟩

end Go.Proofs.Ytkcfmaiknmfokaa.XFnTies
-- minified
