-- Written by a program of this session (the kit's print, widened). Proved here: what each function answers, for the arguments that its contract names.
import Derived.Test.YtkcfmaiknmfokaaXFnTiesx0
import Derived.Test.YtkcfmaiknmfokaaXFnTiesx7
import Derived.Test.YtkcfmaiknmfokaaXFnTiesx8
namespace Go.Proofs.Ytkcfmaiknmfokaa.XFnTies
open Go.RowKit Go.Proofs.YtkcfmaiknmfokaaW.PrintWords Go.Proofs.YtkcfmaiknmfokaaW.PrintLast Go.Proofs.YtkcfmaiknmfokaaW.PrintMore
attribute [local go_sem] max2_int min2_int max_two min_two max_three min_three max_four min_four   -- for this text's walks alone
attribute [local go_sem] fldS_52_0 fldS_52_1 fldS_52_2
set_option linter.unusedVariables false
set_option linter.unusedSimpArgs false

/-! ### impl_tieGroups: function 17 -/
def impl_tieGroups.l0:Nat→List (S44)→Int→List (List Int)→List Int→List Int→Int→Int→Option ((List (List Int)))
 | 0,_,_,_,_,_,_,_=>none
 | k + 1,x0,x1,x5,x6,x12,x13,x14=>if x14<x13 then (if 0≤x14 then (if x14<(x12.length:Int) then (if x14=0 then (if x5.length<5864062014805 then ((some (x5++[[]]:List (List Int))).bind fun y292=>(if 0≤(wrap64 ((y292.length:Int) - 1)) then (if (wrap64 ((y292.length:Int) - 1))<(y292.length:Int) then (if (rd_L3 y292 (wrap64 ((y292.length:Int) - 1))).length<17592186044416 then (impl_tieGroups.l0 k x0 x1 (y292.set ((wrap64 ((y292.length:Int) - 1)):Int).toNat ((rd_L3 y292 (wrap64 ((y292.length:Int) - 1)))++[rd x12 x14])) x6 x12 x13 (wrap64 (x14 + 1))) else (none)) else (none)) else (none))) else (none)) else (if 0≤(wrap64 (x14 - 1)) then (if (wrap64 (x14 - 1))<(x6.length:Int) then (if 0≤(rd x6 (wrap64 (x14 - 1))) then (if (rd x6 (wrap64 (x14 - 1)))<(x0.length:Int) then (if 0≤(rd x12 x14) then (if (rd x12 x14)<(x0.length:Int) then ((impl_difference.f ((rd_T44 x0 (rd x6 (wrap64 (x14 - 1)))).f0) ((rd_T44 x0 (rd x6 (wrap64 (x14 - 1)))).f1) ((rd_T44 x0 (rd x6 (wrap64 (x14 - 1)))).f2) ((rd_T44 x0 (rd x6 (wrap64 (x14 - 1)))).f3) ((rd_T44 x0 (rd x12 x14)).f0) ((rd_T44 x0 (rd x12 x14)).f1) ((rd_T44 x0 (rd x12 x14)).f2) ((rd_T44 x0 (rd x12 x14)).f3) x1).bind fun t303=>(if t303=0 then (if 0≤(wrap64 ((x5.length:Int) - 1)) then (if (wrap64 ((x5.length:Int) - 1))<(x5.length:Int) then (if (rd_L3 x5 (wrap64 ((x5.length:Int) - 1))).length<17592186044416 then (impl_tieGroups.l0 k x0 x1 (x5.set ((wrap64 ((x5.length:Int) - 1)):Int).toNat ((rd_L3 x5 (wrap64 ((x5.length:Int) - 1)))++[rd x12 x14])) x6 x12 x13 (wrap64 (x14 + 1))) else (none)) else (none)) else (none)) else (if x5.length<5864062014805 then ((some (x5++[[]]:List (List Int))).bind fun y309=>(if 0≤(wrap64 ((y309.length:Int) - 1)) then (if (wrap64 ((y309.length:Int) - 1))<(y309.length:Int) then (if (rd_L3 y309 (wrap64 ((y309.length:Int) - 1))).length<17592186044416 then (impl_tieGroups.l0 k x0 x1 (y309.set ((wrap64 ((y309.length:Int) - 1)):Int).toNat ((rd_L3 y309 (wrap64 ((y309.length:Int) - 1)))++[rd x12 x14])) x6 x12 x13 (wrap64 (x14 + 1))) else (none)) else (none)) else (none))) else (none)))) else (none)) else (none)) else (none)) else (none)) else (none)) else (none))) else (none)) else (none)) else (some x5)
def impl_tieGroups.f (k:Nat) (l0:List (S44)) (a1:Int):Option ((List (List Int))):=(impl_ruledOrder.f k l0 a1).bind fun t288=>(impl_tieGroups.l0 k l0 a1 ([]:List (List Int)) t288 t288 (t288.length:Int) 0)
theorem impl_tieGroups.mono_l:∀ k,(∀ y0 y1 y2 y3 y4 y5 y6,LeO (impl_tieGroups.l0 k y0 y1 y2 y3 y4 y5 y6) (impl_tieGroups.l0 (k + 1) y0 y1 y2 y3 y4 y5 y6))
 | 0=>fun _ _ _ _ _ _ _ r h=>by simp [impl_tieGroups.l0] at h
 | k + 1=>by
  have ih0:=impl_tieGroups.mono_l k
  ·intro y0 y1 y2 y3 y4 y5 y6
   unfold impl_tieGroups.l0
   repeat' first|(with_reducible first|apply ih0|exact impl_ruledOrder.mono _ _ _|exact LeO.refl _|exact LeO.none _|refine LeO.ite ?_ ?_|refine LeO.bind ?_ (fun _=>?_))|apply ih0|exact impl_ruledOrder.mono _ _ _|exact LeO.none _|refine LeO.ite ?_ ?_|refine LeO.bind ?_ (fun _=>?_)
theorem impl_tieGroups.mono:∀ a0 a1 k,LeO (impl_tieGroups.f k a0 a1) (impl_tieGroups.f (k + 1) a0 a1):=by
 intro a0 a1 k
 have ih0:=impl_tieGroups.mono_l k
 unfold impl_tieGroups.f
 repeat' first|(with_reducible first|apply ih0|exact impl_ruledOrder.mono _ _ _|exact LeO.refl _|exact LeO.none _|refine LeO.ite ?_ ?_|refine LeO.bind ?_ (fun _=>?_))|apply ih0|exact impl_ruledOrder.mono _ _ _|exact LeO.none _|refine LeO.ite ?_ ?_|refine LeO.bind ?_ (fun _=>?_)
def impl_tieGroups.T6:Bool × List (List Nat × List Nat):=(true,[([],[]),([0],[0]),([1],[1]),([2],[2]),([2],[2]),([2],[2]),([5,2],[2,5]),([4,6,2],[2,4,6]),([7,2],[2,7]),([3,8,2],[2,3,8]),([9,2],[2,9]),([2],[2]),([2],[2]),([11,12,2],[2,11,12]),([13,2],[2,13]),([2],[2]),([10,14,15,2,2],[2,10,14,15]),([16,2],[2,16]),([2,17],[2,17])])
def impl_tieGroups.B6:List Nat:=[0,1,3,7,7,7,39,119,247,511,1023,7,7,6151,14343,7,65535,131071,262143]
theorem impl_tieGroups.tab6:rtab .any (opsOf Try.f17 6)=impl_tieGroups.T6:=by kernel_rfl
theorem impl_tieGroups.bits6:waitsOk impl_tieGroups.T6.2 impl_tieGroups.B6=true:=by kernel_rfl
set_option maxHeartbeats 8000000 in
set_option maxRecDepth 100000 in
theorem impl_tieGroups.calls (k:Nat) (A0:Option Addr) (c0:Nat) (l0:List (S44)) (a1:Int) (r:List (List Int)) (w:World) (hr0:Kd.C k44 w A0 l0.length l0) (hc0:l0.length≤c0) (h:impl_tieGroups.f k l0 a1=some r) :
  Calls Try.prog 17 #[.slice A0 l0.length c0,.int .i64 a1] w fun e w'=>∃ v0_:Value,e=.returned (v0_)∧Kd.S (Kd.slice 3 (Kd.int .i64)) 33 w' w.heap.size (fun _=>True) v0_ r∧Below w.heap.size w w':=by
 have hu44:=Try.underlying44
 have HR0:=Aside0.mk hr0
 have HC0:=Aside0.mk hc0
 clear hr0 hc0
 have HB:=Aside0.mk (Below.refl w.heap.size w)
 have H:((impl_ruledOrder.f k l0 a1).bind fun t288=>(impl_tieGroups.l0 k l0 a1 ([]:List (List Int)) t288 t288 (t288.length:Int) 0))=some r:=h
 clear h
 replace H:=Option.bind_eq_some_iff.mp H
 obtain ⟨t288,A30,H⟩:=H
 try dsimp only at H
 have A3:=Aside0.mk A30
 clear A30
 have H':=Aside0.mk H
 clear H
 go_enter Try.func17,Try.ntmps17
 go_wp2_with (first|((with_reducible refine gate_callee (f:=20) rfl ?_);refine zgo 11 Try.func20 #[.slice A0 l0.length c0,.int .i64 a1] ?_;(with_reducible refine (impl_ruledOrder.calls k _ _ l0 a1 t288 _ ?side1 ?side2 A3.out).mono ?_);(case side1=>exact zC HR0.out);(case side2=>exact HC0.out);rintro e w4 ⟨v289,rfl,ho0,hb⟩;refine ⟨_,rfl,?_⟩;have HO290:=Aside0.mk (Kd.R_lower ho0 (below_size zb));replace HB:=zb1 hb;(try clear hb);(try clear ho0);obtain ⟨Ao5,co5,eo5⟩:=Kd.R_slice HO290.out;subst eo5))
 go_loopg [5,14] k (fun kq v5 v14 w'=>∃ (x5_1:List (List Int)) (x14_1:Int),v14=.int .i64 x14_1∧Aside0 (impl_tieGroups.l0 kq l0 a1 x5_1 t288 t288 (t288.length:Int) x14_1=some r)∧Aside0 (kq≤k)∧Aside0 (Kd.S (Kd.slice 3 (Kd.int .i64)) 33 w' w.heap.size (fun k_=>some k_≠((.slice Ao5 t288.length co5):Value).ownBlock∧some k_≠((.slice Ao5 t288.length co5):Value).ownBlock) v5 x5_1)∧Aside0 (Kd.R (Kd.int .i64) 3 w' w.heap.size (fun _=>True) (.slice Ao5 t288.length co5) t288)∧Aside0 (Kd.R (Kd.int .i64) 3 w' w.heap.size (fun _=>True) (.slice Ao5 t288.length co5) t288)∧Aside0 (Below w.heap.size w w'))
 case atStart=>exact ⟨(([]:List (List Int))),(0),zo,H',⟨Nat.le_refl _⟩,⟨by first|exact Kd.S_nil _ _ _ _ _|exact Kd.N_nil _ _ _ _ _|exact Kd.V_nil _ _ _ _ _|exact Kd.Q_nil _ _ _ _ _|exact Kd.R_nil _ _ _ _ _⟩,⟨zR HO290.out⟩,⟨zR HO290.out⟩,⟨zb⟩⟩
 case round=>
  clear H'
  obtain ⟨x5_1,x14_1,rfl,HA,HK1,HO_5,HO_6,HO_12,HB⟩:=hrel
  cases gk with
  | zero=>exact absurd HA.out (by simp [impl_tieGroups.l0])
  | succ k1=>
   have H:=HA.out
   clear HA
   simp only [impl_tieGroups.l0] at H
   by_cases c6:x14_1<(t288.length:Int)
   rotate_left
   ·rw [if_neg c6] at H
    have c6b0:=decide_eq_false c6
    clear c6
    obtain rfl:=Option.some.inj H
    go_wp2
    go_ret
    exact ⟨_,zz1,zS (Kd.S_mono HO_5.out (fun _ hk=>trivial)),zb⟩
   rw [if_pos c6] at H
   have c6b0:=decide_eq_true c6
   clear c6
   by_cases c7:0≤x14_1
   rotate_left
   ·rw [if_neg c7] at H
    exact absurd H (by simp)
   rw [if_pos c7] at H
   have c7b0:=decide_eq_true c7
   clear c7
   by_cases c8:x14_1<(t288.length:Int)
   rotate_left
   ·rw [if_neg c8] at H
    exact absurd H (by simp)
   rw [if_pos c8] at H
   have c8b0:=decide_eq_true c8
   clear c8
   by_cases c9:x14_1=0
   ·rw [if_pos c9] at H
    have c9b0:(x14_1 == 0)=true:=beq_iff_eq.mpr c9
    have c9b1:(x14_1 != 0)=false:=bne_eq_false_iff_eq.mpr c9
    clear c9
    by_cases c10:x5_1.length<5864062014805
    rotate_left
    ·rw [if_neg c10] at H
     exact absurd H (by simp)
    rw [if_pos c10] at H
    have LMc10:=Aside0.mk c10
    clear c10
    obtain ⟨y292,hy292⟩:∃ y_:List (List Int),y_=(x5_1++[[]]):=⟨_,rfl⟩
    replace H:(if 0≤(wrap64 ((y292.length:Int) - 1)) then (if (wrap64 ((y292.length:Int) - 1))<(y292.length:Int) then (if (rd_L3 y292 (wrap64 ((y292.length:Int) - 1))).length<17592186044416 then (impl_tieGroups.l0 k1 l0 a1 (y292.set ((wrap64 ((y292.length:Int) - 1)):Int).toNat ((rd_L3 y292 (wrap64 ((y292.length:Int) - 1)))++[rd t288 x14_1])) t288 t288 (t288.length:Int) (wrap64 (x14_1 + 1))) else (none)) else (none)) else (none))=some r:=by first|(rw [hy292];with_reducible exact H)|(have H2_:=(Option.bind_some _ _).symm.trans H;rw [hy292];with_reducible exact H2_)|(have H2_:=(Option.bind_some _ _).symm.trans H;with_reducible exact H2_)|with_reducible exact H|(rw [hy292];exact H)|exact H
    have Ny292:=Aside0.mk hy292
    clear hy292
    obtain ⟨ji11,hji11⟩:∃ j_:Int,(wrap64 ((y292.length:Int) - 1))=j_:=⟨_,rfl⟩
    replace H:(if 0≤(ji11) then (if (ji11)<(y292.length:Int) then (if (rd_L3 y292 (ji11)).length<17592186044416 then (impl_tieGroups.l0 k1 l0 a1 (y292.set ((ji11):Int).toNat ((rd_L3 y292 (ji11))++[rd t288 x14_1])) t288 t288 (t288.length:Int) (wrap64 (x14_1 + 1))) else (none)) else (none)) else (none))=some r:=by first|(rw [hji11] at H;exact H)|(simp only [hji11] at H ⊢;exact H)
    have hji11w:(IntKind.i64.wrap ((y292.length:Int) - 1))=ji11:=(i64_w _).trans hji11
    by_cases c12:0≤(ji11)
    rotate_left
    ·rw [if_neg c12] at H
     exact absurd H (by simp)
    rw [if_pos c12] at H
    have c12b0:=decide_eq_true c12
    clear c12
    by_cases c13:(ji11)<(y292.length:Int)
    rotate_left
    ·rw [if_neg c13] at H
     exact absurd H (by simp)
    rw [if_pos c13] at H
    have c13b0:=decide_eq_true c13
    clear c13
    by_cases c14:(rd_L3 y292 (ji11)).length<17592186044416
    rotate_left
    ·rw [if_neg c14] at H
     exact absurd H (by simp)
    rw [if_pos c14] at H
    have LMc14:=Aside0.mk c14
    clear c14
    obtain ⟨y296,hy296⟩:∃ y_:List Int,y_=((rd_L3 y292 (ji11))++[rd t288 x14_1]):=⟨_,rfl⟩
    replace H:(impl_tieGroups.l0 k1 l0 a1 (y292.set ((ji11):Int).toNat y296) t288 t288 (t288.length:Int) (wrap64 (x14_1 + 1)))=some r:=by first|(rw [hy296];with_reducible exact H)|(have H2_:=(Option.bind_some _ _).symm.trans H;rw [hy296];with_reducible exact H2_)|(have H2_:=(Option.bind_some _ _).symm.trans H;with_reducible exact H2_)|with_reducible exact H|(rw [hy296];exact H)|exact H
    have Ny296:=Aside0.mk hy296
    clear hy296
    obtain ⟨y299,hy299⟩:∃ y_:List (List Int),y_=(y292.set ((ji11):Int).toNat y296):=⟨_,rfl⟩
    replace H:(impl_tieGroups.l0 k1 l0 a1 y299 t288 t288 (t288.length:Int) (wrap64 (x14_1 + 1)))=some r:=by first|(rw [hy299];with_reducible exact H)|(have H2_:=(Option.bind_some _ _).symm.trans H;rw [hy299];with_reducible exact H2_)|(have H2_:=(Option.bind_some _ _).symm.trans H;with_reducible exact H2_)|with_reducible exact H|(rw [hy299];exact H)|exact H
    have Ny299:=Aside0.mk hy299
    clear hy299
    have H':=Aside0.mk H
    clear H
    have p291:0≤(x14_1:Int):=of_decide_eq_true za
    have q291:x14_1<(t288.length:Int):=of_decide_eq_true za
    obtain ⟨ad291,e291,hx291_0⟩:=Kd.at_int (Kd.R_reads' HO_12.out).2.2 x14_1 p291 q291
    cases e291
    replace p291:=eq_true p291
    replace q291:=eq_true q291
    try go_wp2
    replace HO_5:=Aside0.mk (Kd.S_drew HO_5.out)
    replace HO_6:=Aside0.mk (Kd.R_drew HO_6.out)
    replace HO_12:=Aside0.mk (Kd.R_drew HO_12.out)
    replace HB:=Aside0.mk (below_drew1 HB.out)
    refine start_ (n:=19) (S:=fun w'=>True) (ds:=[]) #[false,false,false,false,false,false,false,false,false,false,false,false,false,false,false,false,false,false,false] (by kernel_rfl) rfl rfl trivial (fun hHeld=>?_);refine with_tabW impl_tieGroups.tab6 impl_tieGroups.bits6 (fun HT_ HW_=>?_)
    generalize wr.drew=w16 at HO_5 HO_6 HO_12 HB hHeld ⊢
    refine pu_ 0 19 ?_
    refine pu_ 1 20 ?_
    refine pu_ 2 21 ?_
    refine pv_ 3 22 ?_
    refine pv_ 4 23 ?_
    refine pv_ 5 24 ?_
    refine pv_ 6 25 ?_
    refine pv_ 7 26 ?_
    refine pv_ 8 27 ?_
    refine pv_ 9 28 ?_
    refine pv_ 10 29 ?_
    refine pv_ 11 30 ?_
    refine pv_ 12 31 ?_
    refine pv_ 13 32 ?_
    refine pv_ 14 33 ?_
    refine pv_ 15 34 ?_
    refine pv_ 16 35 ?_
    refine pv_ 17 36 ?_
    refine pu_ 18 37 ?_
    refine done_ (done_of HT_.out (by kernel_rfl)) ?_
    try go_wp2_with (first|((with_reducible refine gate_builtin (b:=.append) (xs:=#[.tmp 38,.tmp 39]) rfl ?_);at_builtin;refine Kd.S_append (Kd.slice 3 (Kd.int .i64)) (w0:=w) w.heap.size rfl (.tmp 38) (.tmp 39) 27 33 (.slice none 0 0) 24 rfl Try.underlying27 info33 rfl (by decide) (by omega) u5 x5_1 [] [.slice none 0 0] (fun k_=>some k_≠(.slice (some ad291) t288.length co5:Value).ownBlock∧some k_≠(.slice (some ad291) t288.length co5:Value).ownBlock) (fun _=>False) rfl rfl ?aP (fun _ hk=>hk.elim) ?aF ?aO ?aB ?aS ?aL ?_;(case aP=>exact Kd.M_row (Kd.R_nil _ _ _ _ _));(case aB=>exact zb);(case aF=>exact (fun k_ hk=>⟨Kd.fresh' (Kd.R_lt (zR HO_6.out)) k_ hk,Kd.fresh' (Kd.R_lt (zR HO_12.out)) k_ hk⟩));(case aO=>exact (zS (Kd.S_mono HO_5.out (fun k_ hk=>⟨⟨hk.1,hk.2⟩,fun e_=>e_⟩))));(case aS=>exact (below_size zb));(case aL=>have:=LMc10.out;omega);intro v293 w17 ho hb hg hat;rw [←Ny292.out] at ho;replace HO_6:=Aside0.mk (Kd.R_over' (zR HO_6.out) (Kd.S_typed (zS HO_5.out)) (by decide) hg);replace HO_12:=Aside0.mk (Kd.R_over' (zR HO_12.out) (Kd.S_typed (zS HO_5.out)) (by decide) hg);replace HB:=Aside0.mk (hb);have HO294:=Aside0.mk (ho);clear HO_5;clear ho hb hg hat;obtain ⟨Ao18,co18,eo18⟩:=Kd.S_slice HO294.out;subst eo18;have p295:0≤((ji11):Int):=of_decide_eq_true za;have q295:(ji11)<(y292.length:Int):=of_decide_eq_true za;obtain ⟨ad295,A295_0,c295_0,e295,hx295_0,hl295_0,hi295_0⟩:=at_L3 (Kd.S_reads' HO294.out).2.2 (ji11) p295 q295;cases e295;obtain ⟨ce295,hce295,hMe295,hcc295⟩:=Kd.S_get HO294.out [] (ji11) p295 (by first|exact q295|exact of_decide_eq_true za|(have e_:=(Kd.S_reads' HO294.out).1;omega));obtain ⟨ve295_0,rfl,ge295_0⟩:=hMe295;have hv295_0:=hcc295 0 _ rfl;rw [Nat.add_zero,show ((Kd.slice 3 (Kd.int .i64))).sz=1 from rfl,Nat.mul_one] at hv295_0;replace hv295_0:=Option.some.inj (hv295_0.symm.trans hx295_0);rw [hv295_0] at ge295_0;have HL295_0:=Aside0.mk (show Kd.R (Kd.int .i64) 3 _ _ _ _ (rd_L3 y292 (ji11)) from ge295_0);clear hv295_0 ge295_0;have HX295_0:=Aside0.mk hx295_0;clear hcc295 hce295;have HR295_0:=Aside0.mk hi295_0;have HC295_0:=Aside0.mk hl295_0;clear hi295_0 hl295_0;replace p295:=eq_true p295;replace q295:=eq_true q295;obtain ⟨go19,co19,eo19,gb19,gl19,cl19,HG19⟩:=Kd.S_form HO294.out (by have h_:((ji11):Int)<((y292.length:Int):Int):=of_decide_eq_true za;have h2_:0≤((ji11):Int):=(of_decide_eq_true za);omega);(first|cases eo19|(injection eo19 with ea_ en_ ec_;(first|subst ea_|(injection ea_ with ea_;subst ea_));subst ec_;clear en_));have GB19:=Aside0.mk gb19;have GG19:=Aside0.mk HG19;clear gb19 gl19 HG19;(first|simp only [add_plain] at hx295_0|skip);obtain ⟨oki19,ce19,hcl19,hM19,hcc19,_,_,hH19⟩:=Kd.S_elem HO294.out [] ((ji11):Int) (of_decide_eq_true za) (by have h_:((ji11):Int)<((y292.length:Int):Int):=of_decide_eq_true za;first|exact h_|(have e_:=(Kd.S_reads' HO294.out).1;omega)|simpa using h_);obtain ⟨ve19_0,rfl,ge19_0⟩:=hM19;have hv19:=hcc19 0 _ rfl;have hX19:=HX295_0.out;(try simp only [add_plain] at hX19);(try simp only [Nat.add_zero] at hv19);(try rw [show ((Kd.slice 3 (Kd.int .i64))).sz=1 from rfl,Nat.mul_one] at hv19);replace hv19:=Option.some.inj (hv19.symm.trans hX19);subst hv19;clear hX19 hcc19 hcl19;have UU19:=Aside0.mk (show Kd.R (Kd.int .i64) 3 _ w.heap.size oki19 (.slice A295_0 (rd_L3 y292 (ji11)).length c295_0) (rd_L3 y292 (ji11)) from ge19_0);have HH19:=Aside0.mk hH19;have HN19:=Aside0.mk (Kd.S_reads' HO294.out).1;clear hH19 ge19_0)|((with_reducible refine gate_builtin (b:=.append) (xs:=#[.tmp 50,.tmp 52]) rfl ?_);at_builtin;refine Kd.R_append (Kd.int .i64) (w0:=w) w.heap.size rfl (.tmp 50) (.tmp 52) 33 3 (.int .i64 0) 8 rfl Try.underlying33 info3 rfl (by decide) (by omega) (.slice A295_0 (rd_L3 y292 (ji11)).length c295_0) (rd_L3 y292 (ji11)) (rd t288 x14_1) [.int .i64 (rd t288 x14_1)] (fun k_=>oki19 k_∨((fun k_=>some k_≠(.slice (some ad291) t288.length co5:Value).ownBlock∧some k_≠(.slice (some ad291) t288.length co5:Value).ownBlock)) k_∧w17.heap.size≤k_) (fun _=>False) rfl rfl ?aP (fun _ hk=>hk.elim) ?aF ?aO ?aB ?aS ?aL ?_;(case aP=>exact rfl);(case aB=>exact zb);(case aF=>exact (fun k_ hk=>.inr ⟨⟨Kd.fresh' (Kd.R_lt (zR HO_6.out)) k_ hk,Kd.fresh' (Kd.R_lt (zR HO_12.out)) k_ hk⟩,hk⟩));(case aO=>exact (zR (Kd.R_mono UU19.out (fun _ hk=>.inl hk))));(case aS=>exact (below_size zb));(case aL=>have:=LMc14.out;omega);intro v297 w20 ho hb hg hat;rw [←Ny296.out] at ho;replace HO_6:=Aside0.mk (Kd.R_grown2 (zR HO_6.out) rfl hg (fun k_ e_=>(HL295_0.out.1 k_ e_).1.1));replace HO_12:=Aside0.mk (Kd.R_grown2 (zR HO_12.out) rfl hg (fun k_ e_=>(HL295_0.out.1 k_ e_).1.2));replace HB:=Aside0.mk (hb);replace HH19:=Aside0.mk (Kd.H_grown (Kd.H_widen (by repeat (first|exact HH19.out|refine Kd.H_alloc ?_ _|refine Kd.H_drewN ?_ _|refine Kd.H_drew ?_))) hg (fun k_ e_=>.inl (UU19.out.1 k_ e_)));have HO298:=Aside0.mk (ho);clear HO294 UU19 HL295_0;clear ho hb hg hat;have p15:0≤((ji11):Int):=of_decide_eq_true za;have q15:((ji11):Int)<((y292.length:Int):Int):=of_decide_eq_true za;replace p15:=eq_true p15;replace q15:=eq_true q15;obtain ⟨Ao23,co23,eo23⟩:=Kd.R_slice HO298.out;subst eo23;obtain ⟨_,_,hraw21,_,_,hcc21,_⟩:=Kd.H_raw HH19.out (of_decide_eq_true za) (by have h_:((ji11):Int)<((y292.length:Int):Int):=of_decide_eq_true za;first|exact h_|(have e_:=(HN19.out);omega)|simpa using h_);obtain ⟨_,hfr21⟩:=Kd.H_at HH19.out (of_decide_eq_true za) (by have h_:((ji11):Int)<((y292.length:Int):Int):=of_decide_eq_true za;first|exact h_|(have e_:=(HN19.out);omega)|simpa using h_);have hx21_0:=hcc21 0 _ rfl;have hf21_0:=hfr21 0;(try simp only [Nat.add_zero] at hx21_0 hf21_0);(try rw [show ((Kd.slice 3 (Kd.int .i64))).sz=1 from rfl,Nat.mul_one] at hx21_0);(try rw [show ((Kd.slice 3 (Kd.int .i64))).sz=1 from rfl,Nat.mul_one] at hf21_0);have HP21:=Kd.S_seg0 HH19.out (of_decide_eq_true za) (by have h_:((ji11):Int)<((y292.length:Int):Int):=of_decide_eq_true za;first|exact h_|(have e_:=(HN19.out);omega)|simpa using h_) (seg:=[.slice Ao23 y296.length co23]) (j:=0) (show 1≤1 from by decide) (x':=y296) (Kd.M_row HO298.out) (fun _ hk=>hk);(try simp only [show ((Kd.slice 3 (Kd.int .i64))).sz=1 from rfl,Nat.mul_one,Nat.add_zero] at HP21);clear hcc21 hfr21)|((with_reducible refine gate_store (t:=33) (p:=54) rfl ?_);(try (rw [drewN_self w20];generalize hq_:World.drewN w20 _=w20;have n0_:=Aside0.mk (Kd.R_at hq_ HO_6.out);have n1_:=Aside0.mk (Kd.R_at hq_ HO_12.out);have n2_:=Aside0.mk (Kd.S_at hq_ HO294.out);have n3_:=Aside0.mk (below_at hq_ HB.out);(try replace hx21_0:=cell_at hq_ hx21_0);(try replace hf21_0:=(fun {W_ W2_:World} {n_:Nat} {a_:Addr} {b_:Bool} (h_:W_.drewN n_=W2_) (e_:W_.frozen? a_=b_)=>(by subst h_;exact e_:W2_.frozen? a_=b_)) hq_ hf21_0);clear hq_ HO_6 HO_12 HO294 HB;have HO_6:=n0_;have HO_12:=n1_;have HO294:=n2_;have HB:=n3_;clear n0_ n1_ n2_ n3_;(try (obtain ⟨Ao23,co23,eo23⟩:=Kd.R_slice HO298.out));(try (subst eo23));(try (obtain ⟨_,_,hraw21,_,_,hcc21,_⟩:=Kd.H_raw HH19.out (of_decide_eq_true za) (by have h_:((ji11):Int)<((y292.length:Int):Int):=of_decide_eq_true za;first|exact h_|(have e_:=(HN19.out);omega)|simpa using h_)));(try (obtain ⟨_,hfr21⟩:=Kd.H_at HH19.out (of_decide_eq_true za) (by have h_:((ji11):Int)<((y292.length:Int):Int):=of_decide_eq_true za;first|exact h_|(have e_:=(HN19.out);omega)|simpa using h_)));(try (have hx21_0:=hcc21 0 _ rfl));(try (have hf21_0:=hfr21 0));(try (try simp only [Nat.add_zero] at hx21_0 hf21_0));(try (try rw [show ((Kd.slice 3 (Kd.int .i64))).sz=1 from rfl,Nat.mul_one] at hx21_0));(try (try rw [show ((Kd.slice 3 (Kd.int .i64))).sz=1 from rfl,Nat.mul_one] at hf21_0));(try (have HP21:=Kd.S_seg0 HH19.out (of_decide_eq_true za) (by have h_:((ji11):Int)<((y292.length:Int):Int):=of_decide_eq_true za;first|exact h_|(have e_:=(HN19.out);omega)|simpa using h_) (seg:=[.slice Ao23 y296.length co23]) (j:=0) (show 1≤1 from by decide) (x':=y296) (Kd.M_row HO298.out) (fun _ hk=>hk)));(try (try simp only [show ((Kd.slice 3 (Kd.int .i64))).sz=1 from rfl,Nat.mul_one,Nat.add_zero] at HP21));(try (clear hcc21 hfr21))));refine store_event (t:=33) (p:=54) (v:=?vo_w22) (w1:=(w20.setCell ⟨go19,((ji11):Int).toNat,none⟩ (.slice Ao23 y296.length co23))) ?hg ?ho ?hn ?hr ?_;(case ho=>rfl);(case hg=>rfl);(case hn=>rfl);(case hr=>first|(go_simp;done)|(go_simp;rfl));intro w22 hw;have hg:w20.grownBy w22 (some go19):=(by rw [hw];exact HP21.2);have hp_:Kd.S (Kd.slice 3 (Kd.int .i64)) 33 w22 w.heap.size (fun k_=>some k_≠(.slice (some ad291) t288.length co5:Value).ownBlock∧some k_≠(.slice (some ad291) t288.length co5:Value).ownBlock) (.slice (some ⟨go19,0,none⟩) y292.length co18) y299:=(by rw [hw,Ny299.out];exact HP21.1);clear HP21;replace HO_6:=Aside0.mk (Kd.R_over' (v:=(.slice (some ⟨go19,0,none⟩) y292.length co18)) (zR HO_6.out) (Kd.R_typed hraw21) (by decide) hg);replace HO_12:=Aside0.mk (Kd.R_over' (v:=(.slice (some ⟨go19,0,none⟩) y292.length co18)) (zR HO_12.out) (Kd.R_typed hraw21) (by decide) hg);replace HB:=Aside0.mk ((by rw [hw];exact below_set HB.out GB19.out:Below w.heap.size w w22));have HO294:=Aside0.mk (hp_);clear HO298 HH19;clear hg hw hp_ hraw21))
    go_roundg k1
    case measure=>have:=HK1.out;omega
    case rel=>exact ⟨(y299),(wrap64 (x14_1 + 1)),zo,H',⟨by have:=HK1.out;omega⟩,⟨zS HO294.out⟩,⟨zR HO_6.out⟩,⟨zR HO_12.out⟩,⟨zb⟩⟩
   rw [if_neg c9] at H
   have c9b0:(x14_1 == 0)=false:=beq_eq_false_iff_ne.mpr c9
   have c9b1:(x14_1 != 0)=true:=bne_iff_ne.mpr c9
   obtain ⟨ji24,hji24⟩:∃ j_:Int,(wrap64 (x14_1 - 1))=j_:=⟨_,rfl⟩
   replace H:(if 0≤(ji24) then (if (ji24)<(t288.length:Int) then (if 0≤(rd t288 (ji24)) then (if (rd t288 (ji24))<(l0.length:Int) then (if 0≤(rd t288 x14_1) then (if (rd t288 x14_1)<(l0.length:Int) then ((impl_difference.f ((rd_T44 l0 (rd t288 (ji24))).f0) ((rd_T44 l0 (rd t288 (ji24))).f1) ((rd_T44 l0 (rd t288 (ji24))).f2) ((rd_T44 l0 (rd t288 (ji24))).f3) ((rd_T44 l0 (rd t288 x14_1)).f0) ((rd_T44 l0 (rd t288 x14_1)).f1) ((rd_T44 l0 (rd t288 x14_1)).f2) ((rd_T44 l0 (rd t288 x14_1)).f3) a1).bind fun t303=>(if t303=0 then (if 0≤(wrap64 ((x5_1.length:Int) - 1)) then (if (wrap64 ((x5_1.length:Int) - 1))<(x5_1.length:Int) then (if (rd_L3 x5_1 (wrap64 ((x5_1.length:Int) - 1))).length<17592186044416 then (impl_tieGroups.l0 k1 l0 a1 (x5_1.set ((wrap64 ((x5_1.length:Int) - 1)):Int).toNat ((rd_L3 x5_1 (wrap64 ((x5_1.length:Int) - 1)))++[rd t288 x14_1])) t288 t288 (t288.length:Int) (wrap64 (x14_1 + 1))) else (none)) else (none)) else (none)) else (if x5_1.length<5864062014805 then ((some (x5_1++[[]]:List (List Int))).bind fun y309=>(if 0≤(wrap64 ((y309.length:Int) - 1)) then (if (wrap64 ((y309.length:Int) - 1))<(y309.length:Int) then (if (rd_L3 y309 (wrap64 ((y309.length:Int) - 1))).length<17592186044416 then (impl_tieGroups.l0 k1 l0 a1 (y309.set ((wrap64 ((y309.length:Int) - 1)):Int).toNat ((rd_L3 y309 (wrap64 ((y309.length:Int) - 1)))++[rd t288 x14_1])) t288 t288 (t288.length:Int) (wrap64 (x14_1 + 1))) else (none)) else (none)) else (none))) else (none)))) else (none)) else (none)) else (none)) else (none)) else (none)) else (none))=some r:=by first|(rw [hji24] at H;exact H)|(simp only [hji24] at H ⊢;exact H)
   have hji24w:(IntKind.i64.wrap (x14_1 - 1))=ji24:=(i64_w _).trans hji24
   by_cases c25:0≤(ji24)
   rotate_left
   ·rw [if_neg c25] at H
    exact absurd H (by simp)
   rw [if_pos c25] at H
   have c25b0:=decide_eq_true c25
   clear c25
   by_cases c26:(ji24)<(t288.length:Int)
   rotate_left
   ·rw [if_neg c26] at H
    exact absurd H (by simp)
   rw [if_pos c26] at H
   have c26b0:=decide_eq_true c26
   clear c26
   by_cases c27:0≤(rd t288 (ji24))
   rotate_left
   ·rw [if_neg c27] at H
    exact absurd H (by simp)
   rw [if_pos c27] at H
   have c27b0:=decide_eq_true c27
   clear c27
   by_cases c28:(rd t288 (ji24))<(l0.length:Int)
   rotate_left
   ·rw [if_neg c28] at H
    exact absurd H (by simp)
   rw [if_pos c28] at H
   have c28b0:=decide_eq_true c28
   clear c28
   by_cases c29:0≤(rd t288 x14_1)
   rotate_left
   ·rw [if_neg c29] at H
    exact absurd H (by simp)
   rw [if_pos c29] at H
   have c29b0:=decide_eq_true c29
   clear c29
   by_cases c30:(rd t288 x14_1)<(l0.length:Int)
   rotate_left
   ·rw [if_neg c30] at H
    exact absurd H (by simp)
   rw [if_pos c30] at H
   have c30b0:=decide_eq_true c30
   clear c30
   replace H:=Option.bind_eq_some_iff.mp H
   obtain ⟨t303,A310,H⟩:=H
   try dsimp only at H
   have A31:=Aside0.mk A310
   clear A310
   by_cases c32:t303=0
   ·rw [if_pos c32] at H
    have c32b0:(t303 == 0)=true:=beq_iff_eq.mpr c32
    have c32b1:(t303 != 0)=false:=bne_eq_false_iff_eq.mpr c32
    clear c32
    obtain ⟨ji33,hji33⟩:∃ j_:Int,(wrap64 ((x5_1.length:Int) - 1))=j_:=⟨_,rfl⟩
    replace H:(if 0≤(ji33) then (if (ji33)<(x5_1.length:Int) then (if (rd_L3 x5_1 (ji33)).length<17592186044416 then (impl_tieGroups.l0 k1 l0 a1 (x5_1.set ((ji33):Int).toNat ((rd_L3 x5_1 (ji33))++[rd t288 x14_1])) t288 t288 (t288.length:Int) (wrap64 (x14_1 + 1))) else (none)) else (none)) else (none))=some r:=by first|(rw [hji33] at H;exact H)|(simp only [hji33] at H ⊢;exact H)
    (try rw [hji33] at A31)
    have hji33w:(IntKind.i64.wrap ((x5_1.length:Int) - 1))=ji33:=(i64_w _).trans hji33
    by_cases c34:0≤(ji33)
    rotate_left
    ·rw [if_neg c34] at H
     exact absurd H (by simp)
    rw [if_pos c34] at H
    have c34b0:=decide_eq_true c34
    clear c34
    by_cases c35:(ji33)<(x5_1.length:Int)
    rotate_left
    ·rw [if_neg c35] at H
     exact absurd H (by simp)
    rw [if_pos c35] at H
    have c35b0:=decide_eq_true c35
    clear c35
    by_cases c36:(rd_L3 x5_1 (ji33)).length<17592186044416
    rotate_left
    ·rw [if_neg c36] at H
     exact absurd H (by simp)
    rw [if_pos c36] at H
    have LMc36:=Aside0.mk c36
    clear c36
    obtain ⟨y305,hy305⟩:∃ y_:List Int,y_=((rd_L3 x5_1 (ji33))++[rd t288 x14_1]):=⟨_,rfl⟩
    replace H:(impl_tieGroups.l0 k1 l0 a1 (x5_1.set ((ji33):Int).toNat y305) t288 t288 (t288.length:Int) (wrap64 (x14_1 + 1)))=some r:=by first|(rw [hy305];with_reducible exact H)|(have H2_:=(Option.bind_some _ _).symm.trans H;rw [hy305];with_reducible exact H2_)|(have H2_:=(Option.bind_some _ _).symm.trans H;with_reducible exact H2_)|with_reducible exact H|(rw [hy305];exact H)|exact H
    have Ny305:=Aside0.mk hy305
    clear hy305
    obtain ⟨y308,hy308⟩:∃ y_:List (List Int),y_=(x5_1.set ((ji33):Int).toNat y305):=⟨_,rfl⟩
    replace H:(impl_tieGroups.l0 k1 l0 a1 y308 t288 t288 (t288.length:Int) (wrap64 (x14_1 + 1)))=some r:=by first|(rw [hy308];with_reducible exact H)|(have H2_:=(Option.bind_some _ _).symm.trans H;rw [hy308];with_reducible exact H2_)|(have H2_:=(Option.bind_some _ _).symm.trans H;with_reducible exact H2_)|with_reducible exact H|(rw [hy308];exact H)|exact H
    have Ny308:=Aside0.mk hy308
    clear hy308
    have H':=Aside0.mk H
    clear H
    have p291:0≤(x14_1:Int):=of_decide_eq_true za
    have q291:x14_1<(t288.length:Int):=of_decide_eq_true za
    obtain ⟨ad291,e291,hx291_0⟩:=Kd.at_int (Kd.R_reads' HO_12.out).2.2 x14_1 p291 q291
    cases e291
    replace p291:=eq_true p291
    replace q291:=eq_true q291
    try go_wp2
    replace HO_5:=Aside0.mk (Kd.S_drew HO_5.out)
    replace HO_6:=Aside0.mk (Kd.R_drew HO_6.out)
    replace HO_12:=Aside0.mk (Kd.R_drew HO_12.out)
    replace HB:=Aside0.mk (below_drew1 HB.out)
    have p300:0≤((ji24):Int):=of_decide_eq_true za
    have q300:(ji24)<(t288.length:Int):=of_decide_eq_true za
    obtain ⟨ad300,e300,hx300_0⟩:=Kd.at_int (Kd.R_reads' HO_6.out).2.2 (ji24) p300 q300
    obtain rfl:ad291=ad300:=(by injection e300)
    replace p300:=eq_true p300
    replace q300:=eq_true q300
    have p301:0≤((rd t288 (ji24)):Int):=of_decide_eq_true za
    have q301:(rd t288 (ji24))<(l0.length:Int):=of_decide_eq_true za
    obtain ⟨ad301,e301,hx301_0,hx301_1,hx301_2,hx301_3⟩:=at_T44 HR0.out (rd t288 (ji24)) p301 q301
    have hw301_3:=hx301_3
    have hw301_2:=hx301_2
    have hw301_1:=hx301_1
    have hw301_0:=hx301_0
    cases e301
    replace hx301_0:=zh_ HB hx301_0
    replace hx301_1:=zh_ HB hx301_1
    replace hx301_2:=zh_ HB hx301_2
    replace hx301_3:=zh_ HB hx301_3
    replace p301:=eq_true p301
    replace q301:=eq_true q301
    have p302:0≤((rd t288 x14_1):Int):=of_decide_eq_true za
    have q302:(rd t288 x14_1)<(l0.length:Int):=of_decide_eq_true za
    obtain ⟨ad302,e302,hx302_0,hx302_1,hx302_2,hx302_3⟩:=at_T44 HR0.out (rd t288 x14_1) p302 q302
    have hw302_3:=hx302_3
    have hw302_2:=hx302_2
    have hw302_1:=hx302_1
    have hw302_0:=hx302_0
    obtain rfl:ad301=ad302:=(by injection e302)
    replace hx302_0:=zh_ HB hx302_0
    replace hx302_1:=zh_ HB hx302_1
    replace hx302_2:=zh_ HB hx302_2
    replace hx302_3:=zh_ HB hx302_3
    replace p302:=eq_true p302
    replace q302:=eq_true q302
    refine start_ (n:=19) (S:=fun w'=>w'.cell? (ad291.add ((ji24)).toNat)=some (.int .i64 (rd t288 (ji24)))∧w'.cell? (ad301.add (((rd t288 (ji24))).toNat * 4))=some (.int .i64 ((rd_T44 l0 (rd t288 (ji24))).f0))∧w'.cell? ⟨(ad301.add (((rd t288 (ji24))).toNat * 4)).block,(ad301.add (((rd t288 (ji24))).toNat * 4)).off + 1,none⟩=some (.int .i64 ((rd_T44 l0 (rd t288 (ji24))).f1))∧w'.cell? ⟨(ad301.add (((rd t288 (ji24))).toNat * 4)).block,(ad301.add (((rd t288 (ji24))).toNat * 4)).off + 2,none⟩=some (.int .i64 ((rd_T44 l0 (rd t288 (ji24))).f2))∧w'.cell? ⟨(ad301.add (((rd t288 (ji24))).toNat * 4)).block,(ad301.add (((rd t288 (ji24))).toNat * 4)).off + 3,none⟩=some (.int .i64 ((rd_T44 l0 (rd t288 (ji24))).f3))∧w'.cell? (ad301.add (((rd t288 x14_1)).toNat * 4))=some (.int .i64 ((rd_T44 l0 (rd t288 x14_1)).f0))∧w'.cell? ⟨(ad301.add (((rd t288 x14_1)).toNat * 4)).block,(ad301.add (((rd t288 x14_1)).toNat * 4)).off + 1,none⟩=some (.int .i64 ((rd_T44 l0 (rd t288 x14_1)).f1))∧w'.cell? ⟨(ad301.add (((rd t288 x14_1)).toNat * 4)).block,(ad301.add (((rd t288 x14_1)).toNat * 4)).off + 2,none⟩=some (.int .i64 ((rd_T44 l0 (rd t288 x14_1)).f2))∧w'.cell? ⟨(ad301.add (((rd t288 x14_1)).toNat * 4)).block,(ad301.add (((rd t288 x14_1)).toNat * 4)).off + 3,none⟩=some (.int .i64 ((rd_T44 l0 (rd t288 x14_1)).f3))) (ds:=[]) #[false,false,false,false,false,false,false,false,false,false,false,false,false,false,false,false,false,false,false] (by kernel_rfl) rfl rfl ⟨hx300_0,((HB.out.cell (World.block_lt_of_cell? w _ hw301_0)).trans hw301_0),((HB.out.cell (World.block_lt_of_cell? w _ hw301_1)).trans hw301_1),((HB.out.cell (World.block_lt_of_cell? w _ hw301_2)).trans hw301_2),((HB.out.cell (World.block_lt_of_cell? w _ hw301_3)).trans hw301_3),((HB.out.cell (World.block_lt_of_cell? w _ hw302_0)).trans hw302_0),((HB.out.cell (World.block_lt_of_cell? w _ hw302_1)).trans hw302_1),((HB.out.cell (World.block_lt_of_cell? w _ hw302_2)).trans hw302_2),((HB.out.cell (World.block_lt_of_cell? w _ hw302_3)).trans hw302_3)⟩ (fun hHeld=>?_);refine with_tabW impl_tieGroups.tab6 impl_tieGroups.bits6 (fun HT_ HW_=>?_)
    generalize wr.drew=w38 at HO_5 HO_6 HO_12 HB hx300_0 hx301_0 hx301_1 hx301_2 hx301_3 hx302_0 hx302_1 hx302_2 hx302_3 hHeld ⊢
    refine pu_ 0 19 ?_
    refine pu_ 1 20 ?_
    refine pu_ 2 21 ?_
    refine pu_ 3 22 ?_
    refine pu_ 4 23 ?_
    refine pu_ 5 24 ?_
    refine pu_ 6 25 ?_
    refine pu_ 7 26 ?_
    refine pu_ 11 30 ?_
    refine pu_ 12 31 ?_
    refine pu_ 13 32 ?_
    refine pu_ 15 34 ?_
    refine tk_ 8 27 hHeld ?_
    refine pu_ 9 28 ?_
    refine tk_ 10 29 hHeld ?_
    refine tk_ 14 33 hHeld ?_
    refine one_ (i:=16) (N:=some 35) #[true,true,true,true,true,true,true,true,true,true,true,true,true,true,true,true,true,false,false] rfl rfl (one_of HT_.out (by kernel_rfl)) (by decide) (fun K hK=>?_)
    refine goes_ Try.func22 (by kernel_rfl) rfl #[.agg #[.int .i64 ((rd_T44 l0 (rd t288 (ji24))).f0),.int .i64 ((rd_T44 l0 (rd t288 (ji24))).f1),.int .i64 ((rd_T44 l0 (rd t288 (ji24))).f2),.int .i64 ((rd_T44 l0 (rd t288 (ji24))).f3)],.agg #[.int .i64 ((rd_T44 l0 (rd t288 x14_1)).f0),.int .i64 ((rd_T44 l0 (rd t288 x14_1)).f1),.int .i64 ((rd_T44 l0 (rd t288 x14_1)).f2),.int .i64 ((rd_T44 l0 (rd t288 x14_1)).f3)],.int .i64 a1] (by rfl) rfl rfl (by (try simp only [List.map_toArray,List.map_cons,List.map_nil]);first|done|(simp only [hji24];rfl)|rfl|(simp only [List.length_drop,List.length_take];rfl)) ?_
    with_reducible refine (impl_difference.calls ((rd_T44 l0 (rd t288 (ji24))).f0) ((rd_T44 l0 (rd t288 (ji24))).f1) ((rd_T44 l0 (rd t288 (ji24))).f2) ((rd_T44 l0 (rd t288 (ji24))).f3) ((rd_T44 l0 (rd t288 x14_1)).f0) ((rd_T44 l0 (rd t288 x14_1)).f1) ((rd_T44 l0 (rd t288 x14_1)).f2) ((rd_T44 l0 (rd t288 x14_1)).f3) a1 t303 _ A31.out).mono ?_
    rintro e w39 ⟨rfl,hb⟩
    have HS0_:=(hb.cell (World.block_lt_of_cell? _ _ (hHeld.1))).trans (hHeld.1)
    refine ⟨_,rfl,?_⟩
    replace HO_5:=zSb HO_5 hb
    replace HO_6:=zRb HO_6 hb
    replace HO_12:=zRb HO_12 hb
    replace HB:=zb1 hb
    refine hK.out _ _ ⟨HS0_,((HB.out.cell (World.block_lt_of_cell? w _ hw301_0)).trans hw301_0),((HB.out.cell (World.block_lt_of_cell? w _ hw301_1)).trans hw301_1),((HB.out.cell (World.block_lt_of_cell? w _ hw301_2)).trans hw301_2),((HB.out.cell (World.block_lt_of_cell? w _ hw301_3)).trans hw301_3),((HB.out.cell (World.block_lt_of_cell? w _ hw302_0)).trans hw302_0),((HB.out.cell (World.block_lt_of_cell? w _ hw302_1)).trans hw302_1),((HB.out.cell (World.block_lt_of_cell? w _ hw302_2)).trans hw302_2),((HB.out.cell (World.block_lt_of_cell? w _ hw302_3)).trans hw302_3)⟩ (fun hHeld=>?_)
    clear hK K
    refine norm_ (a':=?_) ?_ ?_
    rotate_left
    ·show Act.put _ (some 35) _=_
     simp only [Act.put,List.setIfInBounds_toArray,List.set_cons_zero,List.set_cons_succ,i64_w,i32_w]
     rfl
    refine pu_ 17 36 ?_
    refine pu_ 18 37 ?_
    refine done_ (done_of HT_.out (by kernel_rfl)) ?_
    obtain ⟨Ao40,co40,eo40⟩:=Kd.S_slice HO_5.out
    subst eo40
    have p304:0≤((ji33):Int):=of_decide_eq_true za
    have q304:(ji33)<(x5_1.length:Int):=of_decide_eq_true za
    obtain ⟨ad304,A304_0,c304_0,e304,hx304_0,hl304_0,hi304_0⟩:=at_L3 (Kd.S_reads' HO_5.out).2.2 (ji33) p304 q304
    cases e304
    obtain ⟨ce304,hce304,hMe304,hcc304⟩:=Kd.S_get HO_5.out [] (ji33) p304 (by first|exact q304|exact of_decide_eq_true za|(have e_:=(Kd.S_reads' HO_5.out).1;omega))
    obtain ⟨ve304_0,rfl,ge304_0⟩:=hMe304
    have hv304_0:=hcc304 0 _ rfl
    rw [Nat.add_zero,show ((Kd.slice 3 (Kd.int .i64))).sz=1 from rfl,Nat.mul_one] at hv304_0
    replace hv304_0:=Option.some.inj (hv304_0.symm.trans hx304_0)
    rw [hv304_0] at ge304_0
    have HL304_0:=Aside0.mk (show Kd.R (Kd.int .i64) 3 _ _ _ _ (rd_L3 x5_1 (ji33)) from ge304_0)
    clear hv304_0 ge304_0
    have HX304_0:=Aside0.mk hx304_0
    clear hcc304 hce304
    have HR304_0:=Aside0.mk hi304_0
    have HC304_0:=Aside0.mk hl304_0
    clear hi304_0 hl304_0
    replace p304:=eq_true p304
    replace q304:=eq_true q304
    obtain ⟨go41,co41,eo41,gb41,gl41,cl41,HG41⟩:=Kd.S_form HO_5.out (by have h_:((ji33):Int)<((x5_1.length:Int):Int):=of_decide_eq_true za;have h2_:0≤((ji33):Int):=(of_decide_eq_true za);omega)
    (first|cases eo41|(injection eo41 with ea_ en_ ec_;(first|subst ea_|(injection ea_ with ea_;subst ea_));subst ec_;clear en_))
    have GB41:=Aside0.mk gb41
    have GG41:=Aside0.mk HG41
    clear gb41 gl41 HG41
    (first|simp only [add_plain] at hx304_0|skip)
    obtain ⟨oki41,ce41,hcl41,hM41,hcc41,_,_,hH41⟩:=Kd.S_elem HO_5.out [] ((ji33):Int) (of_decide_eq_true za) (by have h_:((ji33):Int)<((x5_1.length:Int):Int):=of_decide_eq_true za;first|exact h_|(have e_:=(Kd.S_reads' HO_5.out).1;omega)|simpa using h_)
    obtain ⟨ve41_0,rfl,ge41_0⟩:=hM41
    have hv41:=hcc41 0 _ rfl
    have hX41:=HX304_0.out
    (try simp only [add_plain] at hX41)
    (try simp only [Nat.add_zero] at hv41)
    (try rw [show ((Kd.slice 3 (Kd.int .i64))).sz=1 from rfl,Nat.mul_one] at hv41)
    replace hv41:=Option.some.inj (hv41.symm.trans hX41)
    subst hv41
    clear hX41 hcc41 hcl41
    have UU41:=Aside0.mk (show Kd.R (Kd.int .i64) 3 _ w.heap.size oki41 (.slice A304_0 (rd_L3 x5_1 (ji33)).length c304_0) (rd_L3 x5_1 (ji33)) from ge41_0)
    have HH41:=Aside0.mk hH41
    have HN41:=Aside0.mk (Kd.S_reads' HO_5.out).1
    clear hH41 ge41_0
    try go_wp2_with (first|((with_reducible refine gate_builtin (b:=.append) (xs:=#[.tmp 50,.tmp 52]) rfl ?_);at_builtin;refine Kd.R_append (Kd.int .i64) (w0:=w) w.heap.size rfl (.tmp 50) (.tmp 52) 33 3 (.int .i64 0) 8 rfl Try.underlying33 info3 rfl (by decide) (by omega) (.slice A304_0 (rd_L3 x5_1 (ji33)).length c304_0) (rd_L3 x5_1 (ji33)) (rd t288 x14_1) [.int .i64 (rd t288 x14_1)] (fun k_=>oki41 k_∨((fun k_=>some k_≠(.slice (some ad291) t288.length co5:Value).ownBlock∧some k_≠(.slice (some ad291) t288.length co5:Value).ownBlock)) k_∧w39.heap.size≤k_) (fun _=>False) rfl rfl ?aP (fun _ hk=>hk.elim) ?aF ?aO ?aB ?aS ?aL ?_;(case aP=>exact rfl);(case aB=>exact zb);(case aF=>exact (fun k_ hk=>.inr ⟨⟨Kd.fresh' (Kd.R_lt (zR HO_6.out)) k_ hk,Kd.fresh' (Kd.R_lt (zR HO_12.out)) k_ hk⟩,hk⟩));(case aO=>exact (zR (Kd.R_mono UU41.out (fun _ hk=>.inl hk))));(case aS=>exact (below_size zb));(case aL=>have:=LMc36.out;omega);intro v306 w42 ho hb hg hat;rw [←Ny305.out] at ho;replace HO_6:=Aside0.mk (Kd.R_grown2 (zR HO_6.out) rfl hg (fun k_ e_=>(HL304_0.out.1 k_ e_).1.1));replace HO_12:=Aside0.mk (Kd.R_grown2 (zR HO_12.out) rfl hg (fun k_ e_=>(HL304_0.out.1 k_ e_).1.2));replace HB:=Aside0.mk (hb);replace HH41:=Aside0.mk (Kd.H_grown (Kd.H_widen (by repeat (first|exact HH41.out|refine Kd.H_alloc ?_ _|refine Kd.H_drewN ?_ _|refine Kd.H_drew ?_))) hg (fun k_ e_=>.inl (UU41.out.1 k_ e_)));have HO307:=Aside0.mk (ho);clear HO_5 UU41 HL304_0;clear ho hb hg hat;have p37:0≤((ji33):Int):=of_decide_eq_true za;have q37:((ji33):Int)<((x5_1.length:Int):Int):=of_decide_eq_true za;replace p37:=eq_true p37;replace q37:=eq_true q37;obtain ⟨Ao45,co45,eo45⟩:=Kd.R_slice HO307.out;subst eo45;obtain ⟨_,_,hraw43,_,_,hcc43,_⟩:=Kd.H_raw HH41.out (of_decide_eq_true za) (by have h_:((ji33):Int)<((x5_1.length:Int):Int):=of_decide_eq_true za;first|exact h_|(have e_:=(HN41.out);omega)|simpa using h_);obtain ⟨_,hfr43⟩:=Kd.H_at HH41.out (of_decide_eq_true za) (by have h_:((ji33):Int)<((x5_1.length:Int):Int):=of_decide_eq_true za;first|exact h_|(have e_:=(HN41.out);omega)|simpa using h_);have hx43_0:=hcc43 0 _ rfl;have hf43_0:=hfr43 0;(try simp only [Nat.add_zero] at hx43_0 hf43_0);(try rw [show ((Kd.slice 3 (Kd.int .i64))).sz=1 from rfl,Nat.mul_one] at hx43_0);(try rw [show ((Kd.slice 3 (Kd.int .i64))).sz=1 from rfl,Nat.mul_one] at hf43_0);have HP43:=Kd.S_seg0 HH41.out (of_decide_eq_true za) (by have h_:((ji33):Int)<((x5_1.length:Int):Int):=of_decide_eq_true za;first|exact h_|(have e_:=(HN41.out);omega)|simpa using h_) (seg:=[.slice Ao45 y305.length co45]) (j:=0) (show 1≤1 from by decide) (x':=y305) (Kd.M_row HO307.out) (fun _ hk=>hk);(try simp only [show ((Kd.slice 3 (Kd.int .i64))).sz=1 from rfl,Nat.mul_one,Nat.add_zero] at HP43);clear hcc43 hfr43)|((with_reducible refine gate_store (t:=33) (p:=54) rfl ?_);(try (rw [drewN_self w42];generalize hq_:World.drewN w42 _=w42;have n0_:=Aside0.mk (Kd.R_at hq_ HO_6.out);have n1_:=Aside0.mk (Kd.R_at hq_ HO_12.out);have n2_:=Aside0.mk (Kd.S_at hq_ HO_5.out);have n3_:=Aside0.mk (below_at hq_ HB.out);(try replace hx43_0:=cell_at hq_ hx43_0);(try replace hf43_0:=(fun {W_ W2_:World} {n_:Nat} {a_:Addr} {b_:Bool} (h_:W_.drewN n_=W2_) (e_:W_.frozen? a_=b_)=>(by subst h_;exact e_:W2_.frozen? a_=b_)) hq_ hf43_0);clear hq_ HO_6 HO_12 HO_5 HB;have HO_6:=n0_;have HO_12:=n1_;have HO_5:=n2_;have HB:=n3_;clear n0_ n1_ n2_ n3_;(try (obtain ⟨Ao45,co45,eo45⟩:=Kd.R_slice HO307.out));(try (subst eo45));(try (obtain ⟨_,_,hraw43,_,_,hcc43,_⟩:=Kd.H_raw HH41.out (of_decide_eq_true za) (by have h_:((ji33):Int)<((x5_1.length:Int):Int):=of_decide_eq_true za;first|exact h_|(have e_:=(HN41.out);omega)|simpa using h_)));(try (obtain ⟨_,hfr43⟩:=Kd.H_at HH41.out (of_decide_eq_true za) (by have h_:((ji33):Int)<((x5_1.length:Int):Int):=of_decide_eq_true za;first|exact h_|(have e_:=(HN41.out);omega)|simpa using h_)));(try (have hx43_0:=hcc43 0 _ rfl));(try (have hf43_0:=hfr43 0));(try (try simp only [Nat.add_zero] at hx43_0 hf43_0));(try (try rw [show ((Kd.slice 3 (Kd.int .i64))).sz=1 from rfl,Nat.mul_one] at hx43_0));(try (try rw [show ((Kd.slice 3 (Kd.int .i64))).sz=1 from rfl,Nat.mul_one] at hf43_0));(try (have HP43:=Kd.S_seg0 HH41.out (of_decide_eq_true za) (by have h_:((ji33):Int)<((x5_1.length:Int):Int):=of_decide_eq_true za;first|exact h_|(have e_:=(HN41.out);omega)|simpa using h_) (seg:=[.slice Ao45 y305.length co45]) (j:=0) (show 1≤1 from by decide) (x':=y305) (Kd.M_row HO307.out) (fun _ hk=>hk)));(try (try simp only [show ((Kd.slice 3 (Kd.int .i64))).sz=1 from rfl,Nat.mul_one,Nat.add_zero] at HP43));(try (clear hcc43 hfr43))));refine store_event (t:=33) (p:=54) (v:=?vo_w44) (w1:=(w42.setCell ⟨go41,((ji33):Int).toNat,none⟩ (.slice Ao45 y305.length co45))) ?hg ?ho ?hn ?hr ?_;(case ho=>rfl);(case hg=>rfl);(case hn=>rfl);(case hr=>first|(go_simp;done)|(go_simp;rfl));intro w44 hw;have hg:w42.grownBy w44 (some go41):=(by rw [hw];exact HP43.2);have hp_:Kd.S (Kd.slice 3 (Kd.int .i64)) 33 w44 w.heap.size (fun k_=>some k_≠(.slice (some ad291) t288.length co5:Value).ownBlock∧some k_≠(.slice (some ad291) t288.length co5:Value).ownBlock) (.slice (some ⟨go41,0,none⟩) x5_1.length co40) y308:=(by rw [hw,Ny308.out];exact HP43.1);clear HP43;replace HO_6:=Aside0.mk (Kd.R_over' (v:=(.slice (some ⟨go41,0,none⟩) x5_1.length co40)) (zR HO_6.out) (Kd.R_typed hraw43) (by decide) hg);replace HO_12:=Aside0.mk (Kd.R_over' (v:=(.slice (some ⟨go41,0,none⟩) x5_1.length co40)) (zR HO_12.out) (Kd.R_typed hraw43) (by decide) hg);replace HB:=Aside0.mk ((by rw [hw];exact below_set HB.out GB41.out:Below w.heap.size w w44));have HO_5:=Aside0.mk (hp_);clear HO307 HH41;clear hg hw hp_ hraw43))
    go_roundg k1
    case measure=>have:=HK1.out;omega
    case rel=>exact ⟨(y308),(wrap64 (x14_1 + 1)),zo,H',⟨by have:=HK1.out;omega⟩,⟨zS HO_5.out⟩,⟨zR HO_6.out⟩,⟨zR HO_12.out⟩,⟨zb⟩⟩
   rw [if_neg c32] at H
   have c32b0:(t303 == 0)=false:=beq_eq_false_iff_ne.mpr c32
   have c32b1:(t303 != 0)=true:=bne_iff_ne.mpr c32
   by_cases c46:x5_1.length<5864062014805
   rotate_left
   ·rw [if_neg c46] at H
    exact absurd H (by simp)
   rw [if_pos c46] at H
   have LMc46:=Aside0.mk c46
   clear c46
   obtain ⟨y309,hy309⟩:∃ y_:List (List Int),y_=(x5_1++[[]]):=⟨_,rfl⟩
   replace H:(if 0≤(wrap64 ((y309.length:Int) - 1)) then (if (wrap64 ((y309.length:Int) - 1))<(y309.length:Int) then (if (rd_L3 y309 (wrap64 ((y309.length:Int) - 1))).length<17592186044416 then (impl_tieGroups.l0 k1 l0 a1 (y309.set ((wrap64 ((y309.length:Int) - 1)):Int).toNat ((rd_L3 y309 (wrap64 ((y309.length:Int) - 1)))++[rd t288 x14_1])) t288 t288 (t288.length:Int) (wrap64 (x14_1 + 1))) else (none)) else (none)) else (none))=some r:=by first|(rw [hy309];with_reducible exact H)|(have H2_:=(Option.bind_some _ _).symm.trans H;rw [hy309];with_reducible exact H2_)|(have H2_:=(Option.bind_some _ _).symm.trans H;with_reducible exact H2_)|with_reducible exact H|(rw [hy309];exact H)|exact H
   have Ny309:=Aside0.mk hy309
   clear hy309
   obtain ⟨ji47,hji47⟩:∃ j_:Int,(wrap64 ((y309.length:Int) - 1))=j_:=⟨_,rfl⟩
   replace H:(if 0≤(ji47) then (if (ji47)<(y309.length:Int) then (if (rd_L3 y309 (ji47)).length<17592186044416 then (impl_tieGroups.l0 k1 l0 a1 (y309.set ((ji47):Int).toNat ((rd_L3 y309 (ji47))++[rd t288 x14_1])) t288 t288 (t288.length:Int) (wrap64 (x14_1 + 1))) else (none)) else (none)) else (none))=some r:=by first|(rw [hji47] at H;exact H)|(simp only [hji47] at H ⊢;exact H)
   (try rw [hji47] at A31)
   have hji47w:(IntKind.i64.wrap ((y309.length:Int) - 1))=ji47:=(i64_w _).trans hji47
   by_cases c48:0≤(ji47)
   rotate_left
   ·rw [if_neg c48] at H
    exact absurd H (by simp)
   rw [if_pos c48] at H
   have c48b0:=decide_eq_true c48
   clear c48
   by_cases c49:(ji47)<(y309.length:Int)
   rotate_left
   ·rw [if_neg c49] at H
    exact absurd H (by simp)
   rw [if_pos c49] at H
   have c49b0:=decide_eq_true c49
   clear c49
   by_cases c50:(rd_L3 y309 (ji47)).length<17592186044416
   rotate_left
   ·rw [if_neg c50] at H
    exact absurd H (by simp)
   rw [if_pos c50] at H
   have LMc50:=Aside0.mk c50
   clear c50
   obtain ⟨y313,hy313⟩:∃ y_:List Int,y_=((rd_L3 y309 (ji47))++[rd t288 x14_1]):=⟨_,rfl⟩
   replace H:(impl_tieGroups.l0 k1 l0 a1 (y309.set ((ji47):Int).toNat y313) t288 t288 (t288.length:Int) (wrap64 (x14_1 + 1)))=some r:=by first|(rw [hy313];with_reducible exact H)|(have H2_:=(Option.bind_some _ _).symm.trans H;rw [hy313];with_reducible exact H2_)|(have H2_:=(Option.bind_some _ _).symm.trans H;with_reducible exact H2_)|with_reducible exact H|(rw [hy313];exact H)|exact H
   have Ny313:=Aside0.mk hy313
   clear hy313
   obtain ⟨y316,hy316⟩:∃ y_:List (List Int),y_=(y309.set ((ji47):Int).toNat y313):=⟨_,rfl⟩
   replace H:(impl_tieGroups.l0 k1 l0 a1 y316 t288 t288 (t288.length:Int) (wrap64 (x14_1 + 1)))=some r:=by first|(rw [hy316];with_reducible exact H)|(have H2_:=(Option.bind_some _ _).symm.trans H;rw [hy316];with_reducible exact H2_)|(have H2_:=(Option.bind_some _ _).symm.trans H;with_reducible exact H2_)|with_reducible exact H|(rw [hy316];exact H)|exact H
   have Ny316:=Aside0.mk hy316
   clear hy316
   have H':=Aside0.mk H
   clear H
   have p291:0≤(x14_1:Int):=of_decide_eq_true za
   have q291:x14_1<(t288.length:Int):=of_decide_eq_true za
   obtain ⟨ad291,e291,hx291_0⟩:=Kd.at_int (Kd.R_reads' HO_12.out).2.2 x14_1 p291 q291
   cases e291
   replace p291:=eq_true p291
   replace q291:=eq_true q291
   try go_wp2
   replace HO_5:=Aside0.mk (Kd.S_drew HO_5.out)
   replace HO_6:=Aside0.mk (Kd.R_drew HO_6.out)
   replace HO_12:=Aside0.mk (Kd.R_drew HO_12.out)
   replace HB:=Aside0.mk (below_drew1 HB.out)
   have p300:0≤((ji24):Int):=of_decide_eq_true za
   have q300:(ji24)<(t288.length:Int):=of_decide_eq_true za
   obtain ⟨ad300,e300,hx300_0⟩:=Kd.at_int (Kd.R_reads' HO_6.out).2.2 (ji24) p300 q300
   obtain rfl:ad291=ad300:=(by injection e300)
   replace p300:=eq_true p300
   replace q300:=eq_true q300
   have p301:0≤((rd t288 (ji24)):Int):=of_decide_eq_true za
   have q301:(rd t288 (ji24))<(l0.length:Int):=of_decide_eq_true za
   obtain ⟨ad301,e301,hx301_0,hx301_1,hx301_2,hx301_3⟩:=at_T44 HR0.out (rd t288 (ji24)) p301 q301
   have hw301_3:=hx301_3
   have hw301_2:=hx301_2
   have hw301_1:=hx301_1
   have hw301_0:=hx301_0
   cases e301
   replace hx301_0:=zh_ HB hx301_0
   replace hx301_1:=zh_ HB hx301_1
   replace hx301_2:=zh_ HB hx301_2
   replace hx301_3:=zh_ HB hx301_3
   replace p301:=eq_true p301
   replace q301:=eq_true q301
   have p302:0≤((rd t288 x14_1):Int):=of_decide_eq_true za
   have q302:(rd t288 x14_1)<(l0.length:Int):=of_decide_eq_true za
   obtain ⟨ad302,e302,hx302_0,hx302_1,hx302_2,hx302_3⟩:=at_T44 HR0.out (rd t288 x14_1) p302 q302
   have hw302_3:=hx302_3
   have hw302_2:=hx302_2
   have hw302_1:=hx302_1
   have hw302_0:=hx302_0
   obtain rfl:ad301=ad302:=(by injection e302)
   replace hx302_0:=zh_ HB hx302_0
   replace hx302_1:=zh_ HB hx302_1
   replace hx302_2:=zh_ HB hx302_2
   replace hx302_3:=zh_ HB hx302_3
   replace p302:=eq_true p302
   replace q302:=eq_true q302
   refine start_ (n:=19) (S:=fun w'=>w'.cell? (ad291.add ((ji24)).toNat)=some (.int .i64 (rd t288 (ji24)))∧w'.cell? (ad301.add (((rd t288 (ji24))).toNat * 4))=some (.int .i64 ((rd_T44 l0 (rd t288 (ji24))).f0))∧w'.cell? ⟨(ad301.add (((rd t288 (ji24))).toNat * 4)).block,(ad301.add (((rd t288 (ji24))).toNat * 4)).off + 1,none⟩=some (.int .i64 ((rd_T44 l0 (rd t288 (ji24))).f1))∧w'.cell? ⟨(ad301.add (((rd t288 (ji24))).toNat * 4)).block,(ad301.add (((rd t288 (ji24))).toNat * 4)).off + 2,none⟩=some (.int .i64 ((rd_T44 l0 (rd t288 (ji24))).f2))∧w'.cell? ⟨(ad301.add (((rd t288 (ji24))).toNat * 4)).block,(ad301.add (((rd t288 (ji24))).toNat * 4)).off + 3,none⟩=some (.int .i64 ((rd_T44 l0 (rd t288 (ji24))).f3))∧w'.cell? (ad301.add (((rd t288 x14_1)).toNat * 4))=some (.int .i64 ((rd_T44 l0 (rd t288 x14_1)).f0))∧w'.cell? ⟨(ad301.add (((rd t288 x14_1)).toNat * 4)).block,(ad301.add (((rd t288 x14_1)).toNat * 4)).off + 1,none⟩=some (.int .i64 ((rd_T44 l0 (rd t288 x14_1)).f1))∧w'.cell? ⟨(ad301.add (((rd t288 x14_1)).toNat * 4)).block,(ad301.add (((rd t288 x14_1)).toNat * 4)).off + 2,none⟩=some (.int .i64 ((rd_T44 l0 (rd t288 x14_1)).f2))∧w'.cell? ⟨(ad301.add (((rd t288 x14_1)).toNat * 4)).block,(ad301.add (((rd t288 x14_1)).toNat * 4)).off + 3,none⟩=some (.int .i64 ((rd_T44 l0 (rd t288 x14_1)).f3))) (ds:=[]) #[false,false,false,false,false,false,false,false,false,false,false,false,false,false,false,false,false,false,false] (by kernel_rfl) rfl rfl ⟨hx300_0,((HB.out.cell (World.block_lt_of_cell? w _ hw301_0)).trans hw301_0),((HB.out.cell (World.block_lt_of_cell? w _ hw301_1)).trans hw301_1),((HB.out.cell (World.block_lt_of_cell? w _ hw301_2)).trans hw301_2),((HB.out.cell (World.block_lt_of_cell? w _ hw301_3)).trans hw301_3),((HB.out.cell (World.block_lt_of_cell? w _ hw302_0)).trans hw302_0),((HB.out.cell (World.block_lt_of_cell? w _ hw302_1)).trans hw302_1),((HB.out.cell (World.block_lt_of_cell? w _ hw302_2)).trans hw302_2),((HB.out.cell (World.block_lt_of_cell? w _ hw302_3)).trans hw302_3)⟩ (fun hHeld=>?_);refine with_tabW impl_tieGroups.tab6 impl_tieGroups.bits6 (fun HT_ HW_=>?_)
   generalize wr.drew=w52 at HO_5 HO_6 HO_12 HB hx300_0 hx301_0 hx301_1 hx301_2 hx301_3 hx302_0 hx302_1 hx302_2 hx302_3 hHeld ⊢
   refine pu_ 0 19 ?_
   refine pu_ 1 20 ?_
   refine pu_ 2 21 ?_
   refine pu_ 3 22 ?_
   refine pu_ 4 23 ?_
   refine pu_ 5 24 ?_
   refine pu_ 6 25 ?_
   refine pu_ 7 26 ?_
   refine pu_ 11 30 ?_
   refine pu_ 12 31 ?_
   refine pu_ 13 32 ?_
   refine pu_ 15 34 ?_
   refine tk_ 8 27 hHeld ?_
   refine pu_ 9 28 ?_
   refine tk_ 10 29 hHeld ?_
   refine tk_ 14 33 hHeld ?_
   refine one_ (i:=16) (N:=some 35) #[true,true,true,true,true,true,true,true,true,true,true,true,true,true,true,true,true,false,false] rfl rfl (one_of HT_.out (by kernel_rfl)) (by decide) (fun K hK=>?_)
   refine goes_ Try.func22 (by kernel_rfl) rfl #[.agg #[.int .i64 ((rd_T44 l0 (rd t288 (ji24))).f0),.int .i64 ((rd_T44 l0 (rd t288 (ji24))).f1),.int .i64 ((rd_T44 l0 (rd t288 (ji24))).f2),.int .i64 ((rd_T44 l0 (rd t288 (ji24))).f3)],.agg #[.int .i64 ((rd_T44 l0 (rd t288 x14_1)).f0),.int .i64 ((rd_T44 l0 (rd t288 x14_1)).f1),.int .i64 ((rd_T44 l0 (rd t288 x14_1)).f2),.int .i64 ((rd_T44 l0 (rd t288 x14_1)).f3)],.int .i64 a1] (by rfl) rfl rfl (by (try simp only [List.map_toArray,List.map_cons,List.map_nil]);first|done|(simp only [hji24];rfl)|rfl|(simp only [List.length_drop,List.length_take];rfl)) ?_
   with_reducible refine (impl_difference.calls ((rd_T44 l0 (rd t288 (ji24))).f0) ((rd_T44 l0 (rd t288 (ji24))).f1) ((rd_T44 l0 (rd t288 (ji24))).f2) ((rd_T44 l0 (rd t288 (ji24))).f3) ((rd_T44 l0 (rd t288 x14_1)).f0) ((rd_T44 l0 (rd t288 x14_1)).f1) ((rd_T44 l0 (rd t288 x14_1)).f2) ((rd_T44 l0 (rd t288 x14_1)).f3) a1 t303 _ A31.out).mono ?_
   rintro e w53 ⟨rfl,hb⟩
   have HS0_:=(hb.cell (World.block_lt_of_cell? _ _ (hHeld.1))).trans (hHeld.1)
   refine ⟨_,rfl,?_⟩
   replace HO_5:=zSb HO_5 hb
   replace HO_6:=zRb HO_6 hb
   replace HO_12:=zRb HO_12 hb
   replace HB:=zb1 hb
   refine hK.out _ _ ⟨HS0_,((HB.out.cell (World.block_lt_of_cell? w _ hw301_0)).trans hw301_0),((HB.out.cell (World.block_lt_of_cell? w _ hw301_1)).trans hw301_1),((HB.out.cell (World.block_lt_of_cell? w _ hw301_2)).trans hw301_2),((HB.out.cell (World.block_lt_of_cell? w _ hw301_3)).trans hw301_3),((HB.out.cell (World.block_lt_of_cell? w _ hw302_0)).trans hw302_0),((HB.out.cell (World.block_lt_of_cell? w _ hw302_1)).trans hw302_1),((HB.out.cell (World.block_lt_of_cell? w _ hw302_2)).trans hw302_2),((HB.out.cell (World.block_lt_of_cell? w _ hw302_3)).trans hw302_3)⟩ (fun hHeld=>?_)
   clear hK K
   refine norm_ (a':=?_) ?_ ?_
   rotate_left
   ·show Act.put _ (some 35) _=_
    simp only [Act.put,List.setIfInBounds_toArray,List.set_cons_zero,List.set_cons_succ,i64_w,i32_w]
    rfl
   refine pu_ 17 36 ?_
   refine pu_ 18 37 ?_
   refine done_ (done_of HT_.out (by kernel_rfl)) ?_
   try go_wp2_with (first|((with_reducible refine gate_builtin (b:=.append) (xs:=#[.tmp 38,.tmp 39]) rfl ?_);at_builtin;refine Kd.S_append (Kd.slice 3 (Kd.int .i64)) (w0:=w) w.heap.size rfl (.tmp 38) (.tmp 39) 27 33 (.slice none 0 0) 24 rfl Try.underlying27 info33 rfl (by decide) (by omega) u5 x5_1 [] [.slice none 0 0] (fun k_=>some k_≠(.slice (some ad291) t288.length co5:Value).ownBlock∧some k_≠(.slice (some ad291) t288.length co5:Value).ownBlock) (fun _=>False) rfl rfl ?aP (fun _ hk=>hk.elim) ?aF ?aO ?aB ?aS ?aL ?_;(case aP=>exact Kd.M_row (Kd.R_nil _ _ _ _ _));(case aB=>exact zb);(case aF=>exact (fun k_ hk=>⟨Kd.fresh' (Kd.R_lt (zR HO_6.out)) k_ hk,Kd.fresh' (Kd.R_lt (zR HO_12.out)) k_ hk⟩));(case aO=>exact (zS (Kd.S_mono HO_5.out (fun k_ hk=>⟨⟨hk.1,hk.2⟩,fun e_=>e_⟩))));(case aS=>exact (below_size zb));(case aL=>have:=LMc46.out;omega);intro v310 w54 ho hb hg hat;rw [←Ny309.out] at ho;replace HO_6:=Aside0.mk (Kd.R_over' (zR HO_6.out) (Kd.S_typed (zS HO_5.out)) (by decide) hg);replace HO_12:=Aside0.mk (Kd.R_over' (zR HO_12.out) (Kd.S_typed (zS HO_5.out)) (by decide) hg);replace HB:=Aside0.mk (hb);have HO311:=Aside0.mk (ho);clear HO_5;clear ho hb hg hat;obtain ⟨Ao55,co55,eo55⟩:=Kd.S_slice HO311.out;subst eo55;have p312:0≤((ji47):Int):=of_decide_eq_true za;have q312:(ji47)<(y309.length:Int):=of_decide_eq_true za;obtain ⟨ad312,A312_0,c312_0,e312,hx312_0,hl312_0,hi312_0⟩:=at_L3 (Kd.S_reads' HO311.out).2.2 (ji47) p312 q312;cases e312;obtain ⟨ce312,hce312,hMe312,hcc312⟩:=Kd.S_get HO311.out [] (ji47) p312 (by first|exact q312|exact of_decide_eq_true za|(have e_:=(Kd.S_reads' HO311.out).1;omega));obtain ⟨ve312_0,rfl,ge312_0⟩:=hMe312;have hv312_0:=hcc312 0 _ rfl;rw [Nat.add_zero,show ((Kd.slice 3 (Kd.int .i64))).sz=1 from rfl,Nat.mul_one] at hv312_0;replace hv312_0:=Option.some.inj (hv312_0.symm.trans hx312_0);rw [hv312_0] at ge312_0;have HL312_0:=Aside0.mk (show Kd.R (Kd.int .i64) 3 _ _ _ _ (rd_L3 y309 (ji47)) from ge312_0);clear hv312_0 ge312_0;have HX312_0:=Aside0.mk hx312_0;clear hcc312 hce312;have HR312_0:=Aside0.mk hi312_0;have HC312_0:=Aside0.mk hl312_0;clear hi312_0 hl312_0;replace p312:=eq_true p312;replace q312:=eq_true q312;obtain ⟨go56,co56,eo56,gb56,gl56,cl56,HG56⟩:=Kd.S_form HO311.out (by have h_:((ji47):Int)<((y309.length:Int):Int):=of_decide_eq_true za;have h2_:0≤((ji47):Int):=(of_decide_eq_true za);omega);(first|cases eo56|(injection eo56 with ea_ en_ ec_;(first|subst ea_|(injection ea_ with ea_;subst ea_));subst ec_;clear en_));have GB56:=Aside0.mk gb56;have GG56:=Aside0.mk HG56;clear gb56 gl56 HG56;(first|simp only [add_plain] at hx312_0|skip);obtain ⟨oki56,ce56,hcl56,hM56,hcc56,_,_,hH56⟩:=Kd.S_elem HO311.out [] ((ji47):Int) (of_decide_eq_true za) (by have h_:((ji47):Int)<((y309.length:Int):Int):=of_decide_eq_true za;first|exact h_|(have e_:=(Kd.S_reads' HO311.out).1;omega)|simpa using h_);obtain ⟨ve56_0,rfl,ge56_0⟩:=hM56;have hv56:=hcc56 0 _ rfl;have hX56:=HX312_0.out;(try simp only [add_plain] at hX56);(try simp only [Nat.add_zero] at hv56);(try rw [show ((Kd.slice 3 (Kd.int .i64))).sz=1 from rfl,Nat.mul_one] at hv56);replace hv56:=Option.some.inj (hv56.symm.trans hX56);subst hv56;clear hX56 hcc56 hcl56;have UU56:=Aside0.mk (show Kd.R (Kd.int .i64) 3 _ w.heap.size oki56 (.slice A312_0 (rd_L3 y309 (ji47)).length c312_0) (rd_L3 y309 (ji47)) from ge56_0);have HH56:=Aside0.mk hH56;have HN56:=Aside0.mk (Kd.S_reads' HO311.out).1;clear hH56 ge56_0)|((with_reducible refine gate_builtin (b:=.append) (xs:=#[.tmp 50,.tmp 52]) rfl ?_);at_builtin;refine Kd.R_append (Kd.int .i64) (w0:=w) w.heap.size rfl (.tmp 50) (.tmp 52) 33 3 (.int .i64 0) 8 rfl Try.underlying33 info3 rfl (by decide) (by omega) (.slice A312_0 (rd_L3 y309 (ji47)).length c312_0) (rd_L3 y309 (ji47)) (rd t288 x14_1) [.int .i64 (rd t288 x14_1)] (fun k_=>oki56 k_∨((fun k_=>some k_≠(.slice (some ad291) t288.length co5:Value).ownBlock∧some k_≠(.slice (some ad291) t288.length co5:Value).ownBlock)) k_∧w54.heap.size≤k_) (fun _=>False) rfl rfl ?aP (fun _ hk=>hk.elim) ?aF ?aO ?aB ?aS ?aL ?_;(case aP=>exact rfl);(case aB=>exact zb);(case aF=>exact (fun k_ hk=>.inr ⟨⟨Kd.fresh' (Kd.R_lt (zR HO_6.out)) k_ hk,Kd.fresh' (Kd.R_lt (zR HO_12.out)) k_ hk⟩,hk⟩));(case aO=>exact (zR (Kd.R_mono UU56.out (fun _ hk=>.inl hk))));(case aS=>exact (below_size zb));(case aL=>have:=LMc50.out;omega);intro v314 w57 ho hb hg hat;rw [←Ny313.out] at ho;replace HO_6:=Aside0.mk (Kd.R_grown2 (zR HO_6.out) rfl hg (fun k_ e_=>(HL312_0.out.1 k_ e_).1.1));replace HO_12:=Aside0.mk (Kd.R_grown2 (zR HO_12.out) rfl hg (fun k_ e_=>(HL312_0.out.1 k_ e_).1.2));replace HB:=Aside0.mk (hb);replace HH56:=Aside0.mk (Kd.H_grown (Kd.H_widen (by repeat (first|exact HH56.out|refine Kd.H_alloc ?_ _|refine Kd.H_drewN ?_ _|refine Kd.H_drew ?_))) hg (fun k_ e_=>.inl (UU56.out.1 k_ e_)));have HO315:=Aside0.mk (ho);clear HO311 UU56 HL312_0;clear ho hb hg hat;have p51:0≤((ji47):Int):=of_decide_eq_true za;have q51:((ji47):Int)<((y309.length:Int):Int):=of_decide_eq_true za;replace p51:=eq_true p51;replace q51:=eq_true q51;obtain ⟨Ao60,co60,eo60⟩:=Kd.R_slice HO315.out;subst eo60;obtain ⟨_,_,hraw58,_,_,hcc58,_⟩:=Kd.H_raw HH56.out (of_decide_eq_true za) (by have h_:((ji47):Int)<((y309.length:Int):Int):=of_decide_eq_true za;first|exact h_|(have e_:=(HN56.out);omega)|simpa using h_);obtain ⟨_,hfr58⟩:=Kd.H_at HH56.out (of_decide_eq_true za) (by have h_:((ji47):Int)<((y309.length:Int):Int):=of_decide_eq_true za;first|exact h_|(have e_:=(HN56.out);omega)|simpa using h_);have hx58_0:=hcc58 0 _ rfl;have hf58_0:=hfr58 0;(try simp only [Nat.add_zero] at hx58_0 hf58_0);(try rw [show ((Kd.slice 3 (Kd.int .i64))).sz=1 from rfl,Nat.mul_one] at hx58_0);(try rw [show ((Kd.slice 3 (Kd.int .i64))).sz=1 from rfl,Nat.mul_one] at hf58_0);have HP58:=Kd.S_seg0 HH56.out (of_decide_eq_true za) (by have h_:((ji47):Int)<((y309.length:Int):Int):=of_decide_eq_true za;first|exact h_|(have e_:=(HN56.out);omega)|simpa using h_) (seg:=[.slice Ao60 y313.length co60]) (j:=0) (show 1≤1 from by decide) (x':=y313) (Kd.M_row HO315.out) (fun _ hk=>hk);(try simp only [show ((Kd.slice 3 (Kd.int .i64))).sz=1 from rfl,Nat.mul_one,Nat.add_zero] at HP58);clear hcc58 hfr58)|((with_reducible refine gate_store (t:=33) (p:=54) rfl ?_);(try (rw [drewN_self w57];generalize hq_:World.drewN w57 _=w57;have n0_:=Aside0.mk (Kd.R_at hq_ HO_6.out);have n1_:=Aside0.mk (Kd.R_at hq_ HO_12.out);have n2_:=Aside0.mk (Kd.S_at hq_ HO311.out);have n3_:=Aside0.mk (below_at hq_ HB.out);(try replace hx58_0:=cell_at hq_ hx58_0);(try replace hf58_0:=(fun {W_ W2_:World} {n_:Nat} {a_:Addr} {b_:Bool} (h_:W_.drewN n_=W2_) (e_:W_.frozen? a_=b_)=>(by subst h_;exact e_:W2_.frozen? a_=b_)) hq_ hf58_0);clear hq_ HO_6 HO_12 HO311 HB;have HO_6:=n0_;have HO_12:=n1_;have HO311:=n2_;have HB:=n3_;clear n0_ n1_ n2_ n3_;(try (obtain ⟨Ao60,co60,eo60⟩:=Kd.R_slice HO315.out));(try (subst eo60));(try (obtain ⟨_,_,hraw58,_,_,hcc58,_⟩:=Kd.H_raw HH56.out (of_decide_eq_true za) (by have h_:((ji47):Int)<((y309.length:Int):Int):=of_decide_eq_true za;first|exact h_|(have e_:=(HN56.out);omega)|simpa using h_)));(try (obtain ⟨_,hfr58⟩:=Kd.H_at HH56.out (of_decide_eq_true za) (by have h_:((ji47):Int)<((y309.length:Int):Int):=of_decide_eq_true za;first|exact h_|(have e_:=(HN56.out);omega)|simpa using h_)));(try (have hx58_0:=hcc58 0 _ rfl));(try (have hf58_0:=hfr58 0));(try (try simp only [Nat.add_zero] at hx58_0 hf58_0));(try (try rw [show ((Kd.slice 3 (Kd.int .i64))).sz=1 from rfl,Nat.mul_one] at hx58_0));(try (try rw [show ((Kd.slice 3 (Kd.int .i64))).sz=1 from rfl,Nat.mul_one] at hf58_0));(try (have HP58:=Kd.S_seg0 HH56.out (of_decide_eq_true za) (by have h_:((ji47):Int)<((y309.length:Int):Int):=of_decide_eq_true za;first|exact h_|(have e_:=(HN56.out);omega)|simpa using h_) (seg:=[.slice Ao60 y313.length co60]) (j:=0) (show 1≤1 from by decide) (x':=y313) (Kd.M_row HO315.out) (fun _ hk=>hk)));(try (try simp only [show ((Kd.slice 3 (Kd.int .i64))).sz=1 from rfl,Nat.mul_one,Nat.add_zero] at HP58));(try (clear hcc58 hfr58))));refine store_event (t:=33) (p:=54) (v:=?vo_w59) (w1:=(w57.setCell ⟨go56,((ji47):Int).toNat,none⟩ (.slice Ao60 y313.length co60))) ?hg ?ho ?hn ?hr ?_;(case ho=>rfl);(case hg=>rfl);(case hn=>rfl);(case hr=>first|(go_simp;done)|(go_simp;rfl));intro w59 hw;have hg:w57.grownBy w59 (some go56):=(by rw [hw];exact HP58.2);have hp_:Kd.S (Kd.slice 3 (Kd.int .i64)) 33 w59 w.heap.size (fun k_=>some k_≠(.slice (some ad291) t288.length co5:Value).ownBlock∧some k_≠(.slice (some ad291) t288.length co5:Value).ownBlock) (.slice (some ⟨go56,0,none⟩) y309.length co55) y316:=(by rw [hw,Ny316.out];exact HP58.1);clear HP58;replace HO_6:=Aside0.mk (Kd.R_over' (v:=(.slice (some ⟨go56,0,none⟩) y309.length co55)) (zR HO_6.out) (Kd.R_typed hraw58) (by decide) hg);replace HO_12:=Aside0.mk (Kd.R_over' (v:=(.slice (some ⟨go56,0,none⟩) y309.length co55)) (zR HO_12.out) (Kd.R_typed hraw58) (by decide) hg);replace HB:=Aside0.mk ((by rw [hw];exact below_set HB.out GB56.out:Below w.heap.size w w59));have HO311:=Aside0.mk (hp_);clear HO315 HH56;clear hg hw hp_ hraw58))
   go_roundg k1
   case measure=>have:=HK1.out;omega
   case rel=>exact ⟨(y316),(wrap64 (x14_1 + 1)),zo,H',⟨by have:=HK1.out;omega⟩,⟨zS HO311.out⟩,⟨zR HO_6.out⟩,⟨zR HO_12.out⟩,⟨zb⟩⟩

end Go.Proofs.Ytkcfmaiknmfokaa.XFnTies
-- minified
