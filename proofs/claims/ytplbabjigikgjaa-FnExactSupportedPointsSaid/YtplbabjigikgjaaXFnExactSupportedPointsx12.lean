-- Written by a program of this session (the kit's print, widened). Proved here: what each function answers, for the arguments that its contract names.
import Derived.Test.YtplbabjigikgjaaXFnExactSupportedPointsx0
import Derived.Test.YtplbabjigikgjaaXFnExactSupportedPointsx1
namespace Go.Proofs.Ytplbabjigikgjaa.XFnExactSupportedPoints
open Go.RowKit Go.Proofs.YtplbabjigikgjaaW.PrintWords Go.Proofs.YtplbabjigikgjaaW.PrintLast Go.Proofs.YtplbabjigikgjaaW.PrintMore
attribute [local go_sem] max2_int min2_int max_two min_two max_three min_three max_four min_four   -- for this text's walks alone
attribute [local go_sem] idxA_45_0 idxA_45_1 fldS_94_0 fldS_94_1 fldS_94_2 fldS_125_0 fldS_125_1 fldS_125_2
set_option linter.unusedVariables false
set_option linter.unusedSimpArgs false

attribute [local go_sem] eqA45
/-! ### impl_endsOf: function 155 -/
def impl_endsOf.l0:Nat→List (S47)→List Int→Int→List Int→Int→Int→Option (List Int)
 | 0,_,_,_,_,_,_=>none
 | k + 1,x0,x5,x6,x12,x13,x14=>if x14<x13 then (if 0≤x14 then (if x14<(x12.length:Int) then (if 0≤(rd x12 x14) then (if (rd x12 x14)<(x0.length:Int) then (if (rd x12 x14)<(x5.length:Int) then (impl_endsOf.l0 k x0 (x5.set ((rd x12 x14):Int).toNat (wrap64 ((mx x6 ((rd_T47 x0 (rd x12 x14)).f2)) + ((rd_T47 x0 (rd x12 x14)).f0)))) (wrap64 ((mx x6 ((rd_T47 x0 (rd x12 x14)).f2)) + ((rd_T47 x0 (rd x12 x14)).f0))) x12 x13 (wrap64 (x14 + 1))) else (none)) else (none)) else (none)) else (none)) else (none)) else (some x5)
def impl_endsOf.f (k:Nat) (l0:List (S47)) (l1:List Int):Option (List Int):=if 0≤(l0.length:Int) then (if ((l0.length:Int):Int).toNat≤35184372088832 then (impl_endsOf.l0 k l0 (List.replicate ((l0.length:Int):Int).toNat 0) 0 l1 (l1.length:Int) 0) else (none)) else (none)
theorem impl_endsOf.mono_l:∀ k,(∀ y0 y1 y2 y3 y4 y5,LeO (impl_endsOf.l0 k y0 y1 y2 y3 y4 y5) (impl_endsOf.l0 (k + 1) y0 y1 y2 y3 y4 y5))
 | 0=>fun _ _ _ _ _ _ r h=>by simp [impl_endsOf.l0] at h
 | k + 1=>by
  have ih0:=impl_endsOf.mono_l k
  ·intro y0 y1 y2 y3 y4 y5
   unfold impl_endsOf.l0
   repeat' first
   | (with_reducible exact ih0 _ _ _ _ _ _)
   | (with_reducible exact LeO.refl _)
   | (with_reducible exact LeO.none _)
   | (with_reducible refine LeO.ite ?_ ?_)
   | (with_reducible refine LeO.bind ?_ (fun _=>?_))
   | exact ih0 _ _ _ _ _ _
   | exact LeO.none _
   | refine LeO.ite ?_ ?_
   | refine LeO.bind ?_ (fun _=>?_)
theorem impl_endsOf.mono:∀ a0 a1 k,LeO (impl_endsOf.f k a0 a1) (impl_endsOf.f (k + 1) a0 a1):=by
 intro a0 a1 k
 have ih0:=impl_endsOf.mono_l k
 unfold impl_endsOf.f
 repeat' first
   | (with_reducible exact ih0 _ _ _ _ _ _)
   | (with_reducible exact LeO.refl _)
   | (with_reducible exact LeO.none _)
   | (with_reducible refine LeO.ite ?_ ?_)
   | (with_reducible refine LeO.bind ?_ (fun _=>?_))
   | exact ih0 _ _ _ _ _ _
   | exact LeO.none _
   | refine LeO.ite ?_ ?_
   | refine LeO.bind ?_ (fun _=>?_)
set_option maxHeartbeats 8000000 in
set_option maxRecDepth 100000 in
theorem impl_endsOf.calls (k:Nat) (A0:Option Addr) (c0:Nat) (l0:List (S47)) (A1:Option Addr) (c1:Nat) (l1:List Int) (r:List Int) (w:World) (hr0:Kd.C k47 w A0 l0.length l0) (hc0:l0.length≤c0) (hr1:Kd.C (Kd.int .i64) w A1 l1.length l1) (hc1:l1.length≤c1) (h:impl_endsOf.f k l0 l1=some r) :
  Calls Try.prog 155 #[.slice A0 l0.length c0,.slice A1 l1.length c1] w fun e w'=>∃ v0_:Value,e=.returned (v0_)∧Kd.R (Kd.int .i64) 3 w' w.heap.size (fun _=>True) v0_ r∧Below w.heap.size w w':=by
 have HR0:=Aside0.mk hr0
 have HC0:=Aside0.mk hc0
 clear hr0 hc0
 have HR1:=Aside0.mk hr1
 have HC1:=Aside0.mk hc1
 clear hr1 hc1
 have HB:=Aside0.mk (Below.refl w.heap.size w)
 have H:(if 0≤(l0.length:Int) then (if ((l0.length:Int):Int).toNat≤35184372088832 then (impl_endsOf.l0 k l0 (List.replicate ((l0.length:Int):Int).toNat 0) 0 l1 (l1.length:Int) 0) else (none)) else (none))=some r:=h
 clear h
 by_cases c3:0≤(l0.length:Int)
 ·rw [if_pos c3] at H
  have c3b0:=eq_true c3
  have c3b1:decide (0≤(l0.length:Int))=true:=decide_eq_true c3
  clear c3
  by_cases c4:((l0.length:Int):Int).toNat≤35184372088832
  ·rw [if_pos c4] at H
   have c4b0:=eq_true c4
   have c4b1:decide (((l0.length:Int):Int).toNat≤35184372088832)=true:=decide_eq_true c4
   clear c4
   obtain ⟨y271,hy271⟩:∃ y_:List Int,y_=(List.replicate ((l0.length:Int):Int).toNat 0):=⟨_,rfl⟩
   replace H:(impl_endsOf.l0 k l0 y271 0 l1 (l1.length:Int) 0)=some r:=by first|(rw [hy271];with_reducible exact H)|(have H2_:=(Option.bind_some _ _).symm.trans H;rw [hy271];with_reducible exact H2_)|(have H2_:=(Option.bind_some _ _).symm.trans H;with_reducible exact H2_)|with_reducible exact H|(rw [hy271];exact H)|exact H
   have Ny271:=Aside0.mk hy271
   clear hy271
   have H':=Aside0.mk H
   clear H
   go_enter Try.func155,Try.ntmps155
   go_wp2_with (first|((with_reducible refine gate_dst (N:=11) rfl ?_);refine Kd.R_make (Kd.int .i64) _ 3 rfl (N:=11) rfl 39 _ _ rfl (l0.length:Int) rfl rfl Try.underlying39 (.int .i64 0) 8 info3 rfl (by decide) (by omega) 0 (ok:=fun _=>True) (okp:=fun _=>True) rfl (fun _ hk=>hk) trivial (of_decide_eq_true (by first|(with_reducible assumption)|assumption)) (Nat.le_trans (Nat.mul_le_mul_right _ (of_decide_eq_true (by first|(with_reducible assumption)|assumption):(l0.length:Int).toNat≤35184372088832)) (by omega)) (Below.refl _ _) (Nat.le_refl _) ?_;intro v272 w5 ho6 hb hg_ hnew_;clear hg_ hnew_;(first|rw [←Ny271.out] at ho6|(simp only [Int.reduceToNat] at ho6;rw [←Ny271.out] at ho6));have n0_:=Aside0.mk (Kd.R_lower ho6 (below_size (by repeat (first|(with_reducible first|exact HB.out|apply below_alloc|apply pw_below_drewN|apply below_drew1)|exact HB.out))));have n1_:=Aside0.mk (below_step (by repeat (first|(with_reducible first|exact HB.out|apply below_alloc|apply pw_below_drewN|apply below_drew1)|exact HB.out)) hb);clear HB;have HO273:=n0_;have HB:=n1_;clear n0_ n1_;clear hb ho6))
   repeat (go_quiet (first|((with_reducible refine gate_dst (N:=11) rfl ?_);refine Kd.R_make (Kd.int .i64) _ 3 rfl (N:=11) rfl 39 _ _ rfl (l0.length:Int) rfl rfl Try.underlying39 (.int .i64 0) 8 info3 rfl (by decide) (by omega) 0 (ok:=fun _=>True) (okp:=fun _=>True) rfl (fun _ hk=>hk) trivial (of_decide_eq_true (by first|(with_reducible assumption)|assumption)) (Nat.le_trans (Nat.mul_le_mul_right _ (of_decide_eq_true (by first|(with_reducible assumption)|assumption):(l0.length:Int).toNat≤35184372088832)) (by omega)) (Below.refl _ _) (Nat.le_refl _) ?_;intro v272 w5 ho6 hb hg_ hnew_;clear hg_ hnew_;(first|rw [←Ny271.out] at ho6|(simp only [Int.reduceToNat] at ho6;rw [←Ny271.out] at ho6));have n0_:=Aside0.mk (Kd.R_lower ho6 (below_size (by repeat (first|(with_reducible first|exact HB.out|apply below_alloc|apply pw_below_drewN|apply below_drew1)|exact HB.out))));have n1_:=Aside0.mk (below_step (by repeat (first|(with_reducible first|exact HB.out|apply below_alloc|apply pw_below_drewN|apply below_drew1)|exact HB.out)) hb);clear HB;have HO273:=n0_;have HB:=n1_;clear n0_ n1_;clear hb ho6));try go_wp2_with (first|((with_reducible refine gate_dst (N:=11) rfl ?_);refine Kd.R_make (Kd.int .i64) _ 3 rfl (N:=11) rfl 39 _ _ rfl (l0.length:Int) rfl rfl Try.underlying39 (.int .i64 0) 8 info3 rfl (by decide) (by omega) 0 (ok:=fun _=>True) (okp:=fun _=>True) rfl (fun _ hk=>hk) trivial (of_decide_eq_true (by first|(with_reducible assumption)|assumption)) (Nat.le_trans (Nat.mul_le_mul_right _ (of_decide_eq_true (by first|(with_reducible assumption)|assumption):(l0.length:Int).toNat≤35184372088832)) (by omega)) (Below.refl _ _) (Nat.le_refl _) ?_;intro v272 w5 ho6 hb hg_ hnew_;clear hg_ hnew_;(first|rw [←Ny271.out] at ho6|(simp only [Int.reduceToNat] at ho6;rw [←Ny271.out] at ho6));have n0_:=Aside0.mk (Kd.R_lower ho6 (below_size (by repeat (first|(with_reducible first|exact HB.out|apply below_alloc|apply pw_below_drewN|apply below_drew1)|exact HB.out))));have n1_:=Aside0.mk (below_step (by repeat (first|(with_reducible first|exact HB.out|apply below_alloc|apply pw_below_drewN|apply below_drew1)|exact HB.out)) hb);clear HB;have HO273:=n0_;have HB:=n1_;clear n0_ n1_;clear hb ho6)))
   go_loopg [6,14] k (fun kq v6 v14 w'=>∃ (x5_1:List Int) (x6_1:Int) (x14_1:Int),v6=.int .i64 x6_1∧v14=.int .i64 x14_1∧Aside0 (impl_endsOf.l0 kq l0 x5_1 x6_1 l1 (l1.length:Int) x14_1=some r)∧Aside0 (kq≤k)∧Aside0 (Kd.R (Kd.int .i64) 3 w' w.heap.size (fun _=>True) v272 x5_1)∧Aside0 (Below w.heap.size w w'))
   case atStart=>exact ⟨(y271),(0),(0),(by first|rfl|(simp;done)|(simp [*];done)),(by first|rfl|(simp;done)|(simp [*];done)),H',⟨Nat.le_refl _⟩,⟨by (with_reducible repeat (first|apply Kd.R_alloc|apply Kd.R_drewN|apply Kd.R_drew));exact HO273.out⟩,⟨by repeat (first|(with_reducible first|exact HB.out|apply below_alloc|apply pw_below_drewN|apply below_drew1)|exact HB.out)⟩⟩
   case round=>
    clear H'
    try clear c1
    try clear p2
    try clear c3
    try clear c3b0
    try clear c3b1
    try clear c4
    try clear c4b0
    try clear c4b1
    obtain ⟨x5_1,x6_1,x14_1,rfl,rfl,HA,HK1,HO_5,HB⟩:=hrel
    cases gk with
    | zero=>exact absurd HA.out (by simp [impl_endsOf.l0])
    | succ k1=>
     have H:=HA.out
     clear HA
     simp only [impl_endsOf.l0] at H
     by_cases c7:x14_1<(l1.length:Int)
     ·rw [if_pos c7] at H
      have c7b0:decide (x14_1<(l1.length:Int))=true:=decide_eq_true c7
      clear c7
      by_cases c8:0≤x14_1
      ·rw [if_pos c8] at H
       have c8b0:decide (0≤x14_1)=true:=decide_eq_true c8
       clear c8
       by_cases c9:x14_1<(l1.length:Int)
       ·rw [if_pos c9] at H
        have c9b0:decide (x14_1<(l1.length:Int))=true:=decide_eq_true c9
        clear c9
        by_cases c10:0≤(rd l1 x14_1)
        ·rw [if_pos c10] at H
         have c10b0:decide (0≤(rd l1 x14_1))=true:=decide_eq_true c10
         clear c10
         by_cases c11:(rd l1 x14_1)<(l0.length:Int)
         ·rw [if_pos c11] at H
          have c11b0:decide ((rd l1 x14_1)<(l0.length:Int))=true:=decide_eq_true c11
          clear c11
          obtain ⟨ji12,hji12⟩:∃ j_:Int,(mx x6_1 ((rd_T47 l0 (rd l1 x14_1)).f2))=j_:=⟨_,rfl⟩
          replace H:(if (rd l1 x14_1)<(x5_1.length:Int) then (impl_endsOf.l0 k1 l0 (x5_1.set ((rd l1 x14_1):Int).toNat (wrap64 ((ji12) + ((rd_T47 l0 (rd l1 x14_1)).f0)))) (wrap64 ((ji12) + ((rd_T47 l0 (rd l1 x14_1)).f0))) l1 (l1.length:Int) (wrap64 (x14_1 + 1))) else (none))=some r:=by first|(rw [hji12] at H;exact H)|(simp only [hji12] at H ⊢;exact H)
          have hji12_:(if x6_1<((rd_T47 l0 (rd l1 x14_1)).f2) then ((rd_T47 l0 (rd l1 x14_1)).f2) else x6_1)=ji12:=hji12
          by_cases c13:(rd l1 x14_1)<(x5_1.length:Int)
          ·rw [if_pos c13] at H
           have c13b0:decide ((rd l1 x14_1)<(x5_1.length:Int))=true:=decide_eq_true c13
           clear c13
           obtain ⟨y277,hy277⟩:∃ y_:List Int,y_=(x5_1.set ((rd l1 x14_1):Int).toNat (wrap64 ((ji12) + ((rd_T47 l0 (rd l1 x14_1)).f0)))):=⟨_,rfl⟩
           replace H:(impl_endsOf.l0 k1 l0 y277 (wrap64 ((ji12) + ((rd_T47 l0 (rd l1 x14_1)).f0))) l1 (l1.length:Int) (wrap64 (x14_1 + 1)))=some r:=by first|(rw [hy277];with_reducible exact H)|(have H2_:=(Option.bind_some _ _).symm.trans H;rw [hy277];with_reducible exact H2_)|(have H2_:=(Option.bind_some _ _).symm.trans H;with_reducible exact H2_)|with_reducible exact H|(rw [hy277];exact H)|exact H
           have Ny277:=Aside0.mk hy277
           clear hy277
           have H':=Aside0.mk H
           clear H
           have p274:0≤(x14_1:Int):=of_decide_eq_true (by first|(with_reducible assumption)|assumption)
           have q274:x14_1<(l1.length:Int):=of_decide_eq_true (by first|(with_reducible assumption)|assumption)
           obtain ⟨ad274,e274,hx274_0⟩:=Kd.at_int HR1.out x14_1 p274 q274
           cases e274
           replace hx274_0:=(HB.out.cell (World.block_lt_of_cell? w _ hx274_0)).trans hx274_0
           replace p274:=eq_true p274
           replace q274:=eq_true q274
           have p275:0≤((rd l1 x14_1):Int):=of_decide_eq_true (by first|(with_reducible assumption)|assumption)
           have q275:(rd l1 x14_1)<(l0.length:Int):=of_decide_eq_true (by first|(with_reducible assumption)|assumption)
           obtain ⟨ad275,e275,hx275_0,hx275_1,hx275_2,hx275_3⟩:=at_T47 HR0.out (rd l1 x14_1) p275 q275
           cases e275
           replace hx275_0:=(HB.out.cell (World.block_lt_of_cell? w _ hx275_0)).trans hx275_0
           replace hx275_1:=(HB.out.cell (World.block_lt_of_cell? w _ hx275_1)).trans hx275_1
           replace hx275_2:=(HB.out.cell (World.block_lt_of_cell? w _ hx275_2)).trans hx275_2
           replace hx275_3:=(HB.out.cell (World.block_lt_of_cell? w _ hx275_3)).trans hx275_3
           replace p275:=eq_true p275
           replace q275:=eq_true q275
           have p276:0≤((rd l1 x14_1):Int):=of_decide_eq_true (by first|(with_reducible assumption)|assumption)
           have q276:(rd l1 x14_1)<(l0.length:Int):=of_decide_eq_true (by first|(with_reducible assumption)|assumption)
           obtain ⟨ad276,e276,hx276_0,hx276_1,hx276_2,hx276_3⟩:=at_T47 HR0.out (rd l1 x14_1) p276 q276
           obtain rfl:ad275=ad276:=(by injection e276)
           replace hx276_0:=(HB.out.cell (World.block_lt_of_cell? w _ hx276_0)).trans hx276_0
           replace hx276_1:=(HB.out.cell (World.block_lt_of_cell? w _ hx276_1)).trans hx276_1
           replace hx276_2:=(HB.out.cell (World.block_lt_of_cell? w _ hx276_2)).trans hx276_2
           replace hx276_3:=(HB.out.cell (World.block_lt_of_cell? w _ hx276_3)).trans hx276_3
           replace p276:=eq_true p276
           replace q276:=eq_true q276
           have p14:0≤((rd l1 x14_1):Int):=of_decide_eq_true (by first|(with_reducible assumption)|assumption)
           have q14:((rd l1 x14_1):Int)<((x5_1.length:Int):Int):=of_decide_eq_true (by first|(with_reducible assumption)|assumption)
           obtain ⟨go14,co14,eo14,gb14,gl14,cl14,HG14⟩:=Kd.R_form HO_5.out (by omega)
           (first|cases eo14|(injection eo14 with ea_ en_ ec_;(first|subst ea_|(injection ea_ with ea_;subst ea_));subst ec_;clear en_))
           have GB14:=Aside0.mk gb14
           have GG14:=Aside0.mk HG14
           clear gb14 gl14 HG14
           obtain ⟨hx14_0,hf14_0⟩:=Kd.R_celln 0 HO_5.out ((rd l1 x14_1):Int) p14 q14
           replace p14:=eq_true p14
           replace q14:=eq_true q14
           have HP15:=Kd.R_putg HO_5.out ((rd l1 x14_1):Int) (wrap64 ((ji12) + ((rd_T47 l0 (rd l1 x14_1)).f0)))
           go_wp2_with (first|((with_reducible refine gate_store (t:=3) (p:=34) rfl ?_);(try (rw [drewN_self wr];generalize hq_:World.drewN wr _=wr;have n0_:=Aside0.mk (Kd.R_at hq_ HO_5.out);have n1_:=Aside0.mk (below_at hq_ HB.out);(try replace hx14_0:=cell_at hq_ hx14_0);(try replace hf14_0:=(fun {W_ W2_:World} {n_:Nat} {a_:Addr} {b_:Bool} (h_:W_.drewN n_=W2_) (e_:W_.frozen? a_=b_)=>(by subst h_;exact e_:W2_.frozen? a_=b_)) hq_ hf14_0);clear hq_ HO_5 HB;have HO_5:=n0_;have HB:=n1_;clear n0_ n1_;(try (have HP15:=Kd.R_putg HO_5.out ((rd l1 x14_1):Int) (wrap64 ((ji12) + ((rd_T47 l0 (rd l1 x14_1)).f0)))))));refine store_event (t:=3) (p:=34) (v:=?vo_w16) (w1:=(wr.setCell ⟨go14,((rd l1 x14_1):Int).toNat,none⟩ (.int .i64 (wrap64 ((ji12) + ((rd_T47 l0 (rd l1 x14_1)).f0)))))) ?hg ?ho ?hn ?hr ?_;(case ho=>rfl);(case hg=>rfl);(case hn=>rfl);(case hr=>first|(go_simp;done)|(go_simp;rfl));intro w16 hw;have hg:wr.grownBy w16 (some go14):=(by rw [hw];exact HP15.2);have hp_:Kd.R (Kd.int .i64) 3 w16 w.heap.size (fun _=>True) (.slice (some ⟨go14,0,none⟩) x5_1.length co14) y277:=(by rw [hw,Ny277.out];exact HP15.1);clear HP15;have n0_:=Aside0.mk (hp_);have n1_:=Aside0.mk ((by rw [hw];exact below_set (HB.out) GB14.out:Below w.heap.size w w16));clear HO_5;clear HB;have HO_5:=n0_;have HB:=n1_;clear n0_ n1_;clear hg hw hp_))
           repeat (go_quiet (first|((with_reducible refine gate_store (t:=3) (p:=34) rfl ?_);(try (rw [drewN_self wr];generalize hq_:World.drewN wr _=wr;have n0_:=Aside0.mk (Kd.R_at hq_ HO_5.out);have n1_:=Aside0.mk (below_at hq_ HB.out);(try replace hx14_0:=cell_at hq_ hx14_0);(try replace hf14_0:=(fun {W_ W2_:World} {n_:Nat} {a_:Addr} {b_:Bool} (h_:W_.drewN n_=W2_) (e_:W_.frozen? a_=b_)=>(by subst h_;exact e_:W2_.frozen? a_=b_)) hq_ hf14_0);clear hq_ HO_5 HB;have HO_5:=n0_;have HB:=n1_;clear n0_ n1_;(try (have HP15:=Kd.R_putg HO_5.out ((rd l1 x14_1):Int) (wrap64 ((ji12) + ((rd_T47 l0 (rd l1 x14_1)).f0)))))));refine store_event (t:=3) (p:=34) (v:=?vo_w16) (w1:=(wr.setCell ⟨go14,((rd l1 x14_1):Int).toNat,none⟩ (.int .i64 (wrap64 ((ji12) + ((rd_T47 l0 (rd l1 x14_1)).f0)))))) ?hg ?ho ?hn ?hr ?_;(case ho=>rfl);(case hg=>rfl);(case hn=>rfl);(case hr=>first|(go_simp;done)|(go_simp;rfl));intro w16 hw;have hg:wr.grownBy w16 (some go14):=(by rw [hw];exact HP15.2);have hp_:Kd.R (Kd.int .i64) 3 w16 w.heap.size (fun _=>True) (.slice (some ⟨go14,0,none⟩) x5_1.length co14) y277:=(by rw [hw,Ny277.out];exact HP15.1);clear HP15;have n0_:=Aside0.mk (hp_);have n1_:=Aside0.mk ((by rw [hw];exact below_set (HB.out) GB14.out:Below w.heap.size w w16));clear HO_5;clear HB;have HO_5:=n0_;have HB:=n1_;clear n0_ n1_;clear hg hw hp_));try go_wp2_with (first|((with_reducible refine gate_store (t:=3) (p:=34) rfl ?_);(try (rw [drewN_self wr];generalize hq_:World.drewN wr _=wr;have n0_:=Aside0.mk (Kd.R_at hq_ HO_5.out);have n1_:=Aside0.mk (below_at hq_ HB.out);(try replace hx14_0:=cell_at hq_ hx14_0);(try replace hf14_0:=(fun {W_ W2_:World} {n_:Nat} {a_:Addr} {b_:Bool} (h_:W_.drewN n_=W2_) (e_:W_.frozen? a_=b_)=>(by subst h_;exact e_:W2_.frozen? a_=b_)) hq_ hf14_0);clear hq_ HO_5 HB;have HO_5:=n0_;have HB:=n1_;clear n0_ n1_;(try (have HP15:=Kd.R_putg HO_5.out ((rd l1 x14_1):Int) (wrap64 ((ji12) + ((rd_T47 l0 (rd l1 x14_1)).f0)))))));refine store_event (t:=3) (p:=34) (v:=?vo_w16) (w1:=(wr.setCell ⟨go14,((rd l1 x14_1):Int).toNat,none⟩ (.int .i64 (wrap64 ((ji12) + ((rd_T47 l0 (rd l1 x14_1)).f0)))))) ?hg ?ho ?hn ?hr ?_;(case ho=>rfl);(case hg=>rfl);(case hn=>rfl);(case hr=>first|(go_simp;done)|(go_simp;rfl));intro w16 hw;have hg:wr.grownBy w16 (some go14):=(by rw [hw];exact HP15.2);have hp_:Kd.R (Kd.int .i64) 3 w16 w.heap.size (fun _=>True) (.slice (some ⟨go14,0,none⟩) x5_1.length co14) y277:=(by rw [hw,Ny277.out];exact HP15.1);clear HP15;have n0_:=Aside0.mk (hp_);have n1_:=Aside0.mk ((by rw [hw];exact below_set (HB.out) GB14.out:Below w.heap.size w w16));clear HO_5;clear HB;have HO_5:=n0_;have HB:=n1_;clear n0_ n1_;clear hg hw hp_)))
           go_roundg k1
           case measure=>have:=HK1.out;omega
           case rel=>exact ⟨(y277),(wrap64 ((ji12) + ((rd_T47 l0 (rd l1 x14_1)).f0))),(wrap64 (x14_1 + 1)),(by first|rfl|(simp;done)|(simp only [←hji12] <;> (first|rfl|simp))|(simp [*];done)),(by first|rfl|(simp;done)|(simp [*];done)),H',⟨by have:=HK1.out;omega⟩,⟨by (with_reducible repeat (first|apply Kd.R_alloc|apply Kd.R_drewN|apply Kd.R_drew));exact HO_5.out⟩,⟨by repeat (first|(with_reducible first|exact HB.out|apply below_alloc|apply pw_below_drewN|apply below_drew1)|exact HB.out)⟩⟩
          ·rw [if_neg c13] at H
           exact absurd H (by simp)
         ·rw [if_neg c11] at H
          exact absurd H (by simp)
        ·rw [if_neg c10] at H
         exact absurd H (by simp)
       ·rw [if_neg c9] at H
        exact absurd H (by simp)
      ·rw [if_neg c8] at H
       exact absurd H (by simp)
     ·rw [if_neg c7] at H
      have c7b0:decide (x14_1<(l1.length:Int))=false:=decide_eq_false c7
      clear c7
      obtain rfl:=Option.some.inj H
      go_wp2
      repeat (go_quiet (fail);try go_wp2)
      go_ret
      exact ⟨_,by first|rfl|(simp [errW_none,errW_some] <;> rfl)|(simp [*,errW_none,errW_some] <;> rfl),by (with_reducible repeat (first|apply Kd.R_alloc|apply Kd.R_drewN|apply Kd.R_drew));exact HO_5.out,by repeat (first|(with_reducible first|exact HB.out|apply below_alloc|apply pw_below_drewN|apply below_drew1)|exact HB.out)⟩
  ·rw [if_neg c4] at H
   exact absurd H (by simp)
 ·rw [if_neg c3] at H
  exact absurd H (by simp)

/-! ### impl_add: function 164 -/
def impl_add.f (a0:Int) (a1_0:Int) (a1_1:Int) (a1_2:Int) (a1_3:Int) (a2:Int) (a3:Int) (a4:Bool):Option (Int):=if a3=1 then (some (mx a0 a2)) else (if a3=2 then (some (wrap64 (a0 + a2))) else (if a3=3 then (some (wrap64 (a0 + (wrap64 (a1_1 * a2))))) else (if a3=4 then (if a4=true then (some (wrap64 (a2 - a1_3))) else (some (mx a0 (wrap64 (a2 - a1_3))))) else (if a3=5 then (some (wrap64 (a0 + (mx 0 (wrap64 (a2 - a1_3)))))) else (if a3=6 then (some (wrap64 (a0 + (wrap64 (a1_1 * (mx 0 (wrap64 (a2 - a1_3)))))))) else (if (wrap64 (a2 - a1_3))≤0 then (some a0) else (if a3=7 then (some (wrap64 (a0 + 1))) else (some (wrap64 (a0 + a1_1))))))))))
set_option maxHeartbeats 8000000 in
set_option maxRecDepth 100000 in
theorem impl_add.calls (a0:Int) (a1_0:Int) (a1_1:Int) (a1_2:Int) (a1_3:Int) (a2:Int) (a3:Int) (a4:Bool) (r:Int) (w:World) (h:impl_add.f a0 a1_0 a1_1 a1_2 a1_3 a2 a3 a4=some r) :
  Calls Try.prog 164 #[.int .i64 a0,.agg #[.int .i64 a1_0,.int .i64 a1_1,.int .i64 a1_2,.int .i64 a1_3],.int .i64 a2,.int .i64 a3,.bool a4] w fun e w'=>e=.returned (.int .i64 r)∧Below w.heap.size w w':=by
 have hu47:=Try.underlying47
 have HB:=Aside0.mk (Below.refl w.heap.size w)
 have H:(if a3=1 then (some (mx a0 a2)) else (if a3=2 then (some (wrap64 (a0 + a2))) else (if a3=3 then (some (wrap64 (a0 + (wrap64 (a1_1 * a2))))) else (if a3=4 then (if a4=true then (some (wrap64 (a2 - a1_3))) else (some (mx a0 (wrap64 (a2 - a1_3))))) else (if a3=5 then (some (wrap64 (a0 + (mx 0 (wrap64 (a2 - a1_3)))))) else (if a3=6 then (some (wrap64 (a0 + (wrap64 (a1_1 * (mx 0 (wrap64 (a2 - a1_3)))))))) else (if (wrap64 (a2 - a1_3))≤0 then (some a0) else (if a3=7 then (some (wrap64 (a0 + 1))) else (some (wrap64 (a0 + a1_1)))))))))))=some r:=h
 clear h
 by_cases c6:a3=1
 ·rw [if_pos c6] at H
  have c6b0:(a3 == 1)=true:=beq_iff_eq.mpr c6
  have c6b1:(a3 != 1)=false:=bne_eq_false_iff_eq.mpr c6
  clear c6
  obtain ⟨ji7,hji7⟩:∃ j_:Int,(mx a0 a2)=j_:=⟨_,rfl⟩
  replace H:(some ji7)=some r:=by first|(rw [hji7] at H;exact H)|(simp only [hji7] at H ⊢;exact H)
  have hji7_:(if a0<a2 then a2 else a0)=ji7:=hji7
  obtain rfl:=Option.some.inj H
  go_enter Try.func164,Try.ntmps164
  go_wp2_with (first|((with_reducible refine gate_dst (N:=6) rfl ?_);refine box_event ?hg (N:=6) ?hd (cs:=#[.int .i64 a1_0,.int .i64 a1_1,.int .i64 a1_2,.int .i64 a1_3]) (t:=47) ?hr ?_;(case hd=>rfl);(case hg=>rfl);(case hr=>first|(go_simp;done)|(go_simp;rfl));intro gb278 hg w8 hbox hb;have n0_:=Aside0.mk (below_step (by repeat (first|(with_reducible first|exact HB.out|apply below_alloc|apply pw_below_drewN|apply below_drew1)|exact HB.out)) hb);have n1_:=Aside0.mk (hbox);have n2_:=Aside0.mk ((by rw [hg];exact (below_size (by repeat (first|(with_reducible first|exact HB.out|apply below_alloc|apply pw_below_drewN|apply below_drew1)|exact HB.out))):w.heap.size≤gb278));have n3_:=Aside0.mk ((by rw [hg];exact (below_size (by repeat (first|(with_reducible first|exact HB.out|apply below_alloc|apply pw_below_drewN|apply below_drew1)|exact HB.out))):w.heap.size≤gb278));clear HB;have HB:=n0_;have BK278:=n1_;have GW278:=n2_;have GE278:=n3_;clear n0_ n1_ n2_ n3_;clear hb hbox hg;have hcz9_0:w8.cell? ⟨gb278,0,none⟩=some (.int .i64 a1_0):=(blk_cell BK278.out 0).trans rfl;have hcz9_1:w8.cell? ⟨gb278,1,none⟩=some (.int .i64 a1_1):=(blk_cell BK278.out 1).trans rfl;have hcz9_2:w8.cell? ⟨gb278,2,none⟩=some (.int .i64 a1_2):=(blk_cell BK278.out 2).trans rfl;have hcz9_3:w8.cell? ⟨gb278,3,none⟩=some (.int .i64 a1_3):=(blk_cell BK278.out 3).trans rfl;have hfz9_0:=blk_frozen BK278.out 0;have hfz9_1:=blk_frozen BK278.out 1;have hfz9_2:=blk_frozen BK278.out 2;have hfz9_3:=blk_frozen BK278.out 3))
  go_ret
  exact ⟨by first|rfl|(simp [errW_none,errW_some] <;> rfl)|(simp only [←hji7];first|rfl|(simp [errW_none,errW_some] <;> rfl))|(simp [*,errW_none,errW_some] <;> rfl),by repeat (first|(with_reducible first|exact HB.out|apply below_alloc|apply pw_below_drewN|apply below_drew1|refine below_set ?_ GE278.out)|exact HB.out)⟩
 ·rw [if_neg c6] at H
  have c6b0:(a3 == 1)=false:=beq_eq_false_iff_ne.mpr c6
  have c6b1:(a3 != 1)=true:=bne_iff_ne.mpr c6
  by_cases c10:a3=2
  ·rw [if_pos c10] at H
   have c10b0:(a3 == 2)=true:=beq_iff_eq.mpr c10
   have c10b1:(a3 != 2)=false:=bne_eq_false_iff_eq.mpr c10
   clear c10
   obtain rfl:=Option.some.inj H
   go_enter Try.func164,Try.ntmps164
   go_wp2_with (first|((with_reducible refine gate_dst (N:=6) rfl ?_);refine box_event ?hg (N:=6) ?hd (cs:=#[.int .i64 a1_0,.int .i64 a1_1,.int .i64 a1_2,.int .i64 a1_3]) (t:=47) ?hr ?_;(case hd=>rfl);(case hg=>rfl);(case hr=>first|(go_simp;done)|(go_simp;rfl));intro gb278 hg w11 hbox hb;have n0_:=Aside0.mk (below_step (by repeat (first|(with_reducible first|exact HB.out|apply below_alloc|apply pw_below_drewN|apply below_drew1)|exact HB.out)) hb);have n1_:=Aside0.mk (hbox);have n2_:=Aside0.mk ((by rw [hg];exact (below_size (by repeat (first|(with_reducible first|exact HB.out|apply below_alloc|apply pw_below_drewN|apply below_drew1)|exact HB.out))):w.heap.size≤gb278));have n3_:=Aside0.mk ((by rw [hg];exact (below_size (by repeat (first|(with_reducible first|exact HB.out|apply below_alloc|apply pw_below_drewN|apply below_drew1)|exact HB.out))):w.heap.size≤gb278));clear HB;have HB:=n0_;have BK278:=n1_;have GW278:=n2_;have GE278:=n3_;clear n0_ n1_ n2_ n3_;clear hb hbox hg;have hcz12_0:w11.cell? ⟨gb278,0,none⟩=some (.int .i64 a1_0):=(blk_cell BK278.out 0).trans rfl;have hcz12_1:w11.cell? ⟨gb278,1,none⟩=some (.int .i64 a1_1):=(blk_cell BK278.out 1).trans rfl;have hcz12_2:w11.cell? ⟨gb278,2,none⟩=some (.int .i64 a1_2):=(blk_cell BK278.out 2).trans rfl;have hcz12_3:w11.cell? ⟨gb278,3,none⟩=some (.int .i64 a1_3):=(blk_cell BK278.out 3).trans rfl;have hfz12_0:=blk_frozen BK278.out 0;have hfz12_1:=blk_frozen BK278.out 1;have hfz12_2:=blk_frozen BK278.out 2;have hfz12_3:=blk_frozen BK278.out 3))
   go_ret
   exact ⟨by first|rfl|(simp [errW_none,errW_some] <;> rfl)|(simp [*,errW_none,errW_some] <;> rfl),by repeat (first|(with_reducible first|exact HB.out|apply below_alloc|apply pw_below_drewN|apply below_drew1|refine below_set ?_ GE278.out)|exact HB.out)⟩
  ·rw [if_neg c10] at H
   have c10b0:(a3 == 2)=false:=beq_eq_false_iff_ne.mpr c10
   have c10b1:(a3 != 2)=true:=bne_iff_ne.mpr c10
   by_cases c13:a3=3
   ·rw [if_pos c13] at H
    have c13b0:(a3 == 3)=true:=beq_iff_eq.mpr c13
    have c13b1:(a3 != 3)=false:=bne_eq_false_iff_eq.mpr c13
    clear c13
    obtain rfl:=Option.some.inj H
    go_enter Try.func164,Try.ntmps164
    go_wp2_with (first|((with_reducible refine gate_dst (N:=6) rfl ?_);refine box_event ?hg (N:=6) ?hd (cs:=#[.int .i64 a1_0,.int .i64 a1_1,.int .i64 a1_2,.int .i64 a1_3]) (t:=47) ?hr ?_;(case hd=>rfl);(case hg=>rfl);(case hr=>first|(go_simp;done)|(go_simp;rfl));intro gb278 hg w14 hbox hb;have n0_:=Aside0.mk (below_step (by repeat (first|(with_reducible first|exact HB.out|apply below_alloc|apply pw_below_drewN|apply below_drew1)|exact HB.out)) hb);have n1_:=Aside0.mk (hbox);have n2_:=Aside0.mk ((by rw [hg];exact (below_size (by repeat (first|(with_reducible first|exact HB.out|apply below_alloc|apply pw_below_drewN|apply below_drew1)|exact HB.out))):w.heap.size≤gb278));have n3_:=Aside0.mk ((by rw [hg];exact (below_size (by repeat (first|(with_reducible first|exact HB.out|apply below_alloc|apply pw_below_drewN|apply below_drew1)|exact HB.out))):w.heap.size≤gb278));clear HB;have HB:=n0_;have BK278:=n1_;have GW278:=n2_;have GE278:=n3_;clear n0_ n1_ n2_ n3_;clear hb hbox hg;have hcz15_0:w14.cell? ⟨gb278,0,none⟩=some (.int .i64 a1_0):=(blk_cell BK278.out 0).trans rfl;have hcz15_1:w14.cell? ⟨gb278,1,none⟩=some (.int .i64 a1_1):=(blk_cell BK278.out 1).trans rfl;have hcz15_2:w14.cell? ⟨gb278,2,none⟩=some (.int .i64 a1_2):=(blk_cell BK278.out 2).trans rfl;have hcz15_3:w14.cell? ⟨gb278,3,none⟩=some (.int .i64 a1_3):=(blk_cell BK278.out 3).trans rfl;have hfz15_0:=blk_frozen BK278.out 0;have hfz15_1:=blk_frozen BK278.out 1;have hfz15_2:=blk_frozen BK278.out 2;have hfz15_3:=blk_frozen BK278.out 3))
    go_ret
    exact ⟨by first|rfl|(simp [errW_none,errW_some] <;> rfl)|(simp [*,errW_none,errW_some] <;> rfl),by repeat (first|(with_reducible first|exact HB.out|apply below_alloc|apply pw_below_drewN|apply below_drew1|refine below_set ?_ GE278.out)|exact HB.out)⟩
   ·rw [if_neg c13] at H
    have c13b0:(a3 == 3)=false:=beq_eq_false_iff_ne.mpr c13
    have c13b1:(a3 != 3)=true:=bne_iff_ne.mpr c13
    by_cases c16:a3=4
    ·rw [if_pos c16] at H
     have c16b0:(a3 == 4)=true:=beq_iff_eq.mpr c16
     have c16b1:(a3 != 4)=false:=bne_eq_false_iff_eq.mpr c16
     clear c16
     by_cases c17:a4=true
     ·subst c17
      have H1:(some (wrap64 (a2 - a1_3)))=some r:=by rw [if_pos rfl] at H;exact H
      clear H
      have H:=H1
      clear H1
      obtain rfl:=Option.some.inj H
      go_enter Try.func164,Try.ntmps164
      go_wp2_with (first|((with_reducible refine gate_dst (N:=6) rfl ?_);refine box_event ?hg (N:=6) ?hd (cs:=#[.int .i64 a1_0,.int .i64 a1_1,.int .i64 a1_2,.int .i64 a1_3]) (t:=47) ?hr ?_;(case hd=>rfl);(case hg=>rfl);(case hr=>first|(go_simp;done)|(go_simp;rfl));intro gb278 hg w18 hbox hb;have n0_:=Aside0.mk (below_step (by repeat (first|(with_reducible first|exact HB.out|apply below_alloc|apply pw_below_drewN|apply below_drew1)|exact HB.out)) hb);have n1_:=Aside0.mk (hbox);have n2_:=Aside0.mk ((by rw [hg];exact (below_size (by repeat (first|(with_reducible first|exact HB.out|apply below_alloc|apply pw_below_drewN|apply below_drew1)|exact HB.out))):w.heap.size≤gb278));have n3_:=Aside0.mk ((by rw [hg];exact (below_size (by repeat (first|(with_reducible first|exact HB.out|apply below_alloc|apply pw_below_drewN|apply below_drew1)|exact HB.out))):w.heap.size≤gb278));clear HB;have HB:=n0_;have BK278:=n1_;have GW278:=n2_;have GE278:=n3_;clear n0_ n1_ n2_ n3_;clear hb hbox hg;have hcz19_0:w18.cell? ⟨gb278,0,none⟩=some (.int .i64 a1_0):=(blk_cell BK278.out 0).trans rfl;have hcz19_1:w18.cell? ⟨gb278,1,none⟩=some (.int .i64 a1_1):=(blk_cell BK278.out 1).trans rfl;have hcz19_2:w18.cell? ⟨gb278,2,none⟩=some (.int .i64 a1_2):=(blk_cell BK278.out 2).trans rfl;have hcz19_3:w18.cell? ⟨gb278,3,none⟩=some (.int .i64 a1_3):=(blk_cell BK278.out 3).trans rfl;have hfz19_0:=blk_frozen BK278.out 0;have hfz19_1:=blk_frozen BK278.out 1;have hfz19_2:=blk_frozen BK278.out 2;have hfz19_3:=blk_frozen BK278.out 3))
      go_ret
      exact ⟨by first|rfl|(simp [errW_none,errW_some] <;> rfl)|(simp [*,errW_none,errW_some] <;> rfl),by repeat (first|(with_reducible first|exact HB.out|apply below_alloc|apply pw_below_drewN|apply below_drew1|refine below_set ?_ GE278.out)|exact HB.out)⟩
     ·replace c17:=Bool.eq_false_iff.mpr c17
      subst c17
      have H1:(some (mx a0 (wrap64 (a2 - a1_3))))=some r:=by rw [if_neg (show ¬ (false=true) by decide)] at H;exact H
      clear H
      have H:=H1
      clear H1
      obtain ⟨ji20,hji20⟩:∃ j_:Int,(mx a0 (wrap64 (a2 - a1_3)))=j_:=⟨_,rfl⟩
      replace H:(some ji20)=some r:=by first|(rw [hji20] at H;exact H)|(simp only [hji20] at H ⊢;exact H)
      have hji20_:(if a0<(wrap64 (a2 - a1_3)) then (wrap64 (a2 - a1_3)) else a0)=ji20:=hji20
      obtain rfl:=Option.some.inj H
      go_enter Try.func164,Try.ntmps164
      go_wp2_with (first|((with_reducible refine gate_dst (N:=6) rfl ?_);refine box_event ?hg (N:=6) ?hd (cs:=#[.int .i64 a1_0,.int .i64 a1_1,.int .i64 a1_2,.int .i64 a1_3]) (t:=47) ?hr ?_;(case hd=>rfl);(case hg=>rfl);(case hr=>first|(go_simp;done)|(go_simp;rfl));intro gb278 hg w21 hbox hb;have n0_:=Aside0.mk (below_step (by repeat (first|(with_reducible first|exact HB.out|apply below_alloc|apply pw_below_drewN|apply below_drew1)|exact HB.out)) hb);have n1_:=Aside0.mk (hbox);have n2_:=Aside0.mk ((by rw [hg];exact (below_size (by repeat (first|(with_reducible first|exact HB.out|apply below_alloc|apply pw_below_drewN|apply below_drew1)|exact HB.out))):w.heap.size≤gb278));have n3_:=Aside0.mk ((by rw [hg];exact (below_size (by repeat (first|(with_reducible first|exact HB.out|apply below_alloc|apply pw_below_drewN|apply below_drew1)|exact HB.out))):w.heap.size≤gb278));clear HB;have HB:=n0_;have BK278:=n1_;have GW278:=n2_;have GE278:=n3_;clear n0_ n1_ n2_ n3_;clear hb hbox hg;have hcz22_0:w21.cell? ⟨gb278,0,none⟩=some (.int .i64 a1_0):=(blk_cell BK278.out 0).trans rfl;have hcz22_1:w21.cell? ⟨gb278,1,none⟩=some (.int .i64 a1_1):=(blk_cell BK278.out 1).trans rfl;have hcz22_2:w21.cell? ⟨gb278,2,none⟩=some (.int .i64 a1_2):=(blk_cell BK278.out 2).trans rfl;have hcz22_3:w21.cell? ⟨gb278,3,none⟩=some (.int .i64 a1_3):=(blk_cell BK278.out 3).trans rfl;have hfz22_0:=blk_frozen BK278.out 0;have hfz22_1:=blk_frozen BK278.out 1;have hfz22_2:=blk_frozen BK278.out 2;have hfz22_3:=blk_frozen BK278.out 3))
      go_ret
      exact ⟨by first|rfl|(simp [errW_none,errW_some] <;> rfl)|(simp only [←hji20];first|rfl|(simp [errW_none,errW_some] <;> rfl))|(simp [*,errW_none,errW_some] <;> rfl),by repeat (first|(with_reducible first|exact HB.out|apply below_alloc|apply pw_below_drewN|apply below_drew1|refine below_set ?_ GE278.out)|exact HB.out)⟩
    ·rw [if_neg c16] at H
     have c16b0:(a3 == 4)=false:=beq_eq_false_iff_ne.mpr c16
     have c16b1:(a3 != 4)=true:=bne_iff_ne.mpr c16
     by_cases c23:a3=5
     ·rw [if_pos c23] at H
      have c23b0:(a3 == 5)=true:=beq_iff_eq.mpr c23
      have c23b1:(a3 != 5)=false:=bne_eq_false_iff_eq.mpr c23
      clear c23
      obtain ⟨ji24,hji24⟩:∃ j_:Int,(mx 0 (wrap64 (a2 - a1_3)))=j_:=⟨_,rfl⟩
      replace H:(some (wrap64 (a0 + (ji24))))=some r:=by first|(rw [hji24] at H;exact H)|(simp only [hji24] at H ⊢;exact H)
      (try (have hji24l:0≤ji24:=by (rw [←hji24];unfold mx;(repeat' split) <;> omega)))
      (try (have hji24m:0≤ji24:=by omega))
      have hji24_:(if 0<(wrap64 (a2 - a1_3)) then (wrap64 (a2 - a1_3)) else 0)=ji24:=hji24
      obtain rfl:=Option.some.inj H
      go_enter Try.func164,Try.ntmps164
      go_wp2_with (first|((with_reducible refine gate_dst (N:=6) rfl ?_);refine box_event ?hg (N:=6) ?hd (cs:=#[.int .i64 a1_0,.int .i64 a1_1,.int .i64 a1_2,.int .i64 a1_3]) (t:=47) ?hr ?_;(case hd=>rfl);(case hg=>rfl);(case hr=>first|(go_simp;done)|(go_simp;rfl));intro gb278 hg w25 hbox hb;have n0_:=Aside0.mk (below_step (by repeat (first|(with_reducible first|exact HB.out|apply below_alloc|apply pw_below_drewN|apply below_drew1)|exact HB.out)) hb);have n1_:=Aside0.mk (hbox);have n2_:=Aside0.mk ((by rw [hg];exact (below_size (by repeat (first|(with_reducible first|exact HB.out|apply below_alloc|apply pw_below_drewN|apply below_drew1)|exact HB.out))):w.heap.size≤gb278));have n3_:=Aside0.mk ((by rw [hg];exact (below_size (by repeat (first|(with_reducible first|exact HB.out|apply below_alloc|apply pw_below_drewN|apply below_drew1)|exact HB.out))):w.heap.size≤gb278));clear HB;have HB:=n0_;have BK278:=n1_;have GW278:=n2_;have GE278:=n3_;clear n0_ n1_ n2_ n3_;clear hb hbox hg;have hcz26_0:w25.cell? ⟨gb278,0,none⟩=some (.int .i64 a1_0):=(blk_cell BK278.out 0).trans rfl;have hcz26_1:w25.cell? ⟨gb278,1,none⟩=some (.int .i64 a1_1):=(blk_cell BK278.out 1).trans rfl;have hcz26_2:w25.cell? ⟨gb278,2,none⟩=some (.int .i64 a1_2):=(blk_cell BK278.out 2).trans rfl;have hcz26_3:w25.cell? ⟨gb278,3,none⟩=some (.int .i64 a1_3):=(blk_cell BK278.out 3).trans rfl;have hfz26_0:=blk_frozen BK278.out 0;have hfz26_1:=blk_frozen BK278.out 1;have hfz26_2:=blk_frozen BK278.out 2;have hfz26_3:=blk_frozen BK278.out 3))
      go_ret
      exact ⟨by first|rfl|(simp [errW_none,errW_some] <;> rfl)|(simp only [←hji24];first|rfl|(simp [errW_none,errW_some] <;> rfl))|(simp [*,errW_none,errW_some] <;> rfl),by repeat (first|(with_reducible first|exact HB.out|apply below_alloc|apply pw_below_drewN|apply below_drew1|refine below_set ?_ GE278.out)|exact HB.out)⟩
     ·rw [if_neg c23] at H
      have c23b0:(a3 == 5)=false:=beq_eq_false_iff_ne.mpr c23
      have c23b1:(a3 != 5)=true:=bne_iff_ne.mpr c23
      by_cases c27:a3=6
      ·rw [if_pos c27] at H
       have c27b0:(a3 == 6)=true:=beq_iff_eq.mpr c27
       have c27b1:(a3 != 6)=false:=bne_eq_false_iff_eq.mpr c27
       clear c27
       obtain ⟨ji28,hji28⟩:∃ j_:Int,(mx 0 (wrap64 (a2 - a1_3)))=j_:=⟨_,rfl⟩
       replace H:(some (wrap64 (a0 + (wrap64 (a1_1 * (ji28))))))=some r:=by first|(rw [hji28] at H;exact H)|(simp only [hji28] at H ⊢;exact H)
       (try (have hji28l:0≤ji28:=by (rw [←hji28];unfold mx;(repeat' split) <;> omega)))
       (try (have hji28m:0≤ji28:=by omega))
       have hji28_:(if 0<(wrap64 (a2 - a1_3)) then (wrap64 (a2 - a1_3)) else 0)=ji28:=hji28
       obtain rfl:=Option.some.inj H
       go_enter Try.func164,Try.ntmps164
       go_wp2_with (first|((with_reducible refine gate_dst (N:=6) rfl ?_);refine box_event ?hg (N:=6) ?hd (cs:=#[.int .i64 a1_0,.int .i64 a1_1,.int .i64 a1_2,.int .i64 a1_3]) (t:=47) ?hr ?_;(case hd=>rfl);(case hg=>rfl);(case hr=>first|(go_simp;done)|(go_simp;rfl));intro gb278 hg w29 hbox hb;have n0_:=Aside0.mk (below_step (by repeat (first|(with_reducible first|exact HB.out|apply below_alloc|apply pw_below_drewN|apply below_drew1)|exact HB.out)) hb);have n1_:=Aside0.mk (hbox);have n2_:=Aside0.mk ((by rw [hg];exact (below_size (by repeat (first|(with_reducible first|exact HB.out|apply below_alloc|apply pw_below_drewN|apply below_drew1)|exact HB.out))):w.heap.size≤gb278));have n3_:=Aside0.mk ((by rw [hg];exact (below_size (by repeat (first|(with_reducible first|exact HB.out|apply below_alloc|apply pw_below_drewN|apply below_drew1)|exact HB.out))):w.heap.size≤gb278));clear HB;have HB:=n0_;have BK278:=n1_;have GW278:=n2_;have GE278:=n3_;clear n0_ n1_ n2_ n3_;clear hb hbox hg;have hcz30_0:w29.cell? ⟨gb278,0,none⟩=some (.int .i64 a1_0):=(blk_cell BK278.out 0).trans rfl;have hcz30_1:w29.cell? ⟨gb278,1,none⟩=some (.int .i64 a1_1):=(blk_cell BK278.out 1).trans rfl;have hcz30_2:w29.cell? ⟨gb278,2,none⟩=some (.int .i64 a1_2):=(blk_cell BK278.out 2).trans rfl;have hcz30_3:w29.cell? ⟨gb278,3,none⟩=some (.int .i64 a1_3):=(blk_cell BK278.out 3).trans rfl;have hfz30_0:=blk_frozen BK278.out 0;have hfz30_1:=blk_frozen BK278.out 1;have hfz30_2:=blk_frozen BK278.out 2;have hfz30_3:=blk_frozen BK278.out 3))
       go_ret
       exact ⟨by first|rfl|(simp [errW_none,errW_some] <;> rfl)|(simp only [←hji28];first|rfl|(simp [errW_none,errW_some] <;> rfl))|(simp [*,errW_none,errW_some] <;> rfl),by repeat (first|(with_reducible first|exact HB.out|apply below_alloc|apply pw_below_drewN|apply below_drew1|refine below_set ?_ GE278.out)|exact HB.out)⟩
      ·rw [if_neg c27] at H
       have c27b0:(a3 == 6)=false:=beq_eq_false_iff_ne.mpr c27
       have c27b1:(a3 != 6)=true:=bne_iff_ne.mpr c27
       by_cases c31:(wrap64 (a2 - a1_3))≤0
       ·rw [if_pos c31] at H
        have c31b0:decide ((wrap64 (a2 - a1_3))≤0)=true:=decide_eq_true c31
        clear c31
        obtain rfl:=Option.some.inj H
        go_enter Try.func164,Try.ntmps164
        go_wp2_with (first|((with_reducible refine gate_dst (N:=6) rfl ?_);refine box_event ?hg (N:=6) ?hd (cs:=#[.int .i64 a1_0,.int .i64 a1_1,.int .i64 a1_2,.int .i64 a1_3]) (t:=47) ?hr ?_;(case hd=>rfl);(case hg=>rfl);(case hr=>first|(go_simp;done)|(go_simp;rfl));intro gb278 hg w32 hbox hb;have n0_:=Aside0.mk (below_step (by repeat (first|(with_reducible first|exact HB.out|apply below_alloc|apply pw_below_drewN|apply below_drew1)|exact HB.out)) hb);have n1_:=Aside0.mk (hbox);have n2_:=Aside0.mk ((by rw [hg];exact (below_size (by repeat (first|(with_reducible first|exact HB.out|apply below_alloc|apply pw_below_drewN|apply below_drew1)|exact HB.out))):w.heap.size≤gb278));have n3_:=Aside0.mk ((by rw [hg];exact (below_size (by repeat (first|(with_reducible first|exact HB.out|apply below_alloc|apply pw_below_drewN|apply below_drew1)|exact HB.out))):w.heap.size≤gb278));clear HB;have HB:=n0_;have BK278:=n1_;have GW278:=n2_;have GE278:=n3_;clear n0_ n1_ n2_ n3_;clear hb hbox hg;have hcz33_0:w32.cell? ⟨gb278,0,none⟩=some (.int .i64 a1_0):=(blk_cell BK278.out 0).trans rfl;have hcz33_1:w32.cell? ⟨gb278,1,none⟩=some (.int .i64 a1_1):=(blk_cell BK278.out 1).trans rfl;have hcz33_2:w32.cell? ⟨gb278,2,none⟩=some (.int .i64 a1_2):=(blk_cell BK278.out 2).trans rfl;have hcz33_3:w32.cell? ⟨gb278,3,none⟩=some (.int .i64 a1_3):=(blk_cell BK278.out 3).trans rfl;have hfz33_0:=blk_frozen BK278.out 0;have hfz33_1:=blk_frozen BK278.out 1;have hfz33_2:=blk_frozen BK278.out 2;have hfz33_3:=blk_frozen BK278.out 3))
        go_ret
        exact ⟨by first|rfl|(simp [errW_none,errW_some] <;> rfl)|(simp [*,errW_none,errW_some] <;> rfl),by repeat (first|(with_reducible first|exact HB.out|apply below_alloc|apply pw_below_drewN|apply below_drew1|refine below_set ?_ GE278.out)|exact HB.out)⟩
       ·rw [if_neg c31] at H
        have c31b0:decide ((wrap64 (a2 - a1_3))≤0)=false:=decide_eq_false c31
        clear c31
        by_cases c34:a3=7
        ·rw [if_pos c34] at H
         have c34b0:(a3 == 7)=true:=beq_iff_eq.mpr c34
         have c34b1:(a3 != 7)=false:=bne_eq_false_iff_eq.mpr c34
         clear c34
         obtain rfl:=Option.some.inj H
         go_enter Try.func164,Try.ntmps164
         go_wp2_with (first|((with_reducible refine gate_dst (N:=6) rfl ?_);refine box_event ?hg (N:=6) ?hd (cs:=#[.int .i64 a1_0,.int .i64 a1_1,.int .i64 a1_2,.int .i64 a1_3]) (t:=47) ?hr ?_;(case hd=>rfl);(case hg=>rfl);(case hr=>first|(go_simp;done)|(go_simp;rfl));intro gb278 hg w35 hbox hb;have n0_:=Aside0.mk (below_step (by repeat (first|(with_reducible first|exact HB.out|apply below_alloc|apply pw_below_drewN|apply below_drew1)|exact HB.out)) hb);have n1_:=Aside0.mk (hbox);have n2_:=Aside0.mk ((by rw [hg];exact (below_size (by repeat (first|(with_reducible first|exact HB.out|apply below_alloc|apply pw_below_drewN|apply below_drew1)|exact HB.out))):w.heap.size≤gb278));have n3_:=Aside0.mk ((by rw [hg];exact (below_size (by repeat (first|(with_reducible first|exact HB.out|apply below_alloc|apply pw_below_drewN|apply below_drew1)|exact HB.out))):w.heap.size≤gb278));clear HB;have HB:=n0_;have BK278:=n1_;have GW278:=n2_;have GE278:=n3_;clear n0_ n1_ n2_ n3_;clear hb hbox hg;have hcz36_0:w35.cell? ⟨gb278,0,none⟩=some (.int .i64 a1_0):=(blk_cell BK278.out 0).trans rfl;have hcz36_1:w35.cell? ⟨gb278,1,none⟩=some (.int .i64 a1_1):=(blk_cell BK278.out 1).trans rfl;have hcz36_2:w35.cell? ⟨gb278,2,none⟩=some (.int .i64 a1_2):=(blk_cell BK278.out 2).trans rfl;have hcz36_3:w35.cell? ⟨gb278,3,none⟩=some (.int .i64 a1_3):=(blk_cell BK278.out 3).trans rfl;have hfz36_0:=blk_frozen BK278.out 0;have hfz36_1:=blk_frozen BK278.out 1;have hfz36_2:=blk_frozen BK278.out 2;have hfz36_3:=blk_frozen BK278.out 3))
         go_ret
         exact ⟨by first|rfl|(simp [errW_none,errW_some] <;> rfl)|(simp [*,errW_none,errW_some] <;> rfl),by repeat (first|(with_reducible first|exact HB.out|apply below_alloc|apply pw_below_drewN|apply below_drew1|refine below_set ?_ GE278.out)|exact HB.out)⟩
        ·rw [if_neg c34] at H
         have c34b0:(a3 == 7)=false:=beq_eq_false_iff_ne.mpr c34
         have c34b1:(a3 != 7)=true:=bne_iff_ne.mpr c34
         obtain rfl:=Option.some.inj H
         go_enter Try.func164,Try.ntmps164
         go_wp2_with (first|((with_reducible refine gate_dst (N:=6) rfl ?_);refine box_event ?hg (N:=6) ?hd (cs:=#[.int .i64 a1_0,.int .i64 a1_1,.int .i64 a1_2,.int .i64 a1_3]) (t:=47) ?hr ?_;(case hd=>rfl);(case hg=>rfl);(case hr=>first|(go_simp;done)|(go_simp;rfl));intro gb278 hg w37 hbox hb;have n0_:=Aside0.mk (below_step (by repeat (first|(with_reducible first|exact HB.out|apply below_alloc|apply pw_below_drewN|apply below_drew1)|exact HB.out)) hb);have n1_:=Aside0.mk (hbox);have n2_:=Aside0.mk ((by rw [hg];exact (below_size (by repeat (first|(with_reducible first|exact HB.out|apply below_alloc|apply pw_below_drewN|apply below_drew1)|exact HB.out))):w.heap.size≤gb278));have n3_:=Aside0.mk ((by rw [hg];exact (below_size (by repeat (first|(with_reducible first|exact HB.out|apply below_alloc|apply pw_below_drewN|apply below_drew1)|exact HB.out))):w.heap.size≤gb278));clear HB;have HB:=n0_;have BK278:=n1_;have GW278:=n2_;have GE278:=n3_;clear n0_ n1_ n2_ n3_;clear hb hbox hg;have hcz38_0:w37.cell? ⟨gb278,0,none⟩=some (.int .i64 a1_0):=(blk_cell BK278.out 0).trans rfl;have hcz38_1:w37.cell? ⟨gb278,1,none⟩=some (.int .i64 a1_1):=(blk_cell BK278.out 1).trans rfl;have hcz38_2:w37.cell? ⟨gb278,2,none⟩=some (.int .i64 a1_2):=(blk_cell BK278.out 2).trans rfl;have hcz38_3:w37.cell? ⟨gb278,3,none⟩=some (.int .i64 a1_3):=(blk_cell BK278.out 3).trans rfl;have hfz38_0:=blk_frozen BK278.out 0;have hfz38_1:=blk_frozen BK278.out 1;have hfz38_2:=blk_frozen BK278.out 2;have hfz38_3:=blk_frozen BK278.out 3))
         go_ret
         exact ⟨by first|rfl|(simp [errW_none,errW_some] <;> rfl)|(simp [*,errW_none,errW_some] <;> rfl),by repeat (first|(with_reducible first|exact HB.out|apply below_alloc|apply pw_below_drewN|apply below_drew1|refine below_set ?_ GE278.out)|exact HB.out)⟩

/-! ### impl_valueOfEnds: function 156 -/
def impl_valueOfEnds.l0:Nat→List Int→Int→Int→List (S47)→Int→Int→Option (Int)
 | 0,_,_,_,_,_,_=>none
 | k + 1,x1,x2,x7,x10,x11,x12=>if x12<x11 then (if 0≤x12 then (if x12<(x10.length:Int) then (if x12<(x1.length:Int) then ((impl_add.f x7 ((rd_T47 x10 x12).f0) ((rd_T47 x10 x12).f1) ((rd_T47 x10 x12).f2) ((rd_T47 x10 x12).f3) (rd x1 x12) x2 (x12 == 0)).bind fun t282=>(impl_valueOfEnds.l0 k x1 x2 t282 x10 x11 (wrap64 (x12 + 1)))) else (none)) else (none)) else (none)) else (some x7)
def impl_valueOfEnds.f (k:Nat) (l0:List (S47)) (l1:List Int) (a2:Int):Option (Int):=impl_valueOfEnds.l0 k l1 a2 0 l0 (l0.length:Int) 0
theorem impl_valueOfEnds.mono_l:∀ k,(∀ y0 y1 y2 y3 y4 y5,LeO (impl_valueOfEnds.l0 k y0 y1 y2 y3 y4 y5) (impl_valueOfEnds.l0 (k + 1) y0 y1 y2 y3 y4 y5))
 | 0=>fun _ _ _ _ _ _ r h=>by simp [impl_valueOfEnds.l0] at h
 | k + 1=>by
  have ih0:=impl_valueOfEnds.mono_l k
  ·intro y0 y1 y2 y3 y4 y5
   unfold impl_valueOfEnds.l0
   repeat' first
   | (with_reducible exact ih0 _ _ _ _ _ _)
   | (with_reducible exact LeO.refl _)
   | (with_reducible exact LeO.none _)
   | (with_reducible refine LeO.ite ?_ ?_)
   | (with_reducible refine LeO.bind ?_ (fun _=>?_))
   | exact ih0 _ _ _ _ _ _
   | exact LeO.none _
   | refine LeO.ite ?_ ?_
   | refine LeO.bind ?_ (fun _=>?_)
theorem impl_valueOfEnds.mono:∀ a0 a1 a2 k,LeO (impl_valueOfEnds.f k a0 a1 a2) (impl_valueOfEnds.f (k + 1) a0 a1 a2):=by
 intro a0 a1 a2 k
 have ih0:=impl_valueOfEnds.mono_l k
 unfold impl_valueOfEnds.f
 repeat' first
   | (with_reducible exact ih0 _ _ _ _ _ _)
   | (with_reducible exact LeO.refl _)
   | (with_reducible exact LeO.none _)
   | (with_reducible refine LeO.ite ?_ ?_)
   | (with_reducible refine LeO.bind ?_ (fun _=>?_))
   | exact ih0 _ _ _ _ _ _
   | exact LeO.none _
   | refine LeO.ite ?_ ?_
   | refine LeO.bind ?_ (fun _=>?_)
def impl_valueOfEnds.T5:Bool × List (List Nat × List Nat):=(true,[([],[]),([],[]),([],[]),([],[]),([2,3],[2,3]),([4],[4]),([],[]),([],[]),([7],[7]),([0,1,5,6,8],[0,1,5,6,8]),([9,9,0,1,2,3,4,5,6,7,8,9],[0,9])])
def impl_valueOfEnds.B5:List Nat:=[0,0,0,0,12,28,0,0,128,511,1023]
theorem impl_valueOfEnds.tab5:rtab .any (opsOf Try.f156 5)=impl_valueOfEnds.T5:=by kernel_rfl
theorem impl_valueOfEnds.bits5:waitsOk impl_valueOfEnds.T5.2 impl_valueOfEnds.B5=true:=by kernel_rfl
set_option maxHeartbeats 8000000 in
set_option maxRecDepth 100000 in
theorem impl_valueOfEnds.calls (k:Nat) (A0:Option Addr) (c0:Nat) (l0:List (S47)) (A1:Option Addr) (c1:Nat) (l1:List Int) (a2:Int) (r:Int) (w:World) (hr0:Kd.C k47 w A0 l0.length l0) (hc0:l0.length≤c0) (hr1:Kd.C (Kd.int .i64) w A1 l1.length l1) (hc1:l1.length≤c1) (h:impl_valueOfEnds.f k l0 l1 a2=some r) :
  Calls Try.prog 156 #[.slice A0 l0.length c0,.slice A1 l1.length c1,.int .i64 a2] w fun e w'=>e=.returned (.int .i64 r)∧Below w.heap.size w w':=by
 have hu47:=Try.underlying47
 have HR0:=Aside0.mk hr0
 have HC0:=Aside0.mk hc0
 clear hr0 hc0
 have HR1:=Aside0.mk hr1
 have HC1:=Aside0.mk hc1
 clear hr1 hc1
 have HB:=Aside0.mk (Below.refl w.heap.size w)
 have H:(impl_valueOfEnds.l0 k l1 a2 0 l0 (l0.length:Int) 0)=some r:=h
 clear h
 have H':=Aside0.mk H
 clear H
 go_enter Try.func156,Try.ntmps156
 go_wp2
 go_loopg [7,12] k (fun kq v7 v12 w'=>∃ (x7_1:Int) (x12_1:Int),v7=.int .i64 x7_1∧v12=.int .i64 x12_1∧Aside0 (impl_valueOfEnds.l0 kq l1 a2 x7_1 l0 (l0.length:Int) x12_1=some r)∧Aside0 (kq≤k)∧Aside0 (Below w.heap.size w w'))
 case atStart=>exact ⟨(0),(0),(by first|rfl|(simp;done)|(simp [*];done)),(by first|rfl|(simp;done)|(simp [*];done)),H',⟨Nat.le_refl _⟩,⟨by repeat (first|(with_reducible first|exact HB.out|apply below_alloc|apply pw_below_drewN|apply below_drew1)|exact HB.out)⟩⟩
 case round=>
  clear H'
  try clear c1
  try clear p2
  obtain ⟨x7_1,x12_1,rfl,rfl,HA,HK1,HB⟩:=hrel
  cases gk with
  | zero=>exact absurd HA.out (by simp [impl_valueOfEnds.l0])
  | succ k1=>
   have H:=HA.out
   clear HA
   simp only [impl_valueOfEnds.l0] at H
   by_cases c4:x12_1<(l0.length:Int)
   ·rw [if_pos c4] at H
    have c4b0:decide (x12_1<(l0.length:Int))=true:=decide_eq_true c4
    clear c4
    by_cases c5:0≤x12_1
    ·rw [if_pos c5] at H
     have c5b0:decide (0≤x12_1)=true:=decide_eq_true c5
     clear c5
     by_cases c6:x12_1<(l0.length:Int)
     ·rw [if_pos c6] at H
      have c6b0:decide (x12_1<(l0.length:Int))=true:=decide_eq_true c6
      clear c6
      by_cases c7:x12_1<(l1.length:Int)
      ·rw [if_pos c7] at H
       have c7b0:decide (x12_1<(l1.length:Int))=true:=decide_eq_true c7
       clear c7
       replace H:=Option.bind_eq_some_iff.mp H
       obtain ⟨t282,A80,H⟩:=H
       replace H:(impl_valueOfEnds.l0 k1 l1 a2 t282 l0 (l0.length:Int) (wrap64 (x12_1 + 1)))=some r:=H
       have A8:=Aside0.mk A80
       clear A80
       have H':=Aside0.mk H
       clear H
       have p279:0≤(x12_1:Int):=of_decide_eq_true (by first|(with_reducible assumption)|assumption)
       have q279:x12_1<(l0.length:Int):=of_decide_eq_true (by first|(with_reducible assumption)|assumption)
       obtain ⟨ad279,e279,hx279_0,hx279_1,hx279_2,hx279_3⟩:=at_T47 HR0.out x12_1 p279 q279
       cases e279
       replace hx279_0:=(HB.out.cell (World.block_lt_of_cell? w _ hx279_0)).trans hx279_0
       replace hx279_1:=(HB.out.cell (World.block_lt_of_cell? w _ hx279_1)).trans hx279_1
       replace hx279_2:=(HB.out.cell (World.block_lt_of_cell? w _ hx279_2)).trans hx279_2
       replace hx279_3:=(HB.out.cell (World.block_lt_of_cell? w _ hx279_3)).trans hx279_3
       replace p279:=eq_true p279
       replace q279:=eq_true q279
       try go_wp2_with (first|((with_reducible refine gate_dst (N:=9) rfl ?_);refine box_event ?hg (N:=9) ?hd (cs:=#[.int .i64 0,.int .i64 0,.int .i64 0,.int .i64 0]) (t:=47) ?hr ?_;(case hd=>rfl);(case hg=>rfl);(case hr=>first|(go_simp;done)|(go_simp;rfl));intro gb280 hg w9 hbox hb;have n0_:=Aside0.mk (below_step (by repeat (first|(with_reducible first|exact HB.out|apply below_alloc|apply pw_below_drewN|apply below_drew1)|exact HB.out)) hb);have n1_:=Aside0.mk (hbox);have n2_:=Aside0.mk ((by rw [hg];exact (below_size (by repeat (first|(with_reducible first|exact HB.out|apply below_alloc|apply pw_below_drewN|apply below_drew1)|exact HB.out))):w.heap.size≤gb280));have n3_:=Aside0.mk ((by rw [hg];exact (below_size (by repeat (first|(with_reducible first|exact HB.out|apply below_alloc|apply pw_below_drewN|apply below_drew1)|exact HB.out))):w.heap.size≤gb280));clear HB;have HB:=n0_;have BK280:=n1_;have GW280:=n2_;have GE280:=n3_;clear n0_ n1_ n2_ n3_;clear hb hbox hg;have hcz10_0:w9.cell? ⟨gb280,0,none⟩=some (.int .i64 0):=(blk_cell BK280.out 0).trans rfl;have hcz10_1:w9.cell? ⟨gb280,1,none⟩=some (.int .i64 0):=(blk_cell BK280.out 1).trans rfl;have hcz10_2:w9.cell? ⟨gb280,2,none⟩=some (.int .i64 0):=(blk_cell BK280.out 2).trans rfl;have hcz10_3:w9.cell? ⟨gb280,3,none⟩=some (.int .i64 0):=(blk_cell BK280.out 3).trans rfl;have hfz10_0:=blk_frozen BK280.out 0;have hfz10_1:=blk_frozen BK280.out 1;have hfz10_2:=blk_frozen BK280.out 2;have hfz10_3:=blk_frozen BK280.out 3))
       have n0_:Aside0 (((((w9.setCell ⟨gb280,0,none⟩ (.int .i64 ((rd_T47 l0 x12_1).f0))).setCell ⟨gb280,1,none⟩ (.int .i64 ((rd_T47 l0 x12_1).f1))).setCell ⟨gb280,2,none⟩ (.int .i64 ((rd_T47 l0 x12_1).f2))).setCell ⟨gb280,3,none⟩ (.int .i64 ((rd_T47 l0 x12_1).f3))).heap[gb280]?=some (.cells #[.int .i64 ((rd_T47 l0 x12_1).f0),.int .i64 ((rd_T47 l0 x12_1).f1),.int .i64 ((rd_T47 l0 x12_1).f2),.int .i64 ((rd_T47 l0 x12_1).f3)] 47 (0,0))):=⟨by (with_reducible repeat (first|refine blk_drewN ?_ _|refine blk_drew ?_|refine blk_alloc ?_ _));refine blk_put (cs:=#[.int .i64 ((rd_T47 l0 x12_1).f0),.int .i64 ((rd_T47 l0 x12_1).f1),.int .i64 ((rd_T47 l0 x12_1).f2),.int .i64 0]) ?_ 3 _ rfl;(with_reducible repeat (first|refine blk_drewN ?_ _|refine blk_drew ?_|refine blk_alloc ?_ _));refine blk_put (cs:=#[.int .i64 ((rd_T47 l0 x12_1).f0),.int .i64 ((rd_T47 l0 x12_1).f1),.int .i64 0,.int .i64 0]) ?_ 2 _ rfl;(with_reducible repeat (first|refine blk_drewN ?_ _|refine blk_drew ?_|refine blk_alloc ?_ _));refine blk_put (cs:=#[.int .i64 ((rd_T47 l0 x12_1).f0),.int .i64 0,.int .i64 0,.int .i64 0]) ?_ 1 _ rfl;(with_reducible repeat (first|refine blk_drewN ?_ _|refine blk_drew ?_|refine blk_alloc ?_ _));refine blk_put (cs:=#[.int .i64 0,.int .i64 0,.int .i64 0,.int .i64 0]) ?_ 0 _ rfl;(with_reducible repeat (first|refine blk_drewN ?_ _|refine blk_drew ?_|refine blk_alloc ?_ _));exact BK280.out⟩
       have n1_:Aside0 (Below w.heap.size w ((((w9.setCell ⟨gb280,0,none⟩ (.int .i64 ((rd_T47 l0 x12_1).f0))).setCell ⟨gb280,1,none⟩ (.int .i64 ((rd_T47 l0 x12_1).f1))).setCell ⟨gb280,2,none⟩ (.int .i64 ((rd_T47 l0 x12_1).f2))).setCell ⟨gb280,3,none⟩ (.int .i64 ((rd_T47 l0 x12_1).f3)))):=⟨by repeat (first|(with_reducible first|exact HB.out|apply below_alloc|apply pw_below_drewN|apply below_drew1|refine below_set ?_ GE280.out)|exact HB.out)⟩
       (try clear BK280)
       (try clear HB)
       (try simp only [show ∀ (W_:World) (n_:Nat) (a_:Addr) (v_:Value),(W_.drewN n_).setCell a_ v_=(W_.setCell a_ v_).drewN n_ from fun _ _ _ _=>rfl])
       generalize ((((w9.setCell ⟨gb280,0,none⟩ (.int .i64 ((rd_T47 l0 x12_1).f0))).setCell ⟨gb280,1,none⟩ (.int .i64 ((rd_T47 l0 x12_1).f1))).setCell ⟨gb280,2,none⟩ (.int .i64 ((rd_T47 l0 x12_1).f2))).setCell ⟨gb280,3,none⟩ (.int .i64 ((rd_T47 l0 x12_1).f3)))=w11 at n0_ n1_ ⊢
       have BK280:=n0_
       have HB:=n1_
       clear n0_ n1_
       have n0_:=Aside0.mk (blk_drew BK280.out)
       have n1_:=Aside0.mk (below_drew1 HB.out)
       clear BK280
       clear HB
       have BK280:=n0_
       have HB:=n1_
       clear n0_ n1_
       have p281:0≤(x12_1:Int):=of_decide_eq_true (by first|(with_reducible assumption)|assumption)
       have q281:x12_1<(l1.length:Int):=of_decide_eq_true (by first|(with_reducible assumption)|assumption)
       obtain ⟨ad281,e281,hx281_0⟩:=Kd.at_int HR1.out x12_1 p281 q281
       have hw281_0:=hx281_0
       cases e281
       replace hx281_0:=(HB.out.cell (World.block_lt_of_cell? w _ hx281_0)).trans hx281_0
       replace p281:=eq_true p281
       replace q281:=eq_true q281
       refine start_ (n:=11) (S:=fun w'=>w'.cell? ⟨gb280,0,none⟩=some (.int .i64 ((rd_T47 l0 x12_1).f0))∧w'.cell? ⟨gb280,1,none⟩=some (.int .i64 ((rd_T47 l0 x12_1).f1))∧w'.cell? ⟨gb280,2,none⟩=some (.int .i64 ((rd_T47 l0 x12_1).f2))∧w'.cell? ⟨gb280,3,none⟩=some (.int .i64 ((rd_T47 l0 x12_1).f3))∧w'.cell? (ad281.add (x12_1).toNat)=some (.int .i64 (rd l1 x12_1))) (ds:=[]) #[false,false,false,false,false,false,false,false,false,false,false] (by kernel_rfl) rfl rfl ⟨(blk_cell BK280.out 0).trans rfl,(blk_cell BK280.out 1).trans rfl,(blk_cell BK280.out 2).trans rfl,(blk_cell BK280.out 3).trans rfl,((HB.out.cell (World.block_lt_of_cell? w _ hw281_0)).trans hw281_0)⟩ (fun hHeld=>?_);refine with_tabW impl_valueOfEnds.tab5 impl_valueOfEnds.bits5 (fun HT_ HW_=>?_)
       generalize w11.drew=w12 at BK280 HB hx281_0 hHeld ⊢
       refine pure_ (i:=0) (N:=some 17) (v:=?_) (a':=?_) #[true,false,false,false,false,false,false,false,false,false,false] rfl rfl (any_of HT_.out (by kernel_rfl)) (fun _ _ _ h=>h) (Or.inl ⟨by rfl,?_⟩) ?_ ?_
       rotate_left
       ·intro w'
        go_simp
        with_reducible rfl
       rotate_left
       ·simp only [Act.put,List.setIfInBounds_toArray,List.set_cons_zero,List.set_cons_succ,i64_w,i32_w]
        rfl
       refine pure_ (i:=2) (N:=some 19) (v:=?_) (a':=?_) #[true,false,true,false,false,false,false,false,false,false,false] rfl rfl (any_of HT_.out (by kernel_rfl)) (fun _ _ _ h=>h) (Or.inl ⟨by rfl,?_⟩) ?_ ?_
       rotate_left
       ·intro w'
        go_simp
        with_reducible rfl
       rotate_left
       ·simp only [Act.put,List.setIfInBounds_toArray,List.set_cons_zero,List.set_cons_succ,i64_w,i32_w]
        rfl
       refine pure_ (i:=3) (N:=some 20) (v:=?_) (a':=?_) #[true,false,true,true,false,false,false,false,false,false,false] rfl rfl (any_of HT_.out (by kernel_rfl)) (fun _ _ _ h=>h) (Or.inl ⟨by rfl,?_⟩) ?_ ?_
       rotate_left
       ·intro w'
        go_simp
        with_reducible rfl
       rotate_left
       ·simp only [Act.put,List.setIfInBounds_toArray,List.set_cons_zero,List.set_cons_succ,i64_w,i32_w]
        rfl
       refine pure_ (i:=4) (N:=some 21) (v:=?_) (a':=?_) #[true,false,true,true,true,false,false,false,false,false,false] rfl rfl (any_of HT_.out (by kernel_rfl)) (fun _ _ _ h=>h) (Or.inl ⟨by rfl,?_⟩) ?_ ?_
       rotate_left
       ·intro w'
        go_simp
        with_reducible rfl
       rotate_left
       ·simp only [Act.put,List.setIfInBounds_toArray,List.set_cons_zero,List.set_cons_succ,i64_w,i32_w]
        rfl
       refine pure_ (i:=6) (N:=some 23) (v:=?_) (a':=?_) #[true,false,true,true,true,false,true,false,false,false,false] rfl rfl (any_of HT_.out (by kernel_rfl)) (fun _ _ _ h=>h) (Or.inl ⟨by rfl,?_⟩) ?_ ?_
       rotate_left
       ·intro w'
        go_simp
        with_reducible rfl
       rotate_left
       ·simp only [Act.put,List.setIfInBounds_toArray,List.set_cons_zero,List.set_cons_succ,i64_w,i32_w]
        rfl
       refine pure_ (i:=7) (N:=some 24) (v:=?_) (a':=?_) #[true,false,true,true,true,false,true,true,false,false,false] rfl rfl (any_of HT_.out (by kernel_rfl)) (fun _ _ _ h=>h) (Or.inl ⟨by rfl,?_⟩) ?_ ?_
       rotate_left
       ·intro w'
        go_simp
        with_reducible rfl
       rotate_left
       ·simp only [Act.put,List.setIfInBounds_toArray,List.set_cons_zero,List.set_cons_succ,i64_w,i32_w]
        rfl
       refine pure_ (i:=8) (N:=some 25) (v:=?_) (a':=?_) #[true,false,true,true,true,false,true,true,true,false,false] rfl rfl (any_of HT_.out (by kernel_rfl)) (fun _ _ _ h=>h) (Or.inl ⟨by rfl,?_⟩) ?_ ?_
       rotate_left
       ·intro w'
        go_simp
        with_reducible rfl
       rotate_left
       ·simp only [Act.put,List.setIfInBounds_toArray,List.set_cons_zero,List.set_cons_succ,i64_w,i32_w]
        rfl
       refine take_ (i:=1) (N:=some 18) (v:=?_) (a':=?_) #[true,true,true,true,true,false,true,true,true,false,false] rfl rfl (take_ofW HT_.out HW_.out (by kernel_rfl)) (fun _ _ _ h=>h) (Or.inl ⟨by rfl,?_⟩) hHeld ?_ ?_
       rotate_left
       ·rintro w' ⟨s0,s1,s2,s3,s4⟩
        go_simp
        with_reducible rfl
       rotate_left
       ·simp only [Act.put,List.setIfInBounds_toArray,List.set_cons_zero,List.set_cons_succ,i64_w,i32_w]
        rfl
       refine take_ (i:=5) (N:=some 22) (v:=?_) (a':=?_) #[true,true,true,true,true,true,true,true,true,false,false] rfl rfl (take_ofW HT_.out HW_.out (by kernel_rfl)) (fun _ _ _ h=>h) (Or.inl ⟨by rfl,?_⟩) hHeld ?_ ?_
       rotate_left
       ·rintro w' ⟨s0,s1,s2,s3,s4⟩
        go_simp
        with_reducible rfl
       rotate_left
       ·simp only [Act.put,List.setIfInBounds_toArray,List.set_cons_zero,List.set_cons_succ,i64_w,i32_w]
        rfl
       refine one_ (i:=9) (N:=some 26) #[true,true,true,true,true,true,true,true,true,true,false] rfl rfl (one_of HT_.out (by kernel_rfl)) (by decide) (fun K hK=>?_)
       refine goes_ Try.func164 (by kernel_rfl) rfl #[.int .i64 x7_1,.agg #[.int .i64 ((rd_T47 l0 x12_1).f0),.int .i64 ((rd_T47 l0 x12_1).f1),.int .i64 ((rd_T47 l0 x12_1).f2),.int .i64 ((rd_T47 l0 x12_1).f3)],.int .i64 (rd l1 x12_1),.int .i64 a2,.bool (x12_1 == 0)] (by rfl) rfl rfl (by (try simp only [List.map_toArray,List.map_cons,List.map_nil]);first|done|rfl|(simp only [List.length_drop,List.length_take];rfl)) ?_
       with_reducible refine (impl_add.calls x7_1 ((rd_T47 l0 x12_1).f0) ((rd_T47 l0 x12_1).f1) ((rd_T47 l0 x12_1).f2) ((rd_T47 l0 x12_1).f3) (rd l1 x12_1) a2 (x12_1 == 0) t282 _ A8.out).mono ?_
       rintro e w13 ⟨rfl,hb⟩
       refine ⟨_,rfl,?_⟩
       have n0_:=Aside0.mk (blk_below (g:=gb280) (o:=.cells #[.int .i64 ((rd_T47 l0 x12_1).f0),.int .i64 ((rd_T47 l0 x12_1).f1),.int .i64 ((rd_T47 l0 x12_1).f2),.int .i64 ((rd_T47 l0 x12_1).f3)] 47 (0,0)) (by (with_reducible repeat (first|refine blk_drewN ?_ _|refine blk_drew ?_|refine blk_alloc ?_ _));exact BK280.out) hb)
       have n1_:=Aside0.mk (below_step (by repeat (first|(with_reducible first|exact HB.out|apply below_alloc|apply pw_below_drewN|apply below_drew1|refine below_set ?_ GE280.out)|exact HB.out)) hb)
       clear BK280
       clear HB
       have BK280:=n0_
       have HB:=n1_
       clear n0_ n1_
       (try clear hb)
       (try clear hb2)
       (try clear hk)
       (try clear hi)
       refine hK.out _ _ ⟨(blk_cell BK280.out 0).trans rfl,(blk_cell BK280.out 1).trans rfl,(blk_cell BK280.out 2).trans rfl,(blk_cell BK280.out 3).trans rfl,((HB.out.cell (World.block_lt_of_cell? w _ hw281_0)).trans hw281_0)⟩ (fun hHeld=>?_)
       clear hK K
       refine norm_ (a':=?_) ?_ ?_
       rotate_left
       ·show Act.put _ (some 26) _=_
        simp only [Act.put,List.setIfInBounds_toArray,List.set_cons_zero,List.set_cons_succ,i64_w,i32_w]
        rfl
       refine pure_ (i:=10) (N:=some 7) (v:=?_) (a':=?_) #[true,true,true,true,true,true,true,true,true,true,true] rfl rfl (any_of HT_.out (by kernel_rfl)) (fun _ _ _ h=>h) (Or.inl ⟨by rfl,?_⟩) ?_ ?_
       rotate_left
       ·intro w'
        go_simp
        with_reducible rfl
       rotate_left
       ·simp only [Act.put,List.setIfInBounds_toArray,List.set_cons_zero,List.set_cons_succ,i64_w,i32_w]
        rfl
       refine done_ (done_of HT_.out (by kernel_rfl)) ?_
       try go_wp2
       go_roundg k1
       case measure=>have:=HK1.out;omega
       case rel=>exact ⟨(t282),(wrap64 (x12_1 + 1)),(by first|rfl|(simp;done)|(simp [*];done)),(by first|rfl|(simp;done)|(simp [*];done)),H',⟨by have:=HK1.out;omega⟩,⟨by repeat (first|(with_reducible first|exact HB.out|apply below_alloc|apply pw_below_drewN|apply below_drew1|refine below_set ?_ GE280.out)|exact HB.out)⟩⟩
      ·rw [if_neg c7] at H
       exact absurd H (by simp)
     ·rw [if_neg c6] at H
      exact absurd H (by simp)
    ·rw [if_neg c5] at H
     exact absurd H (by simp)
   ·rw [if_neg c4] at H
    have c4b0:decide (x12_1<(l0.length:Int))=false:=decide_eq_false c4
    clear c4
    obtain rfl:=Option.some.inj H
    go_wp2
    go_ret
    exact ⟨by first|rfl|(simp [errW_none,errW_some] <;> rfl)|(simp [*,errW_none,errW_some] <;> rfl),by repeat (first|(with_reducible first|exact HB.out|apply below_alloc|apply pw_below_drewN|apply below_drew1)|exact HB.out)⟩

/-! ### impl_pointOf: function 127 -/
def impl_pointOf.f (k:Nat) (l0:List (S47)) (l1:List Int) (a2:Int) (a3:Int):Option (Int × Int):=(impl_endsOf.f k l0 l1).bind fun t284=>((impl_valueOfEnds.f k l0 t284 a2).bind fun t287=>((impl_valueOfEnds.f k l0 t284 a3).bind fun t288=>(some (t287,t288))))
theorem impl_pointOf.mono:∀ a0 a1 a2 a3 k,LeO (impl_pointOf.f k a0 a1 a2 a3) (impl_pointOf.f (k + 1) a0 a1 a2 a3):=by
 intro a0 a1 a2 a3 k
 unfold impl_pointOf.f
 repeat' first
   | (with_reducible exact impl_endsOf.mono _ _ _)
   | (with_reducible exact impl_valueOfEnds.mono _ _ _ _)
   | (with_reducible exact LeO.refl _)
   | (with_reducible exact LeO.none _)
   | (with_reducible refine LeO.ite ?_ ?_)
   | (with_reducible refine LeO.bind ?_ (fun _=>?_))
   | exact impl_endsOf.mono _ _ _
   | exact impl_valueOfEnds.mono _ _ _ _
   | exact LeO.none _
   | refine LeO.ite ?_ ?_
   | refine LeO.bind ?_ (fun _=>?_)
set_option maxHeartbeats 8000000 in
set_option maxRecDepth 100000 in
theorem impl_pointOf.calls (k:Nat) (A0:Option Addr) (c0:Nat) (l0:List (S47)) (A1:Option Addr) (c1:Nat) (l1:List Int) (a2:Int) (a3:Int) (r1:Int) (r2:Int) (w:World) (hr0:Kd.C k47 w A0 l0.length l0) (hc0:l0.length≤c0) (hr1:Kd.C (Kd.int .i64) w A1 l1.length l1) (hc1:l1.length≤c1) (h:impl_pointOf.f k l0 l1 a2 a3=some (r1,r2)) :
  Calls Try.prog 127 #[.slice A0 l0.length c0,.slice A1 l1.length c1,.int .i64 a2,.int .i64 a3] w fun e w'=>e=.returned (.agg #[.int .i64 r1,.int .i64 r2])∧Below w.heap.size w w':=by
 have hu45:=Try.underlying45
 have HR0:=Aside0.mk hr0
 have HC0:=Aside0.mk hc0
 clear hr0 hc0
 have HR1:=Aside0.mk hr1
 have HC1:=Aside0.mk hc1
 clear hr1 hc1
 have HB:=Aside0.mk (Below.refl w.heap.size w)
 have H:((impl_endsOf.f k l0 l1).bind fun t284=>((impl_valueOfEnds.f k l0 t284 a2).bind fun t287=>((impl_valueOfEnds.f k l0 t284 a3).bind fun t288=>(some (t287,t288)))))=some (r1,r2):=h
 clear h
 replace H:=Option.bind_eq_some_iff.mp H
 obtain ⟨t284,A50,H⟩:=H
 replace H:((impl_valueOfEnds.f k l0 t284 a2).bind fun t287=>((impl_valueOfEnds.f k l0 t284 a3).bind fun t288=>(some (t287,t288))))=some (r1,r2):=H
 have A5:=Aside0.mk A50
 clear A50
 replace H:=Option.bind_eq_some_iff.mp H
 obtain ⟨t287,A60,H⟩:=H
 replace H:((impl_valueOfEnds.f k l0 t284 a3).bind fun t288=>(some (t287,t288)))=some (r1,r2):=H
 have A6:=Aside0.mk A60
 clear A60
 replace H:=Option.bind_eq_some_iff.mp H
 obtain ⟨t288,A70,H⟩:=H
 replace H:(some (t287,t288))=some (r1,r2):=H
 have A7:=Aside0.mk A70
 clear A70
 simp only [Option.some.injEq,Prod.mk.injEq] at H
 obtain ⟨rfl,rfl⟩:=H
 go_enter Try.func127,Try.ntmps127
 go_wp2_with (first|((with_reducible refine gate_dst (N:=8) rfl ?_);refine box_event ?hg (N:=8) ?hd (cs:=#[.int .i64 0,.int .i64 0]) (t:=45) ?hr ?_;(case hd=>rfl);(case hg=>rfl);(case hr=>first|(go_simp;done)|(go_simp;rfl));intro gb283 hg w8 hbox hb;have n0_:=Aside0.mk (below_step (by repeat (first|(with_reducible first|exact HB.out|apply below_alloc|apply pw_below_drewN|apply below_drew1)|exact HB.out)) hb);have n1_:=Aside0.mk (hbox);have n2_:=Aside0.mk ((by rw [hg];exact (below_size (by repeat (first|(with_reducible first|exact HB.out|apply below_alloc|apply pw_below_drewN|apply below_drew1)|exact HB.out))):w.heap.size≤gb283));have n3_:=Aside0.mk ((by rw [hg];exact (below_size (by repeat (first|(with_reducible first|exact HB.out|apply below_alloc|apply pw_below_drewN|apply below_drew1)|exact HB.out))):w.heap.size≤gb283));clear HB;have HB:=n0_;have BK283:=n1_;have GW283:=n2_;have GE283:=n3_;clear n0_ n1_ n2_ n3_;clear hb hbox hg)|((with_reducible refine gate_callee (f:=155) rfl ?_);refine goesL_ (some 12) rfl rfl Try.func155 (by kernel_rfl) rfl #[.slice A0 l0.length c0,.slice A1 l1.length c1] rfl (by (try simp only [List.map_toArray,List.map_cons,List.map_nil]);first|done|rfl|(simp only [List.length_drop,List.length_take];rfl)) ?_;(with_reducible refine (impl_endsOf.calls k _ _ l0 _ _ l1 t284 _ ?side1 ?side2 ?side3 ?side4 A5.out).mono ?_);(case side1=>repeat (first|exact (Kd.C_below HR0.out HB.out)|(with_reducible refine Kd.C_alloc ?_ _)|(with_reducible refine Kd.C_drewN ?_ _)|(with_reducible refine Kd.C_drew ?_)));(case side2=>exact HC0.out);(case side3=>repeat (first|exact (Kd.C_below HR1.out HB.out)|(with_reducible refine Kd.C_alloc ?_ _)|(with_reducible refine Kd.C_drewN ?_ _)|(with_reducible refine Kd.C_drew ?_)));(case side4=>exact HC1.out);rintro e w9 ⟨v285,rfl,ho0,hb⟩;refine ⟨_,rfl,?_⟩;have n0_:=Aside0.mk (Kd.R_lower ho0 (below_size (by repeat (first|(with_reducible first|exact HB.out|apply below_alloc|apply pw_below_drewN|apply below_drew1|refine below_set ?_ GE283.out)|exact HB.out))));have n1_:=Aside0.mk (blk_below (g:=gb283) (o:=.cells #[.int .i64 0,.int .i64 0] 45 (0,0)) (by (with_reducible repeat (first|refine blk_drewN ?_ _|refine blk_drew ?_|refine blk_alloc ?_ _));exact BK283.out) hb);have n2_:=Aside0.mk (below_step (by repeat (first|(with_reducible first|exact HB.out|apply below_alloc|apply pw_below_drewN|apply below_drew1|refine below_set ?_ GE283.out)|exact HB.out)) hb);clear BK283;clear HB;have HO286:=n0_;have BK283:=n1_;have HB:=n2_;clear n0_ n1_ n2_;(try clear hb);(try clear hb2);(try clear hk);(try clear hi);(try clear ho0);obtain ⟨Ao10,co10,eo10⟩:=Kd.R_slice HO286.out;subst eo10)|((with_reducible refine gate_callee (f:=156) rfl ?_);refine goesL_ (some 16) rfl rfl Try.func156 (by kernel_rfl) rfl #[.slice A0 l0.length c0,.slice Ao10 t284.length co10,.int .i64 a2] rfl (by (try simp only [List.map_toArray,List.map_cons,List.map_nil]);first|done|rfl|(simp only [List.length_drop,List.length_take];rfl)) ?_;(with_reducible refine (impl_valueOfEnds.calls k _ _ l0 _ _ t284 a2 t287 _ ?side1 ?side2 ?side3 ?side4 A6.out).mono ?_);(case side1=>repeat (first|exact (Kd.C_below HR0.out HB.out)|(with_reducible refine Kd.C_alloc ?_ _)|(with_reducible refine Kd.C_drewN ?_ _)|(with_reducible refine Kd.C_drew ?_)));(case side2=>exact HC0.out);(case side3=>repeat (first|exact (Kd.R_reads' HO286.out).2.2|(with_reducible refine Kd.C_alloc ?_ _)|(with_reducible refine Kd.C_drewN ?_ _)|(with_reducible refine Kd.C_drew ?_)));(case side4=>exact (Kd.R_reads' HO286.out).2.1);rintro e w11 ⟨rfl,hb⟩;refine ⟨_,rfl,?_⟩;have n0_:=Aside0.mk (Kd.R_below (by (with_reducible repeat (first|apply Kd.R_alloc|apply Kd.R_drewN|apply Kd.R_drew));exact HO286.out) hb);have n1_:=Aside0.mk (blk_below (g:=gb283) (o:=.cells #[.int .i64 0,.int .i64 0] 45 (0,0)) (by (with_reducible repeat (first|refine blk_drewN ?_ _|refine blk_drew ?_|refine blk_alloc ?_ _));exact BK283.out) hb);have n2_:=Aside0.mk (below_step (by repeat (first|(with_reducible first|exact HB.out|apply below_alloc|apply pw_below_drewN|apply below_drew1|refine below_set ?_ GE283.out)|exact HB.out)) hb);clear HO286;clear BK283;clear HB;have HO286:=n0_;have BK283:=n1_;have HB:=n2_;clear n0_ n1_ n2_;(try clear hb);(try clear hb2);(try clear hk);(try clear hi))|((with_reducible refine gate_callee (f:=156) rfl ?_);refine goesL_ (some 20) rfl rfl Try.func156 (by kernel_rfl) rfl #[.slice A0 l0.length c0,.slice Ao10 t284.length co10,.int .i64 a3] rfl (by (try simp only [List.map_toArray,List.map_cons,List.map_nil]);first|done|rfl|(simp only [List.length_drop,List.length_take];rfl)) ?_;(with_reducible refine (impl_valueOfEnds.calls k _ _ l0 _ _ t284 a3 t288 _ ?side1 ?side2 ?side3 ?side4 A7.out).mono ?_);(case side1=>repeat (first|exact (Kd.C_below HR0.out HB.out)|(with_reducible refine Kd.C_alloc ?_ _)|(with_reducible refine Kd.C_drewN ?_ _)|(with_reducible refine Kd.C_drew ?_)));(case side2=>exact HC0.out);(case side3=>repeat (first|exact (Kd.R_reads' HO286.out).2.2|(with_reducible refine Kd.C_alloc ?_ _)|(with_reducible refine Kd.C_drewN ?_ _)|(with_reducible refine Kd.C_drew ?_)));(case side4=>exact (Kd.R_reads' HO286.out).2.1);rintro e w12 ⟨rfl,hb⟩;refine ⟨_,rfl,?_⟩;have n0_:=Aside0.mk (Kd.R_below (by (with_reducible repeat (first|apply Kd.R_alloc|apply Kd.R_drewN|apply Kd.R_drew));exact HO286.out) hb);have n1_:=Aside0.mk (blk_below (g:=gb283) (o:=.cells #[.int .i64 0,.int .i64 0] 45 (0,0)) (by (with_reducible repeat (first|refine blk_drewN ?_ _|refine blk_drew ?_|refine blk_alloc ?_ _));exact BK283.out) hb);have n2_:=Aside0.mk (below_step (by repeat (first|(with_reducible first|exact HB.out|apply below_alloc|apply pw_below_drewN|apply below_drew1|refine below_set ?_ GE283.out)|exact HB.out)) hb);clear HO286;clear BK283;clear HB;have HO286:=n0_;have BK283:=n1_;have HB:=n2_;clear n0_ n1_ n2_;(try clear hb);(try clear hb2);(try clear hk);(try clear hi);have hcz13_0:w12.cell? ⟨gb283,0,none⟩=some (.int .i64 0):=(blk_cell BK283.out 0).trans rfl;have hcz13_1:w12.cell? ⟨gb283,1,none⟩=some (.int .i64 0):=(blk_cell BK283.out 1).trans rfl;have hfz13_0:=blk_frozen BK283.out 0;have hfz13_1:=blk_frozen BK283.out 1))
 refine bodyPost_ret (results_cell_row rfl _ _ gb283 45 #[.int .i64 t287,.int .i64 t288] (0,0) _ rfl (by (with_reducible repeat (first|refine blk_drewN ?_ _|refine blk_drew ?_|refine blk_alloc ?_ _));refine blk_put (cs:=#[.int .i64 t287,.int .i64 0]) ?_ 1 _ rfl;(with_reducible repeat (first|refine blk_drewN ?_ _|refine blk_drew ?_|refine blk_alloc ?_ _));refine blk_put (cs:=#[.int .i64 0,.int .i64 0]) ?_ 0 _ rfl;(with_reducible repeat (first|refine blk_drewN ?_ _|refine blk_drew ?_|refine blk_alloc ?_ _));exact BK283.out) Try.underlying45 rfl (by kernel_rfl)) rfl ?_
 exact ⟨by first|rfl|(simp [errW_none,errW_some] <;> rfl)|(simp [*,errW_none,errW_some] <;> rfl),by repeat (first|(with_reducible first|exact HB.out|apply below_alloc|apply pw_below_drewN|apply below_drew1|refine below_set ?_ GE283.out)|exact HB.out)⟩

/-! ### impl_dominates: function 128 -/
def impl_dominates.f (a0_0:Int) (a0_1:Int) (a1_0:Int) (a1_1:Int):Option (Bool):=if (!(a0_0 == a1_0) || (!(a0_1 == a1_1)))=true then (if a0_0≤a1_0 then (some (decide (a0_1≤a1_1))) else (some false)) else (some false)
set_option maxHeartbeats 8000000 in
set_option maxRecDepth 100000 in
theorem impl_dominates.calls (a0_0:Int) (a0_1:Int) (a1_0:Int) (a1_1:Int) (r:Bool) (w:World) (h:impl_dominates.f a0_0 a0_1 a1_0 a1_1=some r) :
  Calls Try.prog 128 #[.agg #[.int .i64 a0_0,.int .i64 a0_1],.agg #[.int .i64 a1_0,.int .i64 a1_1]] w fun e w'=>e=.returned (.bool r)∧Below w.heap.size w w':=by
 have hu45:=Try.underlying45
 have HB:=Aside0.mk (Below.refl w.heap.size w)
 have H:(if (!(a0_0 == a1_0) || (!(a0_1 == a1_1)))=true then (if a0_0≤a1_0 then (some (decide (a0_1≤a1_1))) else (some false)) else (some false))=some r:=h
 clear h
 by_cases c3:(!(a0_0 == a1_0) || (!(a0_1 == a1_1)))=true
 ·rw [if_pos c3] at H
  have c3b0:(!(a0_0 == a1_0) || (!(a0_1 == a1_1)))=true:=c3
  clear c3
  by_cases c4:a0_0≤a1_0
  ·rw [if_pos c4] at H
   have c4b0:decide (a0_0≤a1_0)=true:=decide_eq_true c4
   clear c4
   obtain rfl:=Option.some.inj H
   go_enter Try.func128,Try.ntmps128
   go_wp2_with (first|((with_reducible refine gate_dst (N:=2) rfl ?_);refine box_event ?hg (N:=2) ?hd (cs:=#[.int .i64 a0_0,.int .i64 a0_1]) (t:=45) ?hr ?_;(case hd=>rfl);(case hg=>rfl);(case hr=>first|(go_simp;done)|(go_simp;rfl));intro gb289 hg w5 hbox hb;have n0_:=Aside0.mk (below_step (by repeat (first|(with_reducible first|exact HB.out|apply below_alloc|apply pw_below_drewN|apply below_drew1)|exact HB.out)) hb);have n1_:=Aside0.mk (hbox);have n2_:=Aside0.mk ((by rw [hg];exact (below_size (by repeat (first|(with_reducible first|exact HB.out|apply below_alloc|apply pw_below_drewN|apply below_drew1)|exact HB.out))):w.heap.size≤gb289));have n3_:=Aside0.mk ((by rw [hg];exact (below_size (by repeat (first|(with_reducible first|exact HB.out|apply below_alloc|apply pw_below_drewN|apply below_drew1)|exact HB.out))):w.heap.size≤gb289));clear HB;have HB:=n0_;have BK289:=n1_;have GW289:=n2_;have GE289:=n3_;clear n0_ n1_ n2_ n3_;clear hb hbox hg)|((with_reducible refine gate_dst (N:=3) rfl ?_);refine box_event ?hg (N:=3) ?hd (cs:=#[.int .i64 a1_0,.int .i64 a1_1]) (t:=45) ?hr ?_;(case hd=>rfl);(case hg=>rfl);(case hr=>first|(go_simp;done)|(go_simp;rfl));intro gb290 hg w6 hbox hb;have n0_:=Aside0.mk (blk_below (g:=gb289) (o:=.cells #[.int .i64 a0_0,.int .i64 a0_1] 45 (0,0)) (by (with_reducible repeat (first|refine blk_drewN ?_ _|refine blk_drew ?_|refine blk_alloc ?_ _));exact BK289.out) hb);have n1_:=Aside0.mk (below_step (by repeat (first|(with_reducible first|exact HB.out|apply below_alloc|apply pw_below_drewN|apply below_drew1|refine below_set ?_ GE289.out)|exact HB.out)) hb);have n2_:=Aside0.mk (hbox);have n3_:=Aside0.mk ((by rw [hg];exact (below_size (by repeat (first|(with_reducible first|exact HB.out|apply below_alloc|apply pw_below_drewN|apply below_drew1|refine below_set ?_ GE289.out)|exact HB.out))):w.heap.size≤gb290));have n4_:=Aside0.mk ((by rw [hg];exact (below_size (by repeat (first|(with_reducible first|exact HB.out|apply below_alloc|apply pw_below_drewN|apply below_drew1|refine below_set ?_ GE289.out)|exact HB.out))):w.heap.size≤gb290));have n5_:=Aside0.mk ((by rw [hg];exact Nat.ne_of_lt (blk_lt (g:=gb289) (o:=.cells #[.int .i64 a0_0,.int .i64 a0_1] 45 (0,0)) (by (with_reducible repeat (first|refine blk_drewN ?_ _|refine blk_drew ?_|refine blk_alloc ?_ _));exact BK289.out)):gb289≠gb290));have n6_:=Aside0.mk ((by rw [hg];exact Nat.ne_of_gt (blk_lt (g:=gb289) (o:=.cells #[.int .i64 a0_0,.int .i64 a0_1] 45 (0,0)) (by (with_reducible repeat (first|refine blk_drewN ?_ _|refine blk_drew ?_|refine blk_alloc ?_ _));exact BK289.out)):gb290≠gb289));clear BK289;clear HB;have BK289:=n0_;have HB:=n1_;have BK290:=n2_;have GW290:=n3_;have GE290:=n4_;have NB289_290:=n5_;have NB290_289:=n6_;clear n0_ n1_ n2_ n3_ n4_ n5_ n6_;clear hb hbox hg;have hnb7:=NB289_290.out;have hnc7:=NB290_289.out;have hcz8_0:w6.cell? ⟨gb289,0,none⟩=some (.int .i64 a0_0):=(blk_cell BK289.out 0).trans rfl;have hcz8_1:w6.cell? ⟨gb289,1,none⟩=some (.int .i64 a0_1):=(blk_cell BK289.out 1).trans rfl;have hfz8_0:=blk_frozen BK289.out 0;have hfz8_1:=blk_frozen BK289.out 1;have hcz9_0:w6.cell? ⟨gb290,0,none⟩=some (.int .i64 a1_0):=(blk_cell BK290.out 0).trans rfl;have hcz9_1:w6.cell? ⟨gb290,1,none⟩=some (.int .i64 a1_1):=(blk_cell BK290.out 1).trans rfl;have hfz9_0:=blk_frozen BK290.out 0;have hfz9_1:=blk_frozen BK290.out 1))
   go_ret
   exact ⟨by first|rfl|(simp [errW_none,errW_some] <;> rfl)|(simp [*,errW_none,errW_some] <;> rfl),by repeat (first|(with_reducible first|exact HB.out|apply below_alloc|apply pw_below_drewN|apply below_drew1|refine below_set ?_ GE289.out|refine below_set ?_ GE290.out)|exact HB.out)⟩
  ·rw [if_neg c4] at H
   have c4b0:decide (a0_0≤a1_0)=false:=decide_eq_false c4
   clear c4
   obtain rfl:=Option.some.inj H
   go_enter Try.func128,Try.ntmps128
   go_wp2_with (first|((with_reducible refine gate_dst (N:=2) rfl ?_);refine box_event ?hg (N:=2) ?hd (cs:=#[.int .i64 a0_0,.int .i64 a0_1]) (t:=45) ?hr ?_;(case hd=>rfl);(case hg=>rfl);(case hr=>first|(go_simp;done)|(go_simp;rfl));intro gb289 hg w10 hbox hb;have n0_:=Aside0.mk (below_step (by repeat (first|(with_reducible first|exact HB.out|apply below_alloc|apply pw_below_drewN|apply below_drew1)|exact HB.out)) hb);have n1_:=Aside0.mk (hbox);have n2_:=Aside0.mk ((by rw [hg];exact (below_size (by repeat (first|(with_reducible first|exact HB.out|apply below_alloc|apply pw_below_drewN|apply below_drew1)|exact HB.out))):w.heap.size≤gb289));have n3_:=Aside0.mk ((by rw [hg];exact (below_size (by repeat (first|(with_reducible first|exact HB.out|apply below_alloc|apply pw_below_drewN|apply below_drew1)|exact HB.out))):w.heap.size≤gb289));clear HB;have HB:=n0_;have BK289:=n1_;have GW289:=n2_;have GE289:=n3_;clear n0_ n1_ n2_ n3_;clear hb hbox hg)|((with_reducible refine gate_dst (N:=3) rfl ?_);refine box_event ?hg (N:=3) ?hd (cs:=#[.int .i64 a1_0,.int .i64 a1_1]) (t:=45) ?hr ?_;(case hd=>rfl);(case hg=>rfl);(case hr=>first|(go_simp;done)|(go_simp;rfl));intro gb290 hg w11 hbox hb;have n0_:=Aside0.mk (blk_below (g:=gb289) (o:=.cells #[.int .i64 a0_0,.int .i64 a0_1] 45 (0,0)) (by (with_reducible repeat (first|refine blk_drewN ?_ _|refine blk_drew ?_|refine blk_alloc ?_ _));exact BK289.out) hb);have n1_:=Aside0.mk (below_step (by repeat (first|(with_reducible first|exact HB.out|apply below_alloc|apply pw_below_drewN|apply below_drew1|refine below_set ?_ GE289.out)|exact HB.out)) hb);have n2_:=Aside0.mk (hbox);have n3_:=Aside0.mk ((by rw [hg];exact (below_size (by repeat (first|(with_reducible first|exact HB.out|apply below_alloc|apply pw_below_drewN|apply below_drew1|refine below_set ?_ GE289.out)|exact HB.out))):w.heap.size≤gb290));have n4_:=Aside0.mk ((by rw [hg];exact (below_size (by repeat (first|(with_reducible first|exact HB.out|apply below_alloc|apply pw_below_drewN|apply below_drew1|refine below_set ?_ GE289.out)|exact HB.out))):w.heap.size≤gb290));have n5_:=Aside0.mk ((by rw [hg];exact Nat.ne_of_lt (blk_lt (g:=gb289) (o:=.cells #[.int .i64 a0_0,.int .i64 a0_1] 45 (0,0)) (by (with_reducible repeat (first|refine blk_drewN ?_ _|refine blk_drew ?_|refine blk_alloc ?_ _));exact BK289.out)):gb289≠gb290));have n6_:=Aside0.mk ((by rw [hg];exact Nat.ne_of_gt (blk_lt (g:=gb289) (o:=.cells #[.int .i64 a0_0,.int .i64 a0_1] 45 (0,0)) (by (with_reducible repeat (first|refine blk_drewN ?_ _|refine blk_drew ?_|refine blk_alloc ?_ _));exact BK289.out)):gb290≠gb289));clear BK289;clear HB;have BK289:=n0_;have HB:=n1_;have BK290:=n2_;have GW290:=n3_;have GE290:=n4_;have NB289_290:=n5_;have NB290_289:=n6_;clear n0_ n1_ n2_ n3_ n4_ n5_ n6_;clear hb hbox hg;have hnb12:=NB289_290.out;have hnc12:=NB290_289.out;have hcz13_0:w11.cell? ⟨gb289,0,none⟩=some (.int .i64 a0_0):=(blk_cell BK289.out 0).trans rfl;have hcz13_1:w11.cell? ⟨gb289,1,none⟩=some (.int .i64 a0_1):=(blk_cell BK289.out 1).trans rfl;have hfz13_0:=blk_frozen BK289.out 0;have hfz13_1:=blk_frozen BK289.out 1;have hcz14_0:w11.cell? ⟨gb290,0,none⟩=some (.int .i64 a1_0):=(blk_cell BK290.out 0).trans rfl;have hcz14_1:w11.cell? ⟨gb290,1,none⟩=some (.int .i64 a1_1):=(blk_cell BK290.out 1).trans rfl;have hfz14_0:=blk_frozen BK290.out 0;have hfz14_1:=blk_frozen BK290.out 1))
   go_ret
   exact ⟨by first|rfl|(simp [errW_none,errW_some] <;> rfl)|(simp [*,errW_none,errW_some] <;> rfl),by repeat (first|(with_reducible first|exact HB.out|apply below_alloc|apply pw_below_drewN|apply below_drew1|refine below_set ?_ GE289.out|refine below_set ?_ GE290.out)|exact HB.out)⟩
 ·rw [if_neg c3] at H
  have c3b0:(!(a0_0 == a1_0) || (!(a0_1 == a1_1)))=false:=by simpa using c3
  clear c3
  obtain rfl:=Option.some.inj H
  go_enter Try.func128,Try.ntmps128
  go_wp2_with (first|((with_reducible refine gate_dst (N:=2) rfl ?_);refine box_event ?hg (N:=2) ?hd (cs:=#[.int .i64 a0_0,.int .i64 a0_1]) (t:=45) ?hr ?_;(case hd=>rfl);(case hg=>rfl);(case hr=>first|(go_simp;done)|(go_simp;rfl));intro gb289 hg w15 hbox hb;have n0_:=Aside0.mk (below_step (by repeat (first|(with_reducible first|exact HB.out|apply below_alloc|apply pw_below_drewN|apply below_drew1)|exact HB.out)) hb);have n1_:=Aside0.mk (hbox);have n2_:=Aside0.mk ((by rw [hg];exact (below_size (by repeat (first|(with_reducible first|exact HB.out|apply below_alloc|apply pw_below_drewN|apply below_drew1)|exact HB.out))):w.heap.size≤gb289));have n3_:=Aside0.mk ((by rw [hg];exact (below_size (by repeat (first|(with_reducible first|exact HB.out|apply below_alloc|apply pw_below_drewN|apply below_drew1)|exact HB.out))):w.heap.size≤gb289));clear HB;have HB:=n0_;have BK289:=n1_;have GW289:=n2_;have GE289:=n3_;clear n0_ n1_ n2_ n3_;clear hb hbox hg)|((with_reducible refine gate_dst (N:=3) rfl ?_);refine box_event ?hg (N:=3) ?hd (cs:=#[.int .i64 a1_0,.int .i64 a1_1]) (t:=45) ?hr ?_;(case hd=>rfl);(case hg=>rfl);(case hr=>first|(go_simp;done)|(go_simp;rfl));intro gb290 hg w16 hbox hb;have n0_:=Aside0.mk (blk_below (g:=gb289) (o:=.cells #[.int .i64 a0_0,.int .i64 a0_1] 45 (0,0)) (by (with_reducible repeat (first|refine blk_drewN ?_ _|refine blk_drew ?_|refine blk_alloc ?_ _));exact BK289.out) hb);have n1_:=Aside0.mk (below_step (by repeat (first|(with_reducible first|exact HB.out|apply below_alloc|apply pw_below_drewN|apply below_drew1|refine below_set ?_ GE289.out)|exact HB.out)) hb);have n2_:=Aside0.mk (hbox);have n3_:=Aside0.mk ((by rw [hg];exact (below_size (by repeat (first|(with_reducible first|exact HB.out|apply below_alloc|apply pw_below_drewN|apply below_drew1|refine below_set ?_ GE289.out)|exact HB.out))):w.heap.size≤gb290));have n4_:=Aside0.mk ((by rw [hg];exact (below_size (by repeat (first|(with_reducible first|exact HB.out|apply below_alloc|apply pw_below_drewN|apply below_drew1|refine below_set ?_ GE289.out)|exact HB.out))):w.heap.size≤gb290));have n5_:=Aside0.mk ((by rw [hg];exact Nat.ne_of_lt (blk_lt (g:=gb289) (o:=.cells #[.int .i64 a0_0,.int .i64 a0_1] 45 (0,0)) (by (with_reducible repeat (first|refine blk_drewN ?_ _|refine blk_drew ?_|refine blk_alloc ?_ _));exact BK289.out)):gb289≠gb290));have n6_:=Aside0.mk ((by rw [hg];exact Nat.ne_of_gt (blk_lt (g:=gb289) (o:=.cells #[.int .i64 a0_0,.int .i64 a0_1] 45 (0,0)) (by (with_reducible repeat (first|refine blk_drewN ?_ _|refine blk_drew ?_|refine blk_alloc ?_ _));exact BK289.out)):gb290≠gb289));clear BK289;clear HB;have BK289:=n0_;have HB:=n1_;have BK290:=n2_;have GW290:=n3_;have GE290:=n4_;have NB289_290:=n5_;have NB290_289:=n6_;clear n0_ n1_ n2_ n3_ n4_ n5_ n6_;clear hb hbox hg;have hnb17:=NB289_290.out;have hnc17:=NB290_289.out;have hcz18_0:w16.cell? ⟨gb289,0,none⟩=some (.int .i64 a0_0):=(blk_cell BK289.out 0).trans rfl;have hcz18_1:w16.cell? ⟨gb289,1,none⟩=some (.int .i64 a0_1):=(blk_cell BK289.out 1).trans rfl;have hfz18_0:=blk_frozen BK289.out 0;have hfz18_1:=blk_frozen BK289.out 1;have hcz19_0:w16.cell? ⟨gb290,0,none⟩=some (.int .i64 a1_0):=(blk_cell BK290.out 0).trans rfl;have hcz19_1:w16.cell? ⟨gb290,1,none⟩=some (.int .i64 a1_1):=(blk_cell BK290.out 1).trans rfl;have hfz19_0:=blk_frozen BK290.out 0;have hfz19_1:=blk_frozen BK290.out 1))
  go_ret
  exact ⟨by first|rfl|(simp [errW_none,errW_some] <;> rfl)|(simp [*,errW_none,errW_some] <;> rfl),by repeat (first|(with_reducible first|exact HB.out|apply below_alloc|apply pw_below_drewN|apply below_drew1|refine below_set ?_ GE289.out|refine below_set ?_ GE290.out)|exact HB.out)⟩

-- NOT PRINTED: function 126 (impl_frontOf_1)

end Go.Proofs.Ytplbabjigikgjaa.XFnExactSupportedPoints
-- minified
