-- Written by a program of this session (the kit's print, widened). Proved here: what each function answers, for the arguments that its contract names.
import Derived.Test.YtbblhmpcpmamfaaXFnExactSmithPricesx0
import Derived.Test.YtbblhmpcpmamfaaXFnExactSmithPricesx1
import Derived.Test.YtbblhmpcpmamfaaXFnExactSmithPricesx2
import Derived.Test.YtbblhmpcpmamfaaXFnExactSmithPricesx3
namespace Go.Proofs.Ytbblhmpcpmamfaa.XFnExactSmithPrices
open Go.RowKit Go.Proofs.YtbblhmpcpmamfaaW.PrintWords Go.Proofs.YtbblhmpcpmamfaaW.PrintLast Go.Proofs.YtbblhmpcpmamfaaW.PrintMore
attribute [local go_sem] max2_int min2_int max_two min_two max_three min_three max_four min_four   -- for this text's walks alone
attribute [local go_sem] idxA_77_0 idxA_77_1 fldS_68_0 fldS_68_1 fldS_73_0 fldS_73_1 fldS_73_2
set_option linter.unusedVariables false
set_option linter.unusedSimpArgs false

/-! ### spec_l6Ascending: function 87 -/
def spec_l6Ascending.l0:Nat→List Int→List Int→Int→Option (List Int)
 | 0,_,_,_=>none
 | k + 1,x0,x3,x4=>if x4<(x0.length:Int) then (if 0≤x4 then ((spec_l1Put.f k x3 (rd x0 x4)).bind fun t220=>(spec_l6Ascending.l0 k x0 t220 (wrap64 (x4 + 1)))) else (none)) else (some x3)
def spec_l6Ascending.f (k:Nat) (l0:List Int):Option (List Int):=spec_l6Ascending.l0 k l0 (([]:List Int)) 0
theorem spec_l6Ascending.mono_l:∀ k,(∀ y0 y1 y2,LeO (spec_l6Ascending.l0 k y0 y1 y2) (spec_l6Ascending.l0 (k + 1) y0 y1 y2))
 | 0=>fun _ _ _ r h=>by simp [spec_l6Ascending.l0] at h
 | k + 1=>by
  have ih0:=spec_l6Ascending.mono_l k
  ·intro y0 y1 y2
   unfold spec_l6Ascending.l0
   repeat' first
   | (with_reducible exact ih0 _ _ _)
   | (with_reducible exact spec_l1Put.mono _ _ _)
   | (with_reducible exact LeO.refl _)
   | (with_reducible exact LeO.none _)
   | (with_reducible refine LeO.ite ?_ ?_)
   | (with_reducible refine LeO.bind ?_ (fun _=>?_))
   | exact ih0 _ _ _
   | exact spec_l1Put.mono _ _ _
   | exact LeO.none _
   | refine LeO.ite ?_ ?_
   | refine LeO.bind ?_ (fun _=>?_)
theorem spec_l6Ascending.mono:∀ a0 k,LeO (spec_l6Ascending.f k a0) (spec_l6Ascending.f (k + 1) a0):=by
 intro a0 k
 have ih0:=spec_l6Ascending.mono_l k
 unfold spec_l6Ascending.f
 repeat' first
   | (with_reducible exact ih0 _ _ _)
   | (with_reducible exact spec_l1Put.mono _ _ _)
   | (with_reducible exact LeO.refl _)
   | (with_reducible exact LeO.none _)
   | (with_reducible refine LeO.ite ?_ ?_)
   | (with_reducible refine LeO.bind ?_ (fun _=>?_))
   | exact ih0 _ _ _
   | exact spec_l1Put.mono _ _ _
   | exact LeO.none _
   | refine LeO.ite ?_ ?_
   | refine LeO.bind ?_ (fun _=>?_)
set_option maxHeartbeats 8000000 in
set_option maxRecDepth 100000 in
theorem spec_l6Ascending.calls (k:Nat) (A0:Option Addr) (c0:Nat) (l0:List Int) (r:List Int) (w:World) (hr0:Kd.C (Kd.int .i64) w A0 l0.length l0) (hc0:l0.length≤c0) (h:spec_l6Ascending.f k l0=some r) :
  Calls Try.prog 87 #[.slice A0 l0.length c0] w fun e w'=>∃ v0_:Value,e=.returned (v0_)∧Kd.R (Kd.int .i64) 3 w' w.heap.size (fun _=>True) v0_ r∧Below w.heap.size w w':=by
 have HR0:=Aside0.mk hr0
 have HC0:=Aside0.mk hc0
 clear hr0 hc0
 have HB:=Aside0.mk (Below.refl w.heap.size w)
 have H:(spec_l6Ascending.l0 k l0 (([]:List Int)) 0)=some r:=h
 clear h
 obtain ⟨y216,hy216⟩:∃ y_:List Int,y_=(([]:List Int)):=⟨_,rfl⟩
 replace H:(spec_l6Ascending.l0 k l0 y216 0)=some r:=by first|(rw [hy216];with_reducible exact H)|(have H2_:=(Option.bind_some _ _).symm.trans H;rw [hy216];with_reducible exact H2_)|(have H2_:=(Option.bind_some _ _).symm.trans H;with_reducible exact H2_)|with_reducible exact H|(rw [hy216];exact H)|exact H
 have Ny216:=Aside0.mk hy216
 clear hy216
 have H':=Aside0.mk H
 clear H
 go_enter Try.func87,Try.ntmps87
 go_wp2_with (first|((with_reducible refine gate_dst (N:=5) rfl ?_);refine Kd.R_lit (Kd.int .i64) _ 3 ?hg (N:=5) ?hd (xs:=([]:List Int)) (inner:=[]) (ok:=fun _=>True) (okp:=fun _=>True) ?hr ?hp (fun _ hk=>hk) trivial (Below.refl _ _) (Nat.le_refl _) (by simp) ?_;(case hd=>rfl);(case hg=>rfl);(case hr=>first|(go_simp;done)|(go_simp;rfl));(case hp=>exact (Reps.none _ _));intro v217 w2 ho3 hb hg_ hnew_;clear hg_ hnew_;(first|rw [←Ny216.out] at ho3|(simp only [Int.reduceToNat] at ho3;rw [←Ny216.out] at ho3));have n0_:=Aside0.mk (Kd.R_lower ho3 (below_size (by repeat (first|(with_reducible first|exact HB.out|apply below_alloc|apply pw_below_drewN|apply below_drew1)|exact HB.out))));have n1_:=Aside0.mk (below_step (by repeat (first|(with_reducible first|exact HB.out|apply below_alloc|apply pw_below_drewN|apply below_drew1)|exact HB.out)) hb);clear HB;have HO218:=n0_;have HB:=n1_;clear n0_ n1_;clear hb ho3))
 go_loopg [3,4] k (fun kq v3 v4 w'=>∃ (x3_1:List Int) (x4_1:Int),v4=.int .i64 x4_1∧Aside0 (spec_l6Ascending.l0 kq l0 x3_1 x4_1=some r)∧Aside0 (kq≤k)∧Aside0 (Kd.R (Kd.int .i64) 3 w' w.heap.size (fun _=>True) v3 x3_1)∧Aside0 (Below w.heap.size w w'))
 case atStart=>exact ⟨(y216),(0),(by first|rfl|(simp;done)|(simp [*];done)),H',⟨Nat.le_refl _⟩,⟨by (with_reducible repeat (first|apply Kd.R_alloc|apply Kd.R_drewN|apply Kd.R_drew));exact HO218.out⟩,⟨by repeat (first|(with_reducible first|exact HB.out|apply below_alloc|apply pw_below_drewN|apply below_drew1)|exact HB.out)⟩⟩
 case round=>
  clear H'
  try clear p2
  obtain ⟨x3_1,x4_1,rfl,HA,HK1,HO_3,HB⟩:=hrel
  cases gk with
  | zero=>exact absurd HA.out (by simp [spec_l6Ascending.l0])
  | succ k1=>
   have H:=HA.out
   clear HA
   simp only [spec_l6Ascending.l0] at H
   by_cases c4:x4_1<(l0.length:Int)
   ·rw [if_pos c4] at H
    have c4b0:decide (x4_1<(l0.length:Int))=true:=decide_eq_true c4
    clear c4
    by_cases c5:0≤x4_1
    ·rw [if_pos c5] at H
     have c5b0:decide (0≤x4_1)=true:=decide_eq_true c5
     clear c5
     replace H:=Option.bind_eq_some_iff.mp H
     obtain ⟨t220,A60,H⟩:=H
     replace H:(spec_l6Ascending.l0 k1 l0 t220 (wrap64 (x4_1 + 1)))=some r:=H
     have A6:=Aside0.mk A60
     clear A60
     have H':=Aside0.mk H
     clear H
     have p219:0≤(x4_1:Int):=of_decide_eq_true (by first|(with_reducible assumption)|assumption)
     have q219:x4_1<(l0.length:Int):=of_decide_eq_true (by first|(with_reducible assumption)|assumption)
     obtain ⟨ad219,e219,hx219_0⟩:=Kd.at_int HR0.out x4_1 p219 q219
     cases e219
     replace hx219_0:=(HB.out.cell (World.block_lt_of_cell? w _ hx219_0)).trans hx219_0
     replace p219:=eq_true p219
     replace q219:=eq_true q219
     obtain ⟨Ao7,co7,eo7⟩:=Kd.R_slice HO_3.out
     subst eo7
     go_wp2_with (first|((with_reducible refine gate_callee (f:=118) rfl ?_);refine goesL_ (some 17) rfl rfl Try.func118 (by kernel_rfl) rfl #[.slice Ao7 x3_1.length co7,.int .i64 (rd l0 x4_1)] rfl (by (try simp only [List.map_toArray,List.map_cons,List.map_nil]);first|done|rfl|(simp only [List.length_drop,List.length_take];rfl)) ?_;(with_reducible refine (spec_l1Put.calls k1 (fun k_=>some k_=(.slice Ao7 x3_1.length co7:Value).ownBlock) (.slice Ao7 x3_1.length co7) x3_1 (rd l0 x4_1) t220 w _ ?side1 ?side2 A6.out).mono ?_);(case side1=>repeat (first|(with_reducible first|exact HB.out|apply below_alloc|apply pw_below_drewN|apply below_drew1)|exact HB.out));(case side2=>exact Kd.R_tight rfl HO_3.out);rintro e w8 ⟨v221,rfl,ho0,hb,hkp⟩;refine ⟨_,rfl,?_⟩;have n0_:=Aside0.mk (Kd.R_mono (ok':=fun k_=>True) ho0 (fun k_ hk_=>trivial));have n1_:=Aside0.mk (hb);clear HB;clear HO_3;have HO222:=n0_;have HB:=n1_;clear n0_ n1_;(try clear hb);(try clear hkp);(try clear ho0)))
     go_roundg k1
     case measure=>have:=HK1.out;omega
     case rel=>exact ⟨(t220),(wrap64 (x4_1 + 1)),(by first|rfl|(simp;done)|(simp [*];done)),H',⟨by have:=HK1.out;omega⟩,⟨by (with_reducible repeat (first|apply Kd.R_alloc|apply Kd.R_drewN|apply Kd.R_drew));exact HO222.out⟩,⟨by repeat (first|(with_reducible first|exact HB.out|apply below_alloc|apply pw_below_drewN|apply below_drew1)|exact HB.out)⟩⟩
    ·rw [if_neg c5] at H
     exact absurd H (by simp)
   ·rw [if_neg c4] at H
    have c4b0:decide (x4_1<(l0.length:Int))=false:=decide_eq_false c4
    clear c4
    obtain rfl:=Option.some.inj H
    go_wp2
    go_ret
    exact ⟨_,by first|rfl|(simp [errW_none,errW_some] <;> rfl)|(simp [*,errW_none,errW_some] <;> rfl),by (with_reducible repeat (first|apply Kd.R_alloc|apply Kd.R_drewN|apply Kd.R_drew));exact HO_3.out,by repeat (first|(with_reducible first|exact HB.out|apply below_alloc|apply pw_below_drewN|apply below_drew1)|exact HB.out)⟩

/-! ### spec_l10Made: function 49 -/
def spec_l10Made.l0:Nat→List (S62)→Int→List (S68)→List Int→Int→Option ((List (S68)))
 | 0,_,_,_,_,_=>none
 | k + 1,x0,x1,x5,x6,x7=>if x7<(x6.length:Int) then (if 0≤x7 then (if 0≤(rd x6 x7) then (if (rd x6 x7)<(x0.length:Int) then (if ((rd_T62 x0 (rd x6 x7)).f0)=0 then (none) else (if (wrap64 (x7 + 1))<(x6.length:Int) then (if 0≤(wrap64 (x7 + 1)) then (if 0≤(rd x6 (wrap64 (x7 + 1))) then (if (rd x6 (wrap64 (x7 + 1)))<(x0.length:Int) then (if ((rd_T62 x0 (rd x6 (wrap64 (x7 + 1)))).f0)=0 then (none) else (if (wrap64 ((wrap64 (((rd_T62 x0 (rd x6 x7)).f1) * (wrap64 (Int.tdiv x1 ((rd_T62 x0 (rd x6 x7)).f0))))) - (wrap64 (((rd_T62 x0 (rd x6 (wrap64 (x7 + 1)))).f1) * (wrap64 (Int.tdiv x1 ((rd_T62 x0 (rd x6 (wrap64 (x7 + 1)))).f0)))))))>0 then (if (wrap64 (x7 + 1))≤(x6.length:Int) then ((spec_l6Ascending.f k (x6.take ((wrap64 (x7 + 1)):Int).toNat)).bind fun t241=>(if x5.length<4398046511104 then (spec_l10Made.l0 k x0 x1 (x5++[(⟨t241,wrap64 ((wrap64 (((rd_T62 x0 (rd x6 x7)).f1) * (wrap64 (Int.tdiv x1 ((rd_T62 x0 (rd x6 x7)).f0))))) - (wrap64 (((rd_T62 x0 (rd x6 (wrap64 (x7 + 1)))).f1) * (wrap64 (Int.tdiv x1 ((rd_T62 x0 (rd x6 (wrap64 (x7 + 1)))).f0))))))⟩:S68)]) x6 (wrap64 (x7 + 1))) else (none))) else (none)) else (spec_l10Made.l0 k x0 x1 x5 x6 (wrap64 (x7 + 1))))) else (none)) else (none)) else (none)) else (if (wrap64 (((rd_T62 x0 (rd x6 x7)).f1) * (wrap64 (Int.tdiv x1 ((rd_T62 x0 (rd x6 x7)).f0)))))>0 then (if 0≤(wrap64 (x7 + 1)) then (if (wrap64 (x7 + 1))≤(x6.length:Int) then ((spec_l6Ascending.f k (x6.take ((wrap64 (x7 + 1)):Int).toNat)).bind fun t251=>(if x5.length<4398046511104 then (spec_l10Made.l0 k x0 x1 (x5++[(⟨t251,wrap64 (((rd_T62 x0 (rd x6 x7)).f1) * (wrap64 (Int.tdiv x1 ((rd_T62 x0 (rd x6 x7)).f0))))⟩:S68)]) x6 (wrap64 (x7 + 1))) else (none))) else (none)) else (none)) else (spec_l10Made.l0 k x0 x1 x5 x6 (wrap64 (x7 + 1)))))) else (none)) else (none)) else (none)) else (some x5)
def spec_l10Made.f (k:Nat) (l0:List (S62)) (a1:Int):Option ((List (S68))):=(spec_l10Smith.f k l0).bind fun t226=>(spec_l10Made.l0 k l0 a1 (([]:List (S68))) t226 0)
theorem spec_l10Made.mono_l:∀ k,(∀ y0 y1 y2 y3 y4,LeO (spec_l10Made.l0 k y0 y1 y2 y3 y4) (spec_l10Made.l0 (k + 1) y0 y1 y2 y3 y4))
 | 0=>fun _ _ _ _ _ r h=>by simp [spec_l10Made.l0] at h
 | k + 1=>by
  have ih0:=spec_l10Made.mono_l k
  ·intro y0 y1 y2 y3 y4
   unfold spec_l10Made.l0
   repeat' first
   | (with_reducible exact ih0 _ _ _ _ _)
   | (with_reducible exact spec_l10Smith.mono _ _)
   | (with_reducible exact spec_l6Ascending.mono _ _)
   | (with_reducible exact LeO.refl _)
   | (with_reducible exact LeO.none _)
   | (with_reducible refine LeO.ite ?_ ?_)
   | (with_reducible refine LeO.bind ?_ (fun _=>?_))
   | exact ih0 _ _ _ _ _
   | exact spec_l10Smith.mono _ _
   | exact spec_l6Ascending.mono _ _
   | exact LeO.none _
   | refine LeO.ite ?_ ?_
   | refine LeO.bind ?_ (fun _=>?_)
theorem spec_l10Made.mono:∀ a0 a1 k,LeO (spec_l10Made.f k a0 a1) (spec_l10Made.f (k + 1) a0 a1):=by
 intro a0 a1 k
 have ih0:=spec_l10Made.mono_l k
 unfold spec_l10Made.f
 repeat' first
   | (with_reducible exact ih0 _ _ _ _ _)
   | (with_reducible exact spec_l10Smith.mono _ _)
   | (with_reducible exact spec_l6Ascending.mono _ _)
   | (with_reducible exact LeO.refl _)
   | (with_reducible exact LeO.none _)
   | (with_reducible refine LeO.ite ?_ ?_)
   | (with_reducible refine LeO.bind ?_ (fun _=>?_))
   | exact ih0 _ _ _ _ _
   | exact spec_l10Smith.mono _ _
   | exact spec_l6Ascending.mono _ _
   | exact LeO.none _
   | refine LeO.ite ?_ ?_
   | refine LeO.bind ?_ (fun _=>?_)
set_option maxHeartbeats 8000000 in
set_option maxRecDepth 100000 in
theorem spec_l10Made.calls (k:Nat) (A0:Option Addr) (c0:Nat) (l0:List (S62)) (a1:Int) (r:List (S68)) (w:World) (hr0:Kd.C k62 w A0 l0.length l0) (hc0:l0.length≤c0) (h:spec_l10Made.f k l0 a1=some r) :
  Calls Try.prog 49 #[.slice A0 l0.length c0,.int .i64 a1] w fun e w'=>∃ v0_:Value,e=.returned (v0_)∧Kd.S k68 68 w' w.heap.size (fun _=>True) v0_ r∧Below w.heap.size w w':=by
 have hu68:=Try.underlying68
 have HR0:=Aside0.mk hr0
 have HC0:=Aside0.mk hc0
 clear hr0 hc0
 have HB:=Aside0.mk (Below.refl w.heap.size w)
 have H:((spec_l10Smith.f k l0).bind fun t226=>(spec_l10Made.l0 k l0 a1 (([]:List (S68))) t226 0))=some r:=h
 clear h
 obtain ⟨y223,hy223⟩:∃ y_:List (S68),y_=(([]:List (S68))):=⟨_,rfl⟩
 replace H:((spec_l10Smith.f k l0).bind fun t226=>(spec_l10Made.l0 k l0 a1 y223 t226 0))=some r:=by first|(rw [hy223];with_reducible exact H)|(have H2_:=(Option.bind_some _ _).symm.trans H;rw [hy223];with_reducible exact H2_)|(have H2_:=(Option.bind_some _ _).symm.trans H;with_reducible exact H2_)|with_reducible exact H|(rw [hy223];exact H)|exact H
 have Ny223:=Aside0.mk hy223
 clear hy223
 replace H:=Option.bind_eq_some_iff.mp H
 obtain ⟨t226,A30,H⟩:=H
 replace H:(spec_l10Made.l0 k l0 a1 y223 t226 0)=some r:=H
 have A3:=Aside0.mk A30
 clear A30
 have H':=Aside0.mk H
 clear H
 go_enter Try.func49,Try.ntmps49
 go_wp2_with (first|((with_reducible refine gate_dst (N:=9) rfl ?_);refine Kd.S_lit k68 _ 68 ?hg (N:=9) ?hd (xs:=([]:List (S68))) (inner:=[]) (ok:=fun _=>True) (okp:=fun _=>True) ?hr ?hp (fun _ hk=>hk) trivial (Below.refl _ _) (Nat.le_refl _) (by simp) ?_;(case hd=>rfl);(case hg=>rfl);(case hr=>first|(go_simp;done)|(go_simp;rfl));(case hp=>exact (Reps.none _ _));intro v224 w4 ho5 hb hg_ hnew_;clear hg_ hnew_;(first|rw [←Ny223.out] at ho5|(simp only [Int.reduceToNat] at ho5;rw [←Ny223.out] at ho5));have n0_:=Aside0.mk (Kd.S_lower ho5 (below_size (by repeat (first|(with_reducible first|exact HB.out|apply below_alloc|apply pw_below_drewN|apply below_drew1)|exact HB.out))));have n1_:=Aside0.mk (below_step (by repeat (first|(with_reducible first|exact HB.out|apply below_alloc|apply pw_below_drewN|apply below_drew1)|exact HB.out)) hb);clear HB;have HO225:=n0_;have HB:=n1_;clear n0_ n1_;clear hb ho5)|(go_at_call 86;(with_reducible refine (spec_l10Smith.calls k _ _ l0 t226 _ ?side1 ?side2 A3.out).mono ?_);(case side1=>repeat (first|exact (Kd.C_below HR0.out HB.out)|(with_reducible refine Kd.C_alloc ?_ _)|(with_reducible refine Kd.C_drewN ?_ _)|(with_reducible refine Kd.C_drew ?_)));(case side2=>exact HC0.out);rintro e w6 ⟨v227,rfl,ho0,hb⟩;have n0_:=Aside0.mk (Kd.S_elder' (by (with_reducible repeat (first|apply Kd.S_alloc|apply Kd.S_drewN|apply Kd.S_drew));exact HO225.out) (Kd.R_base ho0) hb);have n1_:=Aside0.mk (Kd.R_lower ho0 (below_size (by repeat (first|(with_reducible first|exact HB.out|apply below_alloc|apply pw_below_drewN|apply below_drew1)|exact HB.out))));have n2_:=Aside0.mk (below_step (by repeat (first|(with_reducible first|exact HB.out|apply below_alloc|apply pw_below_drewN|apply below_drew1)|exact HB.out)) hb);clear HO225;clear HB;have HO225:=n0_;have HO228:=n1_;have HB:=n2_;clear n0_ n1_ n2_;(try clear hb);(try clear hb2);(try clear hk);(try clear hi);(try clear ho0)))
 repeat (go_quiet (first|((with_reducible refine gate_dst (N:=9) rfl ?_);refine Kd.S_lit k68 _ 68 ?hg (N:=9) ?hd (xs:=([]:List (S68))) (inner:=[]) (ok:=fun _=>True) (okp:=fun _=>True) ?hr ?hp (fun _ hk=>hk) trivial (Below.refl _ _) (Nat.le_refl _) (by simp) ?_;(case hd=>rfl);(case hg=>rfl);(case hr=>first|(go_simp;done)|(go_simp;rfl));(case hp=>exact (Reps.none _ _));intro v224 w4 ho5 hb hg_ hnew_;clear hg_ hnew_;(first|rw [←Ny223.out] at ho5|(simp only [Int.reduceToNat] at ho5;rw [←Ny223.out] at ho5));have n0_:=Aside0.mk (Kd.S_lower ho5 (below_size (by repeat (first|(with_reducible first|exact HB.out|apply below_alloc|apply pw_below_drewN|apply below_drew1)|exact HB.out))));have n1_:=Aside0.mk (below_step (by repeat (first|(with_reducible first|exact HB.out|apply below_alloc|apply pw_below_drewN|apply below_drew1)|exact HB.out)) hb);clear HB;have HO225:=n0_;have HB:=n1_;clear n0_ n1_;clear hb ho5)|(go_at_call 86;(with_reducible refine (spec_l10Smith.calls k _ _ l0 t226 _ ?side1 ?side2 A3.out).mono ?_);(case side1=>repeat (first|exact (Kd.C_below HR0.out HB.out)|(with_reducible refine Kd.C_alloc ?_ _)|(with_reducible refine Kd.C_drewN ?_ _)|(with_reducible refine Kd.C_drew ?_)));(case side2=>exact HC0.out);rintro e w6 ⟨v227,rfl,ho0,hb⟩;have n0_:=Aside0.mk (Kd.S_elder' (by (with_reducible repeat (first|apply Kd.S_alloc|apply Kd.S_drewN|apply Kd.S_drew));exact HO225.out) (Kd.R_base ho0) hb);have n1_:=Aside0.mk (Kd.R_lower ho0 (below_size (by repeat (first|(with_reducible first|exact HB.out|apply below_alloc|apply pw_below_drewN|apply below_drew1)|exact HB.out))));have n2_:=Aside0.mk (below_step (by repeat (first|(with_reducible first|exact HB.out|apply below_alloc|apply pw_below_drewN|apply below_drew1)|exact HB.out)) hb);clear HO225;clear HB;have HO225:=n0_;have HO228:=n1_;have HB:=n2_;clear n0_ n1_ n2_;(try clear hb);(try clear hb2);(try clear hk);(try clear hi);(try clear ho0)));try go_wp2_with (first|((with_reducible refine gate_dst (N:=9) rfl ?_);refine Kd.S_lit k68 _ 68 ?hg (N:=9) ?hd (xs:=([]:List (S68))) (inner:=[]) (ok:=fun _=>True) (okp:=fun _=>True) ?hr ?hp (fun _ hk=>hk) trivial (Below.refl _ _) (Nat.le_refl _) (by simp) ?_;(case hd=>rfl);(case hg=>rfl);(case hr=>first|(go_simp;done)|(go_simp;rfl));(case hp=>exact (Reps.none _ _));intro v224 w4 ho5 hb hg_ hnew_;clear hg_ hnew_;(first|rw [←Ny223.out] at ho5|(simp only [Int.reduceToNat] at ho5;rw [←Ny223.out] at ho5));have n0_:=Aside0.mk (Kd.S_lower ho5 (below_size (by repeat (first|(with_reducible first|exact HB.out|apply below_alloc|apply pw_below_drewN|apply below_drew1)|exact HB.out))));have n1_:=Aside0.mk (below_step (by repeat (first|(with_reducible first|exact HB.out|apply below_alloc|apply pw_below_drewN|apply below_drew1)|exact HB.out)) hb);clear HB;have HO225:=n0_;have HB:=n1_;clear n0_ n1_;clear hb ho5)|(go_at_call 86;(with_reducible refine (spec_l10Smith.calls k _ _ l0 t226 _ ?side1 ?side2 A3.out).mono ?_);(case side1=>repeat (first|exact (Kd.C_below HR0.out HB.out)|(with_reducible refine Kd.C_alloc ?_ _)|(with_reducible refine Kd.C_drewN ?_ _)|(with_reducible refine Kd.C_drew ?_)));(case side2=>exact HC0.out);rintro e w6 ⟨v227,rfl,ho0,hb⟩;have n0_:=Aside0.mk (Kd.S_elder' (by (with_reducible repeat (first|apply Kd.S_alloc|apply Kd.S_drewN|apply Kd.S_drew));exact HO225.out) (Kd.R_base ho0) hb);have n1_:=Aside0.mk (Kd.R_lower ho0 (below_size (by repeat (first|(with_reducible first|exact HB.out|apply below_alloc|apply pw_below_drewN|apply below_drew1)|exact HB.out))));have n2_:=Aside0.mk (below_step (by repeat (first|(with_reducible first|exact HB.out|apply below_alloc|apply pw_below_drewN|apply below_drew1)|exact HB.out)) hb);clear HO225;clear HB;have HO225:=n0_;have HO228:=n1_;have HB:=n2_;clear n0_ n1_ n2_;(try clear hb);(try clear hb2);(try clear hk);(try clear hi);(try clear ho0))))
 go_loopg [5,7] k (fun kq v5 v7 w'=>∃ (x5_1:List (S68)) (x7_1:Int),v7=.int .i64 x7_1∧Aside0 (spec_l10Made.l0 kq l0 a1 x5_1 t226 x7_1=some r)∧Aside0 (kq≤k)∧Aside0 (Kd.S k68 68 w' w.heap.size (fun k_=>some k_≠(v227:Value).ownBlock) v5 x5_1)∧Aside0 (Kd.R (Kd.int .i64) 3 w' w.heap.size (fun _=>True) v227 t226)∧Aside0 (Below w.heap.size w w'))
 case atStart=>exact ⟨(y223),(0),(by first|rfl|(simp;done)|(simp [*];done)),H',⟨Nat.le_refl _⟩,⟨by (with_reducible repeat (first|apply Kd.S_alloc|apply Kd.S_drewN|apply Kd.S_drew));exact Kd.S_mono HO225.out (fun _ hk=>hk.2)⟩,⟨by (with_reducible repeat (first|apply Kd.R_alloc|apply Kd.R_drewN|apply Kd.R_drew));exact HO228.out⟩,⟨by repeat (first|(with_reducible first|exact HB.out|apply below_alloc|apply pw_below_drewN|apply below_drew1)|exact HB.out)⟩⟩
 case round=>
  clear H'
  try clear p2
  try clear c4
  obtain ⟨x5_1,x7_1,rfl,HA,HK1,HO_5,HO_6,HB⟩:=hrel
  cases gk with
  | zero=>exact absurd HA.out (by simp [spec_l10Made.l0])
  | succ k1=>
   have H:=HA.out
   clear HA
   simp only [spec_l10Made.l0] at H
   by_cases c7:x7_1<(t226.length:Int)
   ·rw [if_pos c7] at H
    have c7b0:decide (x7_1<(t226.length:Int))=true:=decide_eq_true c7
    clear c7
    by_cases c8:0≤x7_1
    ·rw [if_pos c8] at H
     have c8b0:decide (0≤x7_1)=true:=decide_eq_true c8
     clear c8
     by_cases c9:0≤(rd t226 x7_1)
     ·rw [if_pos c9] at H
      have c9b0:decide (0≤(rd t226 x7_1))=true:=decide_eq_true c9
      clear c9
      by_cases c10:(rd t226 x7_1)<(l0.length:Int)
      ·rw [if_pos c10] at H
       have c10b0:decide ((rd t226 x7_1)<(l0.length:Int))=true:=decide_eq_true c10
       clear c10
       by_cases c11:((rd_T62 l0 (rd t226 x7_1)).f0)=0
       ·rw [if_pos c11] at H
        exact absurd H (by simp)
       ·rw [if_neg c11] at H
        have c11b0:(((rd_T62 l0 (rd t226 x7_1)).f0) == 0)=false:=beq_eq_false_iff_ne.mpr c11
        have c11b1:(((rd_T62 l0 (rd t226 x7_1)).f0) != 0)=true:=bne_iff_ne.mpr c11
        by_cases c12:(wrap64 (x7_1 + 1))<(t226.length:Int)
        ·rw [if_pos c12] at H
         have c12b0:decide ((wrap64 (x7_1 + 1))<(t226.length:Int))=true:=decide_eq_true c12
         clear c12
         obtain ⟨ji13,hji13⟩:∃ j_:Int,(wrap64 (x7_1 + 1))=j_:=⟨_,rfl⟩
         replace H:(if 0≤(ji13) then (if 0≤(rd t226 (ji13)) then (if (rd t226 (ji13))<(l0.length:Int) then (if ((rd_T62 l0 (rd t226 (ji13))).f0)=0 then (none) else (if (wrap64 ((wrap64 (((rd_T62 l0 (rd t226 x7_1)).f1) * (wrap64 (Int.tdiv a1 ((rd_T62 l0 (rd t226 x7_1)).f0))))) - (wrap64 (((rd_T62 l0 (rd t226 (ji13))).f1) * (wrap64 (Int.tdiv a1 ((rd_T62 l0 (rd t226 (ji13))).f0)))))))>0 then (if (ji13)≤(t226.length:Int) then ((spec_l6Ascending.f k1 (t226.take ((ji13):Int).toNat)).bind fun t241=>(if x5_1.length<4398046511104 then (spec_l10Made.l0 k1 l0 a1 (x5_1++[(⟨t241,wrap64 ((wrap64 (((rd_T62 l0 (rd t226 x7_1)).f1) * (wrap64 (Int.tdiv a1 ((rd_T62 l0 (rd t226 x7_1)).f0))))) - (wrap64 (((rd_T62 l0 (rd t226 (ji13))).f1) * (wrap64 (Int.tdiv a1 ((rd_T62 l0 (rd t226 (ji13))).f0))))))⟩:S68)]) t226 ji13) else (none))) else (none)) else (spec_l10Made.l0 k1 l0 a1 x5_1 t226 ji13))) else (none)) else (none)) else (none))=some r:=by first|(rw [hji13] at H;exact H)|(simp only [hji13] at H ⊢;exact H)
         (try rw [hji13] at c12b0)
         have hji13w:(IntKind.i64.wrap (x7_1 + 1))=ji13:=(i64_w _).trans hji13
         by_cases c14:0≤(ji13)
         ·rw [if_pos c14] at H
          have c14b0:decide (0≤(ji13))=true:=decide_eq_true c14
          clear c14
          by_cases c15:0≤(rd t226 (ji13))
          ·rw [if_pos c15] at H
           have c15b0:decide (0≤(rd t226 (ji13)))=true:=decide_eq_true c15
           clear c15
           by_cases c16:(rd t226 (ji13))<(l0.length:Int)
           ·rw [if_pos c16] at H
            have c16b0:decide ((rd t226 (ji13))<(l0.length:Int))=true:=decide_eq_true c16
            clear c16
            by_cases c17:((rd_T62 l0 (rd t226 (ji13))).f0)=0
            ·rw [if_pos c17] at H
             exact absurd H (by simp)
            ·rw [if_neg c17] at H
             have c17b0:(((rd_T62 l0 (rd t226 (ji13))).f0) == 0)=false:=beq_eq_false_iff_ne.mpr c17
             have c17b1:(((rd_T62 l0 (rd t226 (ji13))).f0) != 0)=true:=bne_iff_ne.mpr c17
             by_cases c18:(wrap64 ((wrap64 (((rd_T62 l0 (rd t226 x7_1)).f1) * (wrap64 (Int.tdiv a1 ((rd_T62 l0 (rd t226 x7_1)).f0))))) - (wrap64 (((rd_T62 l0 (rd t226 (ji13))).f1) * (wrap64 (Int.tdiv a1 ((rd_T62 l0 (rd t226 (ji13))).f0)))))))>0
             ·rw [if_pos c18] at H
              have c18b0:decide (0<(wrap64 ((wrap64 (((rd_T62 l0 (rd t226 x7_1)).f1) * (wrap64 (Int.tdiv a1 ((rd_T62 l0 (rd t226 x7_1)).f0))))) - (wrap64 (((rd_T62 l0 (rd t226 (ji13))).f1) * (wrap64 (Int.tdiv a1 ((rd_T62 l0 (rd t226 (ji13))).f0))))))))=true:=decide_eq_true c18
              clear c18
              have c19b0:=eq_true (of_decide_eq_true (by first|(with_reducible assumption)|assumption):0≤(ji13))
              by_cases c20:(ji13)≤(t226.length:Int)
              ·rw [if_pos c20] at H
               have c20b0:=eq_true c20
               have c20b1:decide ((ji13)≤(t226.length:Int))=true:=decide_eq_true c20
               clear c20
               obtain ⟨y237,hy237⟩:∃ y_:List Int,y_=(t226.take ((ji13):Int).toNat):=⟨_,rfl⟩
               replace H:((spec_l6Ascending.f k1 y237).bind fun t241=>(if x5_1.length<4398046511104 then (spec_l10Made.l0 k1 l0 a1 (x5_1++[(⟨t241,wrap64 ((wrap64 (((rd_T62 l0 (rd t226 x7_1)).f1) * (wrap64 (Int.tdiv a1 ((rd_T62 l0 (rd t226 x7_1)).f0))))) - (wrap64 (((rd_T62 l0 (rd t226 (ji13))).f1) * (wrap64 (Int.tdiv a1 ((rd_T62 l0 (rd t226 (ji13))).f0))))))⟩:S68)]) t226 ji13) else (none)))=some r:=by first|(rw [hy237];with_reducible exact H)|(have H2_:=(Option.bind_some _ _).symm.trans H;rw [hy237];with_reducible exact H2_)|(have H2_:=(Option.bind_some _ _).symm.trans H;with_reducible exact H2_)|with_reducible exact H|(rw [hy237];exact H)|exact H
               have Ny237:=Aside0.mk hy237
               clear hy237
               replace H:=Option.bind_eq_some_iff.mp H
               obtain ⟨t241,A210,H⟩:=H
               replace H:(if x5_1.length<4398046511104 then (spec_l10Made.l0 k1 l0 a1 (x5_1++[(⟨t241,wrap64 ((wrap64 (((rd_T62 l0 (rd t226 x7_1)).f1) * (wrap64 (Int.tdiv a1 ((rd_T62 l0 (rd t226 x7_1)).f0))))) - (wrap64 (((rd_T62 l0 (rd t226 (ji13))).f1) * (wrap64 (Int.tdiv a1 ((rd_T62 l0 (rd t226 (ji13))).f0))))))⟩:S68)]) t226 ji13) else (none))=some r:=H
               have A21:=Aside0.mk A210
               clear A210
               by_cases c22:x5_1.length<4398046511104
               ·rw [if_pos c22] at H
                have LMc22:=Aside0.mk c22
                clear c22
                obtain ⟨y244,hy244⟩:∃ y_:List (S68),y_=(x5_1++[(⟨t241,wrap64 ((wrap64 (((rd_T62 l0 (rd t226 x7_1)).f1) * (wrap64 (Int.tdiv a1 ((rd_T62 l0 (rd t226 x7_1)).f0))))) - (wrap64 (((rd_T62 l0 (rd t226 (ji13))).f1) * (wrap64 (Int.tdiv a1 ((rd_T62 l0 (rd t226 (ji13))).f0))))))⟩:S68)]):=⟨_,rfl⟩
                replace H:(spec_l10Made.l0 k1 l0 a1 y244 t226 ji13)=some r:=by first|(rw [hy244];with_reducible exact H)|(have H2_:=(Option.bind_some _ _).symm.trans H;rw [hy244];with_reducible exact H2_)|(have H2_:=(Option.bind_some _ _).symm.trans H;with_reducible exact H2_)|with_reducible exact H|(rw [hy244];exact H)|exact H
                have Ny244:=Aside0.mk hy244
                clear hy244
                have H':=Aside0.mk H
                clear H
                obtain ⟨Ao23,co23,eo23⟩:=Kd.R_slice HO_6.out
                subst eo23
                have p229:0≤(x7_1:Int):=of_decide_eq_true (by first|(with_reducible assumption)|assumption)
                have q229:x7_1<(t226.length:Int):=of_decide_eq_true (by first|(with_reducible assumption)|assumption)
                obtain ⟨ad229,e229,hx229_0⟩:=Kd.at_int (Kd.R_reads' HO_6.out).2.2 x7_1 p229 q229
                cases e229
                replace p229:=eq_true p229
                replace q229:=eq_true q229
                have p230:0≤((rd t226 x7_1):Int):=of_decide_eq_true (by first|(with_reducible assumption)|assumption)
                have q230:(rd t226 x7_1)<(l0.length:Int):=of_decide_eq_true (by first|(with_reducible assumption)|assumption)
                obtain ⟨ad230,e230,hx230_0,hx230_1,hx230_2,hx230_3⟩:=at_T62 HR0.out (rd t226 x7_1) p230 q230
                cases e230
                replace hx230_0:=(HB.out.cell (World.block_lt_of_cell? w _ hx230_0)).trans hx230_0
                replace hx230_1:=(HB.out.cell (World.block_lt_of_cell? w _ hx230_1)).trans hx230_1
                replace hx230_2:=(HB.out.cell (World.block_lt_of_cell? w _ hx230_2)).trans hx230_2
                replace hx230_3:=(HB.out.cell (World.block_lt_of_cell? w _ hx230_3)).trans hx230_3
                replace p230:=eq_true p230
                replace q230:=eq_true q230
                have p231:0≤(x7_1:Int):=of_decide_eq_true (by first|(with_reducible assumption)|assumption)
                have q231:x7_1<(t226.length:Int):=of_decide_eq_true (by first|(with_reducible assumption)|assumption)
                obtain ⟨ad231,e231,hx231_0⟩:=Kd.at_int (Kd.R_reads' HO_6.out).2.2 x7_1 p231 q231
                obtain rfl:ad229=ad231:=(by injection e231)
                replace p231:=eq_true p231
                replace q231:=eq_true q231
                have p232:0≤((rd t226 x7_1):Int):=of_decide_eq_true (by first|(with_reducible assumption)|assumption)
                have q232:(rd t226 x7_1)<(l0.length:Int):=of_decide_eq_true (by first|(with_reducible assumption)|assumption)
                obtain ⟨ad232,e232,hx232_0,hx232_1,hx232_2,hx232_3⟩:=at_T62 HR0.out (rd t226 x7_1) p232 q232
                obtain rfl:ad230=ad232:=(by injection e232)
                replace hx232_0:=(HB.out.cell (World.block_lt_of_cell? w _ hx232_0)).trans hx232_0
                replace hx232_1:=(HB.out.cell (World.block_lt_of_cell? w _ hx232_1)).trans hx232_1
                replace hx232_2:=(HB.out.cell (World.block_lt_of_cell? w _ hx232_2)).trans hx232_2
                replace hx232_3:=(HB.out.cell (World.block_lt_of_cell? w _ hx232_3)).trans hx232_3
                replace p232:=eq_true p232
                replace q232:=eq_true q232
                have p233:0≤((ji13):Int):=of_decide_eq_true (by first|(with_reducible assumption)|assumption)
                have q233:(ji13)<(t226.length:Int):=of_decide_eq_true (by first|(with_reducible assumption)|assumption)
                obtain ⟨ad233,e233,hx233_0⟩:=Kd.at_int (Kd.R_reads' HO_6.out).2.2 (ji13) p233 q233
                obtain rfl:ad229=ad233:=(by injection e233)
                replace p233:=eq_true p233
                replace q233:=eq_true q233
                have p234:0≤((rd t226 (ji13)):Int):=of_decide_eq_true (by first|(with_reducible assumption)|assumption)
                have q234:(rd t226 (ji13))<(l0.length:Int):=of_decide_eq_true (by first|(with_reducible assumption)|assumption)
                obtain ⟨ad234,e234,hx234_0,hx234_1,hx234_2,hx234_3⟩:=at_T62 HR0.out (rd t226 (ji13)) p234 q234
                obtain rfl:ad230=ad234:=(by injection e234)
                replace hx234_0:=(HB.out.cell (World.block_lt_of_cell? w _ hx234_0)).trans hx234_0
                replace hx234_1:=(HB.out.cell (World.block_lt_of_cell? w _ hx234_1)).trans hx234_1
                replace hx234_2:=(HB.out.cell (World.block_lt_of_cell? w _ hx234_2)).trans hx234_2
                replace hx234_3:=(HB.out.cell (World.block_lt_of_cell? w _ hx234_3)).trans hx234_3
                replace p234:=eq_true p234
                replace q234:=eq_true q234
                have p235:0≤((ji13):Int):=of_decide_eq_true (by first|(with_reducible assumption)|assumption)
                have q235:(ji13)<(t226.length:Int):=of_decide_eq_true (by first|(with_reducible assumption)|assumption)
                obtain ⟨ad235,e235,hx235_0⟩:=Kd.at_int (Kd.R_reads' HO_6.out).2.2 (ji13) p235 q235
                obtain rfl:ad229=ad235:=(by injection e235)
                replace p235:=eq_true p235
                replace q235:=eq_true q235
                have p236:0≤((rd t226 (ji13)):Int):=of_decide_eq_true (by first|(with_reducible assumption)|assumption)
                have q236:(rd t226 (ji13))<(l0.length:Int):=of_decide_eq_true (by first|(with_reducible assumption)|assumption)
                obtain ⟨ad236,e236,hx236_0,hx236_1,hx236_2,hx236_3⟩:=at_T62 HR0.out (rd t226 (ji13)) p236 q236
                obtain rfl:ad230=ad236:=(by injection e236)
                replace hx236_0:=(HB.out.cell (World.block_lt_of_cell? w _ hx236_0)).trans hx236_0
                replace hx236_1:=(HB.out.cell (World.block_lt_of_cell? w _ hx236_1)).trans hx236_1
                replace hx236_2:=(HB.out.cell (World.block_lt_of_cell? w _ hx236_2)).trans hx236_2
                replace hx236_3:=(HB.out.cell (World.block_lt_of_cell? w _ hx236_3)).trans hx236_3
                replace p236:=eq_true p236
                replace q236:=eq_true q236
                have q24:((ji13):Int)≤((t226.length:Int):Int):=of_decide_eq_true (by first|(with_reducible assumption)|assumption)
                obtain ⟨i024,hi024,_,hsz24,_⟩:=info_parts info3
                have hroom24:t226.length≤co23:=(Kd.R_reads' HO_6.out).2.1
                have hC24:Kd.C (Kd.int .i64) _ (some ad229) t226.length t226:=(Kd.R_reads' HO_6.out).2.2
                have hcut24:=cut_to (P:=Try.prog) 41 3 .i64 Try.underlying41 hi024 (some ad229) t226.length co23 (ji13) (of_decide_eq_true (by first|(with_reducible assumption)|assumption)) q24 hroom24
                have hr24:=Kd.C_take (m:=((ji13):Int).toNat) hC24 (by omega)
                have hy24:y237.length=((ji13):Int).toNat:=(by rw [Ny237.out,List.length_take];omega)
                rw [←Ny237.out] at hr24
                rw [←hy24] at hcut24
                have HR240:=Aside0.mk hr24
                have HC240:=Aside0.mk (show y237.length≤co23 from by omega)
                clear hr24 hC24 hroom24 hi024 hsz24
                have KY24:=Aside0.mk hy24
                clear hy24
                have KL24:=Aside0.mk (show ((ji13):Int).toNat≤t226.length from by omega)
                replace q24:=eq_true q24
                go_wp2_with (first|(go_at_call 87;(with_reducible refine (spec_l6Ascending.calls k1 _ _ y237 t241 _ ?side1 ?side2 A21.out).mono ?_);(case side1=>repeat (first|exact (by repeat (first|(with_reducible exact HR240.out)|(with_reducible refine Kd.C_alloc ?_ _)|(with_reducible refine Kd.C_drewN ?_ _)|(with_reducible refine Kd.C_drew ?_)|exact HR240.out))|(with_reducible refine Kd.C_alloc ?_ _)|(with_reducible refine Kd.C_drewN ?_ _)|(with_reducible refine Kd.C_drew ?_)));(case side2=>exact HC240.out);rintro e w25 ⟨v242,rfl,ho0,hb⟩;have n0_:=Aside0.mk (Kd.S_elder' (by (with_reducible repeat (first|apply Kd.S_alloc|apply Kd.S_drewN|apply Kd.S_drew));exact HO_5.out) (Kd.R_base ho0) hb);have n1_:=Aside0.mk (Kd.R_elder' (by (with_reducible repeat (first|apply Kd.R_alloc|apply Kd.R_drewN|apply Kd.R_drew));exact HO_6.out) (Kd.R_base ho0) hb);have n2_:=Aside0.mk (Kd.R_lower (Kd.R_new' ho0 (Kd.R_lt (by (with_reducible repeat (first|apply Kd.R_alloc|apply Kd.R_drewN|apply Kd.R_drew));exact HO_6.out))) (below_size (by repeat (first|(with_reducible first|exact HB.out|apply below_alloc|apply pw_below_drewN|apply below_drew1)|exact HB.out))));have n3_:=Aside0.mk (Kd.C_below (by repeat (first|(with_reducible exact HR240.out)|(with_reducible refine Kd.C_alloc ?_ _)|(with_reducible refine Kd.C_drewN ?_ _)|(with_reducible refine Kd.C_drew ?_)|exact HR240.out)) hb);have n4_:=Aside0.mk (below_step (by repeat (first|(with_reducible first|exact HB.out|apply below_alloc|apply pw_below_drewN|apply below_drew1)|exact HB.out)) hb);clear HO_5;clear HO_6;clear HR240;clear HB;have HO_5:=n0_;have HO_6:=n1_;have HO243:=n2_;have HR240:=n3_;have HB:=n4_;clear n0_ n1_ n2_ n3_ n4_;(try clear hb);(try clear hb2);(try clear hk);(try clear hi);(try clear ho0);obtain ⟨Ao26,co26,eo26⟩:=Kd.R_slice HO243.out;subst eo26)|((with_reducible refine gate_builtin (b:=.append) (xs:=#[.tmp 67,.tmp 75]) rfl ?_);at_builtin;refine Kd.S_append k68 (w0:=w) w.heap.size rfl (.tmp 67) (.tmp 75) 31 68 (.agg #[(.slice none 0 0),(.int .i64 0)]) 32 rfl Try.underlying31 info68 rfl (by decide) (by omega) u5 x5_1 (⟨t241,wrap64 ((wrap64 (((rd_T62 l0 (rd t226 x7_1)).f1) * (wrap64 (Int.tdiv a1 ((rd_T62 l0 (rd t226 x7_1)).f0))))) - (wrap64 (((rd_T62 l0 (rd t226 (ji13))).f1) * (wrap64 (Int.tdiv a1 ((rd_T62 l0 (rd t226 (ji13))).f0))))))⟩:S68) [.slice Ao26 t241.length co26,.int .i64 (wrap64 ((wrap64 (((rd_T62 l0 (rd t226 x7_1)).f1) * (wrap64 (Int.tdiv a1 ((rd_T62 l0 (rd t226 x7_1)).f0))))) - (wrap64 (((rd_T62 l0 (rd t226 (ji13))).f1) * (wrap64 (Int.tdiv a1 ((rd_T62 l0 (rd t226 (ji13))).f0)))))))] (fun k_=>some k_≠(.slice (some ad229) t226.length co23:Value).ownBlock) (fun k_=>some k_=(.slice Ao26 t241.length co26:Value).ownBlock) rfl rfl ?aP (fun k_ hk_=>((Kd.R_mono (ok':=fun k_=>((fun k_=>some k_≠(.slice (some ad229) t226.length co23:Value).ownBlock)) k_∧some k_≠(u5:Value).ownBlock) (Kd.R_apart' (HO243.out) (Kd.S_typed HO_5.out) (by decide)) (fun k_ hk=>⟨hk.1.2,hk.2⟩))).1 k_ hk_.symm) ?aF ?aO ?aB ?aS ?aL ?_;(case aP=>exact k68_mkM _ _ _ (⟨t241,wrap64 ((wrap64 (((rd_T62 l0 (rd t226 x7_1)).f1) * (wrap64 (Int.tdiv a1 ((rd_T62 l0 (rd t226 x7_1)).f0))))) - (wrap64 (((rd_T62 l0 (rd t226 (ji13))).f1) * (wrap64 (Int.tdiv a1 ((rd_T62 l0 (rd t226 (ji13))).f0))))))⟩:S68) (Kd.R_mono (Kd.R_tight rfl (Kd.R_mono (ok':=fun k_=>((fun k_=>some k_≠(.slice (some ad229) t226.length co23:Value).ownBlock)) k_∧some k_≠(u5:Value).ownBlock) (Kd.R_apart' (HO243.out) (Kd.S_typed HO_5.out) (by decide)) (fun k_ hk=>⟨hk.1.2,hk.2⟩))) (fun _ h_=>h_)));(case aB=>exact (by repeat (first|(with_reducible first|exact HB.out|apply below_alloc|apply pw_below_drewN|apply below_drew1)|exact HB.out)));(case aF=>exact (fun k_ hk=>Kd.fresh' (Kd.R_lt (by (with_reducible repeat (first|apply Kd.R_alloc|apply Kd.R_drewN|apply Kd.R_drew));exact HO_6.out)) k_ hk));(case aO=>exact (by (with_reducible repeat (first|apply Kd.S_alloc|apply Kd.S_drewN|apply Kd.S_drew));exact Kd.S_mono HO_5.out (fun k_ hk=>⟨hk.1,fun e_=>hk.2 e_⟩)));(case aS=>exact (below_size (by repeat (first|(with_reducible first|exact HB.out|apply below_alloc|apply pw_below_drewN|apply below_drew1)|exact HB.out))));(case aL=>have:=LMc22.out;omega);intro v245 w27 ho hb hg hat;rw [←Ny244.out] at ho;have n0_:=Aside0.mk (Kd.R_over' (by (with_reducible repeat (first|apply Kd.R_alloc|apply Kd.R_drewN|apply Kd.R_drew));exact HO_6.out) (Kd.S_typed (by (with_reducible repeat (first|apply Kd.S_alloc|apply Kd.S_drewN|apply Kd.S_drew));exact HO_5.out)) (by decide) hg);have n1_:=Aside0.mk (hb);have n2_:=Aside0.mk ((show Kd.C (Kd.int .i64) w27 (some ad229) y237.length y237 from by rw [Ny237.out];exact Kd.C_take (m:=((ji13):Int).toNat) ((Kd.R_reads' (Kd.R_over' (by (with_reducible repeat (first|apply Kd.R_alloc|apply Kd.R_drewN|apply Kd.R_drew));exact HO_6.out) (Kd.S_typed (by (with_reducible repeat (first|apply Kd.S_alloc|apply Kd.S_drewN|apply Kd.S_drew));exact HO_5.out)) (by decide) hg)).2.2) KL24.out));have n3_:=Aside0.mk (ho);clear HO_6;clear HB;clear HR240;clear HO_5;clear HO243;have HO_6:=n0_;have HB:=n1_;have HR240:=n2_;have HO246:=n3_;clear n0_ n1_ n2_ n3_;clear ho hb hg hat))
                repeat (go_quiet (first|(go_at_call 87;(with_reducible refine (spec_l6Ascending.calls k1 _ _ y237 t241 _ ?side1 ?side2 A21.out).mono ?_);(case side1=>repeat (first|exact (by repeat (first|(with_reducible exact HR240.out)|(with_reducible refine Kd.C_alloc ?_ _)|(with_reducible refine Kd.C_drewN ?_ _)|(with_reducible refine Kd.C_drew ?_)|exact HR240.out))|(with_reducible refine Kd.C_alloc ?_ _)|(with_reducible refine Kd.C_drewN ?_ _)|(with_reducible refine Kd.C_drew ?_)));(case side2=>exact HC240.out);rintro e w25 ⟨v242,rfl,ho0,hb⟩;have n0_:=Aside0.mk (Kd.S_elder' (by (with_reducible repeat (first|apply Kd.S_alloc|apply Kd.S_drewN|apply Kd.S_drew));exact HO_5.out) (Kd.R_base ho0) hb);have n1_:=Aside0.mk (Kd.R_elder' (by (with_reducible repeat (first|apply Kd.R_alloc|apply Kd.R_drewN|apply Kd.R_drew));exact HO_6.out) (Kd.R_base ho0) hb);have n2_:=Aside0.mk (Kd.R_lower (Kd.R_new' ho0 (Kd.R_lt (by (with_reducible repeat (first|apply Kd.R_alloc|apply Kd.R_drewN|apply Kd.R_drew));exact HO_6.out))) (below_size (by repeat (first|(with_reducible first|exact HB.out|apply below_alloc|apply pw_below_drewN|apply below_drew1)|exact HB.out))));have n3_:=Aside0.mk (Kd.C_below (by repeat (first|(with_reducible exact HR240.out)|(with_reducible refine Kd.C_alloc ?_ _)|(with_reducible refine Kd.C_drewN ?_ _)|(with_reducible refine Kd.C_drew ?_)|exact HR240.out)) hb);have n4_:=Aside0.mk (below_step (by repeat (first|(with_reducible first|exact HB.out|apply below_alloc|apply pw_below_drewN|apply below_drew1)|exact HB.out)) hb);clear HO_5;clear HO_6;clear HR240;clear HB;have HO_5:=n0_;have HO_6:=n1_;have HO243:=n2_;have HR240:=n3_;have HB:=n4_;clear n0_ n1_ n2_ n3_ n4_;(try clear hb);(try clear hb2);(try clear hk);(try clear hi);(try clear ho0);obtain ⟨Ao26,co26,eo26⟩:=Kd.R_slice HO243.out;subst eo26)|((with_reducible refine gate_builtin (b:=.append) (xs:=#[.tmp 67,.tmp 75]) rfl ?_);at_builtin;refine Kd.S_append k68 (w0:=w) w.heap.size rfl (.tmp 67) (.tmp 75) 31 68 (.agg #[(.slice none 0 0),(.int .i64 0)]) 32 rfl Try.underlying31 info68 rfl (by decide) (by omega) u5 x5_1 (⟨t241,wrap64 ((wrap64 (((rd_T62 l0 (rd t226 x7_1)).f1) * (wrap64 (Int.tdiv a1 ((rd_T62 l0 (rd t226 x7_1)).f0))))) - (wrap64 (((rd_T62 l0 (rd t226 (ji13))).f1) * (wrap64 (Int.tdiv a1 ((rd_T62 l0 (rd t226 (ji13))).f0))))))⟩:S68) [.slice Ao26 t241.length co26,.int .i64 (wrap64 ((wrap64 (((rd_T62 l0 (rd t226 x7_1)).f1) * (wrap64 (Int.tdiv a1 ((rd_T62 l0 (rd t226 x7_1)).f0))))) - (wrap64 (((rd_T62 l0 (rd t226 (ji13))).f1) * (wrap64 (Int.tdiv a1 ((rd_T62 l0 (rd t226 (ji13))).f0)))))))] (fun k_=>some k_≠(.slice (some ad229) t226.length co23:Value).ownBlock) (fun k_=>some k_=(.slice Ao26 t241.length co26:Value).ownBlock) rfl rfl ?aP (fun k_ hk_=>((Kd.R_mono (ok':=fun k_=>((fun k_=>some k_≠(.slice (some ad229) t226.length co23:Value).ownBlock)) k_∧some k_≠(u5:Value).ownBlock) (Kd.R_apart' (HO243.out) (Kd.S_typed HO_5.out) (by decide)) (fun k_ hk=>⟨hk.1.2,hk.2⟩))).1 k_ hk_.symm) ?aF ?aO ?aB ?aS ?aL ?_;(case aP=>exact k68_mkM _ _ _ (⟨t241,wrap64 ((wrap64 (((rd_T62 l0 (rd t226 x7_1)).f1) * (wrap64 (Int.tdiv a1 ((rd_T62 l0 (rd t226 x7_1)).f0))))) - (wrap64 (((rd_T62 l0 (rd t226 (ji13))).f1) * (wrap64 (Int.tdiv a1 ((rd_T62 l0 (rd t226 (ji13))).f0))))))⟩:S68) (Kd.R_mono (Kd.R_tight rfl (Kd.R_mono (ok':=fun k_=>((fun k_=>some k_≠(.slice (some ad229) t226.length co23:Value).ownBlock)) k_∧some k_≠(u5:Value).ownBlock) (Kd.R_apart' (HO243.out) (Kd.S_typed HO_5.out) (by decide)) (fun k_ hk=>⟨hk.1.2,hk.2⟩))) (fun _ h_=>h_)));(case aB=>exact (by repeat (first|(with_reducible first|exact HB.out|apply below_alloc|apply pw_below_drewN|apply below_drew1)|exact HB.out)));(case aF=>exact (fun k_ hk=>Kd.fresh' (Kd.R_lt (by (with_reducible repeat (first|apply Kd.R_alloc|apply Kd.R_drewN|apply Kd.R_drew));exact HO_6.out)) k_ hk));(case aO=>exact (by (with_reducible repeat (first|apply Kd.S_alloc|apply Kd.S_drewN|apply Kd.S_drew));exact Kd.S_mono HO_5.out (fun k_ hk=>⟨hk.1,fun e_=>hk.2 e_⟩)));(case aS=>exact (below_size (by repeat (first|(with_reducible first|exact HB.out|apply below_alloc|apply pw_below_drewN|apply below_drew1)|exact HB.out))));(case aL=>have:=LMc22.out;omega);intro v245 w27 ho hb hg hat;rw [←Ny244.out] at ho;have n0_:=Aside0.mk (Kd.R_over' (by (with_reducible repeat (first|apply Kd.R_alloc|apply Kd.R_drewN|apply Kd.R_drew));exact HO_6.out) (Kd.S_typed (by (with_reducible repeat (first|apply Kd.S_alloc|apply Kd.S_drewN|apply Kd.S_drew));exact HO_5.out)) (by decide) hg);have n1_:=Aside0.mk (hb);have n2_:=Aside0.mk ((show Kd.C (Kd.int .i64) w27 (some ad229) y237.length y237 from by rw [Ny237.out];exact Kd.C_take (m:=((ji13):Int).toNat) ((Kd.R_reads' (Kd.R_over' (by (with_reducible repeat (first|apply Kd.R_alloc|apply Kd.R_drewN|apply Kd.R_drew));exact HO_6.out) (Kd.S_typed (by (with_reducible repeat (first|apply Kd.S_alloc|apply Kd.S_drewN|apply Kd.S_drew));exact HO_5.out)) (by decide) hg)).2.2) KL24.out));have n3_:=Aside0.mk (ho);clear HO_6;clear HB;clear HR240;clear HO_5;clear HO243;have HO_6:=n0_;have HB:=n1_;have HR240:=n2_;have HO246:=n3_;clear n0_ n1_ n2_ n3_;clear ho hb hg hat));try go_wp2_with (first|(go_at_call 87;(with_reducible refine (spec_l6Ascending.calls k1 _ _ y237 t241 _ ?side1 ?side2 A21.out).mono ?_);(case side1=>repeat (first|exact (by repeat (first|(with_reducible exact HR240.out)|(with_reducible refine Kd.C_alloc ?_ _)|(with_reducible refine Kd.C_drewN ?_ _)|(with_reducible refine Kd.C_drew ?_)|exact HR240.out))|(with_reducible refine Kd.C_alloc ?_ _)|(with_reducible refine Kd.C_drewN ?_ _)|(with_reducible refine Kd.C_drew ?_)));(case side2=>exact HC240.out);rintro e w25 ⟨v242,rfl,ho0,hb⟩;have n0_:=Aside0.mk (Kd.S_elder' (by (with_reducible repeat (first|apply Kd.S_alloc|apply Kd.S_drewN|apply Kd.S_drew));exact HO_5.out) (Kd.R_base ho0) hb);have n1_:=Aside0.mk (Kd.R_elder' (by (with_reducible repeat (first|apply Kd.R_alloc|apply Kd.R_drewN|apply Kd.R_drew));exact HO_6.out) (Kd.R_base ho0) hb);have n2_:=Aside0.mk (Kd.R_lower (Kd.R_new' ho0 (Kd.R_lt (by (with_reducible repeat (first|apply Kd.R_alloc|apply Kd.R_drewN|apply Kd.R_drew));exact HO_6.out))) (below_size (by repeat (first|(with_reducible first|exact HB.out|apply below_alloc|apply pw_below_drewN|apply below_drew1)|exact HB.out))));have n3_:=Aside0.mk (Kd.C_below (by repeat (first|(with_reducible exact HR240.out)|(with_reducible refine Kd.C_alloc ?_ _)|(with_reducible refine Kd.C_drewN ?_ _)|(with_reducible refine Kd.C_drew ?_)|exact HR240.out)) hb);have n4_:=Aside0.mk (below_step (by repeat (first|(with_reducible first|exact HB.out|apply below_alloc|apply pw_below_drewN|apply below_drew1)|exact HB.out)) hb);clear HO_5;clear HO_6;clear HR240;clear HB;have HO_5:=n0_;have HO_6:=n1_;have HO243:=n2_;have HR240:=n3_;have HB:=n4_;clear n0_ n1_ n2_ n3_ n4_;(try clear hb);(try clear hb2);(try clear hk);(try clear hi);(try clear ho0);obtain ⟨Ao26,co26,eo26⟩:=Kd.R_slice HO243.out;subst eo26)|((with_reducible refine gate_builtin (b:=.append) (xs:=#[.tmp 67,.tmp 75]) rfl ?_);at_builtin;refine Kd.S_append k68 (w0:=w) w.heap.size rfl (.tmp 67) (.tmp 75) 31 68 (.agg #[(.slice none 0 0),(.int .i64 0)]) 32 rfl Try.underlying31 info68 rfl (by decide) (by omega) u5 x5_1 (⟨t241,wrap64 ((wrap64 (((rd_T62 l0 (rd t226 x7_1)).f1) * (wrap64 (Int.tdiv a1 ((rd_T62 l0 (rd t226 x7_1)).f0))))) - (wrap64 (((rd_T62 l0 (rd t226 (ji13))).f1) * (wrap64 (Int.tdiv a1 ((rd_T62 l0 (rd t226 (ji13))).f0))))))⟩:S68) [.slice Ao26 t241.length co26,.int .i64 (wrap64 ((wrap64 (((rd_T62 l0 (rd t226 x7_1)).f1) * (wrap64 (Int.tdiv a1 ((rd_T62 l0 (rd t226 x7_1)).f0))))) - (wrap64 (((rd_T62 l0 (rd t226 (ji13))).f1) * (wrap64 (Int.tdiv a1 ((rd_T62 l0 (rd t226 (ji13))).f0)))))))] (fun k_=>some k_≠(.slice (some ad229) t226.length co23:Value).ownBlock) (fun k_=>some k_=(.slice Ao26 t241.length co26:Value).ownBlock) rfl rfl ?aP (fun k_ hk_=>((Kd.R_mono (ok':=fun k_=>((fun k_=>some k_≠(.slice (some ad229) t226.length co23:Value).ownBlock)) k_∧some k_≠(u5:Value).ownBlock) (Kd.R_apart' (HO243.out) (Kd.S_typed HO_5.out) (by decide)) (fun k_ hk=>⟨hk.1.2,hk.2⟩))).1 k_ hk_.symm) ?aF ?aO ?aB ?aS ?aL ?_;(case aP=>exact k68_mkM _ _ _ (⟨t241,wrap64 ((wrap64 (((rd_T62 l0 (rd t226 x7_1)).f1) * (wrap64 (Int.tdiv a1 ((rd_T62 l0 (rd t226 x7_1)).f0))))) - (wrap64 (((rd_T62 l0 (rd t226 (ji13))).f1) * (wrap64 (Int.tdiv a1 ((rd_T62 l0 (rd t226 (ji13))).f0))))))⟩:S68) (Kd.R_mono (Kd.R_tight rfl (Kd.R_mono (ok':=fun k_=>((fun k_=>some k_≠(.slice (some ad229) t226.length co23:Value).ownBlock)) k_∧some k_≠(u5:Value).ownBlock) (Kd.R_apart' (HO243.out) (Kd.S_typed HO_5.out) (by decide)) (fun k_ hk=>⟨hk.1.2,hk.2⟩))) (fun _ h_=>h_)));(case aB=>exact (by repeat (first|(with_reducible first|exact HB.out|apply below_alloc|apply pw_below_drewN|apply below_drew1)|exact HB.out)));(case aF=>exact (fun k_ hk=>Kd.fresh' (Kd.R_lt (by (with_reducible repeat (first|apply Kd.R_alloc|apply Kd.R_drewN|apply Kd.R_drew));exact HO_6.out)) k_ hk));(case aO=>exact (by (with_reducible repeat (first|apply Kd.S_alloc|apply Kd.S_drewN|apply Kd.S_drew));exact Kd.S_mono HO_5.out (fun k_ hk=>⟨hk.1,fun e_=>hk.2 e_⟩)));(case aS=>exact (below_size (by repeat (first|(with_reducible first|exact HB.out|apply below_alloc|apply pw_below_drewN|apply below_drew1)|exact HB.out))));(case aL=>have:=LMc22.out;omega);intro v245 w27 ho hb hg hat;rw [←Ny244.out] at ho;have n0_:=Aside0.mk (Kd.R_over' (by (with_reducible repeat (first|apply Kd.R_alloc|apply Kd.R_drewN|apply Kd.R_drew));exact HO_6.out) (Kd.S_typed (by (with_reducible repeat (first|apply Kd.S_alloc|apply Kd.S_drewN|apply Kd.S_drew));exact HO_5.out)) (by decide) hg);have n1_:=Aside0.mk (hb);have n2_:=Aside0.mk ((show Kd.C (Kd.int .i64) w27 (some ad229) y237.length y237 from by rw [Ny237.out];exact Kd.C_take (m:=((ji13):Int).toNat) ((Kd.R_reads' (Kd.R_over' (by (with_reducible repeat (first|apply Kd.R_alloc|apply Kd.R_drewN|apply Kd.R_drew));exact HO_6.out) (Kd.S_typed (by (with_reducible repeat (first|apply Kd.S_alloc|apply Kd.S_drewN|apply Kd.S_drew));exact HO_5.out)) (by decide) hg)).2.2) KL24.out));have n3_:=Aside0.mk (ho);clear HO_6;clear HB;clear HR240;clear HO_5;clear HO243;have HO_6:=n0_;have HB:=n1_;have HR240:=n2_;have HO246:=n3_;clear n0_ n1_ n2_ n3_;clear ho hb hg hat)))
                go_roundg k1
                case measure=>have:=HK1.out;omega
                case rel=>exact ⟨(y244),(ji13),(by first|rfl|(simp;done)|(simp only [←hji13] <;> (first|rfl|simp))|(simp [*];done)),H',⟨by have:=HK1.out;omega⟩,⟨by (with_reducible repeat (first|apply Kd.S_alloc|apply Kd.S_drewN|apply Kd.S_drew));exact HO246.out⟩,⟨by (with_reducible repeat (first|apply Kd.R_alloc|apply Kd.R_drewN|apply Kd.R_drew));exact Kd.R_mono HO_6.out (fun _ hk=>trivial)⟩,⟨by repeat (first|(with_reducible first|exact HB.out|apply below_alloc|apply pw_below_drewN|apply below_drew1)|exact HB.out)⟩⟩
               ·rw [if_neg c22] at H
                exact absurd H (by simp)
              ·rw [if_neg c20] at H
               exact absurd H (by simp)
             ·rw [if_neg c18] at H
              have c18b0:decide (0<(wrap64 ((wrap64 (((rd_T62 l0 (rd t226 x7_1)).f1) * (wrap64 (Int.tdiv a1 ((rd_T62 l0 (rd t226 x7_1)).f0))))) - (wrap64 (((rd_T62 l0 (rd t226 (ji13))).f1) * (wrap64 (Int.tdiv a1 ((rd_T62 l0 (rd t226 (ji13))).f0))))))))=false:=decide_eq_false c18
              clear c18
              have H':=Aside0.mk H
              clear H
              obtain ⟨Ao28,co28,eo28⟩:=Kd.R_slice HO_6.out
              subst eo28
              have p229:0≤(x7_1:Int):=of_decide_eq_true (by first|(with_reducible assumption)|assumption)
              have q229:x7_1<(t226.length:Int):=of_decide_eq_true (by first|(with_reducible assumption)|assumption)
              obtain ⟨ad229,e229,hx229_0⟩:=Kd.at_int (Kd.R_reads' HO_6.out).2.2 x7_1 p229 q229
              cases e229
              replace p229:=eq_true p229
              replace q229:=eq_true q229
              have p230:0≤((rd t226 x7_1):Int):=of_decide_eq_true (by first|(with_reducible assumption)|assumption)
              have q230:(rd t226 x7_1)<(l0.length:Int):=of_decide_eq_true (by first|(with_reducible assumption)|assumption)
              obtain ⟨ad230,e230,hx230_0,hx230_1,hx230_2,hx230_3⟩:=at_T62 HR0.out (rd t226 x7_1) p230 q230
              cases e230
              replace hx230_0:=(HB.out.cell (World.block_lt_of_cell? w _ hx230_0)).trans hx230_0
              replace hx230_1:=(HB.out.cell (World.block_lt_of_cell? w _ hx230_1)).trans hx230_1
              replace hx230_2:=(HB.out.cell (World.block_lt_of_cell? w _ hx230_2)).trans hx230_2
              replace hx230_3:=(HB.out.cell (World.block_lt_of_cell? w _ hx230_3)).trans hx230_3
              replace p230:=eq_true p230
              replace q230:=eq_true q230
              have p231:0≤(x7_1:Int):=of_decide_eq_true (by first|(with_reducible assumption)|assumption)
              have q231:x7_1<(t226.length:Int):=of_decide_eq_true (by first|(with_reducible assumption)|assumption)
              obtain ⟨ad231,e231,hx231_0⟩:=Kd.at_int (Kd.R_reads' HO_6.out).2.2 x7_1 p231 q231
              obtain rfl:ad229=ad231:=(by injection e231)
              replace p231:=eq_true p231
              replace q231:=eq_true q231
              have p232:0≤((rd t226 x7_1):Int):=of_decide_eq_true (by first|(with_reducible assumption)|assumption)
              have q232:(rd t226 x7_1)<(l0.length:Int):=of_decide_eq_true (by first|(with_reducible assumption)|assumption)
              obtain ⟨ad232,e232,hx232_0,hx232_1,hx232_2,hx232_3⟩:=at_T62 HR0.out (rd t226 x7_1) p232 q232
              obtain rfl:ad230=ad232:=(by injection e232)
              replace hx232_0:=(HB.out.cell (World.block_lt_of_cell? w _ hx232_0)).trans hx232_0
              replace hx232_1:=(HB.out.cell (World.block_lt_of_cell? w _ hx232_1)).trans hx232_1
              replace hx232_2:=(HB.out.cell (World.block_lt_of_cell? w _ hx232_2)).trans hx232_2
              replace hx232_3:=(HB.out.cell (World.block_lt_of_cell? w _ hx232_3)).trans hx232_3
              replace p232:=eq_true p232
              replace q232:=eq_true q232
              have p233:0≤((ji13):Int):=of_decide_eq_true (by first|(with_reducible assumption)|assumption)
              have q233:(ji13)<(t226.length:Int):=of_decide_eq_true (by first|(with_reducible assumption)|assumption)
              obtain ⟨ad233,e233,hx233_0⟩:=Kd.at_int (Kd.R_reads' HO_6.out).2.2 (ji13) p233 q233
              obtain rfl:ad229=ad233:=(by injection e233)
              replace p233:=eq_true p233
              replace q233:=eq_true q233
              have p234:0≤((rd t226 (ji13)):Int):=of_decide_eq_true (by first|(with_reducible assumption)|assumption)
              have q234:(rd t226 (ji13))<(l0.length:Int):=of_decide_eq_true (by first|(with_reducible assumption)|assumption)
              obtain ⟨ad234,e234,hx234_0,hx234_1,hx234_2,hx234_3⟩:=at_T62 HR0.out (rd t226 (ji13)) p234 q234
              obtain rfl:ad230=ad234:=(by injection e234)
              replace hx234_0:=(HB.out.cell (World.block_lt_of_cell? w _ hx234_0)).trans hx234_0
              replace hx234_1:=(HB.out.cell (World.block_lt_of_cell? w _ hx234_1)).trans hx234_1
              replace hx234_2:=(HB.out.cell (World.block_lt_of_cell? w _ hx234_2)).trans hx234_2
              replace hx234_3:=(HB.out.cell (World.block_lt_of_cell? w _ hx234_3)).trans hx234_3
              replace p234:=eq_true p234
              replace q234:=eq_true q234
              have p235:0≤((ji13):Int):=of_decide_eq_true (by first|(with_reducible assumption)|assumption)
              have q235:(ji13)<(t226.length:Int):=of_decide_eq_true (by first|(with_reducible assumption)|assumption)
              obtain ⟨ad235,e235,hx235_0⟩:=Kd.at_int (Kd.R_reads' HO_6.out).2.2 (ji13) p235 q235
              obtain rfl:ad229=ad235:=(by injection e235)
              replace p235:=eq_true p235
              replace q235:=eq_true q235
              have p236:0≤((rd t226 (ji13)):Int):=of_decide_eq_true (by first|(with_reducible assumption)|assumption)
              have q236:(rd t226 (ji13))<(l0.length:Int):=of_decide_eq_true (by first|(with_reducible assumption)|assumption)
              obtain ⟨ad236,e236,hx236_0,hx236_1,hx236_2,hx236_3⟩:=at_T62 HR0.out (rd t226 (ji13)) p236 q236
              obtain rfl:ad230=ad236:=(by injection e236)
              replace hx236_0:=(HB.out.cell (World.block_lt_of_cell? w _ hx236_0)).trans hx236_0
              replace hx236_1:=(HB.out.cell (World.block_lt_of_cell? w _ hx236_1)).trans hx236_1
              replace hx236_2:=(HB.out.cell (World.block_lt_of_cell? w _ hx236_2)).trans hx236_2
              replace hx236_3:=(HB.out.cell (World.block_lt_of_cell? w _ hx236_3)).trans hx236_3
              replace p236:=eq_true p236
              replace q236:=eq_true q236
              go_wp2
              repeat (go_quiet (fail);try go_wp2)
              go_roundg k1
              case measure=>have:=HK1.out;omega
              case rel=>exact ⟨(x5_1),(ji13),(by first|rfl|(simp;done)|(simp only [←hji13] <;> (first|rfl|simp))|(simp [*];done)),H',⟨by have:=HK1.out;omega⟩,⟨by (with_reducible repeat (first|apply Kd.S_alloc|apply Kd.S_drewN|apply Kd.S_drew));exact HO_5.out⟩,⟨by (with_reducible repeat (first|apply Kd.R_alloc|apply Kd.R_drewN|apply Kd.R_drew));exact HO_6.out⟩,⟨by repeat (first|(with_reducible first|exact HB.out|apply below_alloc|apply pw_below_drewN|apply below_drew1)|exact HB.out)⟩⟩
           ·rw [if_neg c16] at H
            exact absurd H (by simp)
          ·rw [if_neg c15] at H
           exact absurd H (by simp)
         ·rw [if_neg c14] at H
          exact absurd H (by simp)
        ·rw [if_neg c12] at H
         have c12b0:decide ((wrap64 (x7_1 + 1))<(t226.length:Int))=false:=decide_eq_false c12
         clear c12
         by_cases c29:(wrap64 (((rd_T62 l0 (rd t226 x7_1)).f1) * (wrap64 (Int.tdiv a1 ((rd_T62 l0 (rd t226 x7_1)).f0)))))>0
         ·rw [if_pos c29] at H
          have c29b0:decide (0<(wrap64 (((rd_T62 l0 (rd t226 x7_1)).f1) * (wrap64 (Int.tdiv a1 ((rd_T62 l0 (rd t226 x7_1)).f0))))))=true:=decide_eq_true c29
          clear c29
          obtain ⟨ji30,hji30⟩:∃ j_:Int,(wrap64 (x7_1 + 1))=j_:=⟨_,rfl⟩
          replace H:(if 0≤(ji30) then (if (ji30)≤(t226.length:Int) then ((spec_l6Ascending.f k1 (t226.take ((ji30):Int).toNat)).bind fun t251=>(if x5_1.length<4398046511104 then (spec_l10Made.l0 k1 l0 a1 (x5_1++[(⟨t251,wrap64 (((rd_T62 l0 (rd t226 x7_1)).f1) * (wrap64 (Int.tdiv a1 ((rd_T62 l0 (rd t226 x7_1)).f0))))⟩:S68)]) t226 ji30) else (none))) else (none)) else (none))=some r:=by first|(rw [hji30] at H;exact H)|(simp only [hji30] at H ⊢;exact H)
          (try rw [hji30] at c12b0)
          have hji30w:(IntKind.i64.wrap (x7_1 + 1))=ji30:=(i64_w _).trans hji30
          by_cases c31:0≤(ji30)
          ·rw [if_pos c31] at H
           have c31b0:=eq_true c31
           have c31b1:decide (0≤(ji30))=true:=decide_eq_true c31
           clear c31
           by_cases c32:(ji30)≤(t226.length:Int)
           ·rw [if_pos c32] at H
            have c32b0:=eq_true c32
            have c32b1:decide ((ji30)≤(t226.length:Int))=true:=decide_eq_true c32
            clear c32
            obtain ⟨y247,hy247⟩:∃ y_:List Int,y_=(t226.take ((ji30):Int).toNat):=⟨_,rfl⟩
            replace H:((spec_l6Ascending.f k1 y247).bind fun t251=>(if x5_1.length<4398046511104 then (spec_l10Made.l0 k1 l0 a1 (x5_1++[(⟨t251,wrap64 (((rd_T62 l0 (rd t226 x7_1)).f1) * (wrap64 (Int.tdiv a1 ((rd_T62 l0 (rd t226 x7_1)).f0))))⟩:S68)]) t226 ji30) else (none)))=some r:=by first|(rw [hy247];with_reducible exact H)|(have H2_:=(Option.bind_some _ _).symm.trans H;rw [hy247];with_reducible exact H2_)|(have H2_:=(Option.bind_some _ _).symm.trans H;with_reducible exact H2_)|with_reducible exact H|(rw [hy247];exact H)|exact H
            have Ny247:=Aside0.mk hy247
            clear hy247
            replace H:=Option.bind_eq_some_iff.mp H
            obtain ⟨t251,A330,H⟩:=H
            replace H:(if x5_1.length<4398046511104 then (spec_l10Made.l0 k1 l0 a1 (x5_1++[(⟨t251,wrap64 (((rd_T62 l0 (rd t226 x7_1)).f1) * (wrap64 (Int.tdiv a1 ((rd_T62 l0 (rd t226 x7_1)).f0))))⟩:S68)]) t226 ji30) else (none))=some r:=H
            have A33:=Aside0.mk A330
            clear A330
            by_cases c34:x5_1.length<4398046511104
            ·rw [if_pos c34] at H
             have LMc34:=Aside0.mk c34
             clear c34
             obtain ⟨y254,hy254⟩:∃ y_:List (S68),y_=(x5_1++[(⟨t251,wrap64 (((rd_T62 l0 (rd t226 x7_1)).f1) * (wrap64 (Int.tdiv a1 ((rd_T62 l0 (rd t226 x7_1)).f0))))⟩:S68)]):=⟨_,rfl⟩
             replace H:(spec_l10Made.l0 k1 l0 a1 y254 t226 ji30)=some r:=by first|(rw [hy254];with_reducible exact H)|(have H2_:=(Option.bind_some _ _).symm.trans H;rw [hy254];with_reducible exact H2_)|(have H2_:=(Option.bind_some _ _).symm.trans H;with_reducible exact H2_)|with_reducible exact H|(rw [hy254];exact H)|exact H
             have Ny254:=Aside0.mk hy254
             clear hy254
             have H':=Aside0.mk H
             clear H
             obtain ⟨Ao35,co35,eo35⟩:=Kd.R_slice HO_6.out
             subst eo35
             have p229:0≤(x7_1:Int):=of_decide_eq_true (by first|(with_reducible assumption)|assumption)
             have q229:x7_1<(t226.length:Int):=of_decide_eq_true (by first|(with_reducible assumption)|assumption)
             obtain ⟨ad229,e229,hx229_0⟩:=Kd.at_int (Kd.R_reads' HO_6.out).2.2 x7_1 p229 q229
             cases e229
             replace p229:=eq_true p229
             replace q229:=eq_true q229
             have p230:0≤((rd t226 x7_1):Int):=of_decide_eq_true (by first|(with_reducible assumption)|assumption)
             have q230:(rd t226 x7_1)<(l0.length:Int):=of_decide_eq_true (by first|(with_reducible assumption)|assumption)
             obtain ⟨ad230,e230,hx230_0,hx230_1,hx230_2,hx230_3⟩:=at_T62 HR0.out (rd t226 x7_1) p230 q230
             cases e230
             replace hx230_0:=(HB.out.cell (World.block_lt_of_cell? w _ hx230_0)).trans hx230_0
             replace hx230_1:=(HB.out.cell (World.block_lt_of_cell? w _ hx230_1)).trans hx230_1
             replace hx230_2:=(HB.out.cell (World.block_lt_of_cell? w _ hx230_2)).trans hx230_2
             replace hx230_3:=(HB.out.cell (World.block_lt_of_cell? w _ hx230_3)).trans hx230_3
             replace p230:=eq_true p230
             replace q230:=eq_true q230
             have p231:0≤(x7_1:Int):=of_decide_eq_true (by first|(with_reducible assumption)|assumption)
             have q231:x7_1<(t226.length:Int):=of_decide_eq_true (by first|(with_reducible assumption)|assumption)
             obtain ⟨ad231,e231,hx231_0⟩:=Kd.at_int (Kd.R_reads' HO_6.out).2.2 x7_1 p231 q231
             obtain rfl:ad229=ad231:=(by injection e231)
             replace p231:=eq_true p231
             replace q231:=eq_true q231
             have p232:0≤((rd t226 x7_1):Int):=of_decide_eq_true (by first|(with_reducible assumption)|assumption)
             have q232:(rd t226 x7_1)<(l0.length:Int):=of_decide_eq_true (by first|(with_reducible assumption)|assumption)
             obtain ⟨ad232,e232,hx232_0,hx232_1,hx232_2,hx232_3⟩:=at_T62 HR0.out (rd t226 x7_1) p232 q232
             obtain rfl:ad230=ad232:=(by injection e232)
             replace hx232_0:=(HB.out.cell (World.block_lt_of_cell? w _ hx232_0)).trans hx232_0
             replace hx232_1:=(HB.out.cell (World.block_lt_of_cell? w _ hx232_1)).trans hx232_1
             replace hx232_2:=(HB.out.cell (World.block_lt_of_cell? w _ hx232_2)).trans hx232_2
             replace hx232_3:=(HB.out.cell (World.block_lt_of_cell? w _ hx232_3)).trans hx232_3
             replace p232:=eq_true p232
             replace q232:=eq_true q232
             have q36:((ji30):Int)≤((t226.length:Int):Int):=of_decide_eq_true (by first|(with_reducible assumption)|assumption)
             obtain ⟨i036,hi036,_,hsz36,_⟩:=info_parts info3
             have hroom36:t226.length≤co35:=(Kd.R_reads' HO_6.out).2.1
             have hC36:Kd.C (Kd.int .i64) _ (some ad229) t226.length t226:=(Kd.R_reads' HO_6.out).2.2
             have hcut36:=cut_to (P:=Try.prog) 41 3 .i64 Try.underlying41 hi036 (some ad229) t226.length co35 (ji30) (of_decide_eq_true (by first|(with_reducible assumption)|assumption)) q36 hroom36
             have hr36:=Kd.C_take (m:=((ji30):Int).toNat) hC36 (by omega)
             have hy36:y247.length=((ji30):Int).toNat:=(by rw [Ny247.out,List.length_take];omega)
             rw [←Ny247.out] at hr36
             rw [←hy36] at hcut36
             have HR250:=Aside0.mk hr36
             have HC250:=Aside0.mk (show y247.length≤co35 from by omega)
             clear hr36 hC36 hroom36 hi036 hsz36
             have KY36:=Aside0.mk hy36
             clear hy36
             have KL36:=Aside0.mk (show ((ji30):Int).toNat≤t226.length from by omega)
             replace q36:=eq_true q36
             go_wp2_with (first|(go_at_call 87;(with_reducible refine (spec_l6Ascending.calls k1 _ _ y247 t251 _ ?side1 ?side2 A33.out).mono ?_);(case side1=>repeat (first|exact (by repeat (first|(with_reducible exact HR250.out)|(with_reducible refine Kd.C_alloc ?_ _)|(with_reducible refine Kd.C_drewN ?_ _)|(with_reducible refine Kd.C_drew ?_)|exact HR250.out))|(with_reducible refine Kd.C_alloc ?_ _)|(with_reducible refine Kd.C_drewN ?_ _)|(with_reducible refine Kd.C_drew ?_)));(case side2=>exact HC250.out);rintro e w37 ⟨v252,rfl,ho0,hb⟩;have n0_:=Aside0.mk (Kd.S_elder' (by (with_reducible repeat (first|apply Kd.S_alloc|apply Kd.S_drewN|apply Kd.S_drew));exact HO_5.out) (Kd.R_base ho0) hb);have n1_:=Aside0.mk (Kd.R_elder' (by (with_reducible repeat (first|apply Kd.R_alloc|apply Kd.R_drewN|apply Kd.R_drew));exact HO_6.out) (Kd.R_base ho0) hb);have n2_:=Aside0.mk (Kd.R_lower (Kd.R_new' ho0 (Kd.R_lt (by (with_reducible repeat (first|apply Kd.R_alloc|apply Kd.R_drewN|apply Kd.R_drew));exact HO_6.out))) (below_size (by repeat (first|(with_reducible first|exact HB.out|apply below_alloc|apply pw_below_drewN|apply below_drew1)|exact HB.out))));have n3_:=Aside0.mk (Kd.C_below (by repeat (first|(with_reducible exact HR250.out)|(with_reducible refine Kd.C_alloc ?_ _)|(with_reducible refine Kd.C_drewN ?_ _)|(with_reducible refine Kd.C_drew ?_)|exact HR250.out)) hb);have n4_:=Aside0.mk (below_step (by repeat (first|(with_reducible first|exact HB.out|apply below_alloc|apply pw_below_drewN|apply below_drew1)|exact HB.out)) hb);clear HO_5;clear HO_6;clear HR250;clear HB;have HO_5:=n0_;have HO_6:=n1_;have HO253:=n2_;have HR250:=n3_;have HB:=n4_;clear n0_ n1_ n2_ n3_ n4_;(try clear hb);(try clear hb2);(try clear hk);(try clear hi);(try clear ho0);obtain ⟨Ao38,co38,eo38⟩:=Kd.R_slice HO253.out;subst eo38)|((with_reducible refine gate_builtin (b:=.append) (xs:=#[.tmp 67,.tmp 75]) rfl ?_);at_builtin;refine Kd.S_append k68 (w0:=w) w.heap.size rfl (.tmp 67) (.tmp 75) 31 68 (.agg #[(.slice none 0 0),(.int .i64 0)]) 32 rfl Try.underlying31 info68 rfl (by decide) (by omega) u5 x5_1 (⟨t251,wrap64 (((rd_T62 l0 (rd t226 x7_1)).f1) * (wrap64 (Int.tdiv a1 ((rd_T62 l0 (rd t226 x7_1)).f0))))⟩:S68) [.slice Ao38 t251.length co38,.int .i64 (wrap64 (((rd_T62 l0 (rd t226 x7_1)).f1) * (wrap64 (Int.tdiv a1 ((rd_T62 l0 (rd t226 x7_1)).f0)))))] (fun k_=>some k_≠(.slice (some ad229) t226.length co35:Value).ownBlock) (fun k_=>some k_=(.slice Ao38 t251.length co38:Value).ownBlock) rfl rfl ?aP (fun k_ hk_=>((Kd.R_mono (ok':=fun k_=>((fun k_=>some k_≠(.slice (some ad229) t226.length co35:Value).ownBlock)) k_∧some k_≠(u5:Value).ownBlock) (Kd.R_apart' (HO253.out) (Kd.S_typed HO_5.out) (by decide)) (fun k_ hk=>⟨hk.1.2,hk.2⟩))).1 k_ hk_.symm) ?aF ?aO ?aB ?aS ?aL ?_;(case aP=>exact k68_mkM _ _ _ (⟨t251,wrap64 (((rd_T62 l0 (rd t226 x7_1)).f1) * (wrap64 (Int.tdiv a1 ((rd_T62 l0 (rd t226 x7_1)).f0))))⟩:S68) (Kd.R_mono (Kd.R_tight rfl (Kd.R_mono (ok':=fun k_=>((fun k_=>some k_≠(.slice (some ad229) t226.length co35:Value).ownBlock)) k_∧some k_≠(u5:Value).ownBlock) (Kd.R_apart' (HO253.out) (Kd.S_typed HO_5.out) (by decide)) (fun k_ hk=>⟨hk.1.2,hk.2⟩))) (fun _ h_=>h_)));(case aB=>exact (by repeat (first|(with_reducible first|exact HB.out|apply below_alloc|apply pw_below_drewN|apply below_drew1)|exact HB.out)));(case aF=>exact (fun k_ hk=>Kd.fresh' (Kd.R_lt (by (with_reducible repeat (first|apply Kd.R_alloc|apply Kd.R_drewN|apply Kd.R_drew));exact HO_6.out)) k_ hk));(case aO=>exact (by (with_reducible repeat (first|apply Kd.S_alloc|apply Kd.S_drewN|apply Kd.S_drew));exact Kd.S_mono HO_5.out (fun k_ hk=>⟨hk.1,fun e_=>hk.2 e_⟩)));(case aS=>exact (below_size (by repeat (first|(with_reducible first|exact HB.out|apply below_alloc|apply pw_below_drewN|apply below_drew1)|exact HB.out))));(case aL=>have:=LMc34.out;omega);intro v255 w39 ho hb hg hat;rw [←Ny254.out] at ho;have n0_:=Aside0.mk (Kd.R_over' (by (with_reducible repeat (first|apply Kd.R_alloc|apply Kd.R_drewN|apply Kd.R_drew));exact HO_6.out) (Kd.S_typed (by (with_reducible repeat (first|apply Kd.S_alloc|apply Kd.S_drewN|apply Kd.S_drew));exact HO_5.out)) (by decide) hg);have n1_:=Aside0.mk (hb);have n2_:=Aside0.mk ((show Kd.C (Kd.int .i64) w39 (some ad229) y247.length y247 from by rw [Ny247.out];exact Kd.C_take (m:=((ji30):Int).toNat) ((Kd.R_reads' (Kd.R_over' (by (with_reducible repeat (first|apply Kd.R_alloc|apply Kd.R_drewN|apply Kd.R_drew));exact HO_6.out) (Kd.S_typed (by (with_reducible repeat (first|apply Kd.S_alloc|apply Kd.S_drewN|apply Kd.S_drew));exact HO_5.out)) (by decide) hg)).2.2) KL36.out));have n3_:=Aside0.mk (ho);clear HO_6;clear HB;clear HR250;clear HO_5;clear HO253;have HO_6:=n0_;have HB:=n1_;have HR250:=n2_;have HO256:=n3_;clear n0_ n1_ n2_ n3_;clear ho hb hg hat))
             repeat (go_quiet (first|(go_at_call 87;(with_reducible refine (spec_l6Ascending.calls k1 _ _ y247 t251 _ ?side1 ?side2 A33.out).mono ?_);(case side1=>repeat (first|exact (by repeat (first|(with_reducible exact HR250.out)|(with_reducible refine Kd.C_alloc ?_ _)|(with_reducible refine Kd.C_drewN ?_ _)|(with_reducible refine Kd.C_drew ?_)|exact HR250.out))|(with_reducible refine Kd.C_alloc ?_ _)|(with_reducible refine Kd.C_drewN ?_ _)|(with_reducible refine Kd.C_drew ?_)));(case side2=>exact HC250.out);rintro e w37 ⟨v252,rfl,ho0,hb⟩;have n0_:=Aside0.mk (Kd.S_elder' (by (with_reducible repeat (first|apply Kd.S_alloc|apply Kd.S_drewN|apply Kd.S_drew));exact HO_5.out) (Kd.R_base ho0) hb);have n1_:=Aside0.mk (Kd.R_elder' (by (with_reducible repeat (first|apply Kd.R_alloc|apply Kd.R_drewN|apply Kd.R_drew));exact HO_6.out) (Kd.R_base ho0) hb);have n2_:=Aside0.mk (Kd.R_lower (Kd.R_new' ho0 (Kd.R_lt (by (with_reducible repeat (first|apply Kd.R_alloc|apply Kd.R_drewN|apply Kd.R_drew));exact HO_6.out))) (below_size (by repeat (first|(with_reducible first|exact HB.out|apply below_alloc|apply pw_below_drewN|apply below_drew1)|exact HB.out))));have n3_:=Aside0.mk (Kd.C_below (by repeat (first|(with_reducible exact HR250.out)|(with_reducible refine Kd.C_alloc ?_ _)|(with_reducible refine Kd.C_drewN ?_ _)|(with_reducible refine Kd.C_drew ?_)|exact HR250.out)) hb);have n4_:=Aside0.mk (below_step (by repeat (first|(with_reducible first|exact HB.out|apply below_alloc|apply pw_below_drewN|apply below_drew1)|exact HB.out)) hb);clear HO_5;clear HO_6;clear HR250;clear HB;have HO_5:=n0_;have HO_6:=n1_;have HO253:=n2_;have HR250:=n3_;have HB:=n4_;clear n0_ n1_ n2_ n3_ n4_;(try clear hb);(try clear hb2);(try clear hk);(try clear hi);(try clear ho0);obtain ⟨Ao38,co38,eo38⟩:=Kd.R_slice HO253.out;subst eo38)|((with_reducible refine gate_builtin (b:=.append) (xs:=#[.tmp 67,.tmp 75]) rfl ?_);at_builtin;refine Kd.S_append k68 (w0:=w) w.heap.size rfl (.tmp 67) (.tmp 75) 31 68 (.agg #[(.slice none 0 0),(.int .i64 0)]) 32 rfl Try.underlying31 info68 rfl (by decide) (by omega) u5 x5_1 (⟨t251,wrap64 (((rd_T62 l0 (rd t226 x7_1)).f1) * (wrap64 (Int.tdiv a1 ((rd_T62 l0 (rd t226 x7_1)).f0))))⟩:S68) [.slice Ao38 t251.length co38,.int .i64 (wrap64 (((rd_T62 l0 (rd t226 x7_1)).f1) * (wrap64 (Int.tdiv a1 ((rd_T62 l0 (rd t226 x7_1)).f0)))))] (fun k_=>some k_≠(.slice (some ad229) t226.length co35:Value).ownBlock) (fun k_=>some k_=(.slice Ao38 t251.length co38:Value).ownBlock) rfl rfl ?aP (fun k_ hk_=>((Kd.R_mono (ok':=fun k_=>((fun k_=>some k_≠(.slice (some ad229) t226.length co35:Value).ownBlock)) k_∧some k_≠(u5:Value).ownBlock) (Kd.R_apart' (HO253.out) (Kd.S_typed HO_5.out) (by decide)) (fun k_ hk=>⟨hk.1.2,hk.2⟩))).1 k_ hk_.symm) ?aF ?aO ?aB ?aS ?aL ?_;(case aP=>exact k68_mkM _ _ _ (⟨t251,wrap64 (((rd_T62 l0 (rd t226 x7_1)).f1) * (wrap64 (Int.tdiv a1 ((rd_T62 l0 (rd t226 x7_1)).f0))))⟩:S68) (Kd.R_mono (Kd.R_tight rfl (Kd.R_mono (ok':=fun k_=>((fun k_=>some k_≠(.slice (some ad229) t226.length co35:Value).ownBlock)) k_∧some k_≠(u5:Value).ownBlock) (Kd.R_apart' (HO253.out) (Kd.S_typed HO_5.out) (by decide)) (fun k_ hk=>⟨hk.1.2,hk.2⟩))) (fun _ h_=>h_)));(case aB=>exact (by repeat (first|(with_reducible first|exact HB.out|apply below_alloc|apply pw_below_drewN|apply below_drew1)|exact HB.out)));(case aF=>exact (fun k_ hk=>Kd.fresh' (Kd.R_lt (by (with_reducible repeat (first|apply Kd.R_alloc|apply Kd.R_drewN|apply Kd.R_drew));exact HO_6.out)) k_ hk));(case aO=>exact (by (with_reducible repeat (first|apply Kd.S_alloc|apply Kd.S_drewN|apply Kd.S_drew));exact Kd.S_mono HO_5.out (fun k_ hk=>⟨hk.1,fun e_=>hk.2 e_⟩)));(case aS=>exact (below_size (by repeat (first|(with_reducible first|exact HB.out|apply below_alloc|apply pw_below_drewN|apply below_drew1)|exact HB.out))));(case aL=>have:=LMc34.out;omega);intro v255 w39 ho hb hg hat;rw [←Ny254.out] at ho;have n0_:=Aside0.mk (Kd.R_over' (by (with_reducible repeat (first|apply Kd.R_alloc|apply Kd.R_drewN|apply Kd.R_drew));exact HO_6.out) (Kd.S_typed (by (with_reducible repeat (first|apply Kd.S_alloc|apply Kd.S_drewN|apply Kd.S_drew));exact HO_5.out)) (by decide) hg);have n1_:=Aside0.mk (hb);have n2_:=Aside0.mk ((show Kd.C (Kd.int .i64) w39 (some ad229) y247.length y247 from by rw [Ny247.out];exact Kd.C_take (m:=((ji30):Int).toNat) ((Kd.R_reads' (Kd.R_over' (by (with_reducible repeat (first|apply Kd.R_alloc|apply Kd.R_drewN|apply Kd.R_drew));exact HO_6.out) (Kd.S_typed (by (with_reducible repeat (first|apply Kd.S_alloc|apply Kd.S_drewN|apply Kd.S_drew));exact HO_5.out)) (by decide) hg)).2.2) KL36.out));have n3_:=Aside0.mk (ho);clear HO_6;clear HB;clear HR250;clear HO_5;clear HO253;have HO_6:=n0_;have HB:=n1_;have HR250:=n2_;have HO256:=n3_;clear n0_ n1_ n2_ n3_;clear ho hb hg hat));try go_wp2_with (first|(go_at_call 87;(with_reducible refine (spec_l6Ascending.calls k1 _ _ y247 t251 _ ?side1 ?side2 A33.out).mono ?_);(case side1=>repeat (first|exact (by repeat (first|(with_reducible exact HR250.out)|(with_reducible refine Kd.C_alloc ?_ _)|(with_reducible refine Kd.C_drewN ?_ _)|(with_reducible refine Kd.C_drew ?_)|exact HR250.out))|(with_reducible refine Kd.C_alloc ?_ _)|(with_reducible refine Kd.C_drewN ?_ _)|(with_reducible refine Kd.C_drew ?_)));(case side2=>exact HC250.out);rintro e w37 ⟨v252,rfl,ho0,hb⟩;have n0_:=Aside0.mk (Kd.S_elder' (by (with_reducible repeat (first|apply Kd.S_alloc|apply Kd.S_drewN|apply Kd.S_drew));exact HO_5.out) (Kd.R_base ho0) hb);have n1_:=Aside0.mk (Kd.R_elder' (by (with_reducible repeat (first|apply Kd.R_alloc|apply Kd.R_drewN|apply Kd.R_drew));exact HO_6.out) (Kd.R_base ho0) hb);have n2_:=Aside0.mk (Kd.R_lower (Kd.R_new' ho0 (Kd.R_lt (by (with_reducible repeat (first|apply Kd.R_alloc|apply Kd.R_drewN|apply Kd.R_drew));exact HO_6.out))) (below_size (by repeat (first|(with_reducible first|exact HB.out|apply below_alloc|apply pw_below_drewN|apply below_drew1)|exact HB.out))));have n3_:=Aside0.mk (Kd.C_below (by repeat (first|(with_reducible exact HR250.out)|(with_reducible refine Kd.C_alloc ?_ _)|(with_reducible refine Kd.C_drewN ?_ _)|(with_reducible refine Kd.C_drew ?_)|exact HR250.out)) hb);have n4_:=Aside0.mk (below_step (by repeat (first|(with_reducible first|exact HB.out|apply below_alloc|apply pw_below_drewN|apply below_drew1)|exact HB.out)) hb);clear HO_5;clear HO_6;clear HR250;clear HB;have HO_5:=n0_;have HO_6:=n1_;have HO253:=n2_;have HR250:=n3_;have HB:=n4_;clear n0_ n1_ n2_ n3_ n4_;(try clear hb);(try clear hb2);(try clear hk);(try clear hi);(try clear ho0);obtain ⟨Ao38,co38,eo38⟩:=Kd.R_slice HO253.out;subst eo38)|((with_reducible refine gate_builtin (b:=.append) (xs:=#[.tmp 67,.tmp 75]) rfl ?_);at_builtin;refine Kd.S_append k68 (w0:=w) w.heap.size rfl (.tmp 67) (.tmp 75) 31 68 (.agg #[(.slice none 0 0),(.int .i64 0)]) 32 rfl Try.underlying31 info68 rfl (by decide) (by omega) u5 x5_1 (⟨t251,wrap64 (((rd_T62 l0 (rd t226 x7_1)).f1) * (wrap64 (Int.tdiv a1 ((rd_T62 l0 (rd t226 x7_1)).f0))))⟩:S68) [.slice Ao38 t251.length co38,.int .i64 (wrap64 (((rd_T62 l0 (rd t226 x7_1)).f1) * (wrap64 (Int.tdiv a1 ((rd_T62 l0 (rd t226 x7_1)).f0)))))] (fun k_=>some k_≠(.slice (some ad229) t226.length co35:Value).ownBlock) (fun k_=>some k_=(.slice Ao38 t251.length co38:Value).ownBlock) rfl rfl ?aP (fun k_ hk_=>((Kd.R_mono (ok':=fun k_=>((fun k_=>some k_≠(.slice (some ad229) t226.length co35:Value).ownBlock)) k_∧some k_≠(u5:Value).ownBlock) (Kd.R_apart' (HO253.out) (Kd.S_typed HO_5.out) (by decide)) (fun k_ hk=>⟨hk.1.2,hk.2⟩))).1 k_ hk_.symm) ?aF ?aO ?aB ?aS ?aL ?_;(case aP=>exact k68_mkM _ _ _ (⟨t251,wrap64 (((rd_T62 l0 (rd t226 x7_1)).f1) * (wrap64 (Int.tdiv a1 ((rd_T62 l0 (rd t226 x7_1)).f0))))⟩:S68) (Kd.R_mono (Kd.R_tight rfl (Kd.R_mono (ok':=fun k_=>((fun k_=>some k_≠(.slice (some ad229) t226.length co35:Value).ownBlock)) k_∧some k_≠(u5:Value).ownBlock) (Kd.R_apart' (HO253.out) (Kd.S_typed HO_5.out) (by decide)) (fun k_ hk=>⟨hk.1.2,hk.2⟩))) (fun _ h_=>h_)));(case aB=>exact (by repeat (first|(with_reducible first|exact HB.out|apply below_alloc|apply pw_below_drewN|apply below_drew1)|exact HB.out)));(case aF=>exact (fun k_ hk=>Kd.fresh' (Kd.R_lt (by (with_reducible repeat (first|apply Kd.R_alloc|apply Kd.R_drewN|apply Kd.R_drew));exact HO_6.out)) k_ hk));(case aO=>exact (by (with_reducible repeat (first|apply Kd.S_alloc|apply Kd.S_drewN|apply Kd.S_drew));exact Kd.S_mono HO_5.out (fun k_ hk=>⟨hk.1,fun e_=>hk.2 e_⟩)));(case aS=>exact (below_size (by repeat (first|(with_reducible first|exact HB.out|apply below_alloc|apply pw_below_drewN|apply below_drew1)|exact HB.out))));(case aL=>have:=LMc34.out;omega);intro v255 w39 ho hb hg hat;rw [←Ny254.out] at ho;have n0_:=Aside0.mk (Kd.R_over' (by (with_reducible repeat (first|apply Kd.R_alloc|apply Kd.R_drewN|apply Kd.R_drew));exact HO_6.out) (Kd.S_typed (by (with_reducible repeat (first|apply Kd.S_alloc|apply Kd.S_drewN|apply Kd.S_drew));exact HO_5.out)) (by decide) hg);have n1_:=Aside0.mk (hb);have n2_:=Aside0.mk ((show Kd.C (Kd.int .i64) w39 (some ad229) y247.length y247 from by rw [Ny247.out];exact Kd.C_take (m:=((ji30):Int).toNat) ((Kd.R_reads' (Kd.R_over' (by (with_reducible repeat (first|apply Kd.R_alloc|apply Kd.R_drewN|apply Kd.R_drew));exact HO_6.out) (Kd.S_typed (by (with_reducible repeat (first|apply Kd.S_alloc|apply Kd.S_drewN|apply Kd.S_drew));exact HO_5.out)) (by decide) hg)).2.2) KL36.out));have n3_:=Aside0.mk (ho);clear HO_6;clear HB;clear HR250;clear HO_5;clear HO253;have HO_6:=n0_;have HB:=n1_;have HR250:=n2_;have HO256:=n3_;clear n0_ n1_ n2_ n3_;clear ho hb hg hat)))
             go_roundg k1
             case measure=>have:=HK1.out;omega
             case rel=>exact ⟨(y254),(ji30),(by first|rfl|(simp;done)|(simp only [←hji30] <;> (first|rfl|simp))|(simp [*];done)),H',⟨by have:=HK1.out;omega⟩,⟨by (with_reducible repeat (first|apply Kd.S_alloc|apply Kd.S_drewN|apply Kd.S_drew));exact HO256.out⟩,⟨by (with_reducible repeat (first|apply Kd.R_alloc|apply Kd.R_drewN|apply Kd.R_drew));exact Kd.R_mono HO_6.out (fun _ hk=>trivial)⟩,⟨by repeat (first|(with_reducible first|exact HB.out|apply below_alloc|apply pw_below_drewN|apply below_drew1)|exact HB.out)⟩⟩
            ·rw [if_neg c34] at H
             exact absurd H (by simp)
           ·rw [if_neg c32] at H
            exact absurd H (by simp)
          ·rw [if_neg c31] at H
           exact absurd H (by simp)
         ·rw [if_neg c29] at H
          have c29b0:decide (0<(wrap64 (((rd_T62 l0 (rd t226 x7_1)).f1) * (wrap64 (Int.tdiv a1 ((rd_T62 l0 (rd t226 x7_1)).f0))))))=false:=decide_eq_false c29
          clear c29
          have H':=Aside0.mk H
          clear H
          obtain ⟨Ao40,co40,eo40⟩:=Kd.R_slice HO_6.out
          subst eo40
          have p229:0≤(x7_1:Int):=of_decide_eq_true (by first|(with_reducible assumption)|assumption)
          have q229:x7_1<(t226.length:Int):=of_decide_eq_true (by first|(with_reducible assumption)|assumption)
          obtain ⟨ad229,e229,hx229_0⟩:=Kd.at_int (Kd.R_reads' HO_6.out).2.2 x7_1 p229 q229
          cases e229
          replace p229:=eq_true p229
          replace q229:=eq_true q229
          have p230:0≤((rd t226 x7_1):Int):=of_decide_eq_true (by first|(with_reducible assumption)|assumption)
          have q230:(rd t226 x7_1)<(l0.length:Int):=of_decide_eq_true (by first|(with_reducible assumption)|assumption)
          obtain ⟨ad230,e230,hx230_0,hx230_1,hx230_2,hx230_3⟩:=at_T62 HR0.out (rd t226 x7_1) p230 q230
          cases e230
          replace hx230_0:=(HB.out.cell (World.block_lt_of_cell? w _ hx230_0)).trans hx230_0
          replace hx230_1:=(HB.out.cell (World.block_lt_of_cell? w _ hx230_1)).trans hx230_1
          replace hx230_2:=(HB.out.cell (World.block_lt_of_cell? w _ hx230_2)).trans hx230_2
          replace hx230_3:=(HB.out.cell (World.block_lt_of_cell? w _ hx230_3)).trans hx230_3
          replace p230:=eq_true p230
          replace q230:=eq_true q230
          have p231:0≤(x7_1:Int):=of_decide_eq_true (by first|(with_reducible assumption)|assumption)
          have q231:x7_1<(t226.length:Int):=of_decide_eq_true (by first|(with_reducible assumption)|assumption)
          obtain ⟨ad231,e231,hx231_0⟩:=Kd.at_int (Kd.R_reads' HO_6.out).2.2 x7_1 p231 q231
          obtain rfl:ad229=ad231:=(by injection e231)
          replace p231:=eq_true p231
          replace q231:=eq_true q231
          have p232:0≤((rd t226 x7_1):Int):=of_decide_eq_true (by first|(with_reducible assumption)|assumption)
          have q232:(rd t226 x7_1)<(l0.length:Int):=of_decide_eq_true (by first|(with_reducible assumption)|assumption)
          obtain ⟨ad232,e232,hx232_0,hx232_1,hx232_2,hx232_3⟩:=at_T62 HR0.out (rd t226 x7_1) p232 q232
          obtain rfl:ad230=ad232:=(by injection e232)
          replace hx232_0:=(HB.out.cell (World.block_lt_of_cell? w _ hx232_0)).trans hx232_0
          replace hx232_1:=(HB.out.cell (World.block_lt_of_cell? w _ hx232_1)).trans hx232_1
          replace hx232_2:=(HB.out.cell (World.block_lt_of_cell? w _ hx232_2)).trans hx232_2
          replace hx232_3:=(HB.out.cell (World.block_lt_of_cell? w _ hx232_3)).trans hx232_3
          replace p232:=eq_true p232
          replace q232:=eq_true q232
          go_wp2
          repeat (go_quiet (fail);try go_wp2)
          go_roundg k1
          case measure=>have:=HK1.out;omega
          case rel=>exact ⟨(x5_1),(wrap64 (x7_1 + 1)),(by first|rfl|(simp;done)|(simp [*];done)),H',⟨by have:=HK1.out;omega⟩,⟨by (with_reducible repeat (first|apply Kd.S_alloc|apply Kd.S_drewN|apply Kd.S_drew));exact HO_5.out⟩,⟨by (with_reducible repeat (first|apply Kd.R_alloc|apply Kd.R_drewN|apply Kd.R_drew));exact HO_6.out⟩,⟨by repeat (first|(with_reducible first|exact HB.out|apply below_alloc|apply pw_below_drewN|apply below_drew1)|exact HB.out)⟩⟩
      ·rw [if_neg c10] at H
       exact absurd H (by simp)
     ·rw [if_neg c9] at H
      exact absurd H (by simp)
    ·rw [if_neg c8] at H
     exact absurd H (by simp)
   ·rw [if_neg c7] at H
    have c7b0:decide (x7_1<(t226.length:Int))=false:=decide_eq_false c7
    clear c7
    obtain rfl:=Option.some.inj H
    obtain ⟨Ao41,co41,eo41⟩:=Kd.R_slice HO_6.out
    subst eo41
    go_wp2
    repeat (go_quiet (fail);try go_wp2)
    go_ret
    exact ⟨_,by first|rfl|(simp [errW_none,errW_some] <;> rfl)|(simp [*,errW_none,errW_some] <;> rfl),by (with_reducible repeat (first|apply Kd.S_alloc|apply Kd.S_drewN|apply Kd.S_drew));exact Kd.S_mono HO_5.out (fun _ hk=>trivial),by repeat (first|(with_reducible first|exact HB.out|apply below_alloc|apply pw_below_drewN|apply below_drew1)|exact HB.out)⟩

/-! ### spec_SmithPrices: function 17 -/
def spec_SmithPrices.j0:Nat→List (S62)→Bool→Option ((List (S68)) × Int × Bool)
 | 0,_,_=>none
 | k + 1,x0,x13=>if x13=true then (some ((([]:List (S68))),0,false)) else ((spec_l10Multiple.f k x0).bind fun t262=>((spec_l10Made.f k x0 t262).bind fun t263=>(some (t263,t262,true))))
def spec_SmithPrices.f (k:Nat) (l0:List (S62)):Option ((List (S68)) × Int × Bool):=(spec_l6Good.f k l0).bind fun t257=>(if t257=true then ((spec_l10Multiple.f k l0).bind fun t258=>(spec_SmithPrices.j0 k l0 (decide (t258>1000000)))) else (spec_SmithPrices.j0 k l0 true))
theorem spec_SmithPrices.mono_l:∀ k,(∀ y0 y1,LeO (spec_SmithPrices.j0 k y0 y1) (spec_SmithPrices.j0 (k + 1) y0 y1))
 | 0=>fun _ _ r h=>by simp [spec_SmithPrices.j0] at h
 | k + 1=>by
  have ih0:=spec_SmithPrices.mono_l k
  ·intro y0 y1
   unfold spec_SmithPrices.j0
   repeat' first
   | (with_reducible exact ih0 _ _)
   | (with_reducible exact spec_l10Made.mono _ _ _)
   | (with_reducible exact spec_l10Multiple.mono _ _)
   | (with_reducible exact spec_l6Good.mono _ _)
   | (with_reducible exact LeO.refl _)
   | (with_reducible exact LeO.none _)
   | (with_reducible refine LeO.ite ?_ ?_)
   | (with_reducible refine LeO.bind ?_ (fun _=>?_))
   | exact ih0 _ _
   | exact spec_l10Made.mono _ _ _
   | exact spec_l10Multiple.mono _ _
   | exact spec_l6Good.mono _ _
   | exact LeO.none _
   | refine LeO.ite ?_ ?_
   | refine LeO.bind ?_ (fun _=>?_)
theorem spec_SmithPrices.mono:∀ a0 k,LeO (spec_SmithPrices.f k a0) (spec_SmithPrices.f (k + 1) a0):=by
 intro a0 k
 have ih0:=spec_SmithPrices.mono_l k
 unfold spec_SmithPrices.f
 repeat' first
   | (with_reducible exact ih0 _ _)
   | (with_reducible exact spec_l10Made.mono _ _ _)
   | (with_reducible exact spec_l10Multiple.mono _ _)
   | (with_reducible exact spec_l6Good.mono _ _)
   | (with_reducible exact LeO.refl _)
   | (with_reducible exact LeO.none _)
   | (with_reducible refine LeO.ite ?_ ?_)
   | (with_reducible refine LeO.bind ?_ (fun _=>?_))
   | exact ih0 _ _
   | exact spec_l10Made.mono _ _ _
   | exact spec_l10Multiple.mono _ _
   | exact spec_l6Good.mono _ _
   | exact LeO.none _
   | refine LeO.ite ?_ ?_
   | refine LeO.bind ?_ (fun _=>?_)
set_option maxHeartbeats 8000000 in
set_option maxRecDepth 100000 in
theorem spec_SmithPrices.calls (k:Nat) (A0:Option Addr) (c0:Nat) (l0:List (S62)) (r1:List (S68)) (r2:Int) (r3:Bool) (w:World) (hr0:Kd.C k62 w A0 l0.length l0) (hc0:l0.length≤c0) (h:spec_SmithPrices.f k l0=some (r1,r2,r3)) :
  Calls Try.prog 17 #[.slice A0 l0.length c0] w fun e w'=>∃ v0_:Value,e=.returned (.tuple #[v0_,.int .i64 r2,.bool r3])∧Kd.S k68 68 w' w.heap.size (fun _=>True) v0_ r1∧Below w.heap.size w w':=by
 have HR0:=Aside0.mk hr0
 have HC0:=Aside0.mk hc0
 clear hr0 hc0
 have HB:=Aside0.mk (Below.refl w.heap.size w)
 have H:((spec_l6Good.f k l0).bind fun t257=>(if t257=true then ((spec_l10Multiple.f k l0).bind fun t258=>(spec_SmithPrices.j0 k l0 (decide (t258>1000000)))) else (spec_SmithPrices.j0 k l0 true)))=some (r1,r2,r3):=h
 clear h
 have HC2:=Aside0.mk H
 clear H
 go_enter Try.func17,Try.ntmps17
 go_upto_region 1 with (fail)
 go_cut [13] (fun v13 wc=>∃ (kq:Nat) (x13_1:Bool),v13=.bool x13_1∧Aside0 (spec_SmithPrices.j0 kq l0 x13_1=some (r1,r2,r3))∧Aside0 (kq≤k)∧Aside0 (Below w.heap.size w wc))
 case first=>
  have H:=HC2.out
  clear HC2
  replace H:=Option.bind_eq_some_iff.mp H
  obtain ⟨t257,A30,H⟩:=H
  replace H:(if t257=true then ((spec_l10Multiple.f k l0).bind fun t258=>(spec_SmithPrices.j0 k l0 (decide (t258>1000000)))) else (spec_SmithPrices.j0 k l0 true))=some (r1,r2,r3):=H
  have A3:=Aside0.mk A30
  clear A30
  by_cases c4:t257=true
  ·subst c4
   have H1:((spec_l10Multiple.f k l0).bind fun t258=>(spec_SmithPrices.j0 k l0 (decide (t258>1000000))))=some (r1,r2,r3):=by rw [if_pos rfl] at H;exact H
   clear H
   have H:=H1
   clear H1
   replace H:=Option.bind_eq_some_iff.mp H
   obtain ⟨t258,A50,H⟩:=H
   replace H:(spec_SmithPrices.j0 k l0 (decide (t258>1000000)))=some (r1,r2,r3):=H
   have A5:=Aside0.mk A50
   clear A50
   have H':=Aside0.mk H
   clear H
   go_wp2_with (first|((with_reducible refine gate_callee (f:=47) rfl ?_);refine goesL_ (some 7) rfl rfl Try.func47 (by kernel_rfl) rfl #[.slice A0 l0.length c0] rfl (by (try simp only [List.map_toArray,List.map_cons,List.map_nil]);first|done|rfl|(simp only [List.length_drop,List.length_take];rfl)) ?_;(with_reducible refine (spec_l6Good.calls k _ _ l0 true _ ?side1 ?side2 A3.out).mono ?_);(case side1=>repeat (first|exact (Kd.C_below HR0.out HB.out)|(with_reducible refine Kd.C_alloc ?_ _)|(with_reducible refine Kd.C_drewN ?_ _)|(with_reducible refine Kd.C_drew ?_)));(case side2=>exact HC0.out);rintro e w6 ⟨rfl,hb⟩;refine ⟨_,rfl,?_⟩;have n0_:=Aside0.mk (below_step (by repeat (first|(with_reducible first|exact HB.out|apply below_alloc|apply pw_below_drewN|apply below_drew1)|exact HB.out)) hb);clear HB;have HB:=n0_;clear n0_;(try clear hb);(try clear hb2);(try clear hk);(try clear hi))|(go_at_call 48;(with_reducible refine (spec_l10Multiple.calls k _ _ l0 t258 _ ?side1 ?side2 A5.out).mono ?_);(case side1=>repeat (first|exact (Kd.C_below HR0.out HB.out)|(with_reducible refine Kd.C_alloc ?_ _)|(with_reducible refine Kd.C_drewN ?_ _)|(with_reducible refine Kd.C_drew ?_)));(case side2=>exact HC0.out);rintro e w' ⟨rfl,⟨nd,rfl⟩⟩))
   go_meet
   case rel=>exact ⟨_,(decide (t258>1000000)),(by first|rfl|(simp;done)|(simp [*];done)),H',⟨by first|omega|exact Nat.le_refl _⟩,⟨by repeat (first|(with_reducible first|exact HB.out|apply below_alloc|apply pw_below_drewN|apply below_drew1)|exact HB.out)⟩⟩
  ·replace c4:=Bool.eq_false_iff.mpr c4
   subst c4
   have H1:(spec_SmithPrices.j0 k l0 true)=some (r1,r2,r3):=by rw [if_neg (show ¬ (false=true) by decide)] at H;exact H
   clear H
   have H:=H1
   clear H1
   have H':=Aside0.mk H
   clear H
   go_wp2_with (first|((with_reducible refine gate_callee (f:=47) rfl ?_);refine goesL_ (some 7) rfl rfl Try.func47 (by kernel_rfl) rfl #[.slice A0 l0.length c0] rfl (by (try simp only [List.map_toArray,List.map_cons,List.map_nil]);first|done|rfl|(simp only [List.length_drop,List.length_take];rfl)) ?_;(with_reducible refine (spec_l6Good.calls k _ _ l0 false _ ?side1 ?side2 A3.out).mono ?_);(case side1=>repeat (first|exact (Kd.C_below HR0.out HB.out)|(with_reducible refine Kd.C_alloc ?_ _)|(with_reducible refine Kd.C_drewN ?_ _)|(with_reducible refine Kd.C_drew ?_)));(case side2=>exact HC0.out);rintro e w7 ⟨rfl,hb⟩;refine ⟨_,rfl,?_⟩;have n0_:=Aside0.mk (below_step (by repeat (first|(with_reducible first|exact HB.out|apply below_alloc|apply pw_below_drewN|apply below_drew1)|exact HB.out)) hb);clear HB;have HB:=n0_;clear n0_;(try clear hb);(try clear hb2);(try clear hk);(try clear hi)))
   go_meet
   case rel=>exact ⟨_,(true),(by first|rfl|(simp;done)|(simp [*];done)),H',⟨by first|omega|exact Nat.le_refl _⟩,⟨by repeat (first|(with_reducible first|exact HB.out|apply below_alloc|apply pw_below_drewN|apply below_drew1)|exact HB.out)⟩⟩
 case rest=>
  clear HC2
  try clear c1
  try clear p2
  try clear c4
  obtain ⟨kq,x13_1,rfl,HA,HJ1,HB⟩:=hcut
  cases kq with
  | zero=>exact absurd HA.out (by simp [spec_SmithPrices.j0])
  | succ kj1=>
   have H:=HA.out
   clear HA
   simp only [spec_SmithPrices.j0] at H
   by_cases c8:x13_1=true
   ·subst c8
    have H1:(some ((([]:List (S68))),0,false))=some (r1,r2,r3):=by rw [if_pos rfl] at H;exact H
    clear H
    have H:=H1
    clear H1
    obtain ⟨y259,hy259⟩:∃ y_:List (S68),y_=(([]:List (S68))):=⟨_,rfl⟩
    replace H:(some (y259,0,false))=some (r1,r2,r3):=by first|(rw [hy259];with_reducible exact H)|(have H2_:=(Option.bind_some _ _).symm.trans H;rw [hy259];with_reducible exact H2_)|(have H2_:=(Option.bind_some _ _).symm.trans H;with_reducible exact H2_)|with_reducible exact H|(rw [hy259];exact H)|exact H
    have Ny259:=Aside0.mk hy259
    clear hy259
    simp only [Option.some.injEq,Prod.mk.injEq] at H
    obtain ⟨rfl,rfl,rfl⟩:=H
    go_wp2_with (first|((with_reducible refine gate_dst (N:=14) rfl ?_);refine Kd.S_lit k68 _ 68 ?hg (N:=14) ?hd (xs:=([]:List (S68))) (inner:=[]) (ok:=fun _=>True) (okp:=fun _=>True) ?hr ?hp (fun _ hk=>hk) trivial (Below.refl _ _) (Nat.le_refl _) (by simp) ?_;(case hd=>rfl);(case hg=>rfl);(case hr=>first|(go_simp;done)|(go_simp;rfl));(case hp=>exact (Reps.none _ _));intro v260 w9 ho10 hb hg_ hnew_;clear hg_ hnew_;(first|rw [←Ny259.out] at ho10|(simp only [Int.reduceToNat] at ho10;rw [←Ny259.out] at ho10));have n0_:=Aside0.mk (Kd.S_lower ho10 (below_size (by repeat (first|(with_reducible first|exact HB.out|apply below_alloc|apply pw_below_drewN|apply below_drew1)|exact HB.out))));have n1_:=Aside0.mk (below_step (by repeat (first|(with_reducible first|exact HB.out|apply below_alloc|apply pw_below_drewN|apply below_drew1)|exact HB.out)) hb);clear HB;have HO261:=n0_;have HB:=n1_;clear n0_ n1_;clear hb ho10))
    go_ret3
    exact ⟨_,by first|rfl|(simp [errW_none,errW_some] <;> rfl)|(simp [*,errW_none,errW_some] <;> rfl),by (with_reducible repeat (first|apply Kd.S_alloc|apply Kd.S_drewN|apply Kd.S_drew));exact HO261.out,by repeat (first|(with_reducible first|exact HB.out|apply below_alloc|apply pw_below_drewN|apply below_drew1)|exact HB.out)⟩
   ·replace c8:=Bool.eq_false_iff.mpr c8
    subst c8
    have H1:((spec_l10Multiple.f kj1 l0).bind fun t262=>((spec_l10Made.f kj1 l0 t262).bind fun t263=>(some (t263,t262,true))))=some (r1,r2,r3):=by rw [if_neg (show ¬ (false=true) by decide)] at H;exact H
    clear H
    have H:=H1
    clear H1
    replace H:=Option.bind_eq_some_iff.mp H
    obtain ⟨t262,A110,H⟩:=H
    replace H:((spec_l10Made.f kj1 l0 t262).bind fun t263=>(some (t263,t262,true)))=some (r1,r2,r3):=H
    have A11:=Aside0.mk A110
    clear A110
    replace H:=Option.bind_eq_some_iff.mp H
    obtain ⟨t263,A120,H⟩:=H
    replace H:(some (t263,t262,true))=some (r1,r2,r3):=H
    have A12:=Aside0.mk A120
    clear A120
    simp only [Option.some.injEq,Prod.mk.injEq] at H
    obtain ⟨rfl,rfl,rfl⟩:=H
    go_wp2_with (first|((with_reducible refine gate_callee (f:=48) rfl ?_);refine goesL_ (some 16) rfl rfl Try.func48 (by kernel_rfl) rfl #[.slice A0 l0.length c0] rfl (by (try simp only [List.map_toArray,List.map_cons,List.map_nil]);first|done|rfl|(simp only [List.length_drop,List.length_take];rfl)) ?_;(with_reducible refine (spec_l10Multiple.calls kj1 _ _ l0 t262 _ ?side1 ?side2 A11.out).mono ?_);(case side1=>repeat (first|exact (Kd.C_below HR0.out HB.out)|(with_reducible refine Kd.C_alloc ?_ _)|(with_reducible refine Kd.C_drewN ?_ _)|(with_reducible refine Kd.C_drew ?_)));(case side2=>exact HC0.out);rintro e w' ⟨rfl,⟨nd,rfl⟩⟩;refine ⟨_,rfl,?_⟩)|((with_reducible refine gate_callee (f:=49) rfl ?_);refine goesL_ (some 19) rfl rfl Try.func49 (by kernel_rfl) rfl #[.slice A0 l0.length c0,.int .i64 t262] rfl (by (try simp only [List.map_toArray,List.map_cons,List.map_nil]);first|done|rfl|(simp only [List.length_drop,List.length_take];rfl)) ?_;(with_reducible refine (spec_l10Made.calls kj1 _ _ l0 t262 t263 _ ?side1 ?side2 A12.out).mono ?_);(case side1=>repeat (first|exact (Kd.C_below HR0.out (by repeat (first|(with_reducible first|exact HB.out|apply below_alloc|apply pw_below_drewN|apply below_drew1)|exact HB.out)))|(with_reducible refine Kd.C_alloc ?_ _)|(with_reducible refine Kd.C_drewN ?_ _)|(with_reducible refine Kd.C_drew ?_)));(case side2=>exact HC0.out);rintro e w13 ⟨v264,rfl,ho0,hb⟩;refine ⟨_,rfl,?_⟩;have n0_:=Aside0.mk (Kd.S_lower ho0 (below_size (by repeat (first|(with_reducible first|exact HB.out|apply below_alloc|apply pw_below_drewN|apply below_drew1)|exact HB.out))));have n1_:=Aside0.mk (below_step (by repeat (first|(with_reducible first|exact HB.out|apply below_alloc|apply pw_below_drewN|apply below_drew1)|exact HB.out)) hb);clear HB;have HO265:=n0_;have HB:=n1_;clear n0_ n1_;(try clear hb);(try clear hb2);(try clear hk);(try clear hi);(try clear ho0)))
    go_ret3
    exact ⟨_,by first|rfl|(simp [errW_none,errW_some] <;> rfl)|(simp [*,errW_none,errW_some] <;> rfl),by (with_reducible repeat (first|apply Kd.S_alloc|apply Kd.S_drewN|apply Kd.S_drew));exact HO265.out,by repeat (first|(with_reducible first|exact HB.out|apply below_alloc|apply pw_below_drewN|apply below_drew1)|exact HB.out)⟩

/-! ### laws_toJob: function 50 -/
def laws_toJob.f (a0_0:Int) (a0_1:Int) (a0_2:Int) (a0_3:Int):Option (Int × Int × Int × Int):=some (a0_0,a0_1,a0_2,a0_3)
set_option maxHeartbeats 8000000 in
set_option maxRecDepth 100000 in
theorem laws_toJob.calls (a0_0:Int) (a0_1:Int) (a0_2:Int) (a0_3:Int) (r1:Int) (r2:Int) (r3:Int) (r4:Int) (w:World) (h:laws_toJob.f a0_0 a0_1 a0_2 a0_3=some (r1,r2,r3,r4)) :
  Calls Try.prog 50 #[.agg #[.int .i64 a0_0,.int .i64 a0_1,.int .i64 a0_2,.int .i64 a0_3]] w fun e w'=>e=.returned (.agg #[.int .i64 r1,.int .i64 r2,.int .i64 r3,.int .i64 r4])∧Below w.heap.size w w':=by
 have hu64:=Try.underlying64
 have hu62:=Try.underlying62
 have HB:=Aside0.mk (Below.refl w.heap.size w)
 have H:(some (a0_0,a0_1,a0_2,a0_3))=some (r1,r2,r3,r4):=h
 clear h
 simp only [Option.some.injEq,Prod.mk.injEq] at H
 obtain ⟨rfl,rfl,rfl,rfl⟩:=H
 go_enter Try.func50,Try.ntmps50
 go_wp2_with (first|((with_reducible refine gate_dst (N:=1) rfl ?_);refine box_event ?hg (N:=1) ?hd (cs:=#[.int .i64 a0_0,.int .i64 a0_1,.int .i64 a0_2,.int .i64 a0_3]) (t:=64) ?hr ?_;(case hd=>rfl);(case hg=>rfl);(case hr=>first|(go_simp;done)|(go_simp;rfl));intro gb266 hg w2 hbox hb;have n0_:=Aside0.mk (below_step (by repeat (first|(with_reducible first|exact HB.out|apply below_alloc|apply pw_below_drewN|apply below_drew1)|exact HB.out)) hb);have n1_:=Aside0.mk (hbox);have n2_:=Aside0.mk ((by rw [hg];exact (below_size (by repeat (first|(with_reducible first|exact HB.out|apply below_alloc|apply pw_below_drewN|apply below_drew1)|exact HB.out))):w.heap.size≤gb266));have n3_:=Aside0.mk ((by rw [hg];exact (below_size (by repeat (first|(with_reducible first|exact HB.out|apply below_alloc|apply pw_below_drewN|apply below_drew1)|exact HB.out))):w.heap.size≤gb266));clear HB;have HB:=n0_;have BK266:=n1_;have GW266:=n2_;have GE266:=n3_;clear n0_ n1_ n2_ n3_;clear hb hbox hg)|((with_reducible refine gate_dst (N:=2) rfl ?_);refine box_event ?hg (N:=2) ?hd (cs:=#[.int .i64 0,.int .i64 0,.int .i64 0,.int .i64 0]) (t:=62) ?hr ?_;(case hd=>rfl);(case hg=>rfl);(case hr=>first|(go_simp;done)|(go_simp;rfl));intro gb267 hg w3 hbox hb;have n0_:=Aside0.mk (blk_below (g:=gb266) (o:=.cells #[.int .i64 a0_0,.int .i64 a0_1,.int .i64 a0_2,.int .i64 a0_3] 64 (0,0)) (by (with_reducible repeat (first|refine blk_drewN ?_ _|refine blk_drew ?_|refine blk_alloc ?_ _));exact BK266.out) hb);have n1_:=Aside0.mk (below_step (by repeat (first|(with_reducible first|exact HB.out|apply below_alloc|apply pw_below_drewN|apply below_drew1|refine below_set ?_ GE266.out)|exact HB.out)) hb);have n2_:=Aside0.mk (hbox);have n3_:=Aside0.mk ((by rw [hg];exact (below_size (by repeat (first|(with_reducible first|exact HB.out|apply below_alloc|apply pw_below_drewN|apply below_drew1|refine below_set ?_ GE266.out)|exact HB.out))):w.heap.size≤gb267));have n4_:=Aside0.mk ((by rw [hg];exact (below_size (by repeat (first|(with_reducible first|exact HB.out|apply below_alloc|apply pw_below_drewN|apply below_drew1|refine below_set ?_ GE266.out)|exact HB.out))):w.heap.size≤gb267));have n5_:=Aside0.mk ((by rw [hg];exact Nat.ne_of_lt (blk_lt (g:=gb266) (o:=.cells #[.int .i64 a0_0,.int .i64 a0_1,.int .i64 a0_2,.int .i64 a0_3] 64 (0,0)) (by (with_reducible repeat (first|refine blk_drewN ?_ _|refine blk_drew ?_|refine blk_alloc ?_ _));exact BK266.out)):gb266≠gb267));have n6_:=Aside0.mk ((by rw [hg];exact Nat.ne_of_gt (blk_lt (g:=gb266) (o:=.cells #[.int .i64 a0_0,.int .i64 a0_1,.int .i64 a0_2,.int .i64 a0_3] 64 (0,0)) (by (with_reducible repeat (first|refine blk_drewN ?_ _|refine blk_drew ?_|refine blk_alloc ?_ _));exact BK266.out)):gb267≠gb266));clear BK266;clear HB;have BK266:=n0_;have HB:=n1_;have BK267:=n2_;have GW267:=n3_;have GE267:=n4_;have NB266_267:=n5_;have NB267_266:=n6_;clear n0_ n1_ n2_ n3_ n4_ n5_ n6_;clear hb hbox hg)|((with_reducible refine gate_dst (N:=3) rfl ?_);refine box_event ?hg (N:=3) ?hd (cs:=#[.int .i64 0,.int .i64 0,.int .i64 0,.int .i64 0]) (t:=62) ?hr ?_;(case hd=>rfl);(case hg=>rfl);(case hr=>first|(go_simp;done)|(go_simp;rfl));intro gb268 hg w4 hbox hb;have n0_:=Aside0.mk (blk_below (g:=gb266) (o:=.cells #[.int .i64 a0_0,.int .i64 a0_1,.int .i64 a0_2,.int .i64 a0_3] 64 (0,0)) (by (with_reducible repeat (first|refine blk_drewN ?_ _|refine blk_drew ?_|refine blk_alloc ?_ _));exact BK266.out) hb);have n1_:=Aside0.mk (blk_below (g:=gb267) (o:=.cells #[.int .i64 0,.int .i64 0,.int .i64 0,.int .i64 0] 62 (0,0)) (by (with_reducible repeat (first|refine blk_drewN ?_ _|refine blk_drew ?_|refine blk_alloc ?_ _));exact BK267.out) hb);have n2_:=Aside0.mk (below_step (by repeat (first|(with_reducible first|exact HB.out|apply below_alloc|apply pw_below_drewN|apply below_drew1|refine below_set ?_ GE266.out|refine below_set ?_ GE267.out)|exact HB.out)) hb);have n3_:=Aside0.mk (hbox);have n4_:=Aside0.mk ((by rw [hg];exact (below_size (by repeat (first|(with_reducible first|exact HB.out|apply below_alloc|apply pw_below_drewN|apply below_drew1|refine below_set ?_ GE266.out|refine below_set ?_ GE267.out)|exact HB.out))):w.heap.size≤gb268));have n5_:=Aside0.mk ((by rw [hg];exact (below_size (by repeat (first|(with_reducible first|exact HB.out|apply below_alloc|apply pw_below_drewN|apply below_drew1|refine below_set ?_ GE266.out|refine below_set ?_ GE267.out)|exact HB.out))):w.heap.size≤gb268));have n6_:=Aside0.mk ((by rw [hg];exact Nat.ne_of_lt (blk_lt (g:=gb266) (o:=.cells #[.int .i64 a0_0,.int .i64 a0_1,.int .i64 a0_2,.int .i64 a0_3] 64 (0,0)) (by (with_reducible repeat (first|refine blk_drewN ?_ _|refine blk_drew ?_|refine blk_alloc ?_ _));exact BK266.out)):gb266≠gb268));have n7_:=Aside0.mk ((by rw [hg];exact Nat.ne_of_gt (blk_lt (g:=gb266) (o:=.cells #[.int .i64 a0_0,.int .i64 a0_1,.int .i64 a0_2,.int .i64 a0_3] 64 (0,0)) (by (with_reducible repeat (first|refine blk_drewN ?_ _|refine blk_drew ?_|refine blk_alloc ?_ _));exact BK266.out)):gb268≠gb266));have n8_:=Aside0.mk ((by rw [hg];exact Nat.ne_of_lt (blk_lt (g:=gb267) (o:=.cells #[.int .i64 0,.int .i64 0,.int .i64 0,.int .i64 0] 62 (0,0)) (by (with_reducible repeat (first|refine blk_drewN ?_ _|refine blk_drew ?_|refine blk_alloc ?_ _));exact BK267.out)):gb267≠gb268));have n9_:=Aside0.mk ((by rw [hg];exact Nat.ne_of_gt (blk_lt (g:=gb267) (o:=.cells #[.int .i64 0,.int .i64 0,.int .i64 0,.int .i64 0] 62 (0,0)) (by (with_reducible repeat (first|refine blk_drewN ?_ _|refine blk_drew ?_|refine blk_alloc ?_ _));exact BK267.out)):gb268≠gb267));clear BK266;clear BK267;clear HB;have BK266:=n0_;have BK267:=n1_;have HB:=n2_;have BK268:=n3_;have GW268:=n4_;have GE268:=n5_;have NB266_268:=n6_;have NB268_266:=n7_;have NB267_268:=n8_;have NB268_267:=n9_;clear n0_ n1_ n2_ n3_ n4_ n5_ n6_ n7_ n8_ n9_;clear hb hbox hg;have hnb5:=NB266_267.out;have hnc5:=NB267_266.out;have hnb6:=NB266_268.out;have hnc6:=NB268_266.out;have hcz7_0:w4.cell? ⟨gb266,0,none⟩=some (.int .i64 a0_0):=(blk_cell BK266.out 0).trans rfl;have hcz7_1:w4.cell? ⟨gb266,1,none⟩=some (.int .i64 a0_1):=(blk_cell BK266.out 1).trans rfl;have hcz7_2:w4.cell? ⟨gb266,2,none⟩=some (.int .i64 a0_2):=(blk_cell BK266.out 2).trans rfl;have hcz7_3:w4.cell? ⟨gb266,3,none⟩=some (.int .i64 a0_3):=(blk_cell BK266.out 3).trans rfl;have hfz7_0:=blk_frozen BK266.out 0;have hfz7_1:=blk_frozen BK266.out 1;have hfz7_2:=blk_frozen BK266.out 2;have hfz7_3:=blk_frozen BK266.out 3;have hnb8:=NB268_267.out;have hnc8:=NB267_268.out;have hcz9_0:w4.cell? ⟨gb268,0,none⟩=some (.int .i64 0):=(blk_cell BK268.out 0).trans rfl;have hcz9_1:w4.cell? ⟨gb268,1,none⟩=some (.int .i64 0):=(blk_cell BK268.out 1).trans rfl;have hcz9_2:w4.cell? ⟨gb268,2,none⟩=some (.int .i64 0):=(blk_cell BK268.out 2).trans rfl;have hcz9_3:w4.cell? ⟨gb268,3,none⟩=some (.int .i64 0):=(blk_cell BK268.out 3).trans rfl;have hfz9_0:=blk_frozen BK268.out 0;have hfz9_1:=blk_frozen BK268.out 1;have hfz9_2:=blk_frozen BK268.out 2;have hfz9_3:=blk_frozen BK268.out 3;have hcz10_0:w4.cell? ⟨gb267,0,none⟩=some (.int .i64 0):=(blk_cell BK267.out 0).trans rfl;have hcz10_1:w4.cell? ⟨gb267,1,none⟩=some (.int .i64 0):=(blk_cell BK267.out 1).trans rfl;have hcz10_2:w4.cell? ⟨gb267,2,none⟩=some (.int .i64 0):=(blk_cell BK267.out 2).trans rfl;have hcz10_3:w4.cell? ⟨gb267,3,none⟩=some (.int .i64 0):=(blk_cell BK267.out 3).trans rfl;have hfz10_0:=blk_frozen BK267.out 0;have hfz10_1:=blk_frozen BK267.out 1;have hfz10_2:=blk_frozen BK267.out 2;have hfz10_3:=blk_frozen BK267.out 3))
 refine bodyPost_ret (results_cell_row rfl _ _ gb267 62 #[.int .i64 a0_0,.int .i64 a0_1,.int .i64 a0_2,.int .i64 a0_3] (0,0) _ rfl (by (with_reducible repeat (first|refine blk_drewN ?_ _|refine blk_drew ?_|refine blk_alloc ?_ _));refine blk_put (cs:=#[.int .i64 a0_0,.int .i64 a0_1,.int .i64 a0_2,.int .i64 0]) ?_ 3 _ rfl;(with_reducible repeat (first|refine blk_drewN ?_ _|refine blk_drew ?_|refine blk_alloc ?_ _));refine blk_put (cs:=#[.int .i64 a0_0,.int .i64 a0_1,.int .i64 0,.int .i64 0]) ?_ 2 _ rfl;(with_reducible repeat (first|refine blk_drewN ?_ _|refine blk_drew ?_|refine blk_alloc ?_ _));refine blk_put (cs:=#[.int .i64 a0_0,.int .i64 0,.int .i64 0,.int .i64 0]) ?_ 1 _ rfl;(with_reducible repeat (first|refine blk_drewN ?_ _|refine blk_drew ?_|refine blk_alloc ?_ _));refine blk_put (cs:=#[.int .i64 0,.int .i64 0,.int .i64 0,.int .i64 0]) ?_ 0 _ rfl;(with_reducible repeat (first|refine blk_drewN ?_ _|refine blk_drew ?_|refine blk_alloc ?_ _));refine blk_far ?_ NB267_268.out _;(with_reducible repeat (first|refine blk_drewN ?_ _|refine blk_drew ?_|refine blk_alloc ?_ _));refine blk_far ?_ NB267_268.out _;(with_reducible repeat (first|refine blk_drewN ?_ _|refine blk_drew ?_|refine blk_alloc ?_ _));refine blk_far ?_ NB267_268.out _;(with_reducible repeat (first|refine blk_drewN ?_ _|refine blk_drew ?_|refine blk_alloc ?_ _));refine blk_far ?_ NB267_268.out _;(with_reducible repeat (first|refine blk_drewN ?_ _|refine blk_drew ?_|refine blk_alloc ?_ _));exact BK267.out) Try.underlying62 rfl (by kernel_rfl)) rfl ?_
 exact ⟨by first|rfl|(simp [errW_none,errW_some] <;> rfl)|(simp [*,errW_none,errW_some] <;> rfl),by repeat (first|(with_reducible first|exact HB.out|apply below_alloc|apply pw_below_drewN|apply below_drew1|refine below_set ?_ GE266.out|refine below_set ?_ GE267.out|refine below_set ?_ GE268.out)|exact HB.out)⟩

/-! ### laws_toJobS: function 18 -/
def laws_toJobS.l0:Nat→List (S64)→List (S62)→Int→Option ((List (S62)))
 | 0,_,_,_=>none
 | k + 1,x0,x3,x4=>if x4<(x0.length:Int) then (if 0≤x4 then ((laws_toJob.f ((rd_T64 x0 x4).f0) ((rd_T64 x0 x4).f1) ((rd_T64 x0 x4).f2) ((rd_T64 x0 x4).f3)).bind fun bt273=>(if x4<(x3.length:Int) then (laws_toJobS.l0 k x0 (x3.set (x4:Int).toNat (⟨bt273.1,bt273.2.1,bt273.2.2.1,bt273.2.2.2⟩:S62)) (wrap64 (x4 + 1))) else (none))) else (none)) else (some x3)
def laws_toJobS.f (k:Nat) (l0:List (S64)):Option ((List (S62))):=if 0≤(l0.length:Int) then (if ((l0.length:Int):Int).toNat≤8796093022208 then (laws_toJobS.l0 k l0 (List.replicate ((l0.length:Int):Int).toNat z62) 0) else (none)) else (none)
theorem laws_toJobS.mono_l:∀ k,(∀ y0 y1 y2,LeO (laws_toJobS.l0 k y0 y1 y2) (laws_toJobS.l0 (k + 1) y0 y1 y2))
 | 0=>fun _ _ _ r h=>by simp [laws_toJobS.l0] at h
 | k + 1=>by
  have ih0:=laws_toJobS.mono_l k
  ·intro y0 y1 y2
   unfold laws_toJobS.l0
   repeat' first
   | (with_reducible exact ih0 _ _ _)
   | (with_reducible exact LeO.refl _)
   | (with_reducible exact LeO.none _)
   | (with_reducible refine LeO.ite ?_ ?_)
   | (with_reducible refine LeO.bind ?_ (fun _=>?_))
   | exact ih0 _ _ _
   | exact LeO.none _
   | refine LeO.ite ?_ ?_
   | refine LeO.bind ?_ (fun _=>?_)
theorem laws_toJobS.mono:∀ a0 k,LeO (laws_toJobS.f k a0) (laws_toJobS.f (k + 1) a0):=by
 intro a0 k
 have ih0:=laws_toJobS.mono_l k
 unfold laws_toJobS.f
 repeat' first
   | (with_reducible exact ih0 _ _ _)
   | (with_reducible exact LeO.refl _)
   | (with_reducible exact LeO.none _)
   | (with_reducible refine LeO.ite ?_ ?_)
   | (with_reducible refine LeO.bind ?_ (fun _=>?_))
   | exact ih0 _ _ _
   | exact LeO.none _
   | refine LeO.ite ?_ ?_
   | refine LeO.bind ?_ (fun _=>?_)
set_option maxHeartbeats 8000000 in
set_option maxRecDepth 100000 in
theorem laws_toJobS.calls (k:Nat) (A0:Option Addr) (c0:Nat) (l0:List (S64)) (r:List (S62)) (w:World) (hr0:Kd.C k64 w A0 l0.length l0) (hc0:l0.length≤c0) (h:laws_toJobS.f k l0=some r) :
  Calls Try.prog 18 #[.slice A0 l0.length c0] w fun e w'=>∃ v0_:Value,e=.returned (v0_)∧Kd.R k62 62 w' w.heap.size (fun _=>True) v0_ r∧Below w.heap.size w w':=by
 have hu64:=Try.underlying64
 have hu62:=Try.underlying62
 have HR0:=Aside0.mk hr0
 have HC0:=Aside0.mk hc0
 clear hr0 hc0
 have HB:=Aside0.mk (Below.refl w.heap.size w)
 have H:(if 0≤(l0.length:Int) then (if ((l0.length:Int):Int).toNat≤8796093022208 then (laws_toJobS.l0 k l0 (List.replicate ((l0.length:Int):Int).toNat z62) 0) else (none)) else (none))=some r:=h
 clear h
 by_cases c2:0≤(l0.length:Int)
 ·rw [if_pos c2] at H
  have c2b0:=eq_true c2
  have c2b1:decide (0≤(l0.length:Int))=true:=decide_eq_true c2
  clear c2
  by_cases c3:((l0.length:Int):Int).toNat≤8796093022208
  ·rw [if_pos c3] at H
   have c3b0:=eq_true c3
   have c3b1:decide (((l0.length:Int):Int).toNat≤8796093022208)=true:=decide_eq_true c3
   clear c3
   obtain ⟨y269,hy269⟩:∃ y_:List (S62),y_=(List.replicate ((l0.length:Int):Int).toNat z62):=⟨_,rfl⟩
   replace H:(laws_toJobS.l0 k l0 y269 0)=some r:=by first|(rw [hy269];with_reducible exact H)|(have H2_:=(Option.bind_some _ _).symm.trans H;rw [hy269];with_reducible exact H2_)|(have H2_:=(Option.bind_some _ _).symm.trans H;with_reducible exact H2_)|with_reducible exact H|(rw [hy269];exact H)|exact H
   have Ny269:=Aside0.mk hy269
   clear hy269
   have H':=Aside0.mk H
   clear H
   go_enter Try.func18,Try.ntmps18
   go_wp2_with (first|((with_reducible refine gate_dst (N:=7) rfl ?_);refine Kd.R_make k62 _ 62 rfl (N:=7) rfl 34 _ _ rfl (l0.length:Int) rfl rfl Try.underlying34 (.agg #[(.int .i64 0),(.int .i64 0),(.int .i64 0),(.int .i64 0)]) 32 info62 rfl (by decide) (by omega) z62 (ok:=fun _=>True) (okp:=fun _=>True) (k62_mkM _ _ _ z62) (fun _ hk=>hk) trivial (of_decide_eq_true (by first|(with_reducible assumption)|assumption)) (Nat.le_trans (Nat.mul_le_mul_right _ (of_decide_eq_true (by first|(with_reducible assumption)|assumption):(l0.length:Int).toNat≤8796093022208)) (by omega)) (Below.refl _ _) (Nat.le_refl _) ?_;intro v270 w4 ho5 hb hg_ hnew_;clear hg_ hnew_;(first|rw [←Ny269.out] at ho5|(simp only [Int.reduceToNat] at ho5;rw [←Ny269.out] at ho5));have n0_:=Aside0.mk (Kd.R_lower ho5 (below_size (by repeat (first|(with_reducible first|exact HB.out|apply below_alloc|apply pw_below_drewN|apply below_drew1)|exact HB.out))));have n1_:=Aside0.mk (below_step (by repeat (first|(with_reducible first|exact HB.out|apply below_alloc|apply pw_below_drewN|apply below_drew1)|exact HB.out)) hb);clear HB;have HO271:=n0_;have HB:=n1_;clear n0_ n1_;clear hb ho5))
   go_loopg [4] k (fun kq v4 w'=>∃ (x3_1:List (S62)) (x4_1:Int),v4=.int .i64 x4_1∧Aside0 (laws_toJobS.l0 kq l0 x3_1 x4_1=some r)∧Aside0 (kq≤k)∧Aside0 (Kd.R k62 62 w' w.heap.size (fun _=>True) v270 x3_1)∧Aside0 (Below w.heap.size w w'))
   case atStart=>exact ⟨(y269),(0),(by first|rfl|(simp;done)|(simp [*];done)),H',⟨Nat.le_refl _⟩,⟨by (with_reducible repeat (first|apply Kd.R_alloc|apply Kd.R_drewN|apply Kd.R_drew));exact HO271.out⟩,⟨by repeat (first|(with_reducible first|exact HB.out|apply below_alloc|apply pw_below_drewN|apply below_drew1)|exact HB.out)⟩⟩
   case round=>
    clear H'
    try clear c1
    try clear c2
    try clear c2b0
    try clear c2b1
    try clear p2
    try clear c3
    try clear c3b0
    try clear c3b1
    obtain ⟨x3_1,x4_1,rfl,HA,HK1,HO_3,HB⟩:=hrel
    cases gk with
    | zero=>exact absurd HA.out (by simp [laws_toJobS.l0])
    | succ k1=>
     have H:=HA.out
     clear HA
     simp only [laws_toJobS.l0] at H
     by_cases c6:x4_1<(l0.length:Int)
     ·rw [if_pos c6] at H
      have c6b0:decide (x4_1<(l0.length:Int))=true:=decide_eq_true c6
      clear c6
      by_cases c7:0≤x4_1
      ·rw [if_pos c7] at H
       have c7b0:decide (0≤x4_1)=true:=decide_eq_true c7
       clear c7
       replace H:=Option.bind_eq_some_iff.mp H
       obtain ⟨⟨t273,t274,t275,t276⟩,A80,H⟩:=H
       replace H:(if x4_1<(x3_1.length:Int) then (laws_toJobS.l0 k1 l0 (x3_1.set (x4_1:Int).toNat (⟨t273,t274,t275,t276⟩:S62)) (wrap64 (x4_1 + 1))) else (none))=some r:=H
       have A8:=Aside0.mk A80
       clear A80
       by_cases c9:x4_1<(x3_1.length:Int)
       ·rw [if_pos c9] at H
        have c9b0:decide (x4_1<(x3_1.length:Int))=true:=decide_eq_true c9
        clear c9
        obtain ⟨y277,hy277⟩:∃ y_:List (S62),y_=(x3_1.set (x4_1:Int).toNat (⟨t273,t274,t275,t276⟩:S62)):=⟨_,rfl⟩
        replace H:(laws_toJobS.l0 k1 l0 y277 (wrap64 (x4_1 + 1)))=some r:=by first|(rw [hy277];with_reducible exact H)|(have H2_:=(Option.bind_some _ _).symm.trans H;rw [hy277];with_reducible exact H2_)|(have H2_:=(Option.bind_some _ _).symm.trans H;with_reducible exact H2_)|with_reducible exact H|(rw [hy277];exact H)|exact H
        have Ny277:=Aside0.mk hy277
        clear hy277
        have H':=Aside0.mk H
        clear H
        have p272:0≤(x4_1:Int):=of_decide_eq_true (by first|(with_reducible assumption)|assumption)
        have q272:x4_1<(l0.length:Int):=of_decide_eq_true (by first|(with_reducible assumption)|assumption)
        obtain ⟨ad272,e272,hx272_0,hx272_1,hx272_2,hx272_3⟩:=at_T64 HR0.out x4_1 p272 q272
        cases e272
        replace hx272_0:=(HB.out.cell (World.block_lt_of_cell? w _ hx272_0)).trans hx272_0
        replace hx272_1:=(HB.out.cell (World.block_lt_of_cell? w _ hx272_1)).trans hx272_1
        replace hx272_2:=(HB.out.cell (World.block_lt_of_cell? w _ hx272_2)).trans hx272_2
        replace hx272_3:=(HB.out.cell (World.block_lt_of_cell? w _ hx272_3)).trans hx272_3
        replace p272:=eq_true p272
        replace q272:=eq_true q272
        go_wp2_with (first|((with_reducible refine gate_callee (f:=50) rfl ?_);refine goesL_ (some 20) rfl rfl Try.func50 (by kernel_rfl) rfl #[.agg #[.int .i64 ((rd_T64 l0 x4_1).f0),.int .i64 ((rd_T64 l0 x4_1).f1),.int .i64 ((rd_T64 l0 x4_1).f2),.int .i64 ((rd_T64 l0 x4_1).f3)]] rfl (by (try simp only [List.map_toArray,List.map_cons,List.map_nil]);first|done|rfl|(simp only [List.length_drop,List.length_take];rfl)) ?_;(with_reducible refine (laws_toJob.calls ((rd_T64 l0 x4_1).f0) ((rd_T64 l0 x4_1).f1) ((rd_T64 l0 x4_1).f2) ((rd_T64 l0 x4_1).f3) t273 t274 t275 t276 _ A8.out).mono ?_);rintro e w11 ⟨rfl,hb⟩;refine ⟨_,rfl,?_⟩;have n0_:=Aside0.mk (Kd.R_below (by (with_reducible repeat (first|apply Kd.R_alloc|apply Kd.R_drewN|apply Kd.R_drew));exact HO_3.out) hb);have n1_:=Aside0.mk (below_step (by repeat (first|(with_reducible first|exact HB.out|apply below_alloc|apply pw_below_drewN|apply below_drew1)|exact HB.out)) hb);clear HO_3;clear HB;have HO_3:=n0_;have HB:=n1_;clear n0_ n1_;(try clear hb);(try clear hb2);(try clear hk);(try clear hi);have p10:0≤(x4_1:Int):=of_decide_eq_true (by first|(with_reducible assumption)|assumption);have q10:(x4_1:Int)<((x3_1.length:Int):Int):=of_decide_eq_true (by first|(with_reducible assumption)|assumption);obtain ⟨go10,co10,eo10,gb10,gl10,cl10,HG10⟩:=Kd.R_form HO_3.out (by omega);(first|cases eo10|(injection eo10 with ea_ en_ ec_;(first|subst ea_|(injection ea_ with ea_;subst ea_));subst ec_;clear en_));have GB10:=Aside0.mk gb10;have GG10:=Aside0.mk HG10;clear gb10 gl10 HG10;obtain ⟨ce10,hcl10,hM10,hcc10,hfr10⟩:=Kd.R_elem HO_3.out z62 (x4_1:Int) p10 q10;obtain rfl:=k62_openM hM10;have hx10_0:w11.cell? ⟨go10,(x4_1:Int).toNat * 4,none⟩=some (.int .i64 ((rd_T62 x3_1 x4_1).f0)):=hcc10 0 _ rfl;have hx10_1:w11.cell? ⟨go10,(x4_1:Int).toNat * 4 + 1,none⟩=some (.int .i64 ((rd_T62 x3_1 x4_1).f1)):=hcc10 1 _ rfl;have hx10_2:w11.cell? ⟨go10,(x4_1:Int).toNat * 4 + 2,none⟩=some (.int .i64 ((rd_T62 x3_1 x4_1).f2)):=hcc10 2 _ rfl;have hx10_3:w11.cell? ⟨go10,(x4_1:Int).toNat * 4 + 3,none⟩=some (.int .i64 ((rd_T62 x3_1 x4_1).f3)):=hcc10 3 _ rfl;have hf10_0:w11.frozen? ⟨go10,(x4_1:Int).toNat * 4,none⟩=false:=hfr10 0;have hf10_1:w11.frozen? ⟨go10,(x4_1:Int).toNat * 4 + 1,none⟩=false:=hfr10 1;have hf10_2:w11.frozen? ⟨go10,(x4_1:Int).toNat * 4 + 2,none⟩=false:=hfr10 2;have hf10_3:w11.frozen? ⟨go10,(x4_1:Int).toNat * 4 + 3,none⟩=false:=hfr10 3;(clear hcl10 hcc10 hfr10;(try clear hM10));replace p10:=eq_true p10;replace q10:=eq_true q10;have HX12:=Aside0.mk (show Kd.R k62 62 w11 w.heap.size (fun _=>True) (.slice (some ⟨go10,0,none⟩) x3_1.length co10) x3_1 from (by (with_reducible repeat (first|apply Kd.R_alloc|apply Kd.R_drewN|apply Kd.R_drew));exact HO_3.out));obtain ⟨ce12,hcl12,hM12,hcc12,hfr12⟩:=Kd.R_elem HX12.out z62 (x4_1:Int) (of_decide_eq_true (by first|(with_reducible assumption)|assumption)) (by have h_:(x4_1:Int)<((x3_1.length:Int):Int):=of_decide_eq_true (by first|(with_reducible assumption)|assumption);first|exact h_|(have e_:=(Kd.R_reads' HO_3.out).1;omega)|simpa using h_);obtain rfl:=k62_openM hM12;have HP12:=Kd.R_seg HX12.out (x4_1:Int) (of_decide_eq_true (by first|(with_reducible assumption)|assumption)) (by have h_:(x4_1:Int)<((x3_1.length:Int):Int):=of_decide_eq_true (by first|(with_reducible assumption)|assumption);first|exact h_|(have e_:=(Kd.R_reads' HO_3.out).1;omega)|simpa using h_) (seg:=[.int .i64 t273,.int .i64 t274,.int .i64 t275,.int .i64 t276]) (j:=0) hcl12 hcc12 (show 4≤4 from by decide) (x':=(⟨t273,t274,t275,t276⟩:S62)) (k62_mkM _ _ _ (⟨t273,t274,t275,t276⟩:S62)) (fun _ hk=>hk);have hx12_0:=hcc12 0 _ rfl;(try simp only [show (k62).sz=4 from rfl,Nat.mul_one,Nat.add_zero] at hx12_0);have hf12_0:=hfr12 0;(try simp only [show (k62).sz=4 from rfl,Nat.mul_one,Nat.add_zero] at hf12_0);have hx12_1:=hcc12 1 _ rfl;(try simp only [show (k62).sz=4 from rfl,Nat.mul_one,Nat.add_zero] at hx12_1);have hf12_1:=hfr12 1;(try simp only [show (k62).sz=4 from rfl,Nat.mul_one,Nat.add_zero] at hf12_1);have hx12_2:=hcc12 2 _ rfl;(try simp only [show (k62).sz=4 from rfl,Nat.mul_one,Nat.add_zero] at hx12_2);have hf12_2:=hfr12 2;(try simp only [show (k62).sz=4 from rfl,Nat.mul_one,Nat.add_zero] at hf12_2);have hx12_3:=hcc12 3 _ rfl;(try simp only [show (k62).sz=4 from rfl,Nat.mul_one,Nat.add_zero] at hx12_3);have hf12_3:=hfr12 3;(try simp only [show (k62).sz=4 from rfl,Nat.mul_one,Nat.add_zero] at hf12_3);(clear hcl12 hcc12 hfr12;(try clear hM12)))|((with_reducible refine gate_store (t:=62) (p:=21) rfl ?_);(try (rw [drewN_self w11];generalize hq_:World.drewN w11 _=w11;have n0_:=Aside0.mk (Kd.R_at hq_ HO_3.out);have n1_:=Aside0.mk (below_at hq_ HB.out);(try replace hx10_0:=cell_at hq_ hx10_0);(try replace hx10_1:=cell_at hq_ hx10_1);(try replace hx10_2:=cell_at hq_ hx10_2);(try replace hx10_3:=cell_at hq_ hx10_3);(try replace hf10_0:=(fun {W_ W2_:World} {n_:Nat} {a_:Addr} {b_:Bool} (h_:W_.drewN n_=W2_) (e_:W_.frozen? a_=b_)=>(by subst h_;exact e_:W2_.frozen? a_=b_)) hq_ hf10_0);(try replace hf10_1:=(fun {W_ W2_:World} {n_:Nat} {a_:Addr} {b_:Bool} (h_:W_.drewN n_=W2_) (e_:W_.frozen? a_=b_)=>(by subst h_;exact e_:W2_.frozen? a_=b_)) hq_ hf10_1);(try replace hf10_2:=(fun {W_ W2_:World} {n_:Nat} {a_:Addr} {b_:Bool} (h_:W_.drewN n_=W2_) (e_:W_.frozen? a_=b_)=>(by subst h_;exact e_:W2_.frozen? a_=b_)) hq_ hf10_2);(try replace hf10_3:=(fun {W_ W2_:World} {n_:Nat} {a_:Addr} {b_:Bool} (h_:W_.drewN n_=W2_) (e_:W_.frozen? a_=b_)=>(by subst h_;exact e_:W2_.frozen? a_=b_)) hq_ hf10_3);(try replace hx12_0:=cell_at hq_ hx12_0);(try replace hf12_0:=(fun {W_ W2_:World} {n_:Nat} {a_:Addr} {b_:Bool} (h_:W_.drewN n_=W2_) (e_:W_.frozen? a_=b_)=>(by subst h_;exact e_:W2_.frozen? a_=b_)) hq_ hf12_0);(try replace hx12_1:=cell_at hq_ hx12_1);(try replace hf12_1:=(fun {W_ W2_:World} {n_:Nat} {a_:Addr} {b_:Bool} (h_:W_.drewN n_=W2_) (e_:W_.frozen? a_=b_)=>(by subst h_;exact e_:W2_.frozen? a_=b_)) hq_ hf12_1);(try replace hx12_2:=cell_at hq_ hx12_2);(try replace hf12_2:=(fun {W_ W2_:World} {n_:Nat} {a_:Addr} {b_:Bool} (h_:W_.drewN n_=W2_) (e_:W_.frozen? a_=b_)=>(by subst h_;exact e_:W2_.frozen? a_=b_)) hq_ hf12_2);(try replace hx12_3:=cell_at hq_ hx12_3);(try replace hf12_3:=(fun {W_ W2_:World} {n_:Nat} {a_:Addr} {b_:Bool} (h_:W_.drewN n_=W2_) (e_:W_.frozen? a_=b_)=>(by subst h_;exact e_:W2_.frozen? a_=b_)) hq_ hf12_3);clear hq_ HO_3 HB;have HO_3:=n0_;have HB:=n1_;clear n0_ n1_;(try (have HX12:=Aside0.mk (show Kd.R k62 62 w11 w.heap.size (fun _=>True) (.slice (some ⟨go10,0,none⟩) x3_1.length co10) x3_1 from (by (with_reducible repeat (first|apply Kd.R_alloc|apply Kd.R_drewN|apply Kd.R_drew));exact HO_3.out))));(try (obtain ⟨ce12,hcl12,hM12,hcc12,hfr12⟩:=Kd.R_elem HX12.out z62 (x4_1:Int) (of_decide_eq_true (by first|(with_reducible assumption)|assumption)) (by have h_:(x4_1:Int)<((x3_1.length:Int):Int):=of_decide_eq_true (by first|(with_reducible assumption)|assumption);first|exact h_|(have e_:=(Kd.R_reads' HO_3.out).1;omega)|simpa using h_)));(try (obtain rfl:=k62_openM hM12));(try (have HP12:=Kd.R_seg HX12.out (x4_1:Int) (of_decide_eq_true (by first|(with_reducible assumption)|assumption)) (by have h_:(x4_1:Int)<((x3_1.length:Int):Int):=of_decide_eq_true (by first|(with_reducible assumption)|assumption);first|exact h_|(have e_:=(Kd.R_reads' HO_3.out).1;omega)|simpa using h_) (seg:=[.int .i64 t273,.int .i64 t274,.int .i64 t275,.int .i64 t276]) (j:=0) hcl12 hcc12 (show 4≤4 from by decide) (x':=(⟨t273,t274,t275,t276⟩:S62)) (k62_mkM _ _ _ (⟨t273,t274,t275,t276⟩:S62)) (fun _ hk=>hk)));(try (have hx12_0:=hcc12 0 _ rfl));(try (try simp only [show (k62).sz=4 from rfl,Nat.mul_one,Nat.add_zero] at hx12_0));(try (have hf12_0:=hfr12 0));(try (try simp only [show (k62).sz=4 from rfl,Nat.mul_one,Nat.add_zero] at hf12_0));(try (have hx12_1:=hcc12 1 _ rfl));(try (try simp only [show (k62).sz=4 from rfl,Nat.mul_one,Nat.add_zero] at hx12_1));(try (have hf12_1:=hfr12 1));(try (try simp only [show (k62).sz=4 from rfl,Nat.mul_one,Nat.add_zero] at hf12_1));(try (have hx12_2:=hcc12 2 _ rfl));(try (try simp only [show (k62).sz=4 from rfl,Nat.mul_one,Nat.add_zero] at hx12_2));(try (have hf12_2:=hfr12 2));(try (try simp only [show (k62).sz=4 from rfl,Nat.mul_one,Nat.add_zero] at hf12_2));(try (have hx12_3:=hcc12 3 _ rfl));(try (try simp only [show (k62).sz=4 from rfl,Nat.mul_one,Nat.add_zero] at hx12_3));(try (have hf12_3:=hfr12 3));(try (try simp only [show (k62).sz=4 from rfl,Nat.mul_one,Nat.add_zero] at hf12_3));(try (clear hcl12 hcc12 hfr12;(try clear hM12)))));refine store_event (t:=62) (p:=21) (v:=?vo_w13) (w1:=((((w11.setCell ⟨go10,(x4_1:Int).toNat * 4,none⟩ (.int .i64 t273)).setCell ⟨go10,(x4_1:Int).toNat * 4 + 1,none⟩ (.int .i64 t274)).setCell ⟨go10,(x4_1:Int).toNat * 4 + 2,none⟩ (.int .i64 t275)).setCell ⟨go10,(x4_1:Int).toNat * 4 + 3,none⟩ (.int .i64 t276))) ?hg ?ho ?hn ?hr ?_;(case ho=>rfl);(case hg=>rfl);(case hn=>rfl);(case hr=>first|(go_simp;done)|(go_simp;rfl));intro w13 hw;have hg:w11.grownBy w13 (some go10):=(by rw [hw];exact HP12.2);have hp_:Kd.R k62 62 w13 w.heap.size (fun _=>True) (.slice (some ⟨go10,0,none⟩) x3_1.length co10) y277:=(by rw [hw,Ny277.out];exact HP12.1);clear HP12;have n0_:=Aside0.mk (hp_);have n1_:=Aside0.mk ((by rw [hw];exact below_set (below_set (below_set (below_set (HB.out) GB10.out) GB10.out) GB10.out) GB10.out:Below w.heap.size w w13));clear HO_3;clear HB;have HO_3:=n0_;have HB:=n1_;clear n0_ n1_;clear hg hw hp_))
        go_roundg k1
        case measure=>have:=HK1.out;omega
        case rel=>exact ⟨(y277),(wrap64 (x4_1 + 1)),(by first|rfl|(simp;done)|(simp [*];done)),H',⟨by have:=HK1.out;omega⟩,⟨by (with_reducible repeat (first|apply Kd.R_alloc|apply Kd.R_drewN|apply Kd.R_drew));exact HO_3.out⟩,⟨by repeat (first|(with_reducible first|exact HB.out|apply below_alloc|apply pw_below_drewN|apply below_drew1)|exact HB.out)⟩⟩
       ·rw [if_neg c9] at H
        exact absurd H (by simp)
      ·rw [if_neg c7] at H
       exact absurd H (by simp)
     ·rw [if_neg c6] at H
      have c6b0:decide (x4_1<(l0.length:Int))=false:=decide_eq_false c6
      clear c6
      obtain rfl:=Option.some.inj H
      go_wp2
      go_ret
      exact ⟨_,by first|rfl|(simp [errW_none,errW_some] <;> rfl)|(simp [*,errW_none,errW_some] <;> rfl),by (with_reducible repeat (first|apply Kd.R_alloc|apply Kd.R_drewN|apply Kd.R_drew));exact HO_3.out,by repeat (first|(with_reducible first|exact HB.out|apply below_alloc|apply pw_below_drewN|apply below_drew1)|exact HB.out)⟩
  ·rw [if_neg c3] at H
   exact absurd H (by simp)
 ·rw [if_neg c2] at H
  exact absurd H (by simp)

end Go.Proofs.Ytbblhmpcpmamfaa.XFnExactSmithPrices
-- minified
