-- Written by a program of this session (the kit's print, widened). Proved here: what each function answers, for the arguments that its contract names.
import Derived.Test.YtkolecmpncaooaaXFnLateWeightx0
import Derived.Test.YtkolecmpncaooaaXFnLateWeightx1
import Derived.Test.YtkolecmpncaooaaXFnLateWeightx2
namespace Go.Proofs.Ytkolecmpncaooaa.XFnLateWeight
open Go.RowKit Go.Proofs.YtkolecmpncaooaaW.PrintWords Go.Proofs.YtkolecmpncaooaaW.PrintLast Go.Proofs.YtkolecmpncaooaaW.PrintMore
attribute [local go_sem] max2_int min2_int max_two min_two max_three min_three max_four min_four   -- for this text's walks alone
attribute [local go_sem] idxA_51_0 idxA_51_1 fldS_45_0 fldS_45_1 fldS_45_2 fldS_96_0 fldS_96_1 fldS_96_2
set_option linter.unusedVariables false
set_option linter.unusedSimpArgs false

/-! ### spec_l1Cur_sums: function 23 -/
def spec_l1Cur_sums.f (s0_0:List Int) (s0_1:Int) (s0_2:Int):Option (Int × Int × Int):=(spec_l1Cur_one.f s0_0 s0_1 s0_2 8).bind fun bt234=>(if bt234.1=true then ((spec_l1Cur_objective.f s0_0 bt234.2.1 bt234.2.2).bind fun bt237=>(some (bt237.1,bt237.2.1,bt237.2.2))) else ((spec_l1Cur_among.f s0_0 bt234.2.1 bt234.2.2 (([2,3,5,6,7,8]:List Int))).bind fun bt243=>(some (bt243.1,bt243.2.1,bt243.2.2))))
set_option maxHeartbeats 8000000 in
set_option maxRecDepth 100000 in
theorem spec_l1Cur_sums.calls (g:Nat) (s0_0:List Int) (s0_1:Int) (s0_2:Int) (r1:Int) (r2:Int) (r3:Int) (w0 w:World) (hI:IsS45 w0 w g s0_0 s0_1 s0_2) (hB:Below w0.heap.size w0 w) (h:spec_l1Cur_sums.f s0_0 s0_1 s0_2=some (r1,r2,r3)) :
  Calls Try.prog 23 #[.pointer (some ⟨g,0,none⟩)] w fun e w'=>e=.returned (.int .i64 r1)∧IsS45 w0 w' g s0_0 r2 r3∧Below w0.heap.size w0 w'∧KeepBut w w' g none:=by
 have HI0:=Aside0.mk hI
 have HK:=Aside0.mk (KeepBut.refl w g none)
 have HL:=Aside0.mk hB.size
 clear hI
 have HW0:=Aside0.mk hB.size
 have HB:=Aside0.mk hB
 clear hB
 have H:((spec_l1Cur_one.f s0_0 s0_1 s0_2 8).bind fun bt234=>(if bt234.1=true then ((spec_l1Cur_objective.f s0_0 bt234.2.1 bt234.2.2).bind fun bt237=>(some (bt237.1,bt237.2.1,bt237.2.2))) else ((spec_l1Cur_among.f s0_0 bt234.2.1 bt234.2.2 (([2,3,5,6,7,8]:List Int))).bind fun bt243=>(some (bt243.1,bt243.2.1,bt243.2.2)))))=some (r1,r2,r3):=h
 clear h
 replace H:=Option.bind_eq_some_iff.mp H
 obtain ⟨⟨t234,t235,t236⟩,A20,H⟩:=H
 try dsimp only at H
 have A2:=Aside0.mk A20
 clear A20
 by_cases c3:t234=true
 ·subst c3
  rw [if_pos rfl] at H
  replace H:=Option.bind_eq_some_iff.mp H
  obtain ⟨⟨t237,t238,t239⟩,A40,H⟩:=H
  try dsimp only at H
  have A4:=Aside0.mk A40
  clear A40
  simp only [Option.some.injEq,Prod.mk.injEq] at H
  obtain ⟨rfl,rfl,rfl⟩:=H
  go_enter Try.func23,Try.ntmps23
  go_wp2_with (first|((with_reducible refine gate_callee (f:=53) rfl ?_);refine zgo 4 Try.func53 #[.pointer (some ⟨g,0,none⟩),.int .i64 8] ?_;(with_reducible refine (spec_l1Cur_one.calls g s0_0 s0_1 s0_2 8 true t235 t236 w0 _ ?side1 ?side2 A2.out).mono ?_);(case side1=>exact zz2);(case side2=>exact zz3);rintro e w5 ⟨rfl,hi,hb,hk⟩;refine ⟨_,rfl,?_⟩;replace HK:=Aside0.mk (KeepBut.trans zz1 hk (.inl rfl));replace HB:=Aside0.mk (hb);replace HI0:=Aside0.mk (hi);(try clear hb);(try clear hk);(try clear hi))|((with_reducible refine gate_callee (f:=54) rfl ?_);refine zgo 6 Try.func54 #[.pointer (some ⟨g,0,none⟩)] ?_;(with_reducible refine (spec_l1Cur_objective.calls g s0_0 t235 t236 t237 t238 t239 w0 _ ?side1 ?side2 A4.out).mono ?_);(case side1=>exact zz2);(case side2=>exact zz3);rintro e w6 ⟨rfl,hi,hb,hk⟩;refine ⟨_,rfl,?_⟩;replace HK:=Aside0.mk (KeepBut.trans zz1 hk (.inl rfl));replace HB:=Aside0.mk (hb);replace HI0:=Aside0.mk (hi);(try clear hb);(try clear hk);(try clear hi)))
  go_ret
  exact ⟨zz0,zz2,zz3,zz1⟩
 replace c3:=Bool.eq_false_iff.mpr c3
 subst c3
 rw [if_neg (show ¬ (false=true) by decide)] at H
 obtain ⟨y240,hy240⟩:∃ y_:List Int,y_=(([2,3,5,6,7,8]:List Int)):=⟨_,rfl⟩
 replace H:((spec_l1Cur_among.f s0_0 t235 t236 y240).bind fun bt243=>(some (bt243.1,bt243.2.1,bt243.2.2)))=some (r1,r2,r3):=by first|(rw [hy240];with_reducible exact H)|(have H2_:=(Option.bind_some _ _).symm.trans H;rw [hy240];with_reducible exact H2_)|(have H2_:=(Option.bind_some _ _).symm.trans H;with_reducible exact H2_)|with_reducible exact H|(rw [hy240];exact H)|exact H
 have Ny240:=Aside0.mk hy240
 clear hy240
 replace H:=Option.bind_eq_some_iff.mp H
 obtain ⟨⟨t243,t244,t245⟩,A70,H⟩:=H
 try dsimp only at H
 have A7:=Aside0.mk A70
 clear A70
 simp only [Option.some.injEq,Prod.mk.injEq] at H
 obtain ⟨rfl,rfl,rfl⟩:=H
 go_enter Try.func23,Try.ntmps23
 go_wp2_with (first|((with_reducible refine gate_callee (f:=53) rfl ?_);refine zgo 4 Try.func53 #[.pointer (some ⟨g,0,none⟩),.int .i64 8] ?_;(with_reducible refine (spec_l1Cur_one.calls g s0_0 s0_1 s0_2 8 false t235 t236 w0 _ ?side1 ?side2 A2.out).mono ?_);(case side1=>exact zz2);(case side2=>exact zz3);rintro e w8 ⟨rfl,hi,hb,hk⟩;refine ⟨_,rfl,?_⟩;replace HK:=Aside0.mk (KeepBut.trans zz1 hk (.inl rfl));replace HB:=Aside0.mk (hb);replace HI0:=Aside0.mk (hi);(try clear hb);(try clear hk);(try clear hi))|((with_reducible refine gate_dst (N:=8) rfl ?_);refine Kd.R_lit (Kd.int .i64) _ 3 ?hg (N:=8) ?hd (xs:=([2,3,5,6,7,8]:List Int)) (inner:=[.int .i64 2,.int .i64 3,.int .i64 5,.int .i64 6,.int .i64 7,.int .i64 8]) (ok:=fun _=>True) (okp:=fun _=>True) ?hr ?hp (fun _ hk=>hk) trivial (Below.refl _ _) (Nat.le_refl _) (by simp) ?_;(case hd=>rfl);(case hg=>rfl);(case hr=>first|(go_simp;done)|(go_simp;rfl));(case hp=>exact (Reps.one (show Kd.M (Kd.int .i64) _ _ _ 2 [.int .i64 2] from rfl) (Reps.one (show Kd.M (Kd.int .i64) _ _ _ 3 [.int .i64 3] from rfl) (Reps.one (show Kd.M (Kd.int .i64) _ _ _ 5 [.int .i64 5] from rfl) (Reps.one (show Kd.M (Kd.int .i64) _ _ _ 6 [.int .i64 6] from rfl) (Reps.one (show Kd.M (Kd.int .i64) _ _ _ 7 [.int .i64 7] from rfl) (Reps.one (show Kd.M (Kd.int .i64) _ _ _ 8 [.int .i64 8] from rfl) (Reps.none _ _))))))));intro v241 w9 ho10 hb hg_ hnew_;clear hg_ hnew_;(first|rw [←Ny240.out] at ho10|(simp only [Int.reduceToNat] at ho10;rw [←Ny240.out] at ho10));have n0_:=Aside0.mk (Kd.R_lower ho10 (keep_size (w:=w) (g:=g) (row:=none) zz1));have n1_:=Aside0.mk (IsS45.below zz2 hb);have n2_:=Aside0.mk (KeepBut.trans zz1 (KeepBut.of_below hb g none) (.inl rfl));have n3_:=Aside0.mk (below_step zz3 hb);clear HI0;clear HK;clear HB;have HO242:=n0_;have HI0:=n1_;have HK:=n2_;have HB:=n3_;clear n0_ n1_ n2_ n3_;clear hb ho10;obtain ⟨Ao11,co11,eo11⟩:=Kd.R_slice HO242.out;subst eo11)|((with_reducible refine gate_callee (f:=55) rfl ?_);refine zgo 9 Try.func55 #[.pointer (some ⟨g,0,none⟩),.slice Ao11 y240.length co11] ?_;(with_reducible refine (spec_l1Cur_among.calls g s0_0 t235 t236 _ _ y240 t243 t244 t245 w0 _ ?side1 ?side2 ?side3 ?side4 ?side5 A7.out).mono ?_);(case side1=>exact zz2);(case side2=>exact zz3);(case side3=>exact zC ((Kd.R_reads' HO242.out).2.2));(case side4=>exact (Kd.R_reads' HO242.out).2.1);(case side5=>exact far_slice (IsS45.own_ne HI0.out HO242.out (by decide)));rintro e w12 ⟨rfl,hi,hb,hk⟩;refine ⟨_,rfl,?_⟩;replace HO242:=Aside0.mk (Kd.R_mono (Kd.R_keep (IsS45.apart (show IsS45 w0 _ g s0_0 t235 t236 from by repeat (first|(with_reducible first|exact HI0.out|apply IsS45.alloc|apply IsS45.drewN|apply IsS45.drew|apply IsS45.set_1|apply IsS45.set_2)|exact HI0.out)) (zR HO242.out) (by decide)) hk (fun _ h=>h.2)) (fun _ h=>h.1));replace HK:=Aside0.mk (KeepBut.trans zz1 hk (.inl rfl));replace HB:=Aside0.mk (hb);replace HI0:=Aside0.mk (hi);(try clear hb);(try clear hk);(try clear hi)))
 go_ret
 exact ⟨zz0,zz2,zz3,zz1⟩

/-! ### spec_DrawSetValues: function 6 -/
def spec_DrawSetValues.f (k:Nat) (l0:List Int):Option ((List (S31)) × Int):=(spec_l1Cur_plainJobs.f k l0 0 0 6).bind fun bt247=>((spec_l1Cur_sums.f l0 bt247.2.1 bt247.2.2).bind fun bt252=>(some (bt247.1,bt252.1)))
theorem spec_DrawSetValues.mono:∀ a0 k,LeO (spec_DrawSetValues.f k a0) (spec_DrawSetValues.f (k + 1) a0):=by
 intro a0 k
 unfold spec_DrawSetValues.f
 repeat' first|(with_reducible first|exact spec_l1Cur_plainJobs.mono _ _ _ _ _|exact LeO.refl _|exact LeO.none _|refine LeO.ite ?_ ?_|refine LeO.bind ?_ (fun _=>?_))|exact spec_l1Cur_plainJobs.mono _ _ _ _ _|exact LeO.none _|refine LeO.ite ?_ ?_|refine LeO.bind ?_ (fun _=>?_)
set_option maxHeartbeats 8000000 in
set_option maxRecDepth 100000 in
theorem spec_DrawSetValues.calls (k:Nat) (A0:Option Addr) (c0:Nat) (l0:List Int) (r1:List (S31)) (r2:Int) (w:World) (hr0:Kd.C (Kd.int .u8) w A0 l0.length l0) (hc0:l0.length≤c0) (h:spec_DrawSetValues.f k l0=some (r1,r2)) :
  Calls Try.prog 6 #[.slice A0 l0.length c0] w fun e w'=>∃ v0_:Value,e=.returned (.tuple #[v0_,.int .i64 r2])∧Kd.R k31 31 w' w.heap.size (fun _=>True) v0_ r1∧Below w.heap.size w w':=by
 have hu45:=Try.underlying45
 have HR0:=Aside0.mk hr0
 have HC0:=Aside0.mk hc0
 clear hr0 hc0
 have HB:=Aside0.mk (Below.refl w.heap.size w)
 have H:((spec_l1Cur_plainJobs.f k l0 0 0 6).bind fun bt247=>((spec_l1Cur_sums.f l0 bt247.2.1 bt247.2.2).bind fun bt252=>(some (bt247.1,bt252.1))))=some (r1,r2):=h
 clear h
 replace H:=Option.bind_eq_some_iff.mp H
 obtain ⟨⟨t247,t250,t251⟩,A20,H⟩:=H
 try dsimp only at H
 have A2:=Aside0.mk A20
 clear A20
 replace H:=Option.bind_eq_some_iff.mp H
 obtain ⟨⟨t252,t253,t254⟩,A30,H⟩:=H
 try dsimp only at H
 have A3:=Aside0.mk A30
 clear A30
 simp only [Option.some.injEq,Prod.mk.injEq] at H
 obtain ⟨rfl,rfl⟩:=H
 go_enter Try.func6,Try.ntmps6
 go_wp2_with (first|((with_reducible refine gate_dst (N:=8) rfl ?_);refine box_event ?hg (N:=8) ?hd (cs:=#[.slice A0 l0.length c0,.int .i64 0,.int .u64 0]) (t:=45) ?hr ?_;(case hd=>rfl);(case hg=>rfl);(case hr=>first|(go_simp;done)|(go_simp;rfl));intro gb246 hg w4 hbox hb;have n0_:=zb1 hb;have n1_:=Aside0.mk ((by rw [hg];exact (below_size zb):w.heap.size≤gb246));have n2_:=Aside0.mk ((by rw [hg];exact (below_size zb):w.heap.size≤gb246));have n3_:=Aside0.mk ((show IsS45 w _ gb246 l0 0 0 from ⟨_,_,hbox,(by rw [hg];exact (below_size zb):w.heap.size≤gb246),HR0.out⟩));clear HB;have HB:=n0_;have GW246:=n1_;have GE246:=n2_;have HI246:=n3_;clear n0_ n1_ n2_ n3_;clear hb hbox hg)|((with_reducible refine gate_callee (f:=22) rfl ?_);refine zgo 10 Try.func22 #[.pointer (some ⟨gb246,0,none⟩),.int .i64 6] ?_;(with_reducible refine (spec_l1Cur_plainJobs.calls k gb246 l0 0 0 6 t247 t250 t251 w _ ?side1 ?side2 A2.out).mono ?_);(case side1=>repeat (first|(with_reducible first|exact HI246.out|apply IsS45.alloc|apply IsS45.drewN|apply IsS45.drew|apply IsS45.set_1|apply IsS45.set_2)|exact HI246.out));(case side2=>exact zz34);rintro e w5 ⟨v248,rfl,ho0,hi,hb,hk⟩;refine ⟨_,rfl,?_⟩;have HO249:=Aside0.mk (Kd.R_lower ho0 (below_size zz34));replace HB:=Aside0.mk (hb);replace HI246:=Aside0.mk (hi);(try clear hb);(try clear hk);(try clear hi);(try clear ho0))|((with_reducible refine gate_callee (f:=23) rfl ?_);refine zgo 13 Try.func23 #[.pointer (some ⟨gb246,0,none⟩)] ?_;(with_reducible refine (spec_l1Cur_sums.calls gb246 l0 t250 t251 t252 t253 t254 w _ ?side1 ?side2 A3.out).mono ?_);(case side1=>repeat (first|(with_reducible first|exact HI246.out|apply IsS45.alloc|apply IsS45.drewN|apply IsS45.drew|apply IsS45.set_1|apply IsS45.set_2)|exact HI246.out));(case side2=>exact zz34);rintro e w6 ⟨rfl,hi,hb,hk⟩;refine ⟨_,rfl,?_⟩;replace HO249:=Aside0.mk (Kd.R_mono (Kd.R_keep (IsS45.apart (show IsS45 w _ gb246 l0 t250 t251 from by repeat (first|(with_reducible first|exact HI246.out|apply IsS45.alloc|apply IsS45.drewN|apply IsS45.drew|apply IsS45.set_1|apply IsS45.set_2)|exact HI246.out)) (zR HO249.out) (by decide)) hk (fun _ h=>h.2)) (fun _ h=>h.1));replace HB:=Aside0.mk (hb);replace HI246:=Aside0.mk (hi);(try clear hb);(try clear hk);(try clear hi)))
 go_ret2
 exact ⟨_,zz0,zR HO249.out,zz34⟩

/-! ### impl_within: function 73 -/
def impl_within.f (a0:Int) (a1:Int) (a2:Int):Option (Bool):=if a1≤a0 then (some (decide (a0≤a2))) else (some false)
set_option maxHeartbeats 8000000 in
set_option maxRecDepth 100000 in
theorem impl_within.calls (a0:Int) (a1:Int) (a2:Int) (r:Bool) (w:World) (h:impl_within.f a0 a1 a2=some r) :
  Calls Try.prog 73 #[.int .i64 a0,.int .i64 a1,.int .i64 a2] w fun e w'=>e=.returned (.bool r)∧Drawn0 w w':=by
 have H:(if a1≤a0 then (some (decide (a0≤a2))) else (some false))=some r:=h
 clear h
 by_cases c4:a1≤a0
 ·rw [if_pos c4] at H
  have c4b0:=decide_eq_true c4
  clear c4
  obtain rfl:=Option.some.inj H
  go_enter Try.func73,Try.ntmps73
  go_wp2
  go_ret
  exact ⟨zz7,zz5⟩
 rw [if_neg c4] at H
 have c4b0:=decide_eq_false c4
 clear c4
 obtain rfl:=Option.some.inj H
 go_enter Try.func73,Try.ntmps73
 go_wp2
 go_ret
 exact ⟨zz7,zz5⟩

/-! ### impl_isDate: function 90 -/
def impl_isDate.f (a0:Int):Option (Bool):=(impl_within.f a0 0 500).bind fun t255=>(some t255)
set_option maxHeartbeats 8000000 in
set_option maxRecDepth 100000 in
theorem impl_isDate.calls (a0:Int) (r:Bool) (w:World) (h:impl_isDate.f a0=some r) :
  Calls Try.prog 90 #[.int .i64 a0] w fun e w'=>e=.returned (.bool r)∧Drawn0 w w':=by
 have H:((impl_within.f a0 0 500).bind fun t255=>(some t255))=some r:=h
 clear h
 replace H:=Option.bind_eq_some_iff.mp H
 obtain ⟨t255,A20,H⟩:=H
 try dsimp only at H
 have A2:=Aside0.mk A20
 clear A20
 obtain rfl:=Option.some.inj H
 go_enter Try.func90,Try.ntmps90
 go_wp2_with (first|((with_reducible refine gate_callee (f:=73) rfl ?_);refine zgo 4 Try.func73 #[.int .i64 a0,.int .i64 0,.int .i64 500] ?_;(with_reducible refine (impl_within.calls a0 0 500 t255 _ A2.out).mono ?_);rintro e w' ⟨rfl,⟨nd,rfl⟩⟩;refine ⟨_,rfl,?_⟩))
 go_ret
 exact ⟨zz7,zz5⟩

/-! ### impl_IsJobs: function 56 -/
def impl_IsJobs.l0:Nat→List (S31)→Int→Int→Option (Bool)
 | 0,_,_,_=>none
 | k + 1,x8,x9,x10=>if x10<x9 then (if 0≤x10 then (if x10<(x8.length:Int) then ((impl_within.f ((rd_T31 x8 x10).f0) 1 50).bind fun t258=>(if t258=true then ((impl_within.f ((rd_T31 x8 x10).f1) 0 50).bind fun t259=>(if t259=true then ((impl_isDate.f ((rd_T31 x8 x10).f2)).bind fun t260=>(if t260=true then ((impl_isDate.f ((rd_T31 x8 x10).f3)).bind fun t261=>(if t261=true then (impl_IsJobs.l0 k x8 x9 (wrap64 (x10 + 1))) else (some false))) else (some false))) else (some false))) else (some false))) else (none)) else (none)) else (some true)
def impl_IsJobs.f (k:Nat) (l0:List (S31)):Option (Bool):=if (l0.length:Int)>8 then (some false) else (impl_IsJobs.l0 k l0 (l0.length:Int) 0)
theorem impl_IsJobs.mono_l:∀ k,(∀ y0 y1 y2,LeO (impl_IsJobs.l0 k y0 y1 y2) (impl_IsJobs.l0 (k + 1) y0 y1 y2))
 | 0=>fun _ _ _ r h=>by simp [impl_IsJobs.l0] at h
 | k + 1=>by
  have ih0:=impl_IsJobs.mono_l k
  ·intro y0 y1 y2
   unfold impl_IsJobs.l0
   repeat' first|(with_reducible first|apply ih0|exact LeO.refl _|exact LeO.none _|refine LeO.ite ?_ ?_|refine LeO.bind ?_ (fun _=>?_))|apply ih0|exact LeO.none _|refine LeO.ite ?_ ?_|refine LeO.bind ?_ (fun _=>?_)
theorem impl_IsJobs.mono:∀ a0 k,LeO (impl_IsJobs.f k a0) (impl_IsJobs.f (k + 1) a0):=by
 intro a0 k
 have ih0:=impl_IsJobs.mono_l k
 unfold impl_IsJobs.f
 repeat' first|(with_reducible first|apply ih0|exact LeO.refl _|exact LeO.none _|refine LeO.ite ?_ ?_|refine LeO.bind ?_ (fun _=>?_))|apply ih0|exact LeO.none _|refine LeO.ite ?_ ?_|refine LeO.bind ?_ (fun _=>?_)
set_option maxHeartbeats 8000000 in
set_option maxRecDepth 100000 in
theorem impl_IsJobs.calls (k:Nat) (A0:Option Addr) (c0:Nat) (l0:List (S31)) (r:Bool) (w:World) (hr0:Kd.C k31 w A0 l0.length l0) (hc0:l0.length≤c0) (h:impl_IsJobs.f k l0=some r) :
  Calls Try.prog 56 #[.slice A0 l0.length c0] w fun e w'=>e=.returned (.bool r)∧Below w.heap.size w w':=by
 have hu31:=Try.underlying31
 have HR0:=Aside0.mk hr0
 have HC0:=Aside0.mk hc0
 clear hr0 hc0
 have HB:=Aside0.mk (Below.refl w.heap.size w)
 have H:(if (l0.length:Int)>8 then (some false) else (impl_IsJobs.l0 k l0 (l0.length:Int) 0))=some r:=h
 clear h
 by_cases c2:(l0.length:Int)>8
 ·rw [if_pos c2] at H
  have c2b0:=decide_eq_true c2
  have c2b1:decide (8<l0.length)=true:=decide_eq_true (by omega)
  clear c2
  obtain rfl:=Option.some.inj H
  go_enter Try.func56,Try.ntmps56
  go_wp2
  go_ret
  exact ⟨zz0,zb⟩
 rw [if_neg c2] at H
 have c2b0:=decide_eq_false c2
 have c2b1:decide (8<l0.length)=false:=decide_eq_false (by omega)
 clear c2
 have H':=Aside0.mk H
 clear H
 go_enter Try.func56,Try.ntmps56
 go_wp2
 go_loopg [10] k (fun kq v10 w'=>∃ (x10_1:Int),v10=.int .i64 x10_1∧Aside0 (impl_IsJobs.l0 kq l0 (l0.length:Int) x10_1=some r)∧Aside0 (kq≤k)∧Aside0 (Below w.heap.size w w'))
 case atStart=>exact ⟨(0),zo,H',⟨Nat.le_refl _⟩,⟨zb⟩⟩
 case round=>
  clear H'
  obtain ⟨x10_1,rfl,HA,HK1,HB⟩:=hrel
  cases gk with
  | zero=>exact absurd HA.out (by simp [impl_IsJobs.l0])
  | succ k1=>
   have H:=HA.out
   clear HA
   simp only [impl_IsJobs.l0] at H
   by_cases c3:x10_1<(l0.length:Int)
   rotate_left
   ·rw [if_neg c3] at H
    have c3b0:=decide_eq_false c3
    clear c3
    obtain rfl:=Option.some.inj H
    go_wp2
    go_ret
    exact ⟨zz0,zb⟩
   rw [if_pos c3] at H
   have c3b0:=decide_eq_true c3
   clear c3
   by_cases c4:0≤x10_1
   rotate_left
   ·rw [if_neg c4] at H
    exact absurd H (by simp)
   rw [if_pos c4] at H
   have c4b0:=decide_eq_true c4
   clear c4
   by_cases c5:x10_1<(l0.length:Int)
   rotate_left
   ·rw [if_neg c5] at H
    exact absurd H (by simp)
   rw [if_pos c5] at H
   have c5b0:=decide_eq_true c5
   clear c5
   replace H:=Option.bind_eq_some_iff.mp H
   obtain ⟨t258,A60,H⟩:=H
   try dsimp only at H
   have A6:=Aside0.mk A60
   clear A60
   by_cases c7:t258=true
   rotate_left
   ·replace c7:=Bool.eq_false_iff.mpr c7
    subst c7
    rw [if_neg (show ¬ (false=true) by decide)] at H
    obtain rfl:=Option.some.inj H
    have p256:0≤(x10_1:Int):=of_decide_eq_true za
    have q256:x10_1<(l0.length:Int):=of_decide_eq_true za
    obtain ⟨ad256,e256,hx256_0,hx256_1,hx256_2,hx256_3⟩:=at_T31 HR0.out x10_1 p256 q256
    cases e256
    replace hx256_0:=zh_ HB hx256_0
    replace hx256_1:=zh_ HB hx256_1
    replace hx256_2:=zh_ HB hx256_2
    replace hx256_3:=zh_ HB hx256_3
    replace p256:=eq_true p256
    replace q256:=eq_true q256
    go_wp2_with (first|((with_reducible refine gate_dst (N:=4) rfl ?_);refine box_event ?hg (N:=4) ?hd (cs:=#[.int .i64 0,.int .i64 0,.int .i64 0,.int .i64 0]) (t:=31) ?hr ?_;(case hd=>rfl);(case hg=>rfl);(case hr=>first|(go_simp;done)|(go_simp;rfl));intro gb257 hg w22 hbox hb;have n0_:=zb1 hb;have n1_:=Aside0.mk (hbox);have n2_:=Aside0.mk ((by rw [hg];exact (below_size zb):w.heap.size≤gb257));have n3_:=Aside0.mk ((by rw [hg];exact (below_size zb):w.heap.size≤gb257));clear HB;have HB:=n0_;have BK257:=n1_;have GW257:=n2_;have GE257:=n3_;clear n0_ n1_ n2_ n3_;clear hb hbox hg;obtain ⟨hcz23_0,hcz23_1,hcz23_2,hcz23_3,hfz23_0,hfz23_1,hfz23_2,hfz23_3⟩:=zk4 BK257.out)|((with_reducible refine gate_callee (f:=73) rfl ?_);refine zgo 16 Try.func73 #[.int .i64 ((rd_T31 l0 x10_1).f0),.int .i64 1,.int .i64 50] ?_;(with_reducible refine (impl_within.calls ((rd_T31 l0 x10_1).f0) 1 50 false _ A6.out).mono ?_);rintro e w' ⟨rfl,⟨nd,rfl⟩⟩;refine ⟨_,rfl,?_⟩))
    go_ret
    exact ⟨zz0,zz31⟩
   subst c7
   rw [if_pos rfl] at H
   replace H:=Option.bind_eq_some_iff.mp H
   obtain ⟨t259,A80,H⟩:=H
   try dsimp only at H
   have A8:=Aside0.mk A80
   clear A80
   by_cases c9:t259=true
   rotate_left
   ·replace c9:=Bool.eq_false_iff.mpr c9
    subst c9
    rw [if_neg (show ¬ (false=true) by decide)] at H
    obtain rfl:=Option.some.inj H
    have p256:0≤(x10_1:Int):=of_decide_eq_true za
    have q256:x10_1<(l0.length:Int):=of_decide_eq_true za
    obtain ⟨ad256,e256,hx256_0,hx256_1,hx256_2,hx256_3⟩:=at_T31 HR0.out x10_1 p256 q256
    cases e256
    replace hx256_0:=zh_ HB hx256_0
    replace hx256_1:=zh_ HB hx256_1
    replace hx256_2:=zh_ HB hx256_2
    replace hx256_3:=zh_ HB hx256_3
    replace p256:=eq_true p256
    replace q256:=eq_true q256
    go_wp2_with (first|((with_reducible refine gate_dst (N:=4) rfl ?_);refine box_event ?hg (N:=4) ?hd (cs:=#[.int .i64 0,.int .i64 0,.int .i64 0,.int .i64 0]) (t:=31) ?hr ?_;(case hd=>rfl);(case hg=>rfl);(case hr=>first|(go_simp;done)|(go_simp;rfl));intro gb257 hg w20 hbox hb;have n0_:=zb1 hb;have n1_:=Aside0.mk (hbox);have n2_:=Aside0.mk ((by rw [hg];exact (below_size zb):w.heap.size≤gb257));have n3_:=Aside0.mk ((by rw [hg];exact (below_size zb):w.heap.size≤gb257));clear HB;have HB:=n0_;have BK257:=n1_;have GW257:=n2_;have GE257:=n3_;clear n0_ n1_ n2_ n3_;clear hb hbox hg;obtain ⟨hcz21_0,hcz21_1,hcz21_2,hcz21_3,hfz21_0,hfz21_1,hfz21_2,hfz21_3⟩:=zk4 BK257.out)|((with_reducible refine gate_callee (f:=73) rfl ?_);refine zgo 16 Try.func73 #[.int .i64 ((rd_T31 l0 x10_1).f0),.int .i64 1,.int .i64 50] ?_;(with_reducible refine (impl_within.calls ((rd_T31 l0 x10_1).f0) 1 50 true _ A6.out).mono ?_);rintro e w' ⟨rfl,⟨nd,rfl⟩⟩;refine ⟨_,rfl,?_⟩)|(go_at_call 73;(with_reducible refine (impl_within.calls ((rd_T31 l0 x10_1).f1) 0 50 false _ A8.out).mono ?_);rintro e w' ⟨rfl,⟨nd,rfl⟩⟩))
    go_ret
    exact ⟨zz0,zz31⟩
   subst c9
   rw [if_pos rfl] at H
   replace H:=Option.bind_eq_some_iff.mp H
   obtain ⟨t260,A100,H⟩:=H
   try dsimp only at H
   have A10:=Aside0.mk A100
   clear A100
   by_cases c11:t260=true
   rotate_left
   ·replace c11:=Bool.eq_false_iff.mpr c11
    subst c11
    rw [if_neg (show ¬ (false=true) by decide)] at H
    obtain rfl:=Option.some.inj H
    have p256:0≤(x10_1:Int):=of_decide_eq_true za
    have q256:x10_1<(l0.length:Int):=of_decide_eq_true za
    obtain ⟨ad256,e256,hx256_0,hx256_1,hx256_2,hx256_3⟩:=at_T31 HR0.out x10_1 p256 q256
    cases e256
    replace hx256_0:=zh_ HB hx256_0
    replace hx256_1:=zh_ HB hx256_1
    replace hx256_2:=zh_ HB hx256_2
    replace hx256_3:=zh_ HB hx256_3
    replace p256:=eq_true p256
    replace q256:=eq_true q256
    go_wp2_with (first|((with_reducible refine gate_dst (N:=4) rfl ?_);refine box_event ?hg (N:=4) ?hd (cs:=#[.int .i64 0,.int .i64 0,.int .i64 0,.int .i64 0]) (t:=31) ?hr ?_;(case hd=>rfl);(case hg=>rfl);(case hr=>first|(go_simp;done)|(go_simp;rfl));intro gb257 hg w18 hbox hb;have n0_:=zb1 hb;have n1_:=Aside0.mk (hbox);have n2_:=Aside0.mk ((by rw [hg];exact (below_size zb):w.heap.size≤gb257));have n3_:=Aside0.mk ((by rw [hg];exact (below_size zb):w.heap.size≤gb257));clear HB;have HB:=n0_;have BK257:=n1_;have GW257:=n2_;have GE257:=n3_;clear n0_ n1_ n2_ n3_;clear hb hbox hg;obtain ⟨hcz19_0,hcz19_1,hcz19_2,hcz19_3,hfz19_0,hfz19_1,hfz19_2,hfz19_3⟩:=zk4 BK257.out)|((with_reducible refine gate_callee (f:=73) rfl ?_);refine zgo 16 Try.func73 #[.int .i64 ((rd_T31 l0 x10_1).f0),.int .i64 1,.int .i64 50] ?_;(with_reducible refine (impl_within.calls ((rd_T31 l0 x10_1).f0) 1 50 true _ A6.out).mono ?_);rintro e w' ⟨rfl,⟨nd,rfl⟩⟩;refine ⟨_,rfl,?_⟩)|(go_at_call 73;(with_reducible refine (impl_within.calls ((rd_T31 l0 x10_1).f1) 0 50 true _ A8.out).mono ?_);rintro e w' ⟨rfl,⟨nd,rfl⟩⟩)|(go_at_call 90;(with_reducible refine (impl_isDate.calls ((rd_T31 l0 x10_1).f2) false _ A10.out).mono ?_);rintro e w' ⟨rfl,⟨nd,rfl⟩⟩))
    go_ret
    exact ⟨zz0,zz31⟩
   subst c11
   rw [if_pos rfl] at H
   replace H:=Option.bind_eq_some_iff.mp H
   obtain ⟨t261,A120,H⟩:=H
   try dsimp only at H
   have A12:=Aside0.mk A120
   clear A120
   by_cases c13:t261=true
   ·subst c13
    rw [if_pos rfl] at H
    have H':=Aside0.mk H
    clear H
    have p256:0≤(x10_1:Int):=of_decide_eq_true za
    have q256:x10_1<(l0.length:Int):=of_decide_eq_true za
    obtain ⟨ad256,e256,hx256_0,hx256_1,hx256_2,hx256_3⟩:=at_T31 HR0.out x10_1 p256 q256
    cases e256
    replace hx256_0:=zh_ HB hx256_0
    replace hx256_1:=zh_ HB hx256_1
    replace hx256_2:=zh_ HB hx256_2
    replace hx256_3:=zh_ HB hx256_3
    replace p256:=eq_true p256
    replace q256:=eq_true q256
    go_wp2_with (first|((with_reducible refine gate_dst (N:=4) rfl ?_);refine box_event ?hg (N:=4) ?hd (cs:=#[.int .i64 0,.int .i64 0,.int .i64 0,.int .i64 0]) (t:=31) ?hr ?_;(case hd=>rfl);(case hg=>rfl);(case hr=>first|(go_simp;done)|(go_simp;rfl));intro gb257 hg w14 hbox hb;have n0_:=zb1 hb;have n1_:=Aside0.mk (hbox);have n2_:=Aside0.mk ((by rw [hg];exact (below_size zb):w.heap.size≤gb257));have n3_:=Aside0.mk ((by rw [hg];exact (below_size zb):w.heap.size≤gb257));clear HB;have HB:=n0_;have BK257:=n1_;have GW257:=n2_;have GE257:=n3_;clear n0_ n1_ n2_ n3_;clear hb hbox hg;obtain ⟨hcz15_0,hcz15_1,hcz15_2,hcz15_3,hfz15_0,hfz15_1,hfz15_2,hfz15_3⟩:=zk4 BK257.out)|((with_reducible refine gate_callee (f:=73) rfl ?_);refine zgo 16 Try.func73 #[.int .i64 ((rd_T31 l0 x10_1).f0),.int .i64 1,.int .i64 50] ?_;(with_reducible refine (impl_within.calls ((rd_T31 l0 x10_1).f0) 1 50 true _ A6.out).mono ?_);rintro e w' ⟨rfl,⟨nd,rfl⟩⟩;refine ⟨_,rfl,?_⟩)|(go_at_call 73;(with_reducible refine (impl_within.calls ((rd_T31 l0 x10_1).f1) 0 50 true _ A8.out).mono ?_);rintro e w' ⟨rfl,⟨nd,rfl⟩⟩)|(go_at_call 90;(with_reducible refine (impl_isDate.calls ((rd_T31 l0 x10_1).f2) true _ A10.out).mono ?_);rintro e w' ⟨rfl,⟨nd,rfl⟩⟩)|(go_at_call 90;(with_reducible refine (impl_isDate.calls ((rd_T31 l0 x10_1).f3) true _ A12.out).mono ?_);rintro e w' ⟨rfl,⟨nd,rfl⟩⟩))
    go_roundg k1
    case measure=>have:=HK1.out;omega
    case rel=>exact ⟨(wrap64 (x10_1 + 1)),zo,H',⟨by have:=HK1.out;omega⟩,⟨zz31⟩⟩
   replace c13:=Bool.eq_false_iff.mpr c13
   subst c13
   rw [if_neg (show ¬ (false=true) by decide)] at H
   obtain rfl:=Option.some.inj H
   have p256:0≤(x10_1:Int):=of_decide_eq_true za
   have q256:x10_1<(l0.length:Int):=of_decide_eq_true za
   obtain ⟨ad256,e256,hx256_0,hx256_1,hx256_2,hx256_3⟩:=at_T31 HR0.out x10_1 p256 q256
   cases e256
   replace hx256_0:=zh_ HB hx256_0
   replace hx256_1:=zh_ HB hx256_1
   replace hx256_2:=zh_ HB hx256_2
   replace hx256_3:=zh_ HB hx256_3
   replace p256:=eq_true p256
   replace q256:=eq_true q256
   go_wp2_with (first|((with_reducible refine gate_dst (N:=4) rfl ?_);refine box_event ?hg (N:=4) ?hd (cs:=#[.int .i64 0,.int .i64 0,.int .i64 0,.int .i64 0]) (t:=31) ?hr ?_;(case hd=>rfl);(case hg=>rfl);(case hr=>first|(go_simp;done)|(go_simp;rfl));intro gb257 hg w16 hbox hb;have n0_:=zb1 hb;have n1_:=Aside0.mk (hbox);have n2_:=Aside0.mk ((by rw [hg];exact (below_size zb):w.heap.size≤gb257));have n3_:=Aside0.mk ((by rw [hg];exact (below_size zb):w.heap.size≤gb257));clear HB;have HB:=n0_;have BK257:=n1_;have GW257:=n2_;have GE257:=n3_;clear n0_ n1_ n2_ n3_;clear hb hbox hg;obtain ⟨hcz17_0,hcz17_1,hcz17_2,hcz17_3,hfz17_0,hfz17_1,hfz17_2,hfz17_3⟩:=zk4 BK257.out)|((with_reducible refine gate_callee (f:=73) rfl ?_);refine zgo 16 Try.func73 #[.int .i64 ((rd_T31 l0 x10_1).f0),.int .i64 1,.int .i64 50] ?_;(with_reducible refine (impl_within.calls ((rd_T31 l0 x10_1).f0) 1 50 true _ A6.out).mono ?_);rintro e w' ⟨rfl,⟨nd,rfl⟩⟩;refine ⟨_,rfl,?_⟩)|(go_at_call 73;(with_reducible refine (impl_within.calls ((rd_T31 l0 x10_1).f1) 0 50 true _ A8.out).mono ?_);rintro e w' ⟨rfl,⟨nd,rfl⟩⟩)|(go_at_call 90;(with_reducible refine (impl_isDate.calls ((rd_T31 l0 x10_1).f2) true _ A10.out).mono ?_);rintro e w' ⟨rfl,⟨nd,rfl⟩⟩)|(go_at_call 90;(with_reducible refine (impl_isDate.calls ((rd_T31 l0 x10_1).f3) false _ A12.out).mono ?_);rintro e w' ⟨rfl,⟨nd,rfl⟩⟩))
   go_ret
   exact ⟨zz0,zz31⟩

/-! ### impl_isPlain: function 57 -/
def impl_isPlain.l0:Nat→List (S31)→Int→Int→Option (Bool)
 | 0,_,_,_=>none
 | k + 1,x5,x6,x7=>if x7<x6 then (if 0≤x7 then (if x7<(x5.length:Int) then (if ((rd_T31 x5 x7).f2)=0 then (impl_isPlain.l0 k x5 x6 (wrap64 (x7 + 1))) else (some false)) else (none)) else (none)) else (some true)
def impl_isPlain.f (k:Nat) (l0:List (S31)):Option (Bool):=impl_isPlain.l0 k l0 (l0.length:Int) 0
theorem impl_isPlain.mono_l:∀ k,(∀ y0 y1 y2,LeO (impl_isPlain.l0 k y0 y1 y2) (impl_isPlain.l0 (k + 1) y0 y1 y2))
 | 0=>fun _ _ _ r h=>by simp [impl_isPlain.l0] at h
 | k + 1=>by
  have ih0:=impl_isPlain.mono_l k
  ·intro y0 y1 y2
   unfold impl_isPlain.l0
   repeat' first|(with_reducible first|apply ih0|exact LeO.refl _|exact LeO.none _|refine LeO.ite ?_ ?_|refine LeO.bind ?_ (fun _=>?_))|apply ih0|exact LeO.none _|refine LeO.ite ?_ ?_|refine LeO.bind ?_ (fun _=>?_)
theorem impl_isPlain.mono:∀ a0 k,LeO (impl_isPlain.f k a0) (impl_isPlain.f (k + 1) a0):=by
 intro a0 k
 have ih0:=impl_isPlain.mono_l k
 unfold impl_isPlain.f
 repeat' first|(with_reducible first|apply ih0|exact LeO.refl _|exact LeO.none _|refine LeO.ite ?_ ?_|refine LeO.bind ?_ (fun _=>?_))|apply ih0|exact LeO.none _|refine LeO.ite ?_ ?_|refine LeO.bind ?_ (fun _=>?_)
set_option maxHeartbeats 8000000 in
set_option maxRecDepth 100000 in
theorem impl_isPlain.calls (k:Nat) (A0:Option Addr) (c0:Nat) (l0:List (S31)) (r:Bool) (w:World) (hr0:Kd.C k31 w A0 l0.length l0) (hc0:l0.length≤c0) (h:impl_isPlain.f k l0=some r) :
  Calls Try.prog 57 #[.slice A0 l0.length c0] w fun e w'=>e=.returned (.bool r)∧Below w.heap.size w w':=by
 have hu31:=Try.underlying31
 have HR0:=Aside0.mk hr0
 have HC0:=Aside0.mk hc0
 clear hr0 hc0
 have HB:=Aside0.mk (Below.refl w.heap.size w)
 have H:(impl_isPlain.l0 k l0 (l0.length:Int) 0)=some r:=h
 clear h
 have H':=Aside0.mk H
 clear H
 go_enter Try.func57,Try.ntmps57
 go_wp2
 go_loopg [7] k (fun kq v7 w'=>∃ (x7_1:Int),v7=.int .i64 x7_1∧Aside0 (impl_isPlain.l0 kq l0 (l0.length:Int) x7_1=some r)∧Aside0 (kq≤k)∧Aside0 (Below w.heap.size w w'))
 case atStart=>exact ⟨(0),zo,H',⟨Nat.le_refl _⟩,⟨zb⟩⟩
 case round=>
  clear H'
  obtain ⟨x7_1,rfl,HA,HK1,HB⟩:=hrel
  cases gk with
  | zero=>exact absurd HA.out (by simp [impl_isPlain.l0])
  | succ k1=>
   have H:=HA.out
   clear HA
   simp only [impl_isPlain.l0] at H
   by_cases c2:x7_1<(l0.length:Int)
   rotate_left
   ·rw [if_neg c2] at H
    have c2b0:=decide_eq_false c2
    clear c2
    obtain rfl:=Option.some.inj H
    go_wp2
    go_ret
    exact ⟨zz0,zb⟩
   rw [if_pos c2] at H
   have c2b0:=decide_eq_true c2
   clear c2
   by_cases c3:0≤x7_1
   rotate_left
   ·rw [if_neg c3] at H
    exact absurd H (by simp)
   rw [if_pos c3] at H
   have c3b0:=decide_eq_true c3
   clear c3
   by_cases c4:x7_1<(l0.length:Int)
   rotate_left
   ·rw [if_neg c4] at H
    exact absurd H (by simp)
   rw [if_pos c4] at H
   have c4b0:=decide_eq_true c4
   clear c4
   by_cases c5:((rd_T31 l0 x7_1).f2)=0
   rotate_left
   ·rw [if_neg c5] at H
    have c5b0:(((rd_T31 l0 x7_1).f2) == 0)=false:=beq_eq_false_iff_ne.mpr c5
    have c5b1:(((rd_T31 l0 x7_1).f2) != 0)=true:=bne_iff_ne.mpr c5
    obtain rfl:=Option.some.inj H
    have p262:0≤(x7_1:Int):=of_decide_eq_true za
    have q262:x7_1<(l0.length:Int):=of_decide_eq_true za
    obtain ⟨ad262,e262,hx262_0,hx262_1,hx262_2,hx262_3⟩:=at_T31 HR0.out x7_1 p262 q262
    cases e262
    replace hx262_0:=zh_ HB hx262_0
    replace hx262_1:=zh_ HB hx262_1
    replace hx262_2:=zh_ HB hx262_2
    replace hx262_3:=zh_ HB hx262_3
    replace p262:=eq_true p262
    replace q262:=eq_true q262
    go_wp2_with (first|((with_reducible refine gate_dst (N:=4) rfl ?_);refine box_event ?hg (N:=4) ?hd (cs:=#[.int .i64 0,.int .i64 0,.int .i64 0,.int .i64 0]) (t:=31) ?hr ?_;(case hd=>rfl);(case hg=>rfl);(case hr=>first|(go_simp;done)|(go_simp;rfl));intro gb263 hg w8 hbox hb;have n0_:=zb1 hb;have n1_:=Aside0.mk (hbox);have n2_:=Aside0.mk ((by rw [hg];exact (below_size zb):w.heap.size≤gb263));have n3_:=Aside0.mk ((by rw [hg];exact (below_size zb):w.heap.size≤gb263));clear HB;have HB:=n0_;have BK263:=n1_;have GW263:=n2_;have GE263:=n3_;clear n0_ n1_ n2_ n3_;clear hb hbox hg;obtain ⟨hcz9_0,hcz9_1,hcz9_2,hcz9_3,hfz9_0,hfz9_1,hfz9_2,hfz9_3⟩:=zk4 BK263.out))
    go_ret
    exact ⟨zz0,by repeat (first|(with_reducible first|exact HB.out|apply below_alloc|apply pw_below_drewN|apply below_drew1|refine below_set ?_ GE263.out)|exact HB.out)⟩
   rw [if_pos c5] at H
   have c5b0:(((rd_T31 l0 x7_1).f2) == 0)=true:=beq_iff_eq.mpr c5
   have c5b1:(((rd_T31 l0 x7_1).f2) != 0)=false:=bne_eq_false_iff_eq.mpr c5
   clear c5
   have H':=Aside0.mk H
   clear H
   have p262:0≤(x7_1:Int):=of_decide_eq_true za
   have q262:x7_1<(l0.length:Int):=of_decide_eq_true za
   obtain ⟨ad262,e262,hx262_0,hx262_1,hx262_2,hx262_3⟩:=at_T31 HR0.out x7_1 p262 q262
   cases e262
   replace hx262_0:=zh_ HB hx262_0
   replace hx262_1:=zh_ HB hx262_1
   replace hx262_2:=zh_ HB hx262_2
   replace hx262_3:=zh_ HB hx262_3
   replace p262:=eq_true p262
   replace q262:=eq_true q262
   go_wp2_with (first|((with_reducible refine gate_dst (N:=4) rfl ?_);refine box_event ?hg (N:=4) ?hd (cs:=#[.int .i64 0,.int .i64 0,.int .i64 0,.int .i64 0]) (t:=31) ?hr ?_;(case hd=>rfl);(case hg=>rfl);(case hr=>first|(go_simp;done)|(go_simp;rfl));intro gb263 hg w6 hbox hb;have n0_:=zb1 hb;have n1_:=Aside0.mk (hbox);have n2_:=Aside0.mk ((by rw [hg];exact (below_size zb):w.heap.size≤gb263));have n3_:=Aside0.mk ((by rw [hg];exact (below_size zb):w.heap.size≤gb263));clear HB;have HB:=n0_;have BK263:=n1_;have GW263:=n2_;have GE263:=n3_;clear n0_ n1_ n2_ n3_;clear hb hbox hg;obtain ⟨hcz7_0,hcz7_1,hcz7_2,hcz7_3,hfz7_0,hfz7_1,hfz7_2,hfz7_3⟩:=zk4 BK263.out))
   go_roundg k1
   case measure=>have:=HK1.out;omega
   case rel=>exact ⟨(wrap64 (x7_1 + 1)),zo,H',⟨by have:=HK1.out;omega⟩,⟨by repeat (first|(with_reducible first|exact HB.out|apply below_alloc|apply pw_below_drewN|apply below_drew1|refine below_set ?_ GE263.out)|exact HB.out)⟩⟩

/-! ### impl_IsPlain: function 24 -/
def impl_IsPlain.f (k:Nat) (l0:List (S31)):Option (Bool):=(impl_IsJobs.f k l0).bind fun t264=>(if t264=true then ((impl_isPlain.f k l0).bind fun t265=>(some t265)) else (some false))
theorem impl_IsPlain.mono:∀ a0 k,LeO (impl_IsPlain.f k a0) (impl_IsPlain.f (k + 1) a0):=by
 intro a0 k
 unfold impl_IsPlain.f
 repeat' first|(with_reducible first|exact impl_IsJobs.mono _ _|exact impl_isPlain.mono _ _|exact LeO.refl _|exact LeO.none _|refine LeO.ite ?_ ?_|refine LeO.bind ?_ (fun _=>?_))|exact impl_IsJobs.mono _ _|exact impl_isPlain.mono _ _|exact LeO.none _|refine LeO.ite ?_ ?_|refine LeO.bind ?_ (fun _=>?_)
set_option maxHeartbeats 8000000 in
set_option maxRecDepth 100000 in
theorem impl_IsPlain.calls (k:Nat) (A0:Option Addr) (c0:Nat) (l0:List (S31)) (r:Bool) (w:World) (hr0:Kd.C k31 w A0 l0.length l0) (hc0:l0.length≤c0) (h:impl_IsPlain.f k l0=some r) :
  Calls Try.prog 24 #[.slice A0 l0.length c0] w fun e w'=>e=.returned (.bool r)∧Below w.heap.size w w':=by
 have HR0:=Aside0.mk hr0
 have HC0:=Aside0.mk hc0
 clear hr0 hc0
 have HB:=Aside0.mk (Below.refl w.heap.size w)
 have H:((impl_IsJobs.f k l0).bind fun t264=>(if t264=true then ((impl_isPlain.f k l0).bind fun t265=>(some t265)) else (some false)))=some r:=h
 clear h
 replace H:=Option.bind_eq_some_iff.mp H
 obtain ⟨t264,A20,H⟩:=H
 try dsimp only at H
 have A2:=Aside0.mk A20
 clear A20
 by_cases c3:t264=true
 rotate_left
 ·replace c3:=Bool.eq_false_iff.mpr c3
  subst c3
  rw [if_neg (show ¬ (false=true) by decide)] at H
  obtain rfl:=Option.some.inj H
  go_enter Try.func24,Try.ntmps24
  go_wp2_with (first|((with_reducible refine gate_callee (f:=56) rfl ?_);refine zgo 4 Try.func56 #[.slice A0 l0.length c0] ?_;(with_reducible refine (impl_IsJobs.calls k _ _ l0 false _ ?side1 ?side2 A2.out).mono ?_);(case side1=>exact zC HR0.out);(case side2=>exact HC0.out);rintro e w7 ⟨rfl,hb⟩;refine ⟨_,rfl,?_⟩;replace HB:=zb1 hb;(try clear hb)))
  go_ret
  exact ⟨zz0,zb⟩
 subst c3
 rw [if_pos rfl] at H
 replace H:=Option.bind_eq_some_iff.mp H
 obtain ⟨t265,A40,H⟩:=H
 try dsimp only at H
 have A4:=Aside0.mk A40
 clear A40
 obtain rfl:=Option.some.inj H
 go_enter Try.func24,Try.ntmps24
 go_wp2_with (first|((with_reducible refine gate_callee (f:=56) rfl ?_);refine zgo 4 Try.func56 #[.slice A0 l0.length c0] ?_;(with_reducible refine (impl_IsJobs.calls k _ _ l0 true _ ?side1 ?side2 A2.out).mono ?_);(case side1=>exact zC HR0.out);(case side2=>exact HC0.out);rintro e w5 ⟨rfl,hb⟩;refine ⟨_,rfl,?_⟩;replace HB:=zb1 hb;(try clear hb))|(go_at_call 57;(with_reducible refine (impl_isPlain.calls k _ _ l0 t265 _ ?side1 ?side2 A4.out).mono ?_);(case side1=>exact zC (Kd.C_below HR0.out HB.out));(case side2=>exact HC0.out);rintro e w6 ⟨rfl,hb⟩;replace HB:=zb1 hb;(try clear hb)))
 go_ret
 exact ⟨zz0,zb⟩

end Go.Proofs.Ytkolecmpncaooaa.XFnLateWeight
-- minified
