-- Written by a program of this session (the kit's print, widened). Proved here: what each function answers, for the arguments that its contract names.
import Derived.Test.YtkolecmpncaooaaXFnLateWeightx0
namespace Go.Proofs.Ytkolecmpncaooaa.XFnLateWeight
open Go.RowKit Go.Proofs.YtkolecmpncaooaaW.PrintWords Go.Proofs.YtkolecmpncaooaaW.PrintLast Go.Proofs.YtkolecmpncaooaaW.PrintMore
attribute [local go_sem] max2_int min2_int max_two min_two max_three min_three max_four min_four   -- for this text's walks alone
attribute [local go_sem] idxA_51_0 idxA_51_1 fldS_45_0 fldS_45_1 fldS_45_2 fldS_96_0 fldS_96_1 fldS_96_2
set_option linter.unusedVariables false
set_option linter.unusedSimpArgs false

/-! ### impl_copyInts: function 85 -/
def impl_copyInts.f (l0:List Int):Option (List Int):=(some (([]:List Int):List Int)).bind fun y427=>(if y427.length + l0.length<17592186044416 then (some (y427++l0)) else (none))
set_option maxHeartbeats 8000000 in
set_option maxRecDepth 100000 in
theorem impl_copyInts.calls (A0:Option Addr) (c0:Nat) (l0:List Int) (r:List Int) (w:World) (hr0:Kd.C (Kd.int .i64) w A0 l0.length l0) (hc0:l0.length≤c0) (h:impl_copyInts.f l0=some r) :
  Calls Try.prog 85 #[.slice A0 l0.length c0] w fun e w'=>∃ v0_:Value,e=.returned (v0_)∧Kd.R (Kd.int .i64) 3 w' w.heap.size (fun _=>True) v0_ r∧Below w.heap.size w w':=by
 have HR0:=Aside0.mk hr0
 have HC0:=Aside0.mk hc0
 clear hr0 hc0
 have HB:=Aside0.mk (Below.refl w.heap.size w)
 have H:((some (([]:List Int):List Int)).bind fun y427=>(if y427.length + l0.length<17592186044416 then (some (y427++l0)) else (none)))=some r:=h
 clear h
 obtain ⟨y427,hy427⟩:∃ y_:List Int,y_=(([]:List Int)):=⟨_,rfl⟩
 replace H:(if y427.length + l0.length<17592186044416 then (some (y427++l0)) else (none))=some r:=by first|(rw [hy427];with_reducible exact H)|(have H2_:=(Option.bind_some _ _).symm.trans H;rw [hy427];with_reducible exact H2_)|(have H2_:=(Option.bind_some _ _).symm.trans H;with_reducible exact H2_)|with_reducible exact H|(rw [hy427];exact H)|exact H
 have Ny427:=Aside0.mk hy427
 clear hy427
 by_cases c2:y427.length + l0.length<17592186044416
 rotate_left
 ·rw [if_neg c2] at H
  exact absurd H (by simp)
 rw [if_pos c2] at H
 have LMc2:=Aside0.mk c2
 clear c2
 obtain ⟨y430,hy430⟩:∃ y_:List Int,y_=(y427++l0):=⟨_,rfl⟩
 replace H:(some y430)=some r:=by first|(rw [hy430];with_reducible exact H)|(have H2_:=(Option.bind_some _ _).symm.trans H;rw [hy430];with_reducible exact H2_)|(have H2_:=(Option.bind_some _ _).symm.trans H;with_reducible exact H2_)|with_reducible exact H|(rw [hy430];exact H)|exact H
 have Ny430:=Aside0.mk hy430
 clear hy430
 obtain rfl:=Option.some.inj H
 go_enter Try.func85,Try.ntmps85
 go_wp2_with (first|((with_reducible refine gate_dst (N:=3) rfl ?_);refine Kd.R_lit (Kd.int .i64) _ 3 ?hg (N:=3) ?hd (xs:=([]:List Int)) (inner:=[]) (ok:=fun _=>True) (okp:=fun _=>True) ?hr ?hp (fun _ hk=>hk) trivial (Below.refl _ _) (Nat.le_refl _) (by simp) ?_;(case hd=>rfl);(case hg=>rfl);(case hr=>first|(go_simp;done)|(go_simp;rfl));(case hp=>exact (Reps.none _ _));intro v428 w3 ho4 hb hg_ hnew_;clear hg_ hnew_;(first|rw [←Ny427.out] at ho4|(simp only [Int.reduceToNat] at ho4;rw [←Ny427.out] at ho4));have HO429:=Aside0.mk (Kd.R_lower ho4 (below_size zb));replace HB:=zb1 hb;clear hb ho4)|((with_reducible refine gate_builtin (b:=.append) (xs:=#[.tmp 3,.tmp 4]) rfl ?_);at_builtin;refine Kd.R_append_rows (Kd.int .i64) (w0:=w) w.heap.size rfl (.tmp 3) (.tmp 4) 49 3 (.int .i64 0) 8 rfl Try.underlying49 info3 rfl (by decide) (by omega) v428 y427 l0 _ _ _ (fun _=>True) (fun _=>False) rfl rfl ?aO ?aR (fun _ _ h=>h) (fun _ h=>h.elim) ?aF ?aB ?aS ?aL ?_;(case aR=>exact zC (Kd.C_below HR0.out HB.out));(case aB=>exact zb);(case aF=>exact (fun _ _=>trivial));(case aO=>exact (zR HO429.out));(case aS=>exact (below_size zb));(case aL=>have:=LMc2.out;omega);intro v431 w5 ho hb hg hat;rw [←Ny430.out] at ho;replace HB:=Aside0.mk (hb);have HO432:=Aside0.mk (ho);clear HO429;clear ho hb hg hat))
 go_ret
 exact ⟨_,zz0,zR HO432.out,zb⟩

/-! ### impl_add: function 112 -/
def impl_add.f (a0:Int) (a1_0:Int) (a1_1:Int) (a1_2:Int) (a1_3:Int) (a2:Int) (a3:Int) (a4:Bool):Option (Int):=if a3=1 then (some (mx a0 a2)) else (if a3=2 then (some (wrap64 (a0 + a2))) else (if a3=3 then (some (wrap64 (a0 + (wrap64 (a1_1 * a2))))) else (if a3=4 then (if a4=true then (some (wrap64 (a2 - a1_3))) else (some (mx a0 (wrap64 (a2 - a1_3))))) else (if a3=5 then (some (wrap64 (a0 + (mx 0 (wrap64 (a2 - a1_3)))))) else (if a3=6 then (some (wrap64 (a0 + (wrap64 (a1_1 * (mx 0 (wrap64 (a2 - a1_3)))))))) else (if (wrap64 (a2 - a1_3))≤0 then (some a0) else (if a3=7 then (some (wrap64 (a0 + 1))) else (some (wrap64 (a0 + a1_1))))))))))
set_option maxHeartbeats 8000000 in
set_option maxRecDepth 100000 in
theorem impl_add.calls (a0:Int) (a1_0:Int) (a1_1:Int) (a1_2:Int) (a1_3:Int) (a2:Int) (a3:Int) (a4:Bool) (r:Int) (w:World) (h:impl_add.f a0 a1_0 a1_1 a1_2 a1_3 a2 a3 a4=some r) :
  Calls Try.prog 112 #[.int .i64 a0,.agg #[.int .i64 a1_0,.int .i64 a1_1,.int .i64 a1_2,.int .i64 a1_3],.int .i64 a2,.int .i64 a3,.bool a4] w fun e w'=>e=.returned (.int .i64 r)∧Below w.heap.size w w':=by
 have hu31:=Try.underlying31
 have HB:=Aside0.mk (Below.refl w.heap.size w)
 have H:(if a3=1 then (some (mx a0 a2)) else (if a3=2 then (some (wrap64 (a0 + a2))) else (if a3=3 then (some (wrap64 (a0 + (wrap64 (a1_1 * a2))))) else (if a3=4 then (if a4=true then (some (wrap64 (a2 - a1_3))) else (some (mx a0 (wrap64 (a2 - a1_3))))) else (if a3=5 then (some (wrap64 (a0 + (mx 0 (wrap64 (a2 - a1_3)))))) else (if a3=6 then (some (wrap64 (a0 + (wrap64 (a1_1 * (mx 0 (wrap64 (a2 - a1_3)))))))) else (if (wrap64 (a2 - a1_3))≤0 then (some a0) else (if a3=7 then (some (wrap64 (a0 + 1))) else (some (wrap64 (a0 + a1_1)))))))))))=some r:=h
 clear h
 by_cases c6:a3=1
 ·rw [if_pos c6] at H
  have c6b0:(a3 == 1)=true:=beq_iff_eq.mpr c6
  have c6b1:(a3 != 1)=false:=bne_eq_false_iff_eq.mpr c6
  clear c6
  obtain ⟨ji7,hji7⟩:∃ j_:Int,(mx a0 a2)=j_:=⟨_,rfl⟩
  replace H:(some ji7)=some r:=by first|(rw [hji7] at H;exact H)|(simp only [hji7] at H ⊢;exact H)
  have hji7_:(if a0<a2 then a2 else a0)=ji7:=hji7
  obtain rfl:=Option.some.inj H
  go_enter Try.func112,Try.ntmps112
  go_wp2_with (first|((with_reducible refine gate_dst (N:=6) rfl ?_);refine box_event ?hg (N:=6) ?hd (cs:=#[.int .i64 a1_0,.int .i64 a1_1,.int .i64 a1_2,.int .i64 a1_3]) (t:=31) ?hr ?_;(case hd=>rfl);(case hg=>rfl);(case hr=>first|(go_simp;done)|(go_simp;rfl));intro gb433 hg w8 hbox hb;have n0_:=zb1 hb;have n1_:=Aside0.mk (hbox);have n2_:=Aside0.mk ((by rw [hg];exact (below_size zb):w.heap.size≤gb433));have n3_:=Aside0.mk ((by rw [hg];exact (below_size zb):w.heap.size≤gb433));clear HB;have HB:=n0_;have BK433:=n1_;have GW433:=n2_;have GE433:=n3_;clear n0_ n1_ n2_ n3_;clear hb hbox hg;obtain ⟨hcz9_0,hcz9_1,hcz9_2,hcz9_3,hfz9_0,hfz9_1,hfz9_2,hfz9_3⟩:=zk4 BK433.out))
  go_ret
  exact ⟨by first|rfl|(simp [errW_none,errW_some] <;> rfl)|(simp only [←hji7];first|rfl|(simp [errW_none,errW_some] <;> rfl))|(simp [*,errW_none,errW_some] <;> rfl),zz19⟩
 rw [if_neg c6] at H
 have c6b0:(a3 == 1)=false:=beq_eq_false_iff_ne.mpr c6
 have c6b1:(a3 != 1)=true:=bne_iff_ne.mpr c6
 by_cases c10:a3=2
 ·rw [if_pos c10] at H
  have c10b0:(a3 == 2)=true:=beq_iff_eq.mpr c10
  have c10b1:(a3 != 2)=false:=bne_eq_false_iff_eq.mpr c10
  clear c10
  obtain rfl:=Option.some.inj H
  go_enter Try.func112,Try.ntmps112
  go_wp2_with (first|((with_reducible refine gate_dst (N:=6) rfl ?_);refine box_event ?hg (N:=6) ?hd (cs:=#[.int .i64 a1_0,.int .i64 a1_1,.int .i64 a1_2,.int .i64 a1_3]) (t:=31) ?hr ?_;(case hd=>rfl);(case hg=>rfl);(case hr=>first|(go_simp;done)|(go_simp;rfl));intro gb433 hg w11 hbox hb;have n0_:=zb1 hb;have n1_:=Aside0.mk (hbox);have n2_:=Aside0.mk ((by rw [hg];exact (below_size zb):w.heap.size≤gb433));have n3_:=Aside0.mk ((by rw [hg];exact (below_size zb):w.heap.size≤gb433));clear HB;have HB:=n0_;have BK433:=n1_;have GW433:=n2_;have GE433:=n3_;clear n0_ n1_ n2_ n3_;clear hb hbox hg;obtain ⟨hcz12_0,hcz12_1,hcz12_2,hcz12_3,hfz12_0,hfz12_1,hfz12_2,hfz12_3⟩:=zk4 BK433.out))
  go_ret
  exact ⟨zz0,zz19⟩
 rw [if_neg c10] at H
 have c10b0:(a3 == 2)=false:=beq_eq_false_iff_ne.mpr c10
 have c10b1:(a3 != 2)=true:=bne_iff_ne.mpr c10
 by_cases c13:a3=3
 ·rw [if_pos c13] at H
  have c13b0:(a3 == 3)=true:=beq_iff_eq.mpr c13
  have c13b1:(a3 != 3)=false:=bne_eq_false_iff_eq.mpr c13
  clear c13
  obtain rfl:=Option.some.inj H
  go_enter Try.func112,Try.ntmps112
  go_wp2_with (first|((with_reducible refine gate_dst (N:=6) rfl ?_);refine box_event ?hg (N:=6) ?hd (cs:=#[.int .i64 a1_0,.int .i64 a1_1,.int .i64 a1_2,.int .i64 a1_3]) (t:=31) ?hr ?_;(case hd=>rfl);(case hg=>rfl);(case hr=>first|(go_simp;done)|(go_simp;rfl));intro gb433 hg w14 hbox hb;have n0_:=zb1 hb;have n1_:=Aside0.mk (hbox);have n2_:=Aside0.mk ((by rw [hg];exact (below_size zb):w.heap.size≤gb433));have n3_:=Aside0.mk ((by rw [hg];exact (below_size zb):w.heap.size≤gb433));clear HB;have HB:=n0_;have BK433:=n1_;have GW433:=n2_;have GE433:=n3_;clear n0_ n1_ n2_ n3_;clear hb hbox hg;obtain ⟨hcz15_0,hcz15_1,hcz15_2,hcz15_3,hfz15_0,hfz15_1,hfz15_2,hfz15_3⟩:=zk4 BK433.out))
  go_ret
  exact ⟨zz0,zz19⟩
 rw [if_neg c13] at H
 have c13b0:(a3 == 3)=false:=beq_eq_false_iff_ne.mpr c13
 have c13b1:(a3 != 3)=true:=bne_iff_ne.mpr c13
 by_cases c16:a3=4
 ·rw [if_pos c16] at H
  have c16b0:(a3 == 4)=true:=beq_iff_eq.mpr c16
  have c16b1:(a3 != 4)=false:=bne_eq_false_iff_eq.mpr c16
  clear c16
  by_cases c17:a4=true
  ·subst c17
   rw [if_pos rfl] at H
   obtain rfl:=Option.some.inj H
   go_enter Try.func112,Try.ntmps112
   go_wp2_with (first|((with_reducible refine gate_dst (N:=6) rfl ?_);refine box_event ?hg (N:=6) ?hd (cs:=#[.int .i64 a1_0,.int .i64 a1_1,.int .i64 a1_2,.int .i64 a1_3]) (t:=31) ?hr ?_;(case hd=>rfl);(case hg=>rfl);(case hr=>first|(go_simp;done)|(go_simp;rfl));intro gb433 hg w18 hbox hb;have n0_:=zb1 hb;have n1_:=Aside0.mk (hbox);have n2_:=Aside0.mk ((by rw [hg];exact (below_size zb):w.heap.size≤gb433));have n3_:=Aside0.mk ((by rw [hg];exact (below_size zb):w.heap.size≤gb433));clear HB;have HB:=n0_;have BK433:=n1_;have GW433:=n2_;have GE433:=n3_;clear n0_ n1_ n2_ n3_;clear hb hbox hg;obtain ⟨hcz19_0,hcz19_1,hcz19_2,hcz19_3,hfz19_0,hfz19_1,hfz19_2,hfz19_3⟩:=zk4 BK433.out))
   go_ret
   exact ⟨zz0,zz19⟩
  replace c17:=Bool.eq_false_iff.mpr c17
  subst c17
  rw [if_neg (show ¬ (false=true) by decide)] at H
  obtain ⟨ji20,hji20⟩:∃ j_:Int,(mx a0 (wrap64 (a2 - a1_3)))=j_:=⟨_,rfl⟩
  replace H:(some ji20)=some r:=by first|(rw [hji20] at H;exact H)|(simp only [hji20] at H ⊢;exact H)
  have hji20_:(if a0<(wrap64 (a2 - a1_3)) then (wrap64 (a2 - a1_3)) else a0)=ji20:=hji20
  obtain rfl:=Option.some.inj H
  go_enter Try.func112,Try.ntmps112
  go_wp2_with (first|((with_reducible refine gate_dst (N:=6) rfl ?_);refine box_event ?hg (N:=6) ?hd (cs:=#[.int .i64 a1_0,.int .i64 a1_1,.int .i64 a1_2,.int .i64 a1_3]) (t:=31) ?hr ?_;(case hd=>rfl);(case hg=>rfl);(case hr=>first|(go_simp;done)|(go_simp;rfl));intro gb433 hg w21 hbox hb;have n0_:=zb1 hb;have n1_:=Aside0.mk (hbox);have n2_:=Aside0.mk ((by rw [hg];exact (below_size zb):w.heap.size≤gb433));have n3_:=Aside0.mk ((by rw [hg];exact (below_size zb):w.heap.size≤gb433));clear HB;have HB:=n0_;have BK433:=n1_;have GW433:=n2_;have GE433:=n3_;clear n0_ n1_ n2_ n3_;clear hb hbox hg;obtain ⟨hcz22_0,hcz22_1,hcz22_2,hcz22_3,hfz22_0,hfz22_1,hfz22_2,hfz22_3⟩:=zk4 BK433.out))
  go_ret
  exact ⟨by first|rfl|(simp [errW_none,errW_some] <;> rfl)|(simp only [←hji20];first|rfl|(simp [errW_none,errW_some] <;> rfl))|(simp [*,errW_none,errW_some] <;> rfl),zz19⟩
 rw [if_neg c16] at H
 have c16b0:(a3 == 4)=false:=beq_eq_false_iff_ne.mpr c16
 have c16b1:(a3 != 4)=true:=bne_iff_ne.mpr c16
 by_cases c23:a3=5
 ·rw [if_pos c23] at H
  have c23b0:(a3 == 5)=true:=beq_iff_eq.mpr c23
  have c23b1:(a3 != 5)=false:=bne_eq_false_iff_eq.mpr c23
  clear c23
  obtain ⟨ji24,hji24⟩:∃ j_:Int,(mx 0 (wrap64 (a2 - a1_3)))=j_:=⟨_,rfl⟩
  replace H:(some (wrap64 (a0 + (ji24))))=some r:=by first|(rw [hji24] at H;exact H)|(simp only [hji24] at H ⊢;exact H)
  (try (have hji24l:0≤ji24:=by (rw [←hji24];unfold mx;(repeat' split) <;> omega)))
  (try (have hji24m:0≤ji24:=by omega))
  have hji24_:(if 0<(wrap64 (a2 - a1_3)) then (wrap64 (a2 - a1_3)) else 0)=ji24:=hji24
  obtain rfl:=Option.some.inj H
  go_enter Try.func112,Try.ntmps112
  go_wp2_with (first|((with_reducible refine gate_dst (N:=6) rfl ?_);refine box_event ?hg (N:=6) ?hd (cs:=#[.int .i64 a1_0,.int .i64 a1_1,.int .i64 a1_2,.int .i64 a1_3]) (t:=31) ?hr ?_;(case hd=>rfl);(case hg=>rfl);(case hr=>first|(go_simp;done)|(go_simp;rfl));intro gb433 hg w25 hbox hb;have n0_:=zb1 hb;have n1_:=Aside0.mk (hbox);have n2_:=Aside0.mk ((by rw [hg];exact (below_size zb):w.heap.size≤gb433));have n3_:=Aside0.mk ((by rw [hg];exact (below_size zb):w.heap.size≤gb433));clear HB;have HB:=n0_;have BK433:=n1_;have GW433:=n2_;have GE433:=n3_;clear n0_ n1_ n2_ n3_;clear hb hbox hg;obtain ⟨hcz26_0,hcz26_1,hcz26_2,hcz26_3,hfz26_0,hfz26_1,hfz26_2,hfz26_3⟩:=zk4 BK433.out))
  go_ret
  exact ⟨by first|rfl|(simp [errW_none,errW_some] <;> rfl)|(simp only [←hji24];first|rfl|(simp [errW_none,errW_some] <;> rfl))|(simp [*,errW_none,errW_some] <;> rfl),zz19⟩
 rw [if_neg c23] at H
 have c23b0:(a3 == 5)=false:=beq_eq_false_iff_ne.mpr c23
 have c23b1:(a3 != 5)=true:=bne_iff_ne.mpr c23
 by_cases c27:a3=6
 ·rw [if_pos c27] at H
  have c27b0:(a3 == 6)=true:=beq_iff_eq.mpr c27
  have c27b1:(a3 != 6)=false:=bne_eq_false_iff_eq.mpr c27
  clear c27
  obtain ⟨ji28,hji28⟩:∃ j_:Int,(mx 0 (wrap64 (a2 - a1_3)))=j_:=⟨_,rfl⟩
  replace H:(some (wrap64 (a0 + (wrap64 (a1_1 * (ji28))))))=some r:=by first|(rw [hji28] at H;exact H)|(simp only [hji28] at H ⊢;exact H)
  (try (have hji28l:0≤ji28:=by (rw [←hji28];unfold mx;(repeat' split) <;> omega)))
  (try (have hji28m:0≤ji28:=by omega))
  have hji28_:(if 0<(wrap64 (a2 - a1_3)) then (wrap64 (a2 - a1_3)) else 0)=ji28:=hji28
  obtain rfl:=Option.some.inj H
  go_enter Try.func112,Try.ntmps112
  go_wp2_with (first|((with_reducible refine gate_dst (N:=6) rfl ?_);refine box_event ?hg (N:=6) ?hd (cs:=#[.int .i64 a1_0,.int .i64 a1_1,.int .i64 a1_2,.int .i64 a1_3]) (t:=31) ?hr ?_;(case hd=>rfl);(case hg=>rfl);(case hr=>first|(go_simp;done)|(go_simp;rfl));intro gb433 hg w29 hbox hb;have n0_:=zb1 hb;have n1_:=Aside0.mk (hbox);have n2_:=Aside0.mk ((by rw [hg];exact (below_size zb):w.heap.size≤gb433));have n3_:=Aside0.mk ((by rw [hg];exact (below_size zb):w.heap.size≤gb433));clear HB;have HB:=n0_;have BK433:=n1_;have GW433:=n2_;have GE433:=n3_;clear n0_ n1_ n2_ n3_;clear hb hbox hg;obtain ⟨hcz30_0,hcz30_1,hcz30_2,hcz30_3,hfz30_0,hfz30_1,hfz30_2,hfz30_3⟩:=zk4 BK433.out))
  go_ret
  exact ⟨by first|rfl|(simp [errW_none,errW_some] <;> rfl)|(simp only [←hji28];first|rfl|(simp [errW_none,errW_some] <;> rfl))|(simp [*,errW_none,errW_some] <;> rfl),zz19⟩
 rw [if_neg c27] at H
 have c27b0:(a3 == 6)=false:=beq_eq_false_iff_ne.mpr c27
 have c27b1:(a3 != 6)=true:=bne_iff_ne.mpr c27
 by_cases c31:(wrap64 (a2 - a1_3))≤0
 ·rw [if_pos c31] at H
  have c31b0:=decide_eq_true c31
  clear c31
  obtain rfl:=Option.some.inj H
  go_enter Try.func112,Try.ntmps112
  go_wp2_with (first|((with_reducible refine gate_dst (N:=6) rfl ?_);refine box_event ?hg (N:=6) ?hd (cs:=#[.int .i64 a1_0,.int .i64 a1_1,.int .i64 a1_2,.int .i64 a1_3]) (t:=31) ?hr ?_;(case hd=>rfl);(case hg=>rfl);(case hr=>first|(go_simp;done)|(go_simp;rfl));intro gb433 hg w32 hbox hb;have n0_:=zb1 hb;have n1_:=Aside0.mk (hbox);have n2_:=Aside0.mk ((by rw [hg];exact (below_size zb):w.heap.size≤gb433));have n3_:=Aside0.mk ((by rw [hg];exact (below_size zb):w.heap.size≤gb433));clear HB;have HB:=n0_;have BK433:=n1_;have GW433:=n2_;have GE433:=n3_;clear n0_ n1_ n2_ n3_;clear hb hbox hg;obtain ⟨hcz33_0,hcz33_1,hcz33_2,hcz33_3,hfz33_0,hfz33_1,hfz33_2,hfz33_3⟩:=zk4 BK433.out))
  go_ret
  exact ⟨zz0,zz19⟩
 rw [if_neg c31] at H
 have c31b0:=decide_eq_false c31
 clear c31
 by_cases c34:a3=7
 rotate_left
 ·rw [if_neg c34] at H
  have c34b0:(a3 == 7)=false:=beq_eq_false_iff_ne.mpr c34
  have c34b1:(a3 != 7)=true:=bne_iff_ne.mpr c34
  obtain rfl:=Option.some.inj H
  go_enter Try.func112,Try.ntmps112
  go_wp2_with (first|((with_reducible refine gate_dst (N:=6) rfl ?_);refine box_event ?hg (N:=6) ?hd (cs:=#[.int .i64 a1_0,.int .i64 a1_1,.int .i64 a1_2,.int .i64 a1_3]) (t:=31) ?hr ?_;(case hd=>rfl);(case hg=>rfl);(case hr=>first|(go_simp;done)|(go_simp;rfl));intro gb433 hg w37 hbox hb;have n0_:=zb1 hb;have n1_:=Aside0.mk (hbox);have n2_:=Aside0.mk ((by rw [hg];exact (below_size zb):w.heap.size≤gb433));have n3_:=Aside0.mk ((by rw [hg];exact (below_size zb):w.heap.size≤gb433));clear HB;have HB:=n0_;have BK433:=n1_;have GW433:=n2_;have GE433:=n3_;clear n0_ n1_ n2_ n3_;clear hb hbox hg;obtain ⟨hcz38_0,hcz38_1,hcz38_2,hcz38_3,hfz38_0,hfz38_1,hfz38_2,hfz38_3⟩:=zk4 BK433.out))
  go_ret
  exact ⟨zz0,zz19⟩
 rw [if_pos c34] at H
 have c34b0:(a3 == 7)=true:=beq_iff_eq.mpr c34
 have c34b1:(a3 != 7)=false:=bne_eq_false_iff_eq.mpr c34
 clear c34
 obtain rfl:=Option.some.inj H
 go_enter Try.func112,Try.ntmps112
 go_wp2_with (first|((with_reducible refine gate_dst (N:=6) rfl ?_);refine box_event ?hg (N:=6) ?hd (cs:=#[.int .i64 a1_0,.int .i64 a1_1,.int .i64 a1_2,.int .i64 a1_3]) (t:=31) ?hr ?_;(case hd=>rfl);(case hg=>rfl);(case hr=>first|(go_simp;done)|(go_simp;rfl));intro gb433 hg w35 hbox hb;have n0_:=zb1 hb;have n1_:=Aside0.mk (hbox);have n2_:=Aside0.mk ((by rw [hg];exact (below_size zb):w.heap.size≤gb433));have n3_:=Aside0.mk ((by rw [hg];exact (below_size zb):w.heap.size≤gb433));clear HB;have HB:=n0_;have BK433:=n1_;have GW433:=n2_;have GE433:=n3_;clear n0_ n1_ n2_ n3_;clear hb hbox hg;obtain ⟨hcz36_0,hcz36_1,hcz36_2,hcz36_3,hfz36_0,hfz36_1,hfz36_2,hfz36_3⟩:=zk4 BK433.out))
 go_ret
 exact ⟨zz0,zz19⟩

/-! ### impl_valueOfEnds: function 108 -/
def impl_valueOfEnds.l0:Nat→List Int→Int→Int→List (S31)→Int→Int→Option (Int)
 | 0,_,_,_,_,_,_=>none
 | k + 1,x1,x2,x7,x10,x11,x12=>if x12<x11 then (if 0≤x12 then (if x12<(x10.length:Int) then (if x12<(x1.length:Int) then ((impl_add.f x7 ((rd_T31 x10 x12).f0) ((rd_T31 x10 x12).f1) ((rd_T31 x10 x12).f2) ((rd_T31 x10 x12).f3) (rd x1 x12) x2 (x12 == 0)).bind fun t437=>(impl_valueOfEnds.l0 k x1 x2 t437 x10 x11 (wrap64 (x12 + 1)))) else (none)) else (none)) else (none)) else (some x7)
def impl_valueOfEnds.f (k:Nat) (l0:List (S31)) (l1:List Int) (a2:Int):Option (Int):=impl_valueOfEnds.l0 k l1 a2 0 l0 (l0.length:Int) 0
theorem impl_valueOfEnds.mono_l:∀ k,(∀ y0 y1 y2 y3 y4 y5,LeO (impl_valueOfEnds.l0 k y0 y1 y2 y3 y4 y5) (impl_valueOfEnds.l0 (k + 1) y0 y1 y2 y3 y4 y5))
 | 0=>fun _ _ _ _ _ _ r h=>by simp [impl_valueOfEnds.l0] at h
 | k + 1=>by
  have ih0:=impl_valueOfEnds.mono_l k
  ·intro y0 y1 y2 y3 y4 y5
   unfold impl_valueOfEnds.l0
   repeat' first|(with_reducible first|apply ih0|exact LeO.refl _|exact LeO.none _|refine LeO.ite ?_ ?_|refine LeO.bind ?_ (fun _=>?_))|apply ih0|exact LeO.none _|refine LeO.ite ?_ ?_|refine LeO.bind ?_ (fun _=>?_)
theorem impl_valueOfEnds.mono:∀ a0 a1 a2 k,LeO (impl_valueOfEnds.f k a0 a1 a2) (impl_valueOfEnds.f (k + 1) a0 a1 a2):=by
 intro a0 a1 a2 k
 have ih0:=impl_valueOfEnds.mono_l k
 unfold impl_valueOfEnds.f
 repeat' first|(with_reducible first|apply ih0|exact LeO.refl _|exact LeO.none _|refine LeO.ite ?_ ?_|refine LeO.bind ?_ (fun _=>?_))|apply ih0|exact LeO.none _|refine LeO.ite ?_ ?_|refine LeO.bind ?_ (fun _=>?_)
def impl_valueOfEnds.T5:Bool × List (List Nat × List Nat):=(true,[([],[]),([],[]),([],[]),([],[]),([2,3],[2,3]),([4],[4]),([],[]),([],[]),([7],[7]),([0,1,5,6,8],[0,1,5,6,8]),([9,9,0,1,2,3,4,5,6,7,8,9],[0,9])])
def impl_valueOfEnds.B5:List Nat:=[0,0,0,0,12,28,0,0,128,511,1023]
theorem impl_valueOfEnds.tab5:rtab .any (opsOf Try.f108 5)=impl_valueOfEnds.T5:=by kernel_rfl
theorem impl_valueOfEnds.bits5:waitsOk impl_valueOfEnds.T5.2 impl_valueOfEnds.B5=true:=by kernel_rfl
set_option maxHeartbeats 8000000 in
set_option maxRecDepth 100000 in
theorem impl_valueOfEnds.calls (k:Nat) (A0:Option Addr) (c0:Nat) (l0:List (S31)) (A1:Option Addr) (c1:Nat) (l1:List Int) (a2:Int) (r:Int) (w:World) (hr0:Kd.C k31 w A0 l0.length l0) (hc0:l0.length≤c0) (hr1:Kd.C (Kd.int .i64) w A1 l1.length l1) (hc1:l1.length≤c1) (h:impl_valueOfEnds.f k l0 l1 a2=some r) :
  Calls Try.prog 108 #[.slice A0 l0.length c0,.slice A1 l1.length c1,.int .i64 a2] w fun e w'=>e=.returned (.int .i64 r)∧Below w.heap.size w w':=by
 have hu31:=Try.underlying31
 have HR0:=Aside0.mk hr0
 have HC0:=Aside0.mk hc0
 clear hr0 hc0
 have HR1:=Aside0.mk hr1
 have HC1:=Aside0.mk hc1
 clear hr1 hc1
 have HB:=Aside0.mk (Below.refl w.heap.size w)
 have H:(impl_valueOfEnds.l0 k l1 a2 0 l0 (l0.length:Int) 0)=some r:=h
 clear h
 have H':=Aside0.mk H
 clear H
 go_enter Try.func108,Try.ntmps108
 go_wp2
 go_loopg [7,12] k (fun kq v7 v12 w'=>∃ (x7_1:Int) (x12_1:Int),v7=.int .i64 x7_1∧v12=.int .i64 x12_1∧Aside0 (impl_valueOfEnds.l0 kq l1 a2 x7_1 l0 (l0.length:Int) x12_1=some r)∧Aside0 (kq≤k)∧Aside0 (Below w.heap.size w w'))
 case atStart=>exact ⟨(0),(0),zo,zo,H',⟨Nat.le_refl _⟩,⟨zb⟩⟩
 case round=>
  clear H'
  obtain ⟨x7_1,x12_1,rfl,rfl,HA,HK1,HB⟩:=hrel
  cases gk with
  | zero=>exact absurd HA.out (by simp [impl_valueOfEnds.l0])
  | succ k1=>
   have H:=HA.out
   clear HA
   simp only [impl_valueOfEnds.l0] at H
   by_cases c4:x12_1<(l0.length:Int)
   rotate_left
   ·rw [if_neg c4] at H
    have c4b0:=decide_eq_false c4
    clear c4
    obtain rfl:=Option.some.inj H
    go_wp2
    go_ret
    exact ⟨zz0,zb⟩
   rw [if_pos c4] at H
   have c4b0:=decide_eq_true c4
   clear c4
   by_cases c5:0≤x12_1
   rotate_left
   ·rw [if_neg c5] at H
    exact absurd H (by simp)
   rw [if_pos c5] at H
   have c5b0:=decide_eq_true c5
   clear c5
   by_cases c6:x12_1<(l0.length:Int)
   rotate_left
   ·rw [if_neg c6] at H
    exact absurd H (by simp)
   rw [if_pos c6] at H
   have c6b0:=decide_eq_true c6
   clear c6
   by_cases c7:x12_1<(l1.length:Int)
   rotate_left
   ·rw [if_neg c7] at H
    exact absurd H (by simp)
   rw [if_pos c7] at H
   have c7b0:=decide_eq_true c7
   clear c7
   replace H:=Option.bind_eq_some_iff.mp H
   obtain ⟨t437,A80,H⟩:=H
   try dsimp only at H
   have A8:=Aside0.mk A80
   clear A80
   have H':=Aside0.mk H
   clear H
   have p434:0≤(x12_1:Int):=of_decide_eq_true za
   have q434:x12_1<(l0.length:Int):=of_decide_eq_true za
   obtain ⟨ad434,e434,hx434_0,hx434_1,hx434_2,hx434_3⟩:=at_T31 HR0.out x12_1 p434 q434
   cases e434
   replace hx434_0:=zh_ HB hx434_0
   replace hx434_1:=zh_ HB hx434_1
   replace hx434_2:=zh_ HB hx434_2
   replace hx434_3:=zh_ HB hx434_3
   replace p434:=eq_true p434
   replace q434:=eq_true q434
   try go_wp2_with (first|((with_reducible refine gate_dst (N:=9) rfl ?_);refine box_event ?hg (N:=9) ?hd (cs:=#[.int .i64 0,.int .i64 0,.int .i64 0,.int .i64 0]) (t:=31) ?hr ?_;(case hd=>rfl);(case hg=>rfl);(case hr=>first|(go_simp;done)|(go_simp;rfl));intro gb435 hg w9 hbox hb;have n0_:=zb1 hb;have n1_:=Aside0.mk (hbox);have n2_:=Aside0.mk ((by rw [hg];exact (below_size zb):w.heap.size≤gb435));have n3_:=Aside0.mk ((by rw [hg];exact (below_size zb):w.heap.size≤gb435));clear HB;have HB:=n0_;have BK435:=n1_;have GW435:=n2_;have GE435:=n3_;clear n0_ n1_ n2_ n3_;clear hb hbox hg;obtain ⟨hcz10_0,hcz10_1,hcz10_2,hcz10_3,hfz10_0,hfz10_1,hfz10_2,hfz10_3⟩:=zk4 BK435.out))
   have n0_:Aside0 (((((w9.setCell ⟨gb435,0,none⟩ (.int .i64 ((rd_T31 l0 x12_1).f0))).setCell ⟨gb435,1,none⟩ (.int .i64 ((rd_T31 l0 x12_1).f1))).setCell ⟨gb435,2,none⟩ (.int .i64 ((rd_T31 l0 x12_1).f2))).setCell ⟨gb435,3,none⟩ (.int .i64 ((rd_T31 l0 x12_1).f3))).heap[gb435]?=some (.cells #[.int .i64 ((rd_T31 l0 x12_1).f0),.int .i64 ((rd_T31 l0 x12_1).f1),.int .i64 ((rd_T31 l0 x12_1).f2),.int .i64 ((rd_T31 l0 x12_1).f3)] 31 (0,0))):=⟨by (with_reducible repeat (first|refine blk_drewN ?_ _|refine blk_drew ?_|refine blk_alloc ?_ _));refine blk_put (cs:=#[.int .i64 ((rd_T31 l0 x12_1).f0),.int .i64 ((rd_T31 l0 x12_1).f1),.int .i64 ((rd_T31 l0 x12_1).f2),.int .i64 0]) ?_ 3 _ rfl;(with_reducible repeat (first|refine blk_drewN ?_ _|refine blk_drew ?_|refine blk_alloc ?_ _));refine blk_put (cs:=#[.int .i64 ((rd_T31 l0 x12_1).f0),.int .i64 ((rd_T31 l0 x12_1).f1),.int .i64 0,.int .i64 0]) ?_ 2 _ rfl;(with_reducible repeat (first|refine blk_drewN ?_ _|refine blk_drew ?_|refine blk_alloc ?_ _));refine blk_put (cs:=#[.int .i64 ((rd_T31 l0 x12_1).f0),.int .i64 0,.int .i64 0,.int .i64 0]) ?_ 1 _ rfl;(with_reducible repeat (first|refine blk_drewN ?_ _|refine blk_drew ?_|refine blk_alloc ?_ _));refine blk_put (cs:=#[.int .i64 0,.int .i64 0,.int .i64 0,.int .i64 0]) ?_ 0 _ rfl;(with_reducible repeat (first|refine blk_drewN ?_ _|refine blk_drew ?_|refine blk_alloc ?_ _));exact BK435.out⟩
   have n1_:Aside0 (Below w.heap.size w ((((w9.setCell ⟨gb435,0,none⟩ (.int .i64 ((rd_T31 l0 x12_1).f0))).setCell ⟨gb435,1,none⟩ (.int .i64 ((rd_T31 l0 x12_1).f1))).setCell ⟨gb435,2,none⟩ (.int .i64 ((rd_T31 l0 x12_1).f2))).setCell ⟨gb435,3,none⟩ (.int .i64 ((rd_T31 l0 x12_1).f3)))):=⟨zz42⟩
   (try simp only [show ∀ (W_:World) (n_:Nat) (a_:Addr) (v_:Value),(W_.drewN n_).setCell a_ v_=(W_.setCell a_ v_).drewN n_ from fun _ _ _ _=>rfl])
   generalize ((((w9.setCell ⟨gb435,0,none⟩ (.int .i64 ((rd_T31 l0 x12_1).f0))).setCell ⟨gb435,1,none⟩ (.int .i64 ((rd_T31 l0 x12_1).f1))).setCell ⟨gb435,2,none⟩ (.int .i64 ((rd_T31 l0 x12_1).f2))).setCell ⟨gb435,3,none⟩ (.int .i64 ((rd_T31 l0 x12_1).f3)))=w11 at n0_ n1_ ⊢
   have BK435:=n0_
   have HB:=n1_
   clear n0_ n1_
   replace BK435:=Aside0.mk (blk_drew BK435.out)
   replace HB:=Aside0.mk (below_drew1 HB.out)
   have p436:0≤(x12_1:Int):=of_decide_eq_true za
   have q436:x12_1<(l1.length:Int):=of_decide_eq_true za
   obtain ⟨ad436,e436,hx436_0⟩:=Kd.at_int HR1.out x12_1 p436 q436
   have hw436_0:=hx436_0
   cases e436
   replace hx436_0:=zh_ HB hx436_0
   replace p436:=eq_true p436
   replace q436:=eq_true q436
   refine start_ (n:=11) (S:=fun w'=>w'.cell? ⟨gb435,0,none⟩=some (.int .i64 ((rd_T31 l0 x12_1).f0))∧w'.cell? ⟨gb435,1,none⟩=some (.int .i64 ((rd_T31 l0 x12_1).f1))∧w'.cell? ⟨gb435,2,none⟩=some (.int .i64 ((rd_T31 l0 x12_1).f2))∧w'.cell? ⟨gb435,3,none⟩=some (.int .i64 ((rd_T31 l0 x12_1).f3))∧w'.cell? (ad436.add (x12_1).toNat)=some (.int .i64 (rd l1 x12_1))) (ds:=[]) #[false,false,false,false,false,false,false,false,false,false,false] (by kernel_rfl) rfl rfl ⟨(blk_cell BK435.out 0).trans rfl,(blk_cell BK435.out 1).trans rfl,(blk_cell BK435.out 2).trans rfl,(blk_cell BK435.out 3).trans rfl,((HB.out.cell (World.block_lt_of_cell? w _ hw436_0)).trans hw436_0)⟩ (fun hHeld=>?_);refine with_tabW impl_valueOfEnds.tab5 impl_valueOfEnds.bits5 (fun HT_ HW_=>?_)
   generalize w11.drew=w12 at BK435 HB hx436_0 hHeld ⊢
   refine pu_ 0 17 ?_
   refine pu_ 2 19 ?_
   refine pu_ 3 20 ?_
   refine pu_ 4 21 ?_
   refine pu_ 6 23 ?_
   refine pu_ 7 24 ?_
   refine pu_ 8 25 ?_
   refine tk_ 1 18 hHeld ?_
   refine tk_ 5 22 hHeld ?_
   refine one_ (i:=9) (N:=some 26) #[true,true,true,true,true,true,true,true,true,true,false] rfl rfl (one_of HT_.out (by kernel_rfl)) (by decide) (fun K hK=>?_)
   refine goes_ Try.func112 (by kernel_rfl) rfl #[.int .i64 x7_1,.agg #[.int .i64 ((rd_T31 l0 x12_1).f0),.int .i64 ((rd_T31 l0 x12_1).f1),.int .i64 ((rd_T31 l0 x12_1).f2),.int .i64 ((rd_T31 l0 x12_1).f3)],.int .i64 (rd l1 x12_1),.int .i64 a2,.bool (x12_1 == 0)] (by rfl) rfl rfl zl ?_
   with_reducible refine (impl_add.calls x7_1 ((rd_T31 l0 x12_1).f0) ((rd_T31 l0 x12_1).f1) ((rd_T31 l0 x12_1).f2) ((rd_T31 l0 x12_1).f3) (rd l1 x12_1) a2 (x12_1 == 0) t437 _ A8.out).mono ?_
   rintro e w13 ⟨rfl,hb⟩
   refine ⟨_,rfl,?_⟩
   replace BK435:=Aside0.mk (blk_below (g:=gb435) (o:=.cells #[.int .i64 ((rd_T31 l0 x12_1).f0),.int .i64 ((rd_T31 l0 x12_1).f1),.int .i64 ((rd_T31 l0 x12_1).f2),.int .i64 ((rd_T31 l0 x12_1).f3)] 31 (0,0)) (by (with_reducible repeat (first|refine blk_drewN ?_ _|refine blk_drew ?_|refine blk_alloc ?_ _));exact BK435.out) hb)
   replace HB:=Aside0.mk (below_step zz42 hb)
   refine hK.out _ _ ⟨(blk_cell BK435.out 0).trans rfl,(blk_cell BK435.out 1).trans rfl,(blk_cell BK435.out 2).trans rfl,(blk_cell BK435.out 3).trans rfl,((HB.out.cell (World.block_lt_of_cell? w _ hw436_0)).trans hw436_0)⟩ (fun hHeld=>?_)
   clear hK K
   refine norm_ (a':=?_) ?_ ?_
   rotate_left
   ·show Act.put _ (some 26) _=_
    simp only [Act.put,List.setIfInBounds_toArray,List.set_cons_zero,List.set_cons_succ,i64_w,i32_w]
    rfl
   refine pu_ 10 7 ?_
   refine done_ (done_of HT_.out (by kernel_rfl)) ?_
   try go_wp2
   go_roundg k1
   case measure=>have:=HK1.out;omega
   case rel=>exact ⟨(t437),(wrap64 (x12_1 + 1)),zo,zo,H',⟨by have:=HK1.out;omega⟩,⟨zz42⟩⟩

/-! ### impl_endsOf: function 109 -/
def impl_endsOf.l0:Nat→List (S31)→List Int→Int→List Int→Int→Int→Option (List Int)
 | 0,_,_,_,_,_,_=>none
 | k + 1,x0,x5,x6,x12,x13,x14=>if x14<x13 then (if 0≤x14 then (if x14<(x12.length:Int) then (if 0≤(rd x12 x14) then (if (rd x12 x14)<(x0.length:Int) then (if (rd x12 x14)<(x5.length:Int) then (impl_endsOf.l0 k x0 (x5.set ((rd x12 x14):Int).toNat (wrap64 ((mx x6 ((rd_T31 x0 (rd x12 x14)).f2)) + ((rd_T31 x0 (rd x12 x14)).f0)))) (wrap64 ((mx x6 ((rd_T31 x0 (rd x12 x14)).f2)) + ((rd_T31 x0 (rd x12 x14)).f0))) x12 x13 (wrap64 (x14 + 1))) else (none)) else (none)) else (none)) else (none)) else (none)) else (some x5)
def impl_endsOf.f (k:Nat) (l0:List (S31)) (l1:List Int):Option (List Int):=if 0≤(l0.length:Int) then (if ((l0.length:Int):Int).toNat≤35184372088832 then (impl_endsOf.l0 k l0 (List.replicate ((l0.length:Int):Int).toNat 0) 0 l1 (l1.length:Int) 0) else (none)) else (none)
theorem impl_endsOf.mono_l:∀ k,(∀ y0 y1 y2 y3 y4 y5,LeO (impl_endsOf.l0 k y0 y1 y2 y3 y4 y5) (impl_endsOf.l0 (k + 1) y0 y1 y2 y3 y4 y5))
 | 0=>fun _ _ _ _ _ _ r h=>by simp [impl_endsOf.l0] at h
 | k + 1=>by
  have ih0:=impl_endsOf.mono_l k
  ·intro y0 y1 y2 y3 y4 y5
   unfold impl_endsOf.l0
   repeat' first|(with_reducible first|apply ih0|exact LeO.refl _|exact LeO.none _|refine LeO.ite ?_ ?_|refine LeO.bind ?_ (fun _=>?_))|apply ih0|exact LeO.none _|refine LeO.ite ?_ ?_|refine LeO.bind ?_ (fun _=>?_)
theorem impl_endsOf.mono:∀ a0 a1 k,LeO (impl_endsOf.f k a0 a1) (impl_endsOf.f (k + 1) a0 a1):=by
 intro a0 a1 k
 have ih0:=impl_endsOf.mono_l k
 unfold impl_endsOf.f
 repeat' first|(with_reducible first|apply ih0|exact LeO.refl _|exact LeO.none _|refine LeO.ite ?_ ?_|refine LeO.bind ?_ (fun _=>?_))|apply ih0|exact LeO.none _|refine LeO.ite ?_ ?_|refine LeO.bind ?_ (fun _=>?_)
set_option maxHeartbeats 8000000 in
set_option maxRecDepth 100000 in
theorem impl_endsOf.calls (k:Nat) (A0:Option Addr) (c0:Nat) (l0:List (S31)) (A1:Option Addr) (c1:Nat) (l1:List Int) (r:List Int) (w:World) (hr0:Kd.C k31 w A0 l0.length l0) (hc0:l0.length≤c0) (hr1:Kd.C (Kd.int .i64) w A1 l1.length l1) (hc1:l1.length≤c1) (h:impl_endsOf.f k l0 l1=some r) :
  Calls Try.prog 109 #[.slice A0 l0.length c0,.slice A1 l1.length c1] w fun e w'=>∃ v0_:Value,e=.returned (v0_)∧Kd.R (Kd.int .i64) 3 w' w.heap.size (fun _=>True) v0_ r∧Below w.heap.size w w':=by
 have HR0:=Aside0.mk hr0
 have HC0:=Aside0.mk hc0
 clear hr0 hc0
 have HR1:=Aside0.mk hr1
 have HC1:=Aside0.mk hc1
 clear hr1 hc1
 have HB:=Aside0.mk (Below.refl w.heap.size w)
 have H:(if 0≤(l0.length:Int) then (if ((l0.length:Int):Int).toNat≤35184372088832 then (impl_endsOf.l0 k l0 (List.replicate ((l0.length:Int):Int).toNat 0) 0 l1 (l1.length:Int) 0) else (none)) else (none))=some r:=h
 clear h
 by_cases c3:0≤(l0.length:Int)
 rotate_left
 ·rw [if_neg c3] at H
  exact absurd H (by simp)
 rw [if_pos c3] at H
 have c3b0:=eq_true c3
 have c3b1:=decide_eq_true c3
 clear c3
 by_cases c4:((l0.length:Int):Int).toNat≤35184372088832
 rotate_left
 ·rw [if_neg c4] at H
  exact absurd H (by simp)
 rw [if_pos c4] at H
 have c4b0:=eq_true c4
 have c4b1:=decide_eq_true c4
 clear c4
 obtain ⟨y438,hy438⟩:∃ y_:List Int,y_=(List.replicate ((l0.length:Int):Int).toNat 0):=⟨_,rfl⟩
 replace H:(impl_endsOf.l0 k l0 y438 0 l1 (l1.length:Int) 0)=some r:=by first|(rw [hy438];with_reducible exact H)|(have H2_:=(Option.bind_some _ _).symm.trans H;rw [hy438];with_reducible exact H2_)|(have H2_:=(Option.bind_some _ _).symm.trans H;with_reducible exact H2_)|with_reducible exact H|(rw [hy438];exact H)|exact H
 have Ny438:=Aside0.mk hy438
 clear hy438
 have H':=Aside0.mk H
 clear H
 go_enter Try.func109,Try.ntmps109
 go_wp2_with (first|((with_reducible refine gate_dst (N:=11) rfl ?_);refine Kd.R_make (Kd.int .i64) _ 3 rfl (N:=11) rfl 49 _ _ rfl (l0.length:Int) rfl rfl Try.underlying49 (.int .i64 0) 8 info3 rfl (by decide) (by omega) 0 (ok:=fun _=>True) (okp:=fun _=>True) rfl (fun _ hk=>hk) trivial (of_decide_eq_true za) (Nat.le_trans (Nat.mul_le_mul_right _ (of_decide_eq_true za:(l0.length:Int).toNat≤35184372088832)) (by omega)) (Below.refl _ _) (Nat.le_refl _) ?_;intro v439 w5 ho6 hb hg_ hnew_;clear hg_ hnew_;(first|rw [←Ny438.out] at ho6|(simp only [Int.reduceToNat] at ho6;rw [←Ny438.out] at ho6));have HO440:=Aside0.mk (Kd.R_lower ho6 (below_size zb));replace HB:=zb1 hb;clear hb ho6))
 repeat (go_quiet (first|((with_reducible refine gate_dst (N:=11) rfl ?_);refine Kd.R_make (Kd.int .i64) _ 3 rfl (N:=11) rfl 49 _ _ rfl (l0.length:Int) rfl rfl Try.underlying49 (.int .i64 0) 8 info3 rfl (by decide) (by omega) 0 (ok:=fun _=>True) (okp:=fun _=>True) rfl (fun _ hk=>hk) trivial (of_decide_eq_true za) (Nat.le_trans (Nat.mul_le_mul_right _ (of_decide_eq_true za:(l0.length:Int).toNat≤35184372088832)) (by omega)) (Below.refl _ _) (Nat.le_refl _) ?_;intro v439 w5 ho6 hb hg_ hnew_;clear hg_ hnew_;(first|rw [←Ny438.out] at ho6|(simp only [Int.reduceToNat] at ho6;rw [←Ny438.out] at ho6));have HO440:=Aside0.mk (Kd.R_lower ho6 (below_size zb));replace HB:=zb1 hb;clear hb ho6));try go_wp2_with (first|((with_reducible refine gate_dst (N:=11) rfl ?_);refine Kd.R_make (Kd.int .i64) _ 3 rfl (N:=11) rfl 49 _ _ rfl (l0.length:Int) rfl rfl Try.underlying49 (.int .i64 0) 8 info3 rfl (by decide) (by omega) 0 (ok:=fun _=>True) (okp:=fun _=>True) rfl (fun _ hk=>hk) trivial (of_decide_eq_true za) (Nat.le_trans (Nat.mul_le_mul_right _ (of_decide_eq_true za:(l0.length:Int).toNat≤35184372088832)) (by omega)) (Below.refl _ _) (Nat.le_refl _) ?_;intro v439 w5 ho6 hb hg_ hnew_;clear hg_ hnew_;(first|rw [←Ny438.out] at ho6|(simp only [Int.reduceToNat] at ho6;rw [←Ny438.out] at ho6));have HO440:=Aside0.mk (Kd.R_lower ho6 (below_size zb));replace HB:=zb1 hb;clear hb ho6)))
 go_loopg [6,14] k (fun kq v6 v14 w'=>∃ (x5_1:List Int) (x6_1:Int) (x14_1:Int),v6=.int .i64 x6_1∧v14=.int .i64 x14_1∧Aside0 (impl_endsOf.l0 kq l0 x5_1 x6_1 l1 (l1.length:Int) x14_1=some r)∧Aside0 (kq≤k)∧Aside0 (Kd.R (Kd.int .i64) 3 w' w.heap.size (fun _=>True) v439 x5_1)∧Aside0 (Below w.heap.size w w'))
 case atStart=>exact ⟨(y438),(0),(0),zo,zo,H',⟨Nat.le_refl _⟩,⟨zR HO440.out⟩,⟨zb⟩⟩
 case round=>
  clear H'
  obtain ⟨x5_1,x6_1,x14_1,rfl,rfl,HA,HK1,HO_5,HB⟩:=hrel
  cases gk with
  | zero=>exact absurd HA.out (by simp [impl_endsOf.l0])
  | succ k1=>
   have H:=HA.out
   clear HA
   simp only [impl_endsOf.l0] at H
   by_cases c7:x14_1<(l1.length:Int)
   rotate_left
   ·rw [if_neg c7] at H
    have c7b0:=decide_eq_false c7
    clear c7
    obtain rfl:=Option.some.inj H
    go_wp2
    repeat (go_quiet (fail);try go_wp2)
    go_ret
    exact ⟨_,zz0,zR HO_5.out,zb⟩
   rw [if_pos c7] at H
   have c7b0:=decide_eq_true c7
   clear c7
   by_cases c8:0≤x14_1
   rotate_left
   ·rw [if_neg c8] at H
    exact absurd H (by simp)
   rw [if_pos c8] at H
   have c8b0:=decide_eq_true c8
   clear c8
   by_cases c9:x14_1<(l1.length:Int)
   rotate_left
   ·rw [if_neg c9] at H
    exact absurd H (by simp)
   rw [if_pos c9] at H
   have c9b0:=decide_eq_true c9
   clear c9
   by_cases c10:0≤(rd l1 x14_1)
   rotate_left
   ·rw [if_neg c10] at H
    exact absurd H (by simp)
   rw [if_pos c10] at H
   have c10b0:=decide_eq_true c10
   clear c10
   by_cases c11:(rd l1 x14_1)<(l0.length:Int)
   rotate_left
   ·rw [if_neg c11] at H
    exact absurd H (by simp)
   rw [if_pos c11] at H
   have c11b0:=decide_eq_true c11
   clear c11
   obtain ⟨ji12,hji12⟩:∃ j_:Int,(mx x6_1 ((rd_T31 l0 (rd l1 x14_1)).f2))=j_:=⟨_,rfl⟩
   replace H:(if (rd l1 x14_1)<(x5_1.length:Int) then (impl_endsOf.l0 k1 l0 (x5_1.set ((rd l1 x14_1):Int).toNat (wrap64 ((ji12) + ((rd_T31 l0 (rd l1 x14_1)).f0)))) (wrap64 ((ji12) + ((rd_T31 l0 (rd l1 x14_1)).f0))) l1 (l1.length:Int) (wrap64 (x14_1 + 1))) else (none))=some r:=by first|(rw [hji12] at H;exact H)|(simp only [hji12] at H ⊢;exact H)
   have hji12_:(if x6_1<((rd_T31 l0 (rd l1 x14_1)).f2) then ((rd_T31 l0 (rd l1 x14_1)).f2) else x6_1)=ji12:=hji12
   by_cases c13:(rd l1 x14_1)<(x5_1.length:Int)
   rotate_left
   ·rw [if_neg c13] at H
    exact absurd H (by simp)
   rw [if_pos c13] at H
   have c13b0:=decide_eq_true c13
   clear c13
   obtain ⟨y444,hy444⟩:∃ y_:List Int,y_=(x5_1.set ((rd l1 x14_1):Int).toNat (wrap64 ((ji12) + ((rd_T31 l0 (rd l1 x14_1)).f0)))):=⟨_,rfl⟩
   replace H:(impl_endsOf.l0 k1 l0 y444 (wrap64 ((ji12) + ((rd_T31 l0 (rd l1 x14_1)).f0))) l1 (l1.length:Int) (wrap64 (x14_1 + 1)))=some r:=by first|(rw [hy444];with_reducible exact H)|(have H2_:=(Option.bind_some _ _).symm.trans H;rw [hy444];with_reducible exact H2_)|(have H2_:=(Option.bind_some _ _).symm.trans H;with_reducible exact H2_)|with_reducible exact H|(rw [hy444];exact H)|exact H
   have Ny444:=Aside0.mk hy444
   clear hy444
   have H':=Aside0.mk H
   clear H
   have p441:0≤(x14_1:Int):=of_decide_eq_true za
   have q441:x14_1<(l1.length:Int):=of_decide_eq_true za
   obtain ⟨ad441,e441,hx441_0⟩:=Kd.at_int HR1.out x14_1 p441 q441
   cases e441
   replace hx441_0:=zh_ HB hx441_0
   replace p441:=eq_true p441
   replace q441:=eq_true q441
   have p442:0≤((rd l1 x14_1):Int):=of_decide_eq_true za
   have q442:(rd l1 x14_1)<(l0.length:Int):=of_decide_eq_true za
   obtain ⟨ad442,e442,hx442_0,hx442_1,hx442_2,hx442_3⟩:=at_T31 HR0.out (rd l1 x14_1) p442 q442
   cases e442
   replace hx442_0:=zh_ HB hx442_0
   replace hx442_1:=zh_ HB hx442_1
   replace hx442_2:=zh_ HB hx442_2
   replace hx442_3:=zh_ HB hx442_3
   replace p442:=eq_true p442
   replace q442:=eq_true q442
   have p443:0≤((rd l1 x14_1):Int):=of_decide_eq_true za
   have q443:(rd l1 x14_1)<(l0.length:Int):=of_decide_eq_true za
   obtain ⟨ad443,e443,hx443_0,hx443_1,hx443_2,hx443_3⟩:=at_T31 HR0.out (rd l1 x14_1) p443 q443
   obtain rfl:ad442=ad443:=(by injection e443)
   replace hx443_0:=zh_ HB hx443_0
   replace hx443_1:=zh_ HB hx443_1
   replace hx443_2:=zh_ HB hx443_2
   replace hx443_3:=zh_ HB hx443_3
   replace p443:=eq_true p443
   replace q443:=eq_true q443
   have p14:0≤((rd l1 x14_1):Int):=of_decide_eq_true za
   have q14:((rd l1 x14_1):Int)<((x5_1.length:Int):Int):=of_decide_eq_true za
   obtain ⟨go14,co14,eo14,gb14,gl14,cl14,HG14⟩:=Kd.R_form HO_5.out (by omega)
   (first|cases eo14|(injection eo14 with ea_ en_ ec_;(first|subst ea_|(injection ea_ with ea_;subst ea_));subst ec_;clear en_))
   have GB14:=Aside0.mk gb14
   have GG14:=Aside0.mk HG14
   clear gb14 gl14 HG14
   obtain ⟨hx14_0,hf14_0⟩:=Kd.R_celln 0 HO_5.out ((rd l1 x14_1):Int) p14 q14
   replace p14:=eq_true p14
   replace q14:=eq_true q14
   have HP15:=Kd.R_putg HO_5.out ((rd l1 x14_1):Int) (wrap64 ((ji12) + ((rd_T31 l0 (rd l1 x14_1)).f0)))
   go_wp2_with (first|((with_reducible refine gate_store (t:=3) (p:=34) rfl ?_);(try (rw [drewN_self wr];generalize hq_:World.drewN wr _=wr;have n0_:=Aside0.mk (Kd.R_at hq_ HO_5.out);have n1_:=Aside0.mk (below_at hq_ HB.out);(try replace hx14_0:=cell_at hq_ hx14_0);(try replace hf14_0:=(fun {W_ W2_:World} {n_:Nat} {a_:Addr} {b_:Bool} (h_:W_.drewN n_=W2_) (e_:W_.frozen? a_=b_)=>(by subst h_;exact e_:W2_.frozen? a_=b_)) hq_ hf14_0);clear hq_ HO_5 HB;have HO_5:=n0_;have HB:=n1_;clear n0_ n1_;(try (have HP15:=Kd.R_putg HO_5.out ((rd l1 x14_1):Int) (wrap64 ((ji12) + ((rd_T31 l0 (rd l1 x14_1)).f0)))))));refine store_event (t:=3) (p:=34) (v:=?vo_w16) (w1:=(wr.setCell ⟨go14,((rd l1 x14_1):Int).toNat,none⟩ (.int .i64 (wrap64 ((ji12) + ((rd_T31 l0 (rd l1 x14_1)).f0)))))) ?hg ?ho ?hn ?hr ?_;(case ho=>rfl);(case hg=>rfl);(case hn=>rfl);(case hr=>first|(go_simp;done)|(go_simp;rfl));intro w16 hw;have hg:wr.grownBy w16 (some go14):=(by rw [hw];exact HP15.2);have hp_:Kd.R (Kd.int .i64) 3 w16 w.heap.size (fun _=>True) (.slice (some ⟨go14,0,none⟩) x5_1.length co14) y444:=(by rw [hw,Ny444.out];exact HP15.1);clear HP15;replace HO_5:=Aside0.mk (hp_);replace HB:=Aside0.mk ((by rw [hw];exact below_set (HB.out) GB14.out:Below w.heap.size w w16));clear hg hw hp_))
   repeat (go_quiet (first|((with_reducible refine gate_store (t:=3) (p:=34) rfl ?_);(try (rw [drewN_self wr];generalize hq_:World.drewN wr _=wr;have n0_:=Aside0.mk (Kd.R_at hq_ HO_5.out);have n1_:=Aside0.mk (below_at hq_ HB.out);(try replace hx14_0:=cell_at hq_ hx14_0);(try replace hf14_0:=(fun {W_ W2_:World} {n_:Nat} {a_:Addr} {b_:Bool} (h_:W_.drewN n_=W2_) (e_:W_.frozen? a_=b_)=>(by subst h_;exact e_:W2_.frozen? a_=b_)) hq_ hf14_0);clear hq_ HO_5 HB;have HO_5:=n0_;have HB:=n1_;clear n0_ n1_;(try (have HP15:=Kd.R_putg HO_5.out ((rd l1 x14_1):Int) (wrap64 ((ji12) + ((rd_T31 l0 (rd l1 x14_1)).f0)))))));refine store_event (t:=3) (p:=34) (v:=?vo_w16) (w1:=(wr.setCell ⟨go14,((rd l1 x14_1):Int).toNat,none⟩ (.int .i64 (wrap64 ((ji12) + ((rd_T31 l0 (rd l1 x14_1)).f0)))))) ?hg ?ho ?hn ?hr ?_;(case ho=>rfl);(case hg=>rfl);(case hn=>rfl);(case hr=>first|(go_simp;done)|(go_simp;rfl));intro w16 hw;have hg:wr.grownBy w16 (some go14):=(by rw [hw];exact HP15.2);have hp_:Kd.R (Kd.int .i64) 3 w16 w.heap.size (fun _=>True) (.slice (some ⟨go14,0,none⟩) x5_1.length co14) y444:=(by rw [hw,Ny444.out];exact HP15.1);clear HP15;replace HO_5:=Aside0.mk (hp_);replace HB:=Aside0.mk ((by rw [hw];exact below_set (HB.out) GB14.out:Below w.heap.size w w16));clear hg hw hp_));try go_wp2_with (first|((with_reducible refine gate_store (t:=3) (p:=34) rfl ?_);(try (rw [drewN_self wr];generalize hq_:World.drewN wr _=wr;have n0_:=Aside0.mk (Kd.R_at hq_ HO_5.out);have n1_:=Aside0.mk (below_at hq_ HB.out);(try replace hx14_0:=cell_at hq_ hx14_0);(try replace hf14_0:=(fun {W_ W2_:World} {n_:Nat} {a_:Addr} {b_:Bool} (h_:W_.drewN n_=W2_) (e_:W_.frozen? a_=b_)=>(by subst h_;exact e_:W2_.frozen? a_=b_)) hq_ hf14_0);clear hq_ HO_5 HB;have HO_5:=n0_;have HB:=n1_;clear n0_ n1_;(try (have HP15:=Kd.R_putg HO_5.out ((rd l1 x14_1):Int) (wrap64 ((ji12) + ((rd_T31 l0 (rd l1 x14_1)).f0)))))));refine store_event (t:=3) (p:=34) (v:=?vo_w16) (w1:=(wr.setCell ⟨go14,((rd l1 x14_1):Int).toNat,none⟩ (.int .i64 (wrap64 ((ji12) + ((rd_T31 l0 (rd l1 x14_1)).f0)))))) ?hg ?ho ?hn ?hr ?_;(case ho=>rfl);(case hg=>rfl);(case hn=>rfl);(case hr=>first|(go_simp;done)|(go_simp;rfl));intro w16 hw;have hg:wr.grownBy w16 (some go14):=(by rw [hw];exact HP15.2);have hp_:Kd.R (Kd.int .i64) 3 w16 w.heap.size (fun _=>True) (.slice (some ⟨go14,0,none⟩) x5_1.length co14) y444:=(by rw [hw,Ny444.out];exact HP15.1);clear HP15;replace HO_5:=Aside0.mk (hp_);replace HB:=Aside0.mk ((by rw [hw];exact below_set (HB.out) GB14.out:Below w.heap.size w w16));clear hg hw hp_)))
   go_roundg k1
   case measure=>have:=HK1.out;omega
   case rel=>exact ⟨(y444),(wrap64 ((ji12) + ((rd_T31 l0 (rd l1 x14_1)).f0))),(wrap64 (x14_1 + 1)),(by first|rfl|(simp;done)|(simp only [←hji12] <;> (first|rfl|simp))|(simp [*];done)),zo,H',⟨by have:=HK1.out;omega⟩,⟨zR HO_5.out⟩,⟨zb⟩⟩

/-! ### impl_valueOf: function 102 -/
def impl_valueOf.f (k:Nat) (l0:List (S31)) (l1:List Int) (a2:Int):Option (Int):=(impl_endsOf.f k l0 l1).bind fun t445=>((impl_valueOfEnds.f k l0 t445 a2).bind fun t448=>(some t448))
theorem impl_valueOf.mono:∀ a0 a1 a2 k,LeO (impl_valueOf.f k a0 a1 a2) (impl_valueOf.f (k + 1) a0 a1 a2):=by
 intro a0 a1 a2 k
 unfold impl_valueOf.f
 repeat' first|(with_reducible first|exact impl_endsOf.mono _ _ _|exact impl_valueOfEnds.mono _ _ _ _|exact LeO.refl _|exact LeO.none _|refine LeO.ite ?_ ?_|refine LeO.bind ?_ (fun _=>?_))|exact impl_endsOf.mono _ _ _|exact impl_valueOfEnds.mono _ _ _ _|exact LeO.none _|refine LeO.ite ?_ ?_|refine LeO.bind ?_ (fun _=>?_)
set_option maxHeartbeats 8000000 in
set_option maxRecDepth 100000 in
theorem impl_valueOf.calls (k:Nat) (A0:Option Addr) (c0:Nat) (l0:List (S31)) (A1:Option Addr) (c1:Nat) (l1:List Int) (a2:Int) (r:Int) (w:World) (hr0:Kd.C k31 w A0 l0.length l0) (hc0:l0.length≤c0) (hr1:Kd.C (Kd.int .i64) w A1 l1.length l1) (hc1:l1.length≤c1) (h:impl_valueOf.f k l0 l1 a2=some r) :
  Calls Try.prog 102 #[.slice A0 l0.length c0,.slice A1 l1.length c1,.int .i64 a2] w fun e w'=>e=.returned (.int .i64 r)∧Below w.heap.size w w':=by
 have HR0:=Aside0.mk hr0
 have HC0:=Aside0.mk hc0
 clear hr0 hc0
 have HR1:=Aside0.mk hr1
 have HC1:=Aside0.mk hc1
 clear hr1 hc1
 have HB:=Aside0.mk (Below.refl w.heap.size w)
 have H:((impl_endsOf.f k l0 l1).bind fun t445=>((impl_valueOfEnds.f k l0 t445 a2).bind fun t448=>(some t448)))=some r:=h
 clear h
 replace H:=Option.bind_eq_some_iff.mp H
 obtain ⟨t445,A40,H⟩:=H
 try dsimp only at H
 have A4:=Aside0.mk A40
 clear A40
 replace H:=Option.bind_eq_some_iff.mp H
 obtain ⟨t448,A50,H⟩:=H
 try dsimp only at H
 have A5:=Aside0.mk A50
 clear A50
 obtain rfl:=Option.some.inj H
 go_enter Try.func102,Try.ntmps102
 go_wp2_with (first|((with_reducible refine gate_callee (f:=109) rfl ?_);refine zgo 10 Try.func109 #[.slice A0 l0.length c0,.slice A1 l1.length c1] ?_;(with_reducible refine (impl_endsOf.calls k _ _ l0 _ _ l1 t445 _ ?side1 ?side2 ?side3 ?side4 A4.out).mono ?_);(case side1=>exact zC HR0.out);(case side2=>exact HC0.out);(case side3=>exact zC HR1.out);(case side4=>exact HC1.out);rintro e w6 ⟨v446,rfl,ho0,hb⟩;refine ⟨_,rfl,?_⟩;have HO447:=Aside0.mk (Kd.R_lower ho0 (below_size zb));replace HB:=zb1 hb;(try clear hb);(try clear ho0);obtain ⟨Ao7,co7,eo7⟩:=Kd.R_slice HO447.out;subst eo7)|((with_reducible refine gate_callee (f:=108) rfl ?_);refine zgo 12 Try.func108 #[.slice A0 l0.length c0,.slice Ao7 t445.length co7,.int .i64 a2] ?_;(with_reducible refine (impl_valueOfEnds.calls k _ _ l0 _ _ t445 a2 t448 _ ?side1 ?side2 ?side3 ?side4 A5.out).mono ?_);(case side1=>exact zC (Kd.C_below HR0.out HB.out));(case side2=>exact HC0.out);(case side3=>exact zC ((Kd.R_reads' HO447.out).2.2));(case side4=>exact (Kd.R_reads' HO447.out).2.1);rintro e w8 ⟨rfl,hb⟩;refine ⟨_,rfl,?_⟩;replace HO447:=zRb HO447 hb;replace HB:=zb1 hb;(try clear hb)))
 go_ret
 exact ⟨zz0,zb⟩

-- NOT PRINTED: function 101 (impl_best_1)

end Go.Proofs.Ytkolecmpncaooaa.XFnLateWeight
-- minified
