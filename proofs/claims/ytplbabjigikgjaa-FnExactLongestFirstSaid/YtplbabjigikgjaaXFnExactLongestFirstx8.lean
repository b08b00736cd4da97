-- Written by a program of this session (the kit's print, widened). Proved here: what each function answers, for the arguments that its contract names.
import Derived.Test.YtplbabjigikgjaaXFnExactLongestFirstx0
import Derived.Test.YtplbabjigikgjaaXFnExactLongestFirstx5
import Derived.Test.YtplbabjigikgjaaXFnExactLongestFirstx6
import Derived.Test.YtplbabjigikgjaaXFnExactLongestFirstx7
namespace Go.Proofs.Ytplbabjigikgjaa.XFnExactLongestFirst
open Go.RowKit Go.Proofs.YtplbabjigikgjaaW.PrintWords Go.Proofs.YtplbabjigikgjaaW.PrintLast Go.Proofs.YtplbabjigikgjaaW.PrintMore
attribute [local go_sem] max2_int min2_int max_two min_two max_three min_three max_four min_four   -- for this text's walks alone
attribute [local go_sem] idxA_45_0 idxA_45_1 fldS_94_0 fldS_94_1 fldS_94_2 fldS_125_0 fldS_125_1 fldS_125_2
set_option linter.unusedVariables false
set_option linter.unusedSimpArgs false

/-! ### spec_l5Rests: function 58 -/
def spec_l5Rests.l0:Nat→List (S47)→List Int→Int→Option (List Int)
 | 0,_,_,_=>none
 | k + 1,x0,x3,x4=>if x4<(x0.length:Int) then (if 0≤x4 then (if x3.length<17592186044416 then (spec_l5Rests.l0 k x0 (x3++[(rd_T47 x0 x4).f0]) (wrap64 (x4 + 1))) else (none)) else (none)) else (some x3)
def spec_l5Rests.f (k:Nat) (l0:List (S47)):Option (List Int):=spec_l5Rests.l0 k l0 (([]:List Int)) 0
theorem spec_l5Rests.mono_l:∀ k,(∀ y0 y1 y2,LeO (spec_l5Rests.l0 k y0 y1 y2) (spec_l5Rests.l0 (k + 1) y0 y1 y2))
 | 0=>fun _ _ _ r h=>by simp [spec_l5Rests.l0] at h
 | k + 1=>by
  have ih0:=spec_l5Rests.mono_l k
  ·intro y0 y1 y2
   unfold spec_l5Rests.l0
   repeat' first
   | (with_reducible exact ih0 _ _ _)
   | (with_reducible exact LeO.refl _)
   | (with_reducible exact LeO.none _)
   | (with_reducible refine LeO.ite ?_ ?_)
   | (with_reducible refine LeO.bind ?_ (fun _=>?_))
   | exact ih0 _ _ _
   | exact LeO.none _
   | refine LeO.ite ?_ ?_
   | refine LeO.bind ?_ (fun _=>?_)
theorem spec_l5Rests.mono:∀ a0 k,LeO (spec_l5Rests.f k a0) (spec_l5Rests.f (k + 1) a0):=by
 intro a0 k
 have ih0:=spec_l5Rests.mono_l k
 unfold spec_l5Rests.f
 repeat' first
   | (with_reducible exact ih0 _ _ _)
   | (with_reducible exact LeO.refl _)
   | (with_reducible exact LeO.none _)
   | (with_reducible refine LeO.ite ?_ ?_)
   | (with_reducible refine LeO.bind ?_ (fun _=>?_))
   | exact ih0 _ _ _
   | exact LeO.none _
   | refine LeO.ite ?_ ?_
   | refine LeO.bind ?_ (fun _=>?_)
set_option maxHeartbeats 8000000 in
set_option maxRecDepth 100000 in
theorem spec_l5Rests.calls (k:Nat) (A0:Option Addr) (c0:Nat) (l0:List (S47)) (r:List Int) (w:World) (hr0:Kd.C k47 w A0 l0.length l0) (hc0:l0.length≤c0) (h:spec_l5Rests.f k l0=some r) :
  Calls Try.prog 58 #[.slice A0 l0.length c0] w fun e w'=>∃ v0_:Value,e=.returned (v0_)∧Kd.R (Kd.int .i64) 3 w' w.heap.size (fun _=>True) v0_ r∧Below w.heap.size w w':=by
 have HR0:=Aside0.mk hr0
 have HC0:=Aside0.mk hc0
 clear hr0 hc0
 have HB:=Aside0.mk (Below.refl w.heap.size w)
 have H:(spec_l5Rests.l0 k l0 (([]:List Int)) 0)=some r:=h
 clear h
 obtain ⟨y245,hy245⟩:∃ y_:List Int,y_=(([]:List Int)):=⟨_,rfl⟩
 replace H:(spec_l5Rests.l0 k l0 y245 0)=some r:=by first|(rw [hy245];with_reducible exact H)|(have H2_:=(Option.bind_some _ _).symm.trans H;rw [hy245];with_reducible exact H2_)|(have H2_:=(Option.bind_some _ _).symm.trans H;with_reducible exact H2_)|with_reducible exact H|(rw [hy245];exact H)|exact H
 have Ny245:=Aside0.mk hy245
 clear hy245
 have H':=Aside0.mk H
 clear H
 go_enter Try.func58,Try.ntmps58
 go_wp2_with (first|((with_reducible refine gate_dst (N:=5) rfl ?_);refine Kd.R_lit (Kd.int .i64) _ 3 ?hg (N:=5) ?hd (xs:=([]:List Int)) (inner:=[]) (ok:=fun _=>True) (okp:=fun _=>True) ?hr ?hp (fun _ hk=>hk) trivial (Below.refl _ _) (Nat.le_refl _) (by simp) ?_;(case hd=>rfl);(case hg=>rfl);(case hr=>first|(go_simp;done)|(go_simp;rfl));(case hp=>exact (Reps.none _ _));intro v246 w2 ho3 hb hg_ hnew_;clear hg_ hnew_;(first|rw [←Ny245.out] at ho3|(simp only [Int.reduceToNat] at ho3;rw [←Ny245.out] at ho3));have n0_:=Aside0.mk (Kd.R_lower ho3 (below_size zb));have n1_:=Aside0.mk (below_step zb hb);clear HB;have HO247:=n0_;have HB:=n1_;clear n0_ n1_;clear hb ho3))
 go_loopg [3,4] k (fun kq v3 v4 w'=>∃ (x3_1:List Int) (x4_1:Int),v4=.int .i64 x4_1∧Aside0 (spec_l5Rests.l0 kq l0 x3_1 x4_1=some r)∧Aside0 (kq≤k)∧Aside0 (Kd.R (Kd.int .i64) 3 w' w.heap.size (fun _=>True) v3 x3_1)∧Aside0 (Below w.heap.size w w'))
 case atStart=>exact ⟨(y245),(0),zo,H',⟨Nat.le_refl _⟩,⟨zR HO247.out⟩,⟨zb⟩⟩
 case round=>
  clear H'
  try clear p2
  obtain ⟨x3_1,x4_1,rfl,HA,HK1,HO_3,HB⟩:=hrel
  cases gk with
  | zero=>exact absurd HA.out (by simp [spec_l5Rests.l0])
  | succ k1=>
   have H:=HA.out
   clear HA
   simp only [spec_l5Rests.l0] at H
   by_cases c4:x4_1<(l0.length:Int)
   ·rw [if_pos c4] at H
    have c4b0:decide (x4_1<(l0.length:Int))=true:=decide_eq_true c4
    clear c4
    by_cases c5:0≤x4_1
    ·rw [if_pos c5] at H
     have c5b0:decide (0≤x4_1)=true:=decide_eq_true c5
     clear c5
     by_cases c6:x3_1.length<17592186044416
     ·rw [if_pos c6] at H
      have LMc6:=Aside0.mk c6
      clear c6
      obtain ⟨y249,hy249⟩:∃ y_:List Int,y_=(x3_1++[(rd_T47 l0 x4_1).f0]):=⟨_,rfl⟩
      replace H:(spec_l5Rests.l0 k1 l0 y249 (wrap64 (x4_1 + 1)))=some r:=by first|(rw [hy249];with_reducible exact H)|(have H2_:=(Option.bind_some _ _).symm.trans H;rw [hy249];with_reducible exact H2_)|(have H2_:=(Option.bind_some _ _).symm.trans H;with_reducible exact H2_)|with_reducible exact H|(rw [hy249];exact H)|exact H
      have Ny249:=Aside0.mk hy249
      clear hy249
      have H':=Aside0.mk H
      clear H
      have p248:0≤(x4_1:Int):=of_decide_eq_true za
      have q248:x4_1<(l0.length:Int):=of_decide_eq_true za
      obtain ⟨ad248,e248,hx248_0,hx248_1,hx248_2,hx248_3⟩:=at_T47 HR0.out x4_1 p248 q248
      cases e248
      replace hx248_0:=(HB.out.cell (World.block_lt_of_cell? w _ hx248_0)).trans hx248_0
      replace hx248_1:=(HB.out.cell (World.block_lt_of_cell? w _ hx248_1)).trans hx248_1
      replace hx248_2:=(HB.out.cell (World.block_lt_of_cell? w _ hx248_2)).trans hx248_2
      replace hx248_3:=(HB.out.cell (World.block_lt_of_cell? w _ hx248_3)).trans hx248_3
      replace p248:=eq_true p248
      replace q248:=eq_true q248
      go_wp2_with (first|((with_reducible refine gate_builtin (b:=.append) (xs:=#[.tmp 12,.tmp 18]) rfl ?_);at_builtin;refine Kd.R_append (Kd.int .i64) (w0:=w) w.heap.size rfl (.tmp 12) (.tmp 18) 39 3 (.int .i64 0) 8 rfl Try.underlying39 info3 rfl (by decide) (by omega) u3 x3_1 ((rd_T47 l0 x4_1).f0) [.int .i64 ((rd_T47 l0 x4_1).f0)] (fun _=>True) (fun _=>False) rfl rfl ?aP (fun _ hk=>hk.elim) ?aF ?aO ?aB ?aS ?aL ?_;(case aP=>exact rfl);(case aB=>exact zb);(case aF=>exact (fun _ _=>trivial));(case aO=>exact (zR HO_3.out));(case aS=>exact (below_size zb));(case aL=>have:=LMc6.out;omega);intro v250 w7 ho hb hg hat;rw [←Ny249.out] at ho;have n0_:=Aside0.mk (hb);have n1_:=Aside0.mk (ho);clear HB;clear HO_3;have HB:=n0_;have HO251:=n1_;clear n0_ n1_;clear ho hb hg hat))
      go_roundg k1
      case measure=>have:=HK1.out;omega
      case rel=>exact ⟨(y249),(wrap64 (x4_1 + 1)),zo,H',⟨by have:=HK1.out;omega⟩,⟨zR HO251.out⟩,⟨zb⟩⟩
     ·rw [if_neg c6] at H
      exact absurd H (by simp)
    ·rw [if_neg c5] at H
     exact absurd H (by simp)
   ·rw [if_neg c4] at H
    have c4b0:decide (x4_1<(l0.length:Int))=false:=decide_eq_false c4
    clear c4
    obtain rfl:=Option.some.inj H
    go_wp2
    go_ret
    exact ⟨_,by first|rfl|(simp [errW_none,errW_some] <;> rfl)|(simp [*,errW_none,errW_some] <;> rfl),zR HO_3.out,zb⟩

/-! ### spec_LongestFirst: function 10 -/
def spec_LongestFirst.f (k:Nat) (l0:List (S47)) (a1:Int):Option ((List (S89)) × Bool):=(some (([]:List (S45)):List (S45))).bind fun y252=>((spec_l7Good.f k l0 a1 y252).bind fun t255=>(if t255=true then ((spec_l5Rests.f k l0).bind fun t256=>((spec_l7Falling.f k t256).bind fun t259=>((spec_l7List.f k l0 a1 y252 t259).bind fun t262=>(some (t262,true))))) else (some ((([]:List (S89))),false))))
theorem spec_LongestFirst.mono:∀ a0 a1 k,LeO (spec_LongestFirst.f k a0 a1) (spec_LongestFirst.f (k + 1) a0 a1):=by
 intro a0 a1 k
 unfold spec_LongestFirst.f
 repeat' first
   | (with_reducible exact spec_l5Rests.mono _ _)
   | (with_reducible exact spec_l7Falling.mono _ _)
   | (with_reducible exact spec_l7Good.mono _ _ _ _)
   | (with_reducible exact spec_l7List.mono _ _ _ _ _)
   | (with_reducible exact LeO.refl _)
   | (with_reducible exact LeO.none _)
   | (with_reducible refine LeO.ite ?_ ?_)
   | (with_reducible refine LeO.bind ?_ (fun _=>?_))
   | exact spec_l5Rests.mono _ _
   | exact spec_l7Falling.mono _ _
   | exact spec_l7Good.mono _ _ _ _
   | exact spec_l7List.mono _ _ _ _ _
   | exact LeO.none _
   | refine LeO.ite ?_ ?_
   | refine LeO.bind ?_ (fun _=>?_)
set_option maxHeartbeats 8000000 in
set_option maxRecDepth 100000 in
theorem spec_LongestFirst.calls (k:Nat) (A0:Option Addr) (c0:Nat) (l0:List (S47)) (a1:Int) (r1:List (S89)) (r2:Bool) (w:World) (hr0:Kd.C k47 w A0 l0.length l0) (hc0:l0.length≤c0) (h:spec_LongestFirst.f k l0 a1=some (r1,r2)) :
  Calls Try.prog 10 #[.slice A0 l0.length c0,.int .i64 a1] w fun e w'=>∃ v0_:Value,e=.returned (.tuple #[v0_,.bool r2])∧Kd.R k89 89 w' w.heap.size (fun _=>True) v0_ r1∧Below w.heap.size w w':=by
 have HR0:=Aside0.mk hr0
 have HC0:=Aside0.mk hc0
 clear hr0 hc0
 have HB:=Aside0.mk (Below.refl w.heap.size w)
 have H:((some (([]:List (S45)):List (S45))).bind fun y252=>((spec_l7Good.f k l0 a1 y252).bind fun t255=>(if t255=true then ((spec_l5Rests.f k l0).bind fun t256=>((spec_l7Falling.f k t256).bind fun t259=>((spec_l7List.f k l0 a1 y252 t259).bind fun t262=>(some (t262,true))))) else (some ((([]:List (S89))),false)))))=some (r1,r2):=h
 clear h
 obtain ⟨y252,hy252⟩:∃ y_:List (S45),y_=(([]:List (S45))):=⟨_,rfl⟩
 replace H:((spec_l7Good.f k l0 a1 y252).bind fun t255=>(if t255=true then ((spec_l5Rests.f k l0).bind fun t256=>((spec_l7Falling.f k t256).bind fun t259=>((spec_l7List.f k l0 a1 y252 t259).bind fun t262=>(some (t262,true))))) else (some ((([]:List (S89))),false))))=some (r1,r2):=by first|(rw [hy252];with_reducible exact H)|(have H2_:=(Option.bind_some _ _).symm.trans H;rw [hy252];with_reducible exact H2_)|(have H2_:=(Option.bind_some _ _).symm.trans H;with_reducible exact H2_)|with_reducible exact H|(rw [hy252];exact H)|exact H
 have Ny252:=Aside0.mk hy252
 clear hy252
 replace H:=Option.bind_eq_some_iff.mp H
 obtain ⟨t255,A30,H⟩:=H
 replace H:(if t255=true then ((spec_l5Rests.f k l0).bind fun t256=>((spec_l7Falling.f k t256).bind fun t259=>((spec_l7List.f k l0 a1 y252 t259).bind fun t262=>(some (t262,true))))) else (some ((([]:List (S89))),false)))=some (r1,r2):=H
 have A3:=Aside0.mk A30
 clear A30
 by_cases c4:t255=true
 ·subst c4
  have H1:((spec_l5Rests.f k l0).bind fun t256=>((spec_l7Falling.f k t256).bind fun t259=>((spec_l7List.f k l0 a1 y252 t259).bind fun t262=>(some (t262,true)))))=some (r1,r2):=by rw [if_pos rfl] at H;exact H
  clear H
  have H:=H1
  clear H1
  replace H:=Option.bind_eq_some_iff.mp H
  obtain ⟨t256,A50,H⟩:=H
  replace H:((spec_l7Falling.f k t256).bind fun t259=>((spec_l7List.f k l0 a1 y252 t259).bind fun t262=>(some (t262,true))))=some (r1,r2):=H
  have A5:=Aside0.mk A50
  clear A50
  replace H:=Option.bind_eq_some_iff.mp H
  obtain ⟨t259,A60,H⟩:=H
  replace H:((spec_l7List.f k l0 a1 y252 t259).bind fun t262=>(some (t262,true)))=some (r1,r2):=H
  have A6:=Aside0.mk A60
  clear A60
  replace H:=Option.bind_eq_some_iff.mp H
  obtain ⟨t262,A70,H⟩:=H
  replace H:(some (t262,true))=some (r1,r2):=H
  have A7:=Aside0.mk A70
  clear A70
  simp only [Option.some.injEq,Prod.mk.injEq] at H
  obtain ⟨rfl,rfl⟩:=H
  go_enter Try.func10,Try.ntmps10
  go_wp2_with (first|((with_reducible refine gate_dst (N:=7) rfl ?_);refine Kd.R_lit k45 _ 45 ?hg (N:=7) ?hd (xs:=([]:List (S45))) (inner:=[]) (ok:=fun _=>True) (okp:=fun _=>True) ?hr ?hp (fun _ hk=>hk) trivial (Below.refl _ _) (Nat.le_refl _) (by simp) ?_;(case hd=>rfl);(case hg=>rfl);(case hr=>first|(go_simp;done)|(go_simp;rfl));(case hp=>exact (Reps.none _ _));intro v253 w8 ho9 hb hg_ hnew_;clear hg_ hnew_;(first|rw [←Ny252.out] at ho9|(simp only [Int.reduceToNat] at ho9;rw [←Ny252.out] at ho9));have n0_:=Aside0.mk (Kd.R_lower ho9 (below_size zb));have n1_:=Aside0.mk (below_step zb hb);clear HB;have HO254:=n0_;have HB:=n1_;clear n0_ n1_;clear hb ho9;obtain ⟨Ao10,co10,eo10⟩:=Kd.R_slice HO254.out;subst eo10)|((with_reducible refine gate_callee (f:=55) rfl ?_);refine goesL_ (some 11) rfl rfl Try.func55 (by kernel_rfl) rfl #[.slice A0 l0.length c0,.int .i64 a1,.slice Ao10 y252.length co10] rfl zl ?_;(with_reducible refine (spec_l7Good.calls k _ _ l0 a1 _ _ y252 true _ ?side1 ?side2 ?side3 ?side4 A3.out).mono ?_);(case side1=>exact zC (Kd.C_below HR0.out HB.out));(case side2=>exact HC0.out);(case side3=>exact zC ((Kd.R_reads' HO254.out).2.2));(case side4=>exact (Kd.R_reads' HO254.out).2.1);rintro e w11 ⟨rfl,hb⟩;refine ⟨_,rfl,?_⟩;have n0_:=Aside0.mk (Kd.R_below (zR HO254.out) hb);have n1_:=Aside0.mk (below_step zb hb);clear HO254;clear HB;have HO254:=n0_;have HB:=n1_;clear n0_ n1_;(try clear hb);(try clear hb2);(try clear hk);(try clear hi))|((with_reducible refine gate_callee (f:=58) rfl ?_);refine goesL_ (some 18) rfl rfl Try.func58 (by kernel_rfl) rfl #[.slice A0 l0.length c0] rfl zl ?_;(with_reducible refine (spec_l5Rests.calls k _ _ l0 t256 _ ?side1 ?side2 A5.out).mono ?_);(case side1=>exact zC (Kd.C_below HR0.out HB.out));(case side2=>exact HC0.out);rintro e w12 ⟨v257,rfl,ho0,hb⟩;refine ⟨_,rfl,?_⟩;have n0_:=Aside0.mk (Kd.R_below (zR HO254.out) hb);have n1_:=Aside0.mk (Kd.R_lower ho0 (below_size zb));have n2_:=Aside0.mk (below_step zb hb);clear HO254;clear HB;have HO254:=n0_;have HO258:=n1_;have HB:=n2_;clear n0_ n1_ n2_;(try clear hb);(try clear hb2);(try clear hk);(try clear hi);(try clear ho0);obtain ⟨Ao13,co13,eo13⟩:=Kd.R_slice HO258.out;subst eo13)|((with_reducible refine gate_callee (f:=57) rfl ?_);refine goesL_ (some 19) rfl rfl Try.func57 (by kernel_rfl) rfl #[.slice Ao13 t256.length co13] rfl zl ?_;(with_reducible refine (spec_l7Falling.calls k _ _ t256 t259 _ ?side1 ?side2 A6.out).mono ?_);(case side1=>exact zC ((Kd.R_reads' HO258.out).2.2));(case side2=>exact (Kd.R_reads' HO258.out).2.1);rintro e w14 ⟨v260,rfl,ho0,hb⟩;refine ⟨_,rfl,?_⟩;have n0_:=Aside0.mk (Kd.R_below (zR HO254.out) hb);have n1_:=Aside0.mk (Kd.R_elder' (zR HO258.out) (Kd.R_base ho0) hb);have n2_:=Aside0.mk (Kd.R_lower (Kd.R_new' ho0 (Kd.R_lt (zR HO258.out))) (below_size zb));have n3_:=Aside0.mk (below_step zb hb);clear HO254;clear HO258;clear HB;have HO254:=n0_;have HO258:=n1_;have HO261:=n2_;have HB:=n3_;clear n0_ n1_ n2_ n3_;(try clear hb);(try clear hb2);(try clear hk);(try clear hi);(try clear ho0);obtain ⟨Ao15,co15,eo15⟩:=Kd.R_slice HO261.out;subst eo15)|((with_reducible refine gate_callee (f:=56) rfl ?_);refine goesL_ (some 20) rfl rfl Try.func56 (by kernel_rfl) rfl #[.slice A0 l0.length c0,.int .i64 a1,.slice Ao10 y252.length co10,.slice Ao15 t259.length co15] rfl zl ?_;(with_reducible refine (spec_l7List.calls k _ _ l0 a1 _ _ y252 _ _ t259 t262 _ ?side1 ?side2 ?side3 ?side4 ?side5 ?side6 A7.out).mono ?_);(case side1=>exact zC (Kd.C_below HR0.out HB.out));(case side2=>exact HC0.out);(case side3=>exact zC ((Kd.R_reads' HO254.out).2.2));(case side4=>exact (Kd.R_reads' HO254.out).2.1);(case side5=>exact zC ((Kd.R_reads' HO261.out).2.2));(case side6=>exact (Kd.R_reads' HO261.out).2.1);rintro e w16 ⟨v263,rfl,ho0,hb⟩;refine ⟨_,rfl,?_⟩;have n0_:=Aside0.mk (Kd.R_below (zR HO254.out) hb);have n1_:=Aside0.mk (Kd.R_below (zR HO258.out) hb);have n2_:=Aside0.mk (Kd.R_below (zR HO261.out) hb);have n3_:=Aside0.mk (Kd.R_lower ho0 (below_size zb));have n4_:=Aside0.mk (below_step zb hb);clear HO254;clear HO258;clear HO261;clear HB;have HO254:=n0_;have HO258:=n1_;have HO261:=n2_;have HO264:=n3_;have HB:=n4_;clear n0_ n1_ n2_ n3_ n4_;(try clear hb);(try clear hb2);(try clear hk);(try clear hi);(try clear ho0)))
  go_ret2
  exact ⟨_,by first|rfl|(simp [errW_none,errW_some] <;> rfl)|(simp [*,errW_none,errW_some] <;> rfl),zR HO264.out,zb⟩
 ·replace c4:=Bool.eq_false_iff.mpr c4
  subst c4
  have H1:(some ((([]:List (S89))),false))=some (r1,r2):=by rw [if_neg (show ¬ (false=true) by decide)] at H;exact H
  clear H
  have H:=H1
  clear H1
  obtain ⟨y265,hy265⟩:∃ y_:List (S89),y_=(([]:List (S89))):=⟨_,rfl⟩
  replace H:(some (y265,false))=some (r1,r2):=by first|(rw [hy265];with_reducible exact H)|(have H2_:=(Option.bind_some _ _).symm.trans H;rw [hy265];with_reducible exact H2_)|(have H2_:=(Option.bind_some _ _).symm.trans H;with_reducible exact H2_)|with_reducible exact H|(rw [hy265];exact H)|exact H
  have Ny265:=Aside0.mk hy265
  clear hy265
  simp only [Option.some.injEq,Prod.mk.injEq] at H
  obtain ⟨rfl,rfl⟩:=H
  go_enter Try.func10,Try.ntmps10
  go_wp2_with (first|((with_reducible refine gate_dst (N:=7) rfl ?_);refine Kd.R_lit k45 _ 45 ?hg (N:=7) ?hd (xs:=([]:List (S45))) (inner:=[]) (ok:=fun _=>True) (okp:=fun _=>True) ?hr ?hp (fun _ hk=>hk) trivial (Below.refl _ _) (Nat.le_refl _) (by simp) ?_;(case hd=>rfl);(case hg=>rfl);(case hr=>first|(go_simp;done)|(go_simp;rfl));(case hp=>exact (Reps.none _ _));intro v253 w17 ho18 hb hg_ hnew_;clear hg_ hnew_;(first|rw [←Ny252.out] at ho18|(simp only [Int.reduceToNat] at ho18;rw [←Ny252.out] at ho18));have n0_:=Aside0.mk (Kd.R_lower ho18 (below_size zb));have n1_:=Aside0.mk (below_step zb hb);clear HB;have HO254:=n0_;have HB:=n1_;clear n0_ n1_;clear hb ho18;obtain ⟨Ao19,co19,eo19⟩:=Kd.R_slice HO254.out;subst eo19)|((with_reducible refine gate_callee (f:=55) rfl ?_);refine goesL_ (some 11) rfl rfl Try.func55 (by kernel_rfl) rfl #[.slice A0 l0.length c0,.int .i64 a1,.slice Ao19 y252.length co19] rfl zl ?_;(with_reducible refine (spec_l7Good.calls k _ _ l0 a1 _ _ y252 false _ ?side1 ?side2 ?side3 ?side4 A3.out).mono ?_);(case side1=>exact zC (Kd.C_below HR0.out HB.out));(case side2=>exact HC0.out);(case side3=>exact zC ((Kd.R_reads' HO254.out).2.2));(case side4=>exact (Kd.R_reads' HO254.out).2.1);rintro e w20 ⟨rfl,hb⟩;refine ⟨_,rfl,?_⟩;have n0_:=Aside0.mk (Kd.R_below (zR HO254.out) hb);have n1_:=Aside0.mk (below_step zb hb);clear HO254;clear HB;have HO254:=n0_;have HB:=n1_;clear n0_ n1_;(try clear hb);(try clear hb2);(try clear hk);(try clear hi))|((with_reducible refine gate_dst (N:=13) rfl ?_);refine Kd.R_lit k89 _ 89 ?hg (N:=13) ?hd (xs:=([]:List (S89))) (inner:=[]) (ok:=fun _=>True) (okp:=fun _=>True) ?hr ?hp (fun _ hk=>hk) trivial (Below.refl _ _) (Nat.le_refl _) (by simp) ?_;(case hd=>rfl);(case hg=>rfl);(case hr=>first|(go_simp;done)|(go_simp;rfl));(case hp=>exact (Reps.none _ _));intro v266 w21 ho22 hb hg_ hnew_;clear hg_ hnew_;(first|rw [←Ny265.out] at ho22|(simp only [Int.reduceToNat] at ho22;rw [←Ny265.out] at ho22));have n0_:=Aside0.mk (Kd.R_below (zR HO254.out) hb);have n1_:=Aside0.mk (Kd.R_lower ho22 (below_size zb));have n2_:=Aside0.mk (below_step zb hb);clear HO254;clear HB;have HO254:=n0_;have HO267:=n1_;have HB:=n2_;clear n0_ n1_ n2_;clear hb ho22))
  go_ret2
  exact ⟨_,by first|rfl|(simp [errW_none,errW_some] <;> rfl)|(simp [*,errW_none,errW_some] <;> rfl),zR HO267.out,zb⟩

/-! ### laws_toJob: function 59 -/
def laws_toJob.f (a0_0:Int) (a0_1:Int) (a0_2:Int) (a0_3:Int):Option (Int × Int × Int × Int):=some (a0_0,a0_1,a0_2,a0_3)
set_option maxHeartbeats 8000000 in
set_option maxRecDepth 100000 in
theorem laws_toJob.calls (a0_0:Int) (a0_1:Int) (a0_2:Int) (a0_3:Int) (r1:Int) (r2:Int) (r3:Int) (r4:Int) (w:World) (h:laws_toJob.f a0_0 a0_1 a0_2 a0_3=some (r1,r2,r3,r4)) :
  Calls Try.prog 59 #[.agg #[.int .i64 a0_0,.int .i64 a0_1,.int .i64 a0_2,.int .i64 a0_3]] w fun e w'=>e=.returned (.agg #[.int .i64 r1,.int .i64 r2,.int .i64 r3,.int .i64 r4])∧Below w.heap.size w w':=by
 have hu83:=Try.underlying83
 have hu47:=Try.underlying47
 have HB:=Aside0.mk (Below.refl w.heap.size w)
 have H:(some (a0_0,a0_1,a0_2,a0_3))=some (r1,r2,r3,r4):=h
 clear h
 simp only [Option.some.injEq,Prod.mk.injEq] at H
 obtain ⟨rfl,rfl,rfl,rfl⟩:=H
 go_enter Try.func59,Try.ntmps59
 go_wp2_with (first|((with_reducible refine gate_dst (N:=1) rfl ?_);refine box_event ?hg (N:=1) ?hd (cs:=#[.int .i64 a0_0,.int .i64 a0_1,.int .i64 a0_2,.int .i64 a0_3]) (t:=83) ?hr ?_;(case hd=>rfl);(case hg=>rfl);(case hr=>first|(go_simp;done)|(go_simp;rfl));intro gb268 hg w2 hbox hb;have n0_:=Aside0.mk (below_step zb hb);have n1_:=Aside0.mk (hbox);have n2_:=Aside0.mk ((by rw [hg];exact (below_size zb):w.heap.size≤gb268));have n3_:=Aside0.mk ((by rw [hg];exact (below_size zb):w.heap.size≤gb268));clear HB;have HB:=n0_;have BK268:=n1_;have GW268:=n2_;have GE268:=n3_;clear n0_ n1_ n2_ n3_;clear hb hbox hg)|((with_reducible refine gate_dst (N:=2) rfl ?_);refine box_event ?hg (N:=2) ?hd (cs:=#[.int .i64 0,.int .i64 0,.int .i64 0,.int .i64 0]) (t:=47) ?hr ?_;(case hd=>rfl);(case hg=>rfl);(case hr=>first|(go_simp;done)|(go_simp;rfl));intro gb269 hg w3 hbox hb;have n0_:=Aside0.mk (blk_below (g:=gb268) (o:=.cells #[.int .i64 a0_0,.int .i64 a0_1,.int .i64 a0_2,.int .i64 a0_3] 83 (0,0)) (by (with_reducible repeat (first|refine blk_drewN ?_ _|refine blk_drew ?_|refine blk_alloc ?_ _));exact BK268.out) hb);have n1_:=Aside0.mk (below_step (by repeat (first|(with_reducible first|exact HB.out|apply below_alloc|apply pw_below_drewN|apply below_drew1|refine below_set ?_ GE268.out)|exact HB.out)) hb);have n2_:=Aside0.mk (hbox);have n3_:=Aside0.mk ((by rw [hg];exact (below_size (by repeat (first|(with_reducible first|exact HB.out|apply below_alloc|apply pw_below_drewN|apply below_drew1|refine below_set ?_ GE268.out)|exact HB.out))):w.heap.size≤gb269));have n4_:=Aside0.mk ((by rw [hg];exact (below_size (by repeat (first|(with_reducible first|exact HB.out|apply below_alloc|apply pw_below_drewN|apply below_drew1|refine below_set ?_ GE268.out)|exact HB.out))):w.heap.size≤gb269));have n5_:=Aside0.mk ((by rw [hg];exact Nat.ne_of_lt (blk_lt (g:=gb268) (o:=.cells #[.int .i64 a0_0,.int .i64 a0_1,.int .i64 a0_2,.int .i64 a0_3] 83 (0,0)) (by (with_reducible repeat (first|refine blk_drewN ?_ _|refine blk_drew ?_|refine blk_alloc ?_ _));exact BK268.out)):gb268≠gb269));have n6_:=Aside0.mk ((by rw [hg];exact Nat.ne_of_gt (blk_lt (g:=gb268) (o:=.cells #[.int .i64 a0_0,.int .i64 a0_1,.int .i64 a0_2,.int .i64 a0_3] 83 (0,0)) (by (with_reducible repeat (first|refine blk_drewN ?_ _|refine blk_drew ?_|refine blk_alloc ?_ _));exact BK268.out)):gb269≠gb268));clear BK268;clear HB;have BK268:=n0_;have HB:=n1_;have BK269:=n2_;have GW269:=n3_;have GE269:=n4_;have NB268_269:=n5_;have NB269_268:=n6_;clear n0_ n1_ n2_ n3_ n4_ n5_ n6_;clear hb hbox hg)|((with_reducible refine gate_dst (N:=3) rfl ?_);refine box_event ?hg (N:=3) ?hd (cs:=#[.int .i64 0,.int .i64 0,.int .i64 0,.int .i64 0]) (t:=47) ?hr ?_;(case hd=>rfl);(case hg=>rfl);(case hr=>first|(go_simp;done)|(go_simp;rfl));intro gb270 hg w4 hbox hb;have n0_:=Aside0.mk (blk_below (g:=gb268) (o:=.cells #[.int .i64 a0_0,.int .i64 a0_1,.int .i64 a0_2,.int .i64 a0_3] 83 (0,0)) (by (with_reducible repeat (first|refine blk_drewN ?_ _|refine blk_drew ?_|refine blk_alloc ?_ _));exact BK268.out) hb);have n1_:=Aside0.mk (blk_below (g:=gb269) (o:=.cells #[.int .i64 0,.int .i64 0,.int .i64 0,.int .i64 0] 47 (0,0)) (by (with_reducible repeat (first|refine blk_drewN ?_ _|refine blk_drew ?_|refine blk_alloc ?_ _));exact BK269.out) hb);have n2_:=Aside0.mk (below_step (by repeat (first|(with_reducible first|exact HB.out|apply below_alloc|apply pw_below_drewN|apply below_drew1|refine below_set ?_ GE268.out|refine below_set ?_ GE269.out)|exact HB.out)) hb);have n3_:=Aside0.mk (hbox);have n4_:=Aside0.mk ((by rw [hg];exact (below_size (by repeat (first|(with_reducible first|exact HB.out|apply below_alloc|apply pw_below_drewN|apply below_drew1|refine below_set ?_ GE268.out|refine below_set ?_ GE269.out)|exact HB.out))):w.heap.size≤gb270));have n5_:=Aside0.mk ((by rw [hg];exact (below_size (by repeat (first|(with_reducible first|exact HB.out|apply below_alloc|apply pw_below_drewN|apply below_drew1|refine below_set ?_ GE268.out|refine below_set ?_ GE269.out)|exact HB.out))):w.heap.size≤gb270));have n6_:=Aside0.mk ((by rw [hg];exact Nat.ne_of_lt (blk_lt (g:=gb268) (o:=.cells #[.int .i64 a0_0,.int .i64 a0_1,.int .i64 a0_2,.int .i64 a0_3] 83 (0,0)) (by (with_reducible repeat (first|refine blk_drewN ?_ _|refine blk_drew ?_|refine blk_alloc ?_ _));exact BK268.out)):gb268≠gb270));have n7_:=Aside0.mk ((by rw [hg];exact Nat.ne_of_gt (blk_lt (g:=gb268) (o:=.cells #[.int .i64 a0_0,.int .i64 a0_1,.int .i64 a0_2,.int .i64 a0_3] 83 (0,0)) (by (with_reducible repeat (first|refine blk_drewN ?_ _|refine blk_drew ?_|refine blk_alloc ?_ _));exact BK268.out)):gb270≠gb268));have n8_:=Aside0.mk ((by rw [hg];exact Nat.ne_of_lt (blk_lt (g:=gb269) (o:=.cells #[.int .i64 0,.int .i64 0,.int .i64 0,.int .i64 0] 47 (0,0)) (by (with_reducible repeat (first|refine blk_drewN ?_ _|refine blk_drew ?_|refine blk_alloc ?_ _));exact BK269.out)):gb269≠gb270));have n9_:=Aside0.mk ((by rw [hg];exact Nat.ne_of_gt (blk_lt (g:=gb269) (o:=.cells #[.int .i64 0,.int .i64 0,.int .i64 0,.int .i64 0] 47 (0,0)) (by (with_reducible repeat (first|refine blk_drewN ?_ _|refine blk_drew ?_|refine blk_alloc ?_ _));exact BK269.out)):gb270≠gb269));clear BK268;clear BK269;clear HB;have BK268:=n0_;have BK269:=n1_;have HB:=n2_;have BK270:=n3_;have GW270:=n4_;have GE270:=n5_;have NB268_270:=n6_;have NB270_268:=n7_;have NB269_270:=n8_;have NB270_269:=n9_;clear n0_ n1_ n2_ n3_ n4_ n5_ n6_ n7_ n8_ n9_;clear hb hbox hg;have hnb5:=NB268_269.out;have hnc5:=NB269_268.out;have hnb6:=NB268_270.out;have hnc6:=NB270_268.out;have hcz7_0:w4.cell? ⟨gb268,0,none⟩=some (.int .i64 a0_0):=(blk_cell BK268.out 0).trans rfl;have hcz7_1:w4.cell? ⟨gb268,1,none⟩=some (.int .i64 a0_1):=(blk_cell BK268.out 1).trans rfl;have hcz7_2:w4.cell? ⟨gb268,2,none⟩=some (.int .i64 a0_2):=(blk_cell BK268.out 2).trans rfl;have hcz7_3:w4.cell? ⟨gb268,3,none⟩=some (.int .i64 a0_3):=(blk_cell BK268.out 3).trans rfl;have hfz7_0:=blk_frozen BK268.out 0;have hfz7_1:=blk_frozen BK268.out 1;have hfz7_2:=blk_frozen BK268.out 2;have hfz7_3:=blk_frozen BK268.out 3;have hnb8:=NB270_269.out;have hnc8:=NB269_270.out;have hcz9_0:w4.cell? ⟨gb270,0,none⟩=some (.int .i64 0):=(blk_cell BK270.out 0).trans rfl;have hcz9_1:w4.cell? ⟨gb270,1,none⟩=some (.int .i64 0):=(blk_cell BK270.out 1).trans rfl;have hcz9_2:w4.cell? ⟨gb270,2,none⟩=some (.int .i64 0):=(blk_cell BK270.out 2).trans rfl;have hcz9_3:w4.cell? ⟨gb270,3,none⟩=some (.int .i64 0):=(blk_cell BK270.out 3).trans rfl;have hfz9_0:=blk_frozen BK270.out 0;have hfz9_1:=blk_frozen BK270.out 1;have hfz9_2:=blk_frozen BK270.out 2;have hfz9_3:=blk_frozen BK270.out 3;have hcz10_0:w4.cell? ⟨gb269,0,none⟩=some (.int .i64 0):=(blk_cell BK269.out 0).trans rfl;have hcz10_1:w4.cell? ⟨gb269,1,none⟩=some (.int .i64 0):=(blk_cell BK269.out 1).trans rfl;have hcz10_2:w4.cell? ⟨gb269,2,none⟩=some (.int .i64 0):=(blk_cell BK269.out 2).trans rfl;have hcz10_3:w4.cell? ⟨gb269,3,none⟩=some (.int .i64 0):=(blk_cell BK269.out 3).trans rfl;have hfz10_0:=blk_frozen BK269.out 0;have hfz10_1:=blk_frozen BK269.out 1;have hfz10_2:=blk_frozen BK269.out 2;have hfz10_3:=blk_frozen BK269.out 3))
 refine bodyPost_ret (results_cell_row rfl _ _ gb269 47 #[.int .i64 a0_0,.int .i64 a0_1,.int .i64 a0_2,.int .i64 a0_3] (0,0) _ rfl (by (with_reducible repeat (first|refine blk_drewN ?_ _|refine blk_drew ?_|refine blk_alloc ?_ _));refine blk_put (cs:=#[.int .i64 a0_0,.int .i64 a0_1,.int .i64 a0_2,.int .i64 0]) ?_ 3 _ rfl;(with_reducible repeat (first|refine blk_drewN ?_ _|refine blk_drew ?_|refine blk_alloc ?_ _));refine blk_put (cs:=#[.int .i64 a0_0,.int .i64 a0_1,.int .i64 0,.int .i64 0]) ?_ 2 _ rfl;(with_reducible repeat (first|refine blk_drewN ?_ _|refine blk_drew ?_|refine blk_alloc ?_ _));refine blk_put (cs:=#[.int .i64 a0_0,.int .i64 0,.int .i64 0,.int .i64 0]) ?_ 1 _ rfl;(with_reducible repeat (first|refine blk_drewN ?_ _|refine blk_drew ?_|refine blk_alloc ?_ _));refine blk_put (cs:=#[.int .i64 0,.int .i64 0,.int .i64 0,.int .i64 0]) ?_ 0 _ rfl;(with_reducible repeat (first|refine blk_drewN ?_ _|refine blk_drew ?_|refine blk_alloc ?_ _));refine blk_far ?_ NB269_270.out _;(with_reducible repeat (first|refine blk_drewN ?_ _|refine blk_drew ?_|refine blk_alloc ?_ _));refine blk_far ?_ NB269_270.out _;(with_reducible repeat (first|refine blk_drewN ?_ _|refine blk_drew ?_|refine blk_alloc ?_ _));refine blk_far ?_ NB269_270.out _;(with_reducible repeat (first|refine blk_drewN ?_ _|refine blk_drew ?_|refine blk_alloc ?_ _));refine blk_far ?_ NB269_270.out _;(with_reducible repeat (first|refine blk_drewN ?_ _|refine blk_drew ?_|refine blk_alloc ?_ _));exact BK269.out) Try.underlying47 rfl (by kernel_rfl)) rfl ?_
 exact ⟨by first|rfl|(simp [errW_none,errW_some] <;> rfl)|(simp [*,errW_none,errW_some] <;> rfl),by repeat (first|(with_reducible first|exact HB.out|apply below_alloc|apply pw_below_drewN|apply below_drew1|refine below_set ?_ GE268.out|refine below_set ?_ GE269.out|refine below_set ?_ GE270.out)|exact HB.out)⟩

/-! ### laws_toJobS: function 11 -/
def laws_toJobS.l0:Nat→List (S83)→List (S47)→Int→Option ((List (S47)))
 | 0,_,_,_=>none
 | k + 1,x0,x3,x4=>if x4<(x0.length:Int) then (if 0≤x4 then ((laws_toJob.f ((rd_T83 x0 x4).f0) ((rd_T83 x0 x4).f1) ((rd_T83 x0 x4).f2) ((rd_T83 x0 x4).f3)).bind fun bt275=>(if x4<(x3.length:Int) then (laws_toJobS.l0 k x0 (x3.set (x4:Int).toNat (⟨bt275.1,bt275.2.1,bt275.2.2.1,bt275.2.2.2⟩:S47)) (wrap64 (x4 + 1))) else (none))) else (none)) else (some x3)
def laws_toJobS.f (k:Nat) (l0:List (S83)):Option ((List (S47))):=if 0≤(l0.length:Int) then (if ((l0.length:Int):Int).toNat≤8796093022208 then (laws_toJobS.l0 k l0 (List.replicate ((l0.length:Int):Int).toNat z47) 0) else (none)) else (none)
theorem laws_toJobS.mono_l:∀ k,(∀ y0 y1 y2,LeO (laws_toJobS.l0 k y0 y1 y2) (laws_toJobS.l0 (k + 1) y0 y1 y2))
 | 0=>fun _ _ _ r h=>by simp [laws_toJobS.l0] at h
 | k + 1=>by
  have ih0:=laws_toJobS.mono_l k
  ·intro y0 y1 y2
   unfold laws_toJobS.l0
   repeat' first
   | (with_reducible exact ih0 _ _ _)
   | (with_reducible exact LeO.refl _)
   | (with_reducible exact LeO.none _)
   | (with_reducible refine LeO.ite ?_ ?_)
   | (with_reducible refine LeO.bind ?_ (fun _=>?_))
   | exact ih0 _ _ _
   | exact LeO.none _
   | refine LeO.ite ?_ ?_
   | refine LeO.bind ?_ (fun _=>?_)
theorem laws_toJobS.mono:∀ a0 k,LeO (laws_toJobS.f k a0) (laws_toJobS.f (k + 1) a0):=by
 intro a0 k
 have ih0:=laws_toJobS.mono_l k
 unfold laws_toJobS.f
 repeat' first
   | (with_reducible exact ih0 _ _ _)
   | (with_reducible exact LeO.refl _)
   | (with_reducible exact LeO.none _)
   | (with_reducible refine LeO.ite ?_ ?_)
   | (with_reducible refine LeO.bind ?_ (fun _=>?_))
   | exact ih0 _ _ _
   | exact LeO.none _
   | refine LeO.ite ?_ ?_
   | refine LeO.bind ?_ (fun _=>?_)
set_option maxHeartbeats 8000000 in
set_option maxRecDepth 100000 in
theorem laws_toJobS.calls (k:Nat) (A0:Option Addr) (c0:Nat) (l0:List (S83)) (r:List (S47)) (w:World) (hr0:Kd.C k83 w A0 l0.length l0) (hc0:l0.length≤c0) (h:laws_toJobS.f k l0=some r) :
  Calls Try.prog 11 #[.slice A0 l0.length c0] w fun e w'=>∃ v0_:Value,e=.returned (v0_)∧Kd.R k47 47 w' w.heap.size (fun _=>True) v0_ r∧Below w.heap.size w w':=by
 have hu83:=Try.underlying83
 have hu47:=Try.underlying47
 have HR0:=Aside0.mk hr0
 have HC0:=Aside0.mk hc0
 clear hr0 hc0
 have HB:=Aside0.mk (Below.refl w.heap.size w)
 have H:(if 0≤(l0.length:Int) then (if ((l0.length:Int):Int).toNat≤8796093022208 then (laws_toJobS.l0 k l0 (List.replicate ((l0.length:Int):Int).toNat z47) 0) else (none)) else (none))=some r:=h
 clear h
 by_cases c2:0≤(l0.length:Int)
 ·rw [if_pos c2] at H
  have c2b0:=eq_true c2
  have c2b1:decide (0≤(l0.length:Int))=true:=decide_eq_true c2
  clear c2
  by_cases c3:((l0.length:Int):Int).toNat≤8796093022208
  ·rw [if_pos c3] at H
   have c3b0:=eq_true c3
   have c3b1:decide (((l0.length:Int):Int).toNat≤8796093022208)=true:=decide_eq_true c3
   clear c3
   obtain ⟨y271,hy271⟩:∃ y_:List (S47),y_=(List.replicate ((l0.length:Int):Int).toNat z47):=⟨_,rfl⟩
   replace H:(laws_toJobS.l0 k l0 y271 0)=some r:=by first|(rw [hy271];with_reducible exact H)|(have H2_:=(Option.bind_some _ _).symm.trans H;rw [hy271];with_reducible exact H2_)|(have H2_:=(Option.bind_some _ _).symm.trans H;with_reducible exact H2_)|with_reducible exact H|(rw [hy271];exact H)|exact H
   have Ny271:=Aside0.mk hy271
   clear hy271
   have H':=Aside0.mk H
   clear H
   go_enter Try.func11,Try.ntmps11
   go_wp2_with (first|((with_reducible refine gate_dst (N:=7) rfl ?_);refine Kd.R_make k47 _ 47 rfl (N:=7) rfl 27 _ _ rfl (l0.length:Int) rfl rfl Try.underlying27 (.agg #[(.int .i64 0),(.int .i64 0),(.int .i64 0),(.int .i64 0)]) 32 info47 rfl (by decide) (by omega) z47 (ok:=fun _=>True) (okp:=fun _=>True) (k47_mkM _ _ _ z47) (fun _ hk=>hk) trivial (of_decide_eq_true za) (Nat.le_trans (Nat.mul_le_mul_right _ (of_decide_eq_true za:(l0.length:Int).toNat≤8796093022208)) (by omega)) (Below.refl _ _) (Nat.le_refl _) ?_;intro v272 w4 ho5 hb hg_ hnew_;clear hg_ hnew_;(first|rw [←Ny271.out] at ho5|(simp only [Int.reduceToNat] at ho5;rw [←Ny271.out] at ho5));have n0_:=Aside0.mk (Kd.R_lower ho5 (below_size zb));have n1_:=Aside0.mk (below_step zb hb);clear HB;have HO273:=n0_;have HB:=n1_;clear n0_ n1_;clear hb ho5))
   go_loopg [4] k (fun kq v4 w'=>∃ (x3_1:List (S47)) (x4_1:Int),v4=.int .i64 x4_1∧Aside0 (laws_toJobS.l0 kq l0 x3_1 x4_1=some r)∧Aside0 (kq≤k)∧Aside0 (Kd.R k47 47 w' w.heap.size (fun _=>True) v272 x3_1)∧Aside0 (Below w.heap.size w w'))
   case atStart=>exact ⟨(y271),(0),zo,H',⟨Nat.le_refl _⟩,⟨zR HO273.out⟩,⟨zb⟩⟩
   case round=>
    clear H'
    (try clear c1);(try clear c2);(try clear c2b0);(try clear c2b1);(try clear p2);(try clear c3);(try clear c3b0);(try clear c3b1)
    obtain ⟨x3_1,x4_1,rfl,HA,HK1,HO_3,HB⟩:=hrel
    cases gk with
    | zero=>exact absurd HA.out (by simp [laws_toJobS.l0])
    | succ k1=>
     have H:=HA.out
     clear HA
     simp only [laws_toJobS.l0] at H
     by_cases c6:x4_1<(l0.length:Int)
     ·rw [if_pos c6] at H
      have c6b0:decide (x4_1<(l0.length:Int))=true:=decide_eq_true c6
      clear c6
      by_cases c7:0≤x4_1
      ·rw [if_pos c7] at H
       have c7b0:decide (0≤x4_1)=true:=decide_eq_true c7
       clear c7
       replace H:=Option.bind_eq_some_iff.mp H
       obtain ⟨⟨t275,t276,t277,t278⟩,A80,H⟩:=H
       replace H:(if x4_1<(x3_1.length:Int) then (laws_toJobS.l0 k1 l0 (x3_1.set (x4_1:Int).toNat (⟨t275,t276,t277,t278⟩:S47)) (wrap64 (x4_1 + 1))) else (none))=some r:=H
       have A8:=Aside0.mk A80
       clear A80
       by_cases c9:x4_1<(x3_1.length:Int)
       ·rw [if_pos c9] at H
        have c9b0:decide (x4_1<(x3_1.length:Int))=true:=decide_eq_true c9
        clear c9
        obtain ⟨y279,hy279⟩:∃ y_:List (S47),y_=(x3_1.set (x4_1:Int).toNat (⟨t275,t276,t277,t278⟩:S47)):=⟨_,rfl⟩
        replace H:(laws_toJobS.l0 k1 l0 y279 (wrap64 (x4_1 + 1)))=some r:=by first|(rw [hy279];with_reducible exact H)|(have H2_:=(Option.bind_some _ _).symm.trans H;rw [hy279];with_reducible exact H2_)|(have H2_:=(Option.bind_some _ _).symm.trans H;with_reducible exact H2_)|with_reducible exact H|(rw [hy279];exact H)|exact H
        have Ny279:=Aside0.mk hy279
        clear hy279
        have H':=Aside0.mk H
        clear H
        have p274:0≤(x4_1:Int):=of_decide_eq_true za
        have q274:x4_1<(l0.length:Int):=of_decide_eq_true za
        obtain ⟨ad274,e274,hx274_0,hx274_1,hx274_2,hx274_3⟩:=at_T83 HR0.out x4_1 p274 q274
        cases e274
        replace hx274_0:=(HB.out.cell (World.block_lt_of_cell? w _ hx274_0)).trans hx274_0
        replace hx274_1:=(HB.out.cell (World.block_lt_of_cell? w _ hx274_1)).trans hx274_1
        replace hx274_2:=(HB.out.cell (World.block_lt_of_cell? w _ hx274_2)).trans hx274_2
        replace hx274_3:=(HB.out.cell (World.block_lt_of_cell? w _ hx274_3)).trans hx274_3
        replace p274:=eq_true p274
        replace q274:=eq_true q274
        go_wp2_with (first|((with_reducible refine gate_callee (f:=59) rfl ?_);refine goesL_ (some 20) rfl rfl Try.func59 (by kernel_rfl) rfl #[.agg #[.int .i64 ((rd_T83 l0 x4_1).f0),.int .i64 ((rd_T83 l0 x4_1).f1),.int .i64 ((rd_T83 l0 x4_1).f2),.int .i64 ((rd_T83 l0 x4_1).f3)]] rfl zl ?_;(with_reducible refine (laws_toJob.calls ((rd_T83 l0 x4_1).f0) ((rd_T83 l0 x4_1).f1) ((rd_T83 l0 x4_1).f2) ((rd_T83 l0 x4_1).f3) t275 t276 t277 t278 _ A8.out).mono ?_);rintro e w11 ⟨rfl,hb⟩;refine ⟨_,rfl,?_⟩;have n0_:=Aside0.mk (Kd.R_below (zR HO_3.out) hb);have n1_:=Aside0.mk (below_step zb hb);clear HO_3;clear HB;have HO_3:=n0_;have HB:=n1_;clear n0_ n1_;(try clear hb);(try clear hb2);(try clear hk);(try clear hi);have p10:0≤(x4_1:Int):=of_decide_eq_true za;have q10:(x4_1:Int)<((x3_1.length:Int):Int):=of_decide_eq_true za;obtain ⟨go10,co10,eo10,gb10,gl10,cl10,HG10⟩:=Kd.R_form HO_3.out (by omega);(first|cases eo10|(injection eo10 with ea_ en_ ec_;(first|subst ea_|(injection ea_ with ea_;subst ea_));subst ec_;clear en_));have GB10:=Aside0.mk gb10;have GG10:=Aside0.mk HG10;clear gb10 gl10 HG10;obtain ⟨ce10,hcl10,hM10,hcc10,hfr10⟩:=Kd.R_elem HO_3.out z47 (x4_1:Int) p10 q10;obtain rfl:=k47_openM hM10;have hx10_0:w11.cell? ⟨go10,(x4_1:Int).toNat * 4,none⟩=some (.int .i64 ((rd_T47 x3_1 x4_1).f0)):=hcc10 0 _ rfl;have hx10_1:w11.cell? ⟨go10,(x4_1:Int).toNat * 4 + 1,none⟩=some (.int .i64 ((rd_T47 x3_1 x4_1).f1)):=hcc10 1 _ rfl;have hx10_2:w11.cell? ⟨go10,(x4_1:Int).toNat * 4 + 2,none⟩=some (.int .i64 ((rd_T47 x3_1 x4_1).f2)):=hcc10 2 _ rfl;have hx10_3:w11.cell? ⟨go10,(x4_1:Int).toNat * 4 + 3,none⟩=some (.int .i64 ((rd_T47 x3_1 x4_1).f3)):=hcc10 3 _ rfl;have hf10_0:w11.frozen? ⟨go10,(x4_1:Int).toNat * 4,none⟩=false:=hfr10 0;have hf10_1:w11.frozen? ⟨go10,(x4_1:Int).toNat * 4 + 1,none⟩=false:=hfr10 1;have hf10_2:w11.frozen? ⟨go10,(x4_1:Int).toNat * 4 + 2,none⟩=false:=hfr10 2;have hf10_3:w11.frozen? ⟨go10,(x4_1:Int).toNat * 4 + 3,none⟩=false:=hfr10 3;(clear hcl10 hcc10 hfr10;(try clear hM10));replace p10:=eq_true p10;replace q10:=eq_true q10;have HX12:=Aside0.mk (show Kd.R k47 47 w11 w.heap.size (fun _=>True) (.slice (some ⟨go10,0,none⟩) x3_1.length co10) x3_1 from (zR HO_3.out));obtain ⟨ce12,hcl12,hM12,hcc12,hfr12⟩:=Kd.R_elem HX12.out z47 (x4_1:Int) (of_decide_eq_true za) (by have h_:(x4_1:Int)<((x3_1.length:Int):Int):=of_decide_eq_true za;first|exact h_|(have e_:=(Kd.R_reads' HO_3.out).1;omega)|simpa using h_);obtain rfl:=k47_openM hM12;have HP12:=Kd.R_seg HX12.out (x4_1:Int) (of_decide_eq_true za) (by have h_:(x4_1:Int)<((x3_1.length:Int):Int):=of_decide_eq_true za;first|exact h_|(have e_:=(Kd.R_reads' HO_3.out).1;omega)|simpa using h_) (seg:=[.int .i64 t275,.int .i64 t276,.int .i64 t277,.int .i64 t278]) (j:=0) hcl12 hcc12 (show 4≤4 from by decide) (x':=(⟨t275,t276,t277,t278⟩:S47)) (k47_mkM _ _ _ (⟨t275,t276,t277,t278⟩:S47)) (fun _ hk=>hk);have hx12_0:=hcc12 0 _ rfl;(try simp only [show (k47).sz=4 from rfl,Nat.mul_one,Nat.add_zero] at hx12_0);have hf12_0:=hfr12 0;(try simp only [show (k47).sz=4 from rfl,Nat.mul_one,Nat.add_zero] at hf12_0);have hx12_1:=hcc12 1 _ rfl;(try simp only [show (k47).sz=4 from rfl,Nat.mul_one,Nat.add_zero] at hx12_1);have hf12_1:=hfr12 1;(try simp only [show (k47).sz=4 from rfl,Nat.mul_one,Nat.add_zero] at hf12_1);have hx12_2:=hcc12 2 _ rfl;(try simp only [show (k47).sz=4 from rfl,Nat.mul_one,Nat.add_zero] at hx12_2);have hf12_2:=hfr12 2;(try simp only [show (k47).sz=4 from rfl,Nat.mul_one,Nat.add_zero] at hf12_2);have hx12_3:=hcc12 3 _ rfl;(try simp only [show (k47).sz=4 from rfl,Nat.mul_one,Nat.add_zero] at hx12_3);have hf12_3:=hfr12 3;(try simp only [show (k47).sz=4 from rfl,Nat.mul_one,Nat.add_zero] at hf12_3);(clear hcl12 hcc12 hfr12;(try clear hM12)))|((with_reducible refine gate_store (t:=47) (p:=21) rfl ?_);(try (rw [drewN_self w11];generalize hq_:World.drewN w11 _=w11;have n0_:=Aside0.mk (Kd.R_at hq_ HO_3.out);have n1_:=Aside0.mk (below_at hq_ HB.out);(try replace hx10_0:=cell_at hq_ hx10_0);(try replace hx10_1:=cell_at hq_ hx10_1);(try replace hx10_2:=cell_at hq_ hx10_2);(try replace hx10_3:=cell_at hq_ hx10_3);(try replace hf10_0:=(fun {W_ W2_:World} {n_:Nat} {a_:Addr} {b_:Bool} (h_:W_.drewN n_=W2_) (e_:W_.frozen? a_=b_)=>(by subst h_;exact e_:W2_.frozen? a_=b_)) hq_ hf10_0);(try replace hf10_1:=(fun {W_ W2_:World} {n_:Nat} {a_:Addr} {b_:Bool} (h_:W_.drewN n_=W2_) (e_:W_.frozen? a_=b_)=>(by subst h_;exact e_:W2_.frozen? a_=b_)) hq_ hf10_1);(try replace hf10_2:=(fun {W_ W2_:World} {n_:Nat} {a_:Addr} {b_:Bool} (h_:W_.drewN n_=W2_) (e_:W_.frozen? a_=b_)=>(by subst h_;exact e_:W2_.frozen? a_=b_)) hq_ hf10_2);(try replace hf10_3:=(fun {W_ W2_:World} {n_:Nat} {a_:Addr} {b_:Bool} (h_:W_.drewN n_=W2_) (e_:W_.frozen? a_=b_)=>(by subst h_;exact e_:W2_.frozen? a_=b_)) hq_ hf10_3);(try replace hx12_0:=cell_at hq_ hx12_0);(try replace hf12_0:=(fun {W_ W2_:World} {n_:Nat} {a_:Addr} {b_:Bool} (h_:W_.drewN n_=W2_) (e_:W_.frozen? a_=b_)=>(by subst h_;exact e_:W2_.frozen? a_=b_)) hq_ hf12_0);(try replace hx12_1:=cell_at hq_ hx12_1);(try replace hf12_1:=(fun {W_ W2_:World} {n_:Nat} {a_:Addr} {b_:Bool} (h_:W_.drewN n_=W2_) (e_:W_.frozen? a_=b_)=>(by subst h_;exact e_:W2_.frozen? a_=b_)) hq_ hf12_1);(try replace hx12_2:=cell_at hq_ hx12_2);(try replace hf12_2:=(fun {W_ W2_:World} {n_:Nat} {a_:Addr} {b_:Bool} (h_:W_.drewN n_=W2_) (e_:W_.frozen? a_=b_)=>(by subst h_;exact e_:W2_.frozen? a_=b_)) hq_ hf12_2);(try replace hx12_3:=cell_at hq_ hx12_3);(try replace hf12_3:=(fun {W_ W2_:World} {n_:Nat} {a_:Addr} {b_:Bool} (h_:W_.drewN n_=W2_) (e_:W_.frozen? a_=b_)=>(by subst h_;exact e_:W2_.frozen? a_=b_)) hq_ hf12_3);clear hq_ HO_3 HB;have HO_3:=n0_;have HB:=n1_;clear n0_ n1_;(try (have HX12:=Aside0.mk (show Kd.R k47 47 w11 w.heap.size (fun _=>True) (.slice (some ⟨go10,0,none⟩) x3_1.length co10) x3_1 from (zR HO_3.out))));(try (obtain ⟨ce12,hcl12,hM12,hcc12,hfr12⟩:=Kd.R_elem HX12.out z47 (x4_1:Int) (of_decide_eq_true za) (by have h_:(x4_1:Int)<((x3_1.length:Int):Int):=of_decide_eq_true za;first|exact h_|(have e_:=(Kd.R_reads' HO_3.out).1;omega)|simpa using h_)));(try (obtain rfl:=k47_openM hM12));(try (have HP12:=Kd.R_seg HX12.out (x4_1:Int) (of_decide_eq_true za) (by have h_:(x4_1:Int)<((x3_1.length:Int):Int):=of_decide_eq_true za;first|exact h_|(have e_:=(Kd.R_reads' HO_3.out).1;omega)|simpa using h_) (seg:=[.int .i64 t275,.int .i64 t276,.int .i64 t277,.int .i64 t278]) (j:=0) hcl12 hcc12 (show 4≤4 from by decide) (x':=(⟨t275,t276,t277,t278⟩:S47)) (k47_mkM _ _ _ (⟨t275,t276,t277,t278⟩:S47)) (fun _ hk=>hk)));(try (have hx12_0:=hcc12 0 _ rfl));(try (try simp only [show (k47).sz=4 from rfl,Nat.mul_one,Nat.add_zero] at hx12_0));(try (have hf12_0:=hfr12 0));(try (try simp only [show (k47).sz=4 from rfl,Nat.mul_one,Nat.add_zero] at hf12_0));(try (have hx12_1:=hcc12 1 _ rfl));(try (try simp only [show (k47).sz=4 from rfl,Nat.mul_one,Nat.add_zero] at hx12_1));(try (have hf12_1:=hfr12 1));(try (try simp only [show (k47).sz=4 from rfl,Nat.mul_one,Nat.add_zero] at hf12_1));(try (have hx12_2:=hcc12 2 _ rfl));(try (try simp only [show (k47).sz=4 from rfl,Nat.mul_one,Nat.add_zero] at hx12_2));(try (have hf12_2:=hfr12 2));(try (try simp only [show (k47).sz=4 from rfl,Nat.mul_one,Nat.add_zero] at hf12_2));(try (have hx12_3:=hcc12 3 _ rfl));(try (try simp only [show (k47).sz=4 from rfl,Nat.mul_one,Nat.add_zero] at hx12_3));(try (have hf12_3:=hfr12 3));(try (try simp only [show (k47).sz=4 from rfl,Nat.mul_one,Nat.add_zero] at hf12_3));(try (clear hcl12 hcc12 hfr12;(try clear hM12)))));refine store_event (t:=47) (p:=21) (v:=?vo_w13) (w1:=((((w11.setCell ⟨go10,(x4_1:Int).toNat * 4,none⟩ (.int .i64 t275)).setCell ⟨go10,(x4_1:Int).toNat * 4 + 1,none⟩ (.int .i64 t276)).setCell ⟨go10,(x4_1:Int).toNat * 4 + 2,none⟩ (.int .i64 t277)).setCell ⟨go10,(x4_1:Int).toNat * 4 + 3,none⟩ (.int .i64 t278))) ?hg ?ho ?hn ?hr ?_;(case ho=>rfl);(case hg=>rfl);(case hn=>rfl);(case hr=>first|(go_simp;done)|(go_simp;rfl));intro w13 hw;have hg:w11.grownBy w13 (some go10):=(by rw [hw];exact HP12.2);have hp_:Kd.R k47 47 w13 w.heap.size (fun _=>True) (.slice (some ⟨go10,0,none⟩) x3_1.length co10) y279:=(by rw [hw,Ny279.out];exact HP12.1);clear HP12;have n0_:=Aside0.mk (hp_);have n1_:=Aside0.mk ((by rw [hw];exact below_set (below_set (below_set (below_set (HB.out) GB10.out) GB10.out) GB10.out) GB10.out:Below w.heap.size w w13));clear HO_3;clear HB;have HO_3:=n0_;have HB:=n1_;clear n0_ n1_;clear hg hw hp_))
        go_roundg k1
        case measure=>have:=HK1.out;omega
        case rel=>exact ⟨(y279),(wrap64 (x4_1 + 1)),zo,H',⟨by have:=HK1.out;omega⟩,⟨zR HO_3.out⟩,⟨zb⟩⟩
       ·rw [if_neg c9] at H
        exact absurd H (by simp)
      ·rw [if_neg c7] at H
       exact absurd H (by simp)
     ·rw [if_neg c6] at H
      have c6b0:decide (x4_1<(l0.length:Int))=false:=decide_eq_false c6
      clear c6
      obtain rfl:=Option.some.inj H
      go_wp2
      go_ret
      exact ⟨_,by first|rfl|(simp [errW_none,errW_some] <;> rfl)|(simp [*,errW_none,errW_some] <;> rfl),zR HO_3.out,zb⟩
  ·rw [if_neg c3] at H
   exact absurd H (by simp)
 ·rw [if_neg c2] at H
  exact absurd H (by simp)

end Go.Proofs.Ytplbabjigikgjaa.XFnExactLongestFirst
-- minified
