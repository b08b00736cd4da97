-- Written by a program of this session (the kit's print, widened). Proved here: what each function answers, for the arguments that its contract names.
import Derived.Test.YtbcfmegepkhlpaaXFnExactTailsFirstx0
import Derived.Test.YtbcfmegepkhlpaaXFnExactTailsFirstx10
import Derived.Test.YtbcfmegepkhlpaaXFnExactTailsFirstx12
import Derived.Test.YtbcfmegepkhlpaaXFnExactTailsFirstx13
import Derived.Test.YtbcfmegepkhlpaaXFnExactTailsFirstx16
namespace Go.Proofs.Ytbcfmegepkhlpaa.XFnExactTailsFirst
open Go.RowKit Go.Proofs.YtbcfmegepkhlpaaW.PrintWords Go.Proofs.YtbcfmegepkhlpaaW.PrintLast Go.Proofs.YtbcfmegepkhlpaaW.PrintMore
attribute [local go_sem] max2_int min2_int max_two min_two max_three min_three max_four min_four   -- for this text's walks alone
attribute [local go_sem] idxA_72_0 idxA_72_1 fldS_96_0 fldS_96_1 fldS_96_2 fldS_111_0 fldS_111_1 fldS_111_2
set_option linter.unusedVariables false
set_option linter.unusedSimpArgs false

/-! ### spec_l7Tails: function 77 -/
def spec_l7Tails.l0:Nat→List (S76)→List Int→List (List Bool)→Int→Option (List Int)
 | 0,_,_,_,_=>none
 | k + 1,x0,x5,x6,x7=>if x7<(x0.length:Int) then ((spec_l7Tail.f k x0 x6 x7).bind fun t298=>(if x5.length<17592186044416 then (spec_l7Tails.l0 k x0 (x5++[t298]) x6 (wrap64 (x7 + 1))) else (none))) else (some x5)
def spec_l7Tails.f (k:Nat) (l0:List (S76)) (l1:List (S72)):Option (List Int):=(spec_l4Table.f k (l0.length:Int) l1).bind fun t295=>(spec_l7Tails.l0 k l0 (([]:List Int)) t295 0)
theorem spec_l7Tails.mono_l:∀ k,(∀ y0 y1 y2 y3,LeO (spec_l7Tails.l0 k y0 y1 y2 y3) (spec_l7Tails.l0 (k + 1) y0 y1 y2 y3))
 | 0=>fun _ _ _ _ r h=>by simp [spec_l7Tails.l0] at h
 | k + 1=>by
  have ih0:=spec_l7Tails.mono_l k
  ·intro y0 y1 y2 y3
   unfold spec_l7Tails.l0
   repeat' first
   | (with_reducible exact ih0 _ _ _ _)
   | (with_reducible exact spec_l4Table.mono _ _ _)
   | (with_reducible exact spec_l7Tail.mono _ _ _ _)
   | (with_reducible exact LeO.refl _)
   | (with_reducible exact LeO.none _)
   | (with_reducible refine LeO.ite ?_ ?_)
   | (with_reducible refine LeO.bind ?_ (fun _=>?_))
   | exact ih0 _ _ _ _
   | exact spec_l4Table.mono _ _ _
   | exact spec_l7Tail.mono _ _ _ _
   | exact LeO.none _
   | refine LeO.ite ?_ ?_
   | refine LeO.bind ?_ (fun _=>?_)
theorem spec_l7Tails.mono:∀ a0 a1 k,LeO (spec_l7Tails.f k a0 a1) (spec_l7Tails.f (k + 1) a0 a1):=by
 intro a0 a1 k
 have ih0:=spec_l7Tails.mono_l k
 unfold spec_l7Tails.f
 repeat' first
   | (with_reducible exact ih0 _ _ _ _)
   | (with_reducible exact spec_l4Table.mono _ _ _)
   | (with_reducible exact spec_l7Tail.mono _ _ _ _)
   | (with_reducible exact LeO.refl _)
   | (with_reducible exact LeO.none _)
   | (with_reducible refine LeO.ite ?_ ?_)
   | (with_reducible refine LeO.bind ?_ (fun _=>?_))
   | exact ih0 _ _ _ _
   | exact spec_l4Table.mono _ _ _
   | exact spec_l7Tail.mono _ _ _ _
   | exact LeO.none _
   | refine LeO.ite ?_ ?_
   | refine LeO.bind ?_ (fun _=>?_)
set_option maxHeartbeats 8000000 in
set_option maxRecDepth 100000 in
theorem spec_l7Tails.calls (k:Nat) (A0:Option Addr) (c0:Nat) (l0:List (S76)) (A1:Option Addr) (c1:Nat) (l1:List (S72)) (r:List Int) (w:World) (hr0:Kd.C k76 w A0 l0.length l0) (hc0:l0.length≤c0) (hr1:Kd.C k72 w A1 l1.length l1) (hc1:l1.length≤c1) (h:spec_l7Tails.f k l0 l1=some r) :
  Calls Try.prog 77 #[.slice A0 l0.length c0,.slice A1 l1.length c1] w fun e w'=>∃ v0_:Value,e=.returned (v0_)∧Kd.R (Kd.int .i64) 3 w' w.heap.size (fun _=>True) v0_ r∧Below w.heap.size w w':=by
 have HR0:=Aside0.mk hr0
 have HC0:=Aside0.mk hc0
 clear hr0 hc0
 have HR1:=Aside0.mk hr1
 have HC1:=Aside0.mk hc1
 clear hr1 hc1
 have HB:=Aside0.mk (Below.refl w.heap.size w)
 have H:((spec_l4Table.f k (l0.length:Int) l1).bind fun t295=>(spec_l7Tails.l0 k l0 (([]:List Int)) t295 0))=some r:=h
 clear h
 obtain ⟨y292,hy292⟩:∃ y_:List Int,y_=(([]:List Int)):=⟨_,rfl⟩
 replace H:((spec_l4Table.f k (l0.length:Int) l1).bind fun t295=>(spec_l7Tails.l0 k l0 y292 t295 0))=some r:=by first|(rw [hy292];with_reducible exact H)|(have H2_:=(Option.bind_some _ _).symm.trans H;rw [hy292];with_reducible exact H2_)|(have H2_:=(Option.bind_some _ _).symm.trans H;with_reducible exact H2_)|with_reducible exact H|(rw [hy292];exact H)|exact H
 have Ny292:=Aside0.mk hy292
 clear hy292
 replace H:=Option.bind_eq_some_iff.mp H
 obtain ⟨t295,A30,H⟩:=H
 replace H:(spec_l7Tails.l0 k l0 y292 t295 0)=some r:=H
 have A3:=Aside0.mk A30
 clear A30
 have H':=Aside0.mk H
 clear H
 go_enter Try.func77,Try.ntmps77
 go_wp2_with (first|((with_reducible refine gate_dst (N:=8) rfl ?_);refine Kd.R_lit (Kd.int .i64) _ 3 ?hg (N:=8) ?hd (xs:=([]:List Int)) (inner:=[]) (ok:=fun _=>True) (okp:=fun _=>True) ?hr ?hp (fun _ hk=>hk) trivial (Below.refl _ _) (Nat.le_refl _) (by simp) ?_;(case hd=>rfl);(case hg=>rfl);(case hr=>first|(go_simp;done)|(go_simp;rfl));(case hp=>exact (Reps.none _ _));intro v293 w4 ho5 hb hg_ hnew_;clear hg_ hnew_;(first|rw [←Ny292.out] at ho5|(simp only [Int.reduceToNat] at ho5;rw [←Ny292.out] at ho5));have n0_:=Aside0.mk (Kd.R_lower ho5 (below_size zb));have n1_:=Aside0.mk (below_step zb hb);clear HB;have HO294:=n0_;have HB:=n1_;clear n0_ n1_;clear hb ho5)|((with_reducible refine gate_callee (f:=107) rfl ?_);refine goesL_ (some 12) rfl rfl Try.func107 (by kernel_rfl) rfl #[.int .i64 (l0.length:Int),.slice A1 l1.length c1] rfl zl ?_;(with_reducible refine (spec_l4Table.calls k (l0.length:Int) _ _ l1 t295 _ ?side1 ?side2 A3.out).mono ?_);(case side1=>exact zC (Kd.C_below HR1.out HB.out));(case side2=>exact HC1.out);rintro e w6 ⟨v296,rfl,ho0,hb⟩;refine ⟨_,rfl,?_⟩;have n0_:=Aside0.mk (Kd.R_below (zR HO294.out) hb);have n1_:=Aside0.mk (Kd.S_lower ho0 (below_size zb));have n2_:=Aside0.mk (below_step zb hb);clear HO294;clear HB;have HO294:=n0_;have HO297:=n1_;have HB:=n2_;clear n0_ n1_ n2_;(try clear hb);(try clear hb2);(try clear hk);(try clear hi);(try clear ho0)))
 go_loopg [5,7] k (fun kq v5 v7 w'=>∃ (x5_1:List Int) (x7_1:Int),v7=.int .i64 x7_1∧Aside0 (spec_l7Tails.l0 kq l0 x5_1 t295 x7_1=some r)∧Aside0 (kq≤k)∧Aside0 (Kd.R (Kd.int .i64) 3 w' w.heap.size (fun _=>True) v5 x5_1)∧Aside0 (Kd.S (Kd.slice 4 Kd.bool) 127 w' w.heap.size (fun _=>True) v296 t295)∧Aside0 (Below w.heap.size w w'))
 case atStart=>exact ⟨(y292),(0),zo,H',⟨Nat.le_refl _⟩,⟨zR HO294.out⟩,⟨zS HO297.out⟩,⟨zb⟩⟩
 case round=>
  clear H'
  (try clear c1);(try clear p2)
  obtain ⟨x5_1,x7_1,rfl,HA,HK1,HO_5,HO_6,HB⟩:=hrel
  cases gk with
  | zero=>exact absurd HA.out (by simp [spec_l7Tails.l0])
  | succ k1=>
   have H:=HA.out
   clear HA
   simp only [spec_l7Tails.l0] at H
   by_cases c7:x7_1<(l0.length:Int)
   ·rw [if_pos c7] at H
    have c7b0:decide (x7_1<(l0.length:Int))=true:=decide_eq_true c7
    clear c7
    replace H:=Option.bind_eq_some_iff.mp H
    obtain ⟨t298,A80,H⟩:=H
    replace H:(if x5_1.length<17592186044416 then (spec_l7Tails.l0 k1 l0 (x5_1++[t298]) t295 (wrap64 (x7_1 + 1))) else (none))=some r:=H
    have A8:=Aside0.mk A80
    clear A80
    by_cases c9:x5_1.length<17592186044416
    ·rw [if_pos c9] at H
     have LMc9:=Aside0.mk c9
     clear c9
     obtain ⟨y299,hy299⟩:∃ y_:List Int,y_=(x5_1++[t298]):=⟨_,rfl⟩
     replace H:(spec_l7Tails.l0 k1 l0 y299 t295 (wrap64 (x7_1 + 1)))=some r:=by first|(rw [hy299];with_reducible exact H)|(have H2_:=(Option.bind_some _ _).symm.trans H;rw [hy299];with_reducible exact H2_)|(have H2_:=(Option.bind_some _ _).symm.trans H;with_reducible exact H2_)|with_reducible exact H|(rw [hy299];exact H)|exact H
     have Ny299:=Aside0.mk hy299
     clear hy299
     have H':=Aside0.mk H
     clear H
     obtain ⟨Ao10,co10,eo10⟩:=Kd.S_slice HO_6.out
     subst eo10
     go_wp2_with (first|((with_reducible refine gate_callee (f:=133) rfl ?_);refine goesL_ (some 23) rfl rfl Try.func133 (by kernel_rfl) rfl #[.slice A0 l0.length c0,.slice Ao10 t295.length co10,.int .i64 x7_1] rfl zl ?_;(with_reducible refine (spec_l7Tail.calls k1 _ _ l0 _ _ t295 x7_1 t298 _ ?side1 ?side2 ?side3 ?side4 A8.out).mono ?_);(case side1=>exact zC (Kd.C_below HR0.out HB.out));(case side2=>exact HC0.out);(case side3=>exact zC ((Kd.S_reads' HO_6.out).2.2));(case side4=>exact (Kd.S_reads' HO_6.out).2.1);rintro e w' ⟨rfl,⟨nd,rfl⟩⟩;refine ⟨_,rfl,?_⟩)|((with_reducible refine gate_builtin (b:=.append) (xs:=#[.tmp 19,.tmp 24]) rfl ?_);at_builtin;refine Kd.R_append (Kd.int .i64) (w0:=w) w.heap.size rfl (.tmp 19) (.tmp 24) 43 3 (.int .i64 0) 8 rfl Try.underlying43 info3 rfl (by decide) (by omega) u5 x5_1 t298 [.int .i64 t298] (fun _=>True) (fun _=>False) rfl rfl ?aP (fun _ hk=>hk.elim) ?aF ?aO ?aB ?aS ?aL ?_;(case aP=>exact rfl);(case aB=>exact zb);(case aF=>exact (fun _ _=>trivial));(case aO=>exact (zR HO_5.out));(case aS=>exact (below_size zb));(case aL=>have:=LMc9.out;omega);intro v300 w11 ho hb hg hat;rw [←Ny299.out] at ho;have n0_:=Aside0.mk (Kd.S_over' (zS HO_6.out) (Kd.R_typed (zR HO_5.out)) (by decide) hg);have n1_:=Aside0.mk (hb);have n2_:=Aside0.mk (ho);clear HO_6;clear HB;clear HO_5;have HO_6:=n0_;have HB:=n1_;have HO301:=n2_;clear n0_ n1_ n2_;clear ho hb hg hat))
     go_roundg k1
     case measure=>have:=HK1.out;omega
     case rel=>exact ⟨(y299),(wrap64 (x7_1 + 1)),zo,H',⟨by have:=HK1.out;omega⟩,⟨zR HO301.out⟩,⟨zS HO_6.out⟩,⟨zb⟩⟩
    ·rw [if_neg c9] at H
     exact absurd H (by simp)
   ·rw [if_neg c7] at H
    have c7b0:decide (x7_1<(l0.length:Int))=false:=decide_eq_false c7
    clear c7
    obtain rfl:=Option.some.inj H
    go_wp2
    go_ret
    exact ⟨_,by first|rfl|(simp [errW_none,errW_some] <;> rfl)|(simp [*,errW_none,errW_some] <;> rfl),zR HO_5.out,zb⟩

/-! ### spec_TailsFirst: function 34 -/
def spec_TailsFirst.f (k:Nat) (l0:List (S76)) (a1:Int) (l2:List (S72)):Option ((List (S92)) × Bool):=(spec_l7Good.f k l0 a1 l2).bind fun t302=>(if t302=true then ((spec_l7Tails.f k l0 l2).bind fun t303=>((spec_l7Falling.f k t303).bind fun t306=>((spec_l7List.f k l0 a1 l2 t306).bind fun t309=>(some (t309,true))))) else (some ((([]:List (S92))),false)))
theorem spec_TailsFirst.mono:∀ a0 a1 a2 k,LeO (spec_TailsFirst.f k a0 a1 a2) (spec_TailsFirst.f (k + 1) a0 a1 a2):=by
 intro a0 a1 a2 k
 unfold spec_TailsFirst.f
 repeat' first
   | (with_reducible exact spec_l7Falling.mono _ _)
   | (with_reducible exact spec_l7Good.mono _ _ _ _)
   | (with_reducible exact spec_l7List.mono _ _ _ _ _)
   | (with_reducible exact spec_l7Tails.mono _ _ _)
   | (with_reducible exact LeO.refl _)
   | (with_reducible exact LeO.none _)
   | (with_reducible refine LeO.ite ?_ ?_)
   | (with_reducible refine LeO.bind ?_ (fun _=>?_))
   | exact spec_l7Falling.mono _ _
   | exact spec_l7Good.mono _ _ _ _
   | exact spec_l7List.mono _ _ _ _ _
   | exact spec_l7Tails.mono _ _ _
   | exact LeO.none _
   | refine LeO.ite ?_ ?_
   | refine LeO.bind ?_ (fun _=>?_)
set_option maxHeartbeats 8000000 in
set_option maxRecDepth 100000 in
theorem spec_TailsFirst.calls (k:Nat) (A0:Option Addr) (c0:Nat) (l0:List (S76)) (a1:Int) (A2:Option Addr) (c2:Nat) (l2:List (S72)) (r1:List (S92)) (r2:Bool) (w:World) (hr0:Kd.C k76 w A0 l0.length l0) (hc0:l0.length≤c0) (hr2:Kd.C k72 w A2 l2.length l2) (hc2:l2.length≤c2) (h:spec_TailsFirst.f k l0 a1 l2=some (r1,r2)) :
  Calls Try.prog 34 #[.slice A0 l0.length c0,.int .i64 a1,.slice A2 l2.length c2] w fun e w'=>∃ v0_:Value,e=.returned (.tuple #[v0_,.bool r2])∧Kd.R k92 92 w' w.heap.size (fun _=>True) v0_ r1∧Below w.heap.size w w':=by
 have HR0:=Aside0.mk hr0
 have HC0:=Aside0.mk hc0
 clear hr0 hc0
 have HR2:=Aside0.mk hr2
 have HC2:=Aside0.mk hc2
 clear hr2 hc2
 have HB:=Aside0.mk (Below.refl w.heap.size w)
 have H:((spec_l7Good.f k l0 a1 l2).bind fun t302=>(if t302=true then ((spec_l7Tails.f k l0 l2).bind fun t303=>((spec_l7Falling.f k t303).bind fun t306=>((spec_l7List.f k l0 a1 l2 t306).bind fun t309=>(some (t309,true))))) else (some ((([]:List (S92))),false))))=some (r1,r2):=h
 clear h
 replace H:=Option.bind_eq_some_iff.mp H
 obtain ⟨t302,A40,H⟩:=H
 replace H:(if t302=true then ((spec_l7Tails.f k l0 l2).bind fun t303=>((spec_l7Falling.f k t303).bind fun t306=>((spec_l7List.f k l0 a1 l2 t306).bind fun t309=>(some (t309,true))))) else (some ((([]:List (S92))),false)))=some (r1,r2):=H
 have A4:=Aside0.mk A40
 clear A40
 by_cases c5:t302=true
 ·subst c5
  have H1:((spec_l7Tails.f k l0 l2).bind fun t303=>((spec_l7Falling.f k t303).bind fun t306=>((spec_l7List.f k l0 a1 l2 t306).bind fun t309=>(some (t309,true)))))=some (r1,r2):=by rw [if_pos rfl] at H;exact H
  clear H
  have H:=H1
  clear H1
  replace H:=Option.bind_eq_some_iff.mp H
  obtain ⟨t303,A60,H⟩:=H
  replace H:((spec_l7Falling.f k t303).bind fun t306=>((spec_l7List.f k l0 a1 l2 t306).bind fun t309=>(some (t309,true))))=some (r1,r2):=H
  have A6:=Aside0.mk A60
  clear A60
  replace H:=Option.bind_eq_some_iff.mp H
  obtain ⟨t306,A70,H⟩:=H
  replace H:((spec_l7List.f k l0 a1 l2 t306).bind fun t309=>(some (t309,true)))=some (r1,r2):=H
  have A7:=Aside0.mk A70
  clear A70
  replace H:=Option.bind_eq_some_iff.mp H
  obtain ⟨t309,A80,H⟩:=H
  replace H:(some (t309,true))=some (r1,r2):=H
  have A8:=Aside0.mk A80
  clear A80
  simp only [Option.some.injEq,Prod.mk.injEq] at H
  obtain ⟨rfl,rfl⟩:=H
  go_enter Try.func34,Try.ntmps34
  go_wp2_with (first|((with_reducible refine gate_callee (f:=76) rfl ?_);refine goesL_ (some 11) rfl rfl Try.func76 (by kernel_rfl) rfl #[.slice A0 l0.length c0,.int .i64 a1,.slice A2 l2.length c2] rfl zl ?_;(with_reducible refine (spec_l7Good.calls k _ _ l0 a1 _ _ l2 true _ ?side1 ?side2 ?side3 ?side4 A4.out).mono ?_);(case side1=>exact zC HR0.out);(case side2=>exact HC0.out);(case side3=>exact zC HR2.out);(case side4=>exact HC2.out);rintro e w9 ⟨rfl,hb⟩;refine ⟨_,rfl,?_⟩;have n0_:=Aside0.mk (below_step zb hb);clear HB;have HB:=n0_;clear n0_;(try clear hb);(try clear hb2);(try clear hk);(try clear hi))|((with_reducible refine gate_callee (f:=77) rfl ?_);refine goesL_ (some 19) rfl rfl Try.func77 (by kernel_rfl) rfl #[.slice A0 l0.length c0,.slice A2 l2.length c2] rfl zl ?_;(with_reducible refine (spec_l7Tails.calls k _ _ l0 _ _ l2 t303 _ ?side1 ?side2 ?side3 ?side4 A6.out).mono ?_);(case side1=>exact zC (Kd.C_below HR0.out HB.out));(case side2=>exact HC0.out);(case side3=>exact zC (Kd.C_below HR2.out HB.out));(case side4=>exact HC2.out);rintro e w10 ⟨v304,rfl,ho0,hb⟩;refine ⟨_,rfl,?_⟩;have n0_:=Aside0.mk (Kd.R_lower ho0 (below_size zb));have n1_:=Aside0.mk (below_step zb hb);clear HB;have HO305:=n0_;have HB:=n1_;clear n0_ n1_;(try clear hb);(try clear hb2);(try clear hk);(try clear hi);(try clear ho0);obtain ⟨Ao11,co11,eo11⟩:=Kd.R_slice HO305.out;subst eo11)|((with_reducible refine gate_callee (f:=59) rfl ?_);refine goesL_ (some 20) rfl rfl Try.func59 (by kernel_rfl) rfl #[.slice Ao11 t303.length co11] rfl zl ?_;(with_reducible refine (spec_l7Falling.calls k _ _ t303 t306 _ ?side1 ?side2 A7.out).mono ?_);(case side1=>exact zC ((Kd.R_reads' HO305.out).2.2));(case side2=>exact (Kd.R_reads' HO305.out).2.1);rintro e w12 ⟨v307,rfl,ho0,hb⟩;refine ⟨_,rfl,?_⟩;have n0_:=Aside0.mk (Kd.R_elder' (zR HO305.out) (Kd.R_base ho0) hb);have n1_:=Aside0.mk (Kd.R_lower (Kd.R_new' ho0 (Kd.R_lt (zR HO305.out))) (below_size zb));have n2_:=Aside0.mk (below_step zb hb);clear HO305;clear HB;have HO305:=n0_;have HO308:=n1_;have HB:=n2_;clear n0_ n1_ n2_;(try clear hb);(try clear hb2);(try clear hk);(try clear hi);(try clear ho0);obtain ⟨Ao13,co13,eo13⟩:=Kd.R_slice HO308.out;subst eo13)|((with_reducible refine gate_callee (f:=57) rfl ?_);refine goesL_ (some 21) rfl rfl Try.func57 (by kernel_rfl) rfl #[.slice A0 l0.length c0,.int .i64 a1,.slice A2 l2.length c2,.slice Ao13 t306.length co13] rfl zl ?_;(with_reducible refine (spec_l7List.calls k _ _ l0 a1 _ _ l2 _ _ t306 t309 _ ?side1 ?side2 ?side3 ?side4 ?side5 ?side6 A8.out).mono ?_);(case side1=>exact zC (Kd.C_below HR0.out HB.out));(case side2=>exact HC0.out);(case side3=>exact zC (Kd.C_below HR2.out HB.out));(case side4=>exact HC2.out);(case side5=>exact zC ((Kd.R_reads' HO308.out).2.2));(case side6=>exact (Kd.R_reads' HO308.out).2.1);rintro e w14 ⟨v310,rfl,ho0,hb⟩;refine ⟨_,rfl,?_⟩;have n0_:=Aside0.mk (Kd.R_below (zR HO305.out) hb);have n1_:=Aside0.mk (Kd.R_below (zR HO308.out) hb);have n2_:=Aside0.mk (Kd.R_lower ho0 (below_size zb));have n3_:=Aside0.mk (below_step zb hb);clear HO305;clear HO308;clear HB;have HO305:=n0_;have HO308:=n1_;have HO311:=n2_;have HB:=n3_;clear n0_ n1_ n2_ n3_;(try clear hb);(try clear hb2);(try clear hk);(try clear hi);(try clear ho0)))
  go_ret2
  exact ⟨_,by first|rfl|(simp [errW_none,errW_some] <;> rfl)|(simp [*,errW_none,errW_some] <;> rfl),zR HO311.out,zb⟩
 ·replace c5:=Bool.eq_false_iff.mpr c5
  subst c5
  have H1:(some ((([]:List (S92))),false))=some (r1,r2):=by rw [if_neg (show ¬ (false=true) by decide)] at H;exact H
  clear H
  have H:=H1
  clear H1
  obtain ⟨y312,hy312⟩:∃ y_:List (S92),y_=(([]:List (S92))):=⟨_,rfl⟩
  replace H:(some (y312,false))=some (r1,r2):=by first|(rw [hy312];with_reducible exact H)|(have H2_:=(Option.bind_some _ _).symm.trans H;rw [hy312];with_reducible exact H2_)|(have H2_:=(Option.bind_some _ _).symm.trans H;with_reducible exact H2_)|with_reducible exact H|(rw [hy312];exact H)|exact H
  have Ny312:=Aside0.mk hy312
  clear hy312
  simp only [Option.some.injEq,Prod.mk.injEq] at H
  obtain ⟨rfl,rfl⟩:=H
  go_enter Try.func34,Try.ntmps34
  go_wp2_with (first|((with_reducible refine gate_callee (f:=76) rfl ?_);refine goesL_ (some 11) rfl rfl Try.func76 (by kernel_rfl) rfl #[.slice A0 l0.length c0,.int .i64 a1,.slice A2 l2.length c2] rfl zl ?_;(with_reducible refine (spec_l7Good.calls k _ _ l0 a1 _ _ l2 false _ ?side1 ?side2 ?side3 ?side4 A4.out).mono ?_);(case side1=>exact zC HR0.out);(case side2=>exact HC0.out);(case side3=>exact zC HR2.out);(case side4=>exact HC2.out);rintro e w15 ⟨rfl,hb⟩;refine ⟨_,rfl,?_⟩;have n0_:=Aside0.mk (below_step zb hb);clear HB;have HB:=n0_;clear n0_;(try clear hb);(try clear hb2);(try clear hk);(try clear hi))|((with_reducible refine gate_dst (N:=13) rfl ?_);refine Kd.R_lit k92 _ 92 ?hg (N:=13) ?hd (xs:=([]:List (S92))) (inner:=[]) (ok:=fun _=>True) (okp:=fun _=>True) ?hr ?hp (fun _ hk=>hk) trivial (Below.refl _ _) (Nat.le_refl _) (by simp) ?_;(case hd=>rfl);(case hg=>rfl);(case hr=>first|(go_simp;done)|(go_simp;rfl));(case hp=>exact (Reps.none _ _));intro v313 w16 ho17 hb hg_ hnew_;clear hg_ hnew_;(first|rw [←Ny312.out] at ho17|(simp only [Int.reduceToNat] at ho17;rw [←Ny312.out] at ho17));have n0_:=Aside0.mk (Kd.R_lower ho17 (below_size zb));have n1_:=Aside0.mk (below_step zb hb);clear HB;have HO314:=n0_;have HB:=n1_;clear n0_ n1_;clear hb ho17))
  go_ret2
  exact ⟨_,by first|rfl|(simp [errW_none,errW_some] <;> rfl)|(simp [*,errW_none,errW_some] <;> rfl),zR HO314.out,zb⟩

end Go.Proofs.Ytbcfmegepkhlpaa.XFnExactTailsFirst
-- minified
