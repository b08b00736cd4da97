-- Written by a program of this session (the kit's print, widened). Proved here: what each function answers, for the arguments that its contract names.
import Derived.Test.YtbcfmegepkhlpaaXFnExactLabelPlanx0
import Derived.Test.YtbcfmegepkhlpaaXFnExactLabelPlanx15
import Derived.Test.YtbcfmegepkhlpaaXFnExactLabelPlanx18
import Derived.Test.YtbcfmegepkhlpaaXFnExactLabelPlanx19
namespace Go.Proofs.Ytbcfmegepkhlpaa.XFnExactLabelPlan
open Go.RowKit Go.Proofs.YtbcfmegepkhlpaaW.PrintWords Go.Proofs.YtbcfmegepkhlpaaW.PrintLast Go.Proofs.YtbcfmegepkhlpaaW.PrintMore
attribute [local go_sem] max2_int min2_int max_two min_two max_three min_three max_four min_four   -- for this text's walks alone
attribute [local go_sem] idxA_72_0 idxA_72_1 fldS_96_0 fldS_96_1 fldS_96_2 fldS_111_0 fldS_111_1 fldS_111_2
set_option linter.unusedVariables false
set_option linter.unusedSimpArgs false

/-! ### impl_labelsOf: function 63 -/
mutual
def impl_labelsOf.l0:Nat→Int→List (List Int)→List (S72)→Int→Int→Option (List Int)
 | 0,_,_,_,_,_=>none
 | k + 1,x0,x5,x22,x23,x24=>if x24<x23 then (if 0≤x24 then (if x24<(x22.length:Int) then (if 0≤((rd_T72 x22 x24).f0) then (if ((rd_T72 x22 x24).f0)<(x5.length:Int) then (if (rd_L6 x5 ((rd_T72 x22 x24).f0)).length<17592186044416 then (impl_labelsOf.l0 k x0 (x5.set (((rd_T72 x22 x24).f0):Int).toNat ((rd_L6 x5 ((rd_T72 x22 x24).f0))++[(rd_T72 x22 x24).f1])) x22 x23 (wrap64 (x24 + 1))) else (none)) else (none)) else (none)) else (none)) else (none)) else (if 0≤x0 then (if (x0:Int).toNat≤35184372088832 then (impl_labelsOf.l1 k x0 x5 (List.replicate (x0:Int).toNat 0) 1) else (none)) else (none))
def impl_labelsOf.l1:Nat→Int→List (List Int)→List Int→Int→Option (List Int)
 | 0,_,_,_,_=>none
 | k + 1,x0,x5,x8,x9=>if x9≤x0 then (impl_labelsOf.l2 k x0 x5 x8 x9 (-1) ([]:List Int) (x8.length:Int) 0) else (some x8)
def impl_labelsOf.l2:Nat→Int→List (List Int)→List Int→Int→Int→List Int→Int→Int→Option (List Int)
 | 0,_,_,_,_,_,_,_,_=>none
 | k + 1,x0,x5,x8,x9,x10,x11,x50,x51=>if x51<x50 then (if 0≤x51 then (if x51<(x8.length:Int) then (if (rd x8 x51)>0 then (impl_labelsOf.l2 k x0 x5 x8 x9 x10 x11 x50 (wrap64 (x51 + 1))) else (if x51<(x5.length:Int) then (impl_labelsOf.l3 k x0 x5 x8 x9 x10 x11 x51 ([]:List Int) true x50 x51 (rd_L6 x5 x51) ((rd_L6 x5 x51).length:Int) 0) else (none))) else (none)) else (none)) else (if 0≤x10 then (if x10<(x8.length:Int) then (impl_labelsOf.l1 k x0 x5 (x8.set (x10:Int).toNat x9) (wrap64 (x9 + 1))) else (none)) else (none))
def impl_labelsOf.l3:Nat→Int→List (List Int)→List Int→Int→Int→List Int→Int→List Int→Bool→Int→Int→List Int→Int→Int→Option (List Int)
 | 0,_,_,_,_,_,_,_,_,_,_,_,_,_,_=>none
 | k + 1,x0,x5,x8,x9,x10,x11,x12,x13,x14,x50,x51,x62,x63,x64=>if x64<x63 then (if 0≤x64 then (if x64<(x62.length:Int) then (if x14=true then (if 0≤(rd x62 x64) then (if (rd x62 x64)<(x8.length:Int) then (if x13.length<17592186044416 then (impl_labelsOf.l3 k x0 x5 x8 x9 x10 x11 x12 (x13++[rd x8 (rd x62 x64)]) (decide ((rd x8 (rd x62 x64))>0)) x50 x51 x62 x63 (wrap64 (x64 + 1))) else (none)) else (none)) else (none)) else (if 0≤(rd x62 x64) then (if (rd x62 x64)<(x8.length:Int) then (if x13.length<17592186044416 then (impl_labelsOf.l3 k x0 x5 x8 x9 x10 x11 x12 (x13++[rd x8 (rd x62 x64)]) false x50 x51 x62 x63 (wrap64 (x64 + 1))) else (none)) else (none)) else (none))) else (none)) else (none)) else ((impl_sortedDown.f k x13).bind fun t405=>(if x14=true then (if x10<0 then (impl_labelsOf.l2 k x0 x5 x8 x9 x12 t405 x50 (wrap64 (x51 + 1))) else ((impl_compareLists.f k t405 x11).bind fun t408=>(if t408<0 then (impl_labelsOf.l2 k x0 x5 x8 x9 x12 t405 x50 (wrap64 (x51 + 1))) else (impl_labelsOf.l2 k x0 x5 x8 x9 x10 x11 x50 (wrap64 (x51 + 1)))))) else (impl_labelsOf.l2 k x0 x5 x8 x9 x10 x11 x50 (wrap64 (x51 + 1)))))
end
def impl_labelsOf.f (k:Nat) (a0:Int) (l1:List (S72)):Option (List Int):=if 0≤a0 then (if (a0:Int).toNat≤11728124029610 then ((impl_closure.f k a0 l1).bind fun t376=>((impl_reduction.f k t376).bind fun t379=>(impl_labelsOf.l0 k a0 (List.replicate (a0:Int).toNat []) t379 (t379.length:Int) 0))) else (none)) else (none)
theorem impl_labelsOf.mono_l:∀ k,(∀ y0 y1 y2 y3 y4,LeO (impl_labelsOf.l0 k y0 y1 y2 y3 y4) (impl_labelsOf.l0 (k + 1) y0 y1 y2 y3 y4))∧(∀ y0 y1 y2 y3,LeO (impl_labelsOf.l1 k y0 y1 y2 y3) (impl_labelsOf.l1 (k + 1) y0 y1 y2 y3))∧(∀ y0 y1 y2 y3 y4 y5 y6 y7,LeO (impl_labelsOf.l2 k y0 y1 y2 y3 y4 y5 y6 y7) (impl_labelsOf.l2 (k + 1) y0 y1 y2 y3 y4 y5 y6 y7))∧(∀ y0 y1 y2 y3 y4 y5 y6 y7 y8 y9 y10 y11 y12 y13,LeO (impl_labelsOf.l3 k y0 y1 y2 y3 y4 y5 y6 y7 y8 y9 y10 y11 y12 y13) (impl_labelsOf.l3 (k + 1) y0 y1 y2 y3 y4 y5 y6 y7 y8 y9 y10 y11 y12 y13))
 | 0=>⟨fun _ _ _ _ _ r h=>by simp [impl_labelsOf.l0] at h,fun _ _ _ _ r h=>by simp [impl_labelsOf.l1] at h,fun _ _ _ _ _ _ _ _ r h=>by simp [impl_labelsOf.l2] at h,fun _ _ _ _ _ _ _ _ _ _ _ _ _ _ r h=>by simp [impl_labelsOf.l3] at h⟩
 | k + 1=>by
  obtain ⟨ih0,ih1,ih2,ih3⟩:=impl_labelsOf.mono_l k
  refine ⟨?_,?_,?_,?_⟩
  ·intro y0 y1 y2 y3 y4
   unfold impl_labelsOf.l0
   repeat' first
   | (with_reducible exact ih0 _ _ _ _ _)
   | (with_reducible exact ih1 _ _ _ _)
   | (with_reducible exact ih2 _ _ _ _ _ _ _ _)
   | (with_reducible exact ih3 _ _ _ _ _ _ _ _ _ _ _ _ _ _)
   | (with_reducible exact impl_closure.mono _ _ _)
   | (with_reducible exact impl_compareLists.mono _ _ _)
   | (with_reducible exact impl_reduction.mono _ _)
   | (with_reducible exact impl_sortedDown.mono _ _)
   | (with_reducible exact LeO.refl _)
   | (with_reducible exact LeO.none _)
   | (with_reducible refine LeO.ite ?_ ?_)
   | (with_reducible refine LeO.bind ?_ (fun _=>?_))
   | exact ih0 _ _ _ _ _
   | exact ih1 _ _ _ _
   | exact ih2 _ _ _ _ _ _ _ _
   | exact ih3 _ _ _ _ _ _ _ _ _ _ _ _ _ _
   | exact impl_closure.mono _ _ _
   | exact impl_compareLists.mono _ _ _
   | exact impl_reduction.mono _ _
   | exact impl_sortedDown.mono _ _
   | exact LeO.none _
   | refine LeO.ite ?_ ?_
   | refine LeO.bind ?_ (fun _=>?_)
  ·intro y0 y1 y2 y3
   unfold impl_labelsOf.l1
   repeat' first
   | (with_reducible exact ih0 _ _ _ _ _)
   | (with_reducible exact ih1 _ _ _ _)
   | (with_reducible exact ih2 _ _ _ _ _ _ _ _)
   | (with_reducible exact ih3 _ _ _ _ _ _ _ _ _ _ _ _ _ _)
   | (with_reducible exact impl_closure.mono _ _ _)
   | (with_reducible exact impl_compareLists.mono _ _ _)
   | (with_reducible exact impl_reduction.mono _ _)
   | (with_reducible exact impl_sortedDown.mono _ _)
   | (with_reducible exact LeO.refl _)
   | (with_reducible exact LeO.none _)
   | (with_reducible refine LeO.ite ?_ ?_)
   | (with_reducible refine LeO.bind ?_ (fun _=>?_))
   | exact ih0 _ _ _ _ _
   | exact ih1 _ _ _ _
   | exact ih2 _ _ _ _ _ _ _ _
   | exact ih3 _ _ _ _ _ _ _ _ _ _ _ _ _ _
   | exact impl_closure.mono _ _ _
   | exact impl_compareLists.mono _ _ _
   | exact impl_reduction.mono _ _
   | exact impl_sortedDown.mono _ _
   | exact LeO.none _
   | refine LeO.ite ?_ ?_
   | refine LeO.bind ?_ (fun _=>?_)
  ·intro y0 y1 y2 y3 y4 y5 y6 y7
   unfold impl_labelsOf.l2
   repeat' first
   | (with_reducible exact ih0 _ _ _ _ _)
   | (with_reducible exact ih1 _ _ _ _)
   | (with_reducible exact ih2 _ _ _ _ _ _ _ _)
   | (with_reducible exact ih3 _ _ _ _ _ _ _ _ _ _ _ _ _ _)
   | (with_reducible exact impl_closure.mono _ _ _)
   | (with_reducible exact impl_compareLists.mono _ _ _)
   | (with_reducible exact impl_reduction.mono _ _)
   | (with_reducible exact impl_sortedDown.mono _ _)
   | (with_reducible exact LeO.refl _)
   | (with_reducible exact LeO.none _)
   | (with_reducible refine LeO.ite ?_ ?_)
   | (with_reducible refine LeO.bind ?_ (fun _=>?_))
   | exact ih0 _ _ _ _ _
   | exact ih1 _ _ _ _
   | exact ih2 _ _ _ _ _ _ _ _
   | exact ih3 _ _ _ _ _ _ _ _ _ _ _ _ _ _
   | exact impl_closure.mono _ _ _
   | exact impl_compareLists.mono _ _ _
   | exact impl_reduction.mono _ _
   | exact impl_sortedDown.mono _ _
   | exact LeO.none _
   | refine LeO.ite ?_ ?_
   | refine LeO.bind ?_ (fun _=>?_)
  ·intro y0 y1 y2 y3 y4 y5 y6 y7 y8 y9 y10 y11 y12 y13
   unfold impl_labelsOf.l3
   repeat' first
   | (with_reducible exact ih0 _ _ _ _ _)
   | (with_reducible exact ih1 _ _ _ _)
   | (with_reducible exact ih2 _ _ _ _ _ _ _ _)
   | (with_reducible exact ih3 _ _ _ _ _ _ _ _ _ _ _ _ _ _)
   | (with_reducible exact impl_closure.mono _ _ _)
   | (with_reducible exact impl_compareLists.mono _ _ _)
   | (with_reducible exact impl_reduction.mono _ _)
   | (with_reducible exact impl_sortedDown.mono _ _)
   | (with_reducible exact LeO.refl _)
   | (with_reducible exact LeO.none _)
   | (with_reducible refine LeO.ite ?_ ?_)
   | (with_reducible refine LeO.bind ?_ (fun _=>?_))
   | exact ih0 _ _ _ _ _
   | exact ih1 _ _ _ _
   | exact ih2 _ _ _ _ _ _ _ _
   | exact ih3 _ _ _ _ _ _ _ _ _ _ _ _ _ _
   | exact impl_closure.mono _ _ _
   | exact impl_compareLists.mono _ _ _
   | exact impl_reduction.mono _ _
   | exact impl_sortedDown.mono _ _
   | exact LeO.none _
   | refine LeO.ite ?_ ?_
   | refine LeO.bind ?_ (fun _=>?_)
theorem impl_labelsOf.mono:∀ a0 a1 k,LeO (impl_labelsOf.f k a0 a1) (impl_labelsOf.f (k + 1) a0 a1):=by
 intro a0 a1 k
 obtain ⟨ih0,ih1,ih2,ih3⟩:=impl_labelsOf.mono_l k
 unfold impl_labelsOf.f
 repeat' first
   | (with_reducible exact ih0 _ _ _ _ _)
   | (with_reducible exact ih1 _ _ _ _)
   | (with_reducible exact ih2 _ _ _ _ _ _ _ _)
   | (with_reducible exact ih3 _ _ _ _ _ _ _ _ _ _ _ _ _ _)
   | (with_reducible exact impl_closure.mono _ _ _)
   | (with_reducible exact impl_compareLists.mono _ _ _)
   | (with_reducible exact impl_reduction.mono _ _)
   | (with_reducible exact impl_sortedDown.mono _ _)
   | (with_reducible exact LeO.refl _)
   | (with_reducible exact LeO.none _)
   | (with_reducible refine LeO.ite ?_ ?_)
   | (with_reducible refine LeO.bind ?_ (fun _=>?_))
   | exact ih0 _ _ _ _ _
   | exact ih1 _ _ _ _
   | exact ih2 _ _ _ _ _ _ _ _
   | exact ih3 _ _ _ _ _ _ _ _ _ _ _ _ _ _
   | exact impl_closure.mono _ _ _
   | exact impl_compareLists.mono _ _ _
   | exact impl_reduction.mono _ _
   | exact impl_sortedDown.mono _ _
   | exact LeO.none _
   | refine LeO.ite ?_ ?_
   | refine LeO.bind ?_ (fun _=>?_)
def impl_labelsOf.T5:Bool × List (List Nat × List Nat):=(true,[([],[]),([],[]),([1],[1]),([],[]),([],[]),([4],[4]),([3,5],[3,5]),([6],[6]),([],[]),([8],[8]),([9],[9]),([7,10],[7,10]),([0,2,0,1,2,3,4,5,6,7,8,9,10,11],[0,2]),([12,11,11,0,1,2,3,4,5,6,7,8,9,10,11],[11,12])])
def impl_labelsOf.B5:List Nat:=[0,0,2,0,0,16,56,120,0,256,768,2040,4095,8191]
theorem impl_labelsOf.tab5:rtab .any (opsOf Try.f63 5)=impl_labelsOf.T5:=by kernel_rfl
theorem impl_labelsOf.bits5:waitsOk impl_labelsOf.T5.2 impl_labelsOf.B5=true:=by kernel_rfl
set_option maxHeartbeats 8000000 in
set_option maxRecDepth 100000 in
theorem impl_labelsOf.calls (k:Nat) (a0:Int) (A1:Option Addr) (c1:Nat) (l1:List (S72)) (r:List Int) (w:World) (hr1:Kd.C k72 w A1 l1.length l1) (hc1:l1.length≤c1) (h:impl_labelsOf.f k a0 l1=some r) :
  Calls Try.prog 63 #[.int .i64 a0,.slice A1 l1.length c1] w fun e w'=>∃ v0_:Value,e=.returned (v0_)∧Kd.R (Kd.int .i64) 3 w' w.heap.size (fun _=>True) v0_ r∧Below w.heap.size w w':=by
 have hu72:=Try.underlying72
 have HR1:=Aside0.mk hr1
 have HC1:=Aside0.mk hc1
 clear hr1 hc1
 have HB:=Aside0.mk (Below.refl w.heap.size w)
 have H:(if 0≤a0 then (if (a0:Int).toNat≤11728124029610 then ((impl_closure.f k a0 l1).bind fun t376=>((impl_reduction.f k t376).bind fun t379=>(impl_labelsOf.l0 k a0 (List.replicate (a0:Int).toNat []) t379 (t379.length:Int) 0))) else (none)) else (none))=some r:=h
 clear h
 by_cases c3:0≤a0
 ·rw [if_pos c3] at H
  have c3b0:=eq_true c3
  have c3b1:decide (0≤a0)=true:=decide_eq_true c3
  clear c3
  by_cases c4:(a0:Int).toNat≤11728124029610
  ·rw [if_pos c4] at H
   have c4b0:=eq_true c4
   have c4b1:decide ((a0:Int).toNat≤11728124029610)=true:=decide_eq_true c4
   clear c4
   obtain ⟨y373,hy373⟩:∃ y_:List (List Int),y_=(List.replicate (a0:Int).toNat []):=⟨_,rfl⟩
   replace H:((impl_closure.f k a0 l1).bind fun t376=>((impl_reduction.f k t376).bind fun t379=>(impl_labelsOf.l0 k a0 y373 t379 (t379.length:Int) 0)))=some r:=by first|(rw [hy373];with_reducible exact H)|(have H2_:=(Option.bind_some _ _).symm.trans H;rw [hy373];with_reducible exact H2_)|(have H2_:=(Option.bind_some _ _).symm.trans H;with_reducible exact H2_)|with_reducible exact H|(rw [hy373];exact H)|exact H
   have Ny373:=Aside0.mk hy373
   clear hy373
   replace H:=Option.bind_eq_some_iff.mp H
   obtain ⟨t376,A50,H⟩:=H
   replace H:((impl_reduction.f k t376).bind fun t379=>(impl_labelsOf.l0 k a0 y373 t379 (t379.length:Int) 0))=some r:=H
   have A5:=Aside0.mk A50
   clear A50
   replace H:=Option.bind_eq_some_iff.mp H
   obtain ⟨t379,A60,H⟩:=H
   replace H:(impl_labelsOf.l0 k a0 y373 t379 (t379.length:Int) 0)=some r:=H
   have A6:=Aside0.mk A60
   clear A60
   have H':=Aside0.mk H
   clear H
   go_enter Try.func63,Try.ntmps63
   go_wp2_with (first|((with_reducible refine gate_dst (N:=18) rfl ?_);refine Kd.S_make (Kd.slice 3 (Kd.int .i64)) _ 43 rfl (N:=18) rfl 131 _ _ rfl a0 rfl rfl Try.underlying131 (.slice none 0 0) 24 info43 rfl (by decide) (by omega) [] (ok:=fun _=>True) (okp:=fun _=>True) ⟨_,rfl,Kd.R_nil _ _ _ _ _⟩ (fun _ hk=>hk) trivial (of_decide_eq_true za) (Nat.le_trans (Nat.mul_le_mul_right _ (of_decide_eq_true za:a0.toNat≤11728124029610)) (by omega)) (Below.refl _ _) (Nat.le_refl _) ?_;intro v374 w7 ho8 hb hg_ hnew_;clear hg_ hnew_;(first|rw [←Ny373.out] at ho8|(simp only [Int.reduceToNat] at ho8;rw [←Ny373.out] at ho8));have HO375:=Aside0.mk (Kd.S_lower ho8 (below_size zb));replace HB:=Aside0.mk (below_step zb hb);clear hb ho8)|((with_reducible refine gate_callee (f:=115) rfl ?_);refine goesL_ (some 21) rfl rfl Try.func115 (by kernel_rfl) rfl #[.int .i64 a0,.slice A1 l1.length c1] rfl zl ?_;(with_reducible refine (impl_closure.calls k a0 _ _ l1 t376 _ ?side1 ?side2 A5.out).mono ?_);(case side1=>exact zC (Kd.C_below HR1.out HB.out));(case side2=>exact HC1.out);rintro e w9 ⟨v377,rfl,ho0,hb⟩;refine ⟨_,rfl,?_⟩;replace HO375:=Aside0.mk (Kd.S_below (zS HO375.out) hb);have HO378:=Aside0.mk (Kd.S_lower ho0 (below_size zb));replace HB:=Aside0.mk (below_step zb hb);(try clear hb);(try clear ho0);obtain ⟨Ao10,co10,eo10⟩:=Kd.S_slice HO378.out;subst eo10)|((with_reducible refine gate_callee (f:=116) rfl ?_);refine goesL_ (some 22) rfl rfl Try.func116 (by kernel_rfl) rfl #[.slice Ao10 t376.length co10] rfl zl ?_;(with_reducible refine (impl_reduction.calls k _ _ t376 t379 _ ?side1 ?side2 A6.out).mono ?_);(case side1=>exact zC ((Kd.S_reads' HO378.out).2.2));(case side2=>exact (Kd.S_reads' HO378.out).2.1);rintro e w11 ⟨v380,rfl,ho0,hb⟩;refine ⟨_,rfl,?_⟩;replace HO375:=Aside0.mk (Kd.S_below (zS HO375.out) hb);replace HO378:=Aside0.mk (Kd.S_below (zS HO378.out) hb);have HO381:=Aside0.mk (Kd.R_lower ho0 (below_size zb));replace HB:=Aside0.mk (below_step zb hb);(try clear hb);(try clear ho0);obtain ⟨Ao12,co12,eo12⟩:=Kd.R_slice HO381.out;subst eo12))
   go_loopg [24] k (fun kq v24 w'=>∃ (x5_1:List (List Int)) (x24_1:Int),v24=.int .i64 x24_1∧Aside0 (impl_labelsOf.l0 kq a0 x5_1 t379 (t379.length:Int) x24_1=some r)∧Aside0 (kq≤k)∧Aside0 (Kd.S (Kd.slice 3 (Kd.int .i64)) 43 w' w.heap.size (fun _=>True) v374 x5_1)∧Aside0 (Kd.R k72 72 w' w.heap.size (fun _=>True) (.slice Ao12 t379.length co12) t379)∧Aside0 (Below w.heap.size w w'))
   case atStart=>exact ⟨(y373),(0),zo,H',⟨Nat.le_refl _⟩,⟨zS HO375.out⟩,⟨zR HO381.out⟩,⟨zb⟩⟩
   case round=>
    clear H'
    (try clear c1);(try clear p2);(try clear c3);(try clear c3b0);(try clear c3b1);(try clear c4);(try clear c4b0);(try clear c4b1);(try clear c6);(try clear c11)
    obtain ⟨x5_1,x24_1,rfl,HA,HK1,HO_5,HO_22,HB⟩:=hrel
    cases gk with
    | zero=>exact absurd HA.out (by simp [impl_labelsOf.l0])
    | succ k1=>
     have H:=HA.out
     clear HA
     simp only [impl_labelsOf.l0] at H
     by_cases c13:x24_1<(t379.length:Int)
     ·rw [if_pos c13] at H
      have c13b0:decide (x24_1<(t379.length:Int))=true:=decide_eq_true c13
      clear c13
      by_cases c14:0≤x24_1
      ·rw [if_pos c14] at H
       have c14b0:decide (0≤x24_1)=true:=decide_eq_true c14
       clear c14
       by_cases c15:x24_1<(t379.length:Int)
       ·rw [if_pos c15] at H
        have c15b0:decide (x24_1<(t379.length:Int))=true:=decide_eq_true c15
        clear c15
        by_cases c16:0≤((rd_T72 t379 x24_1).f0)
        ·rw [if_pos c16] at H
         have c16b0:decide (0≤((rd_T72 t379 x24_1).f0))=true:=decide_eq_true c16
         clear c16
         by_cases c17:((rd_T72 t379 x24_1).f0)<(x5_1.length:Int)
         ·rw [if_pos c17] at H
          have c17b0:decide (((rd_T72 t379 x24_1).f0)<(x5_1.length:Int))=true:=decide_eq_true c17
          clear c17
          by_cases c18:(rd_L6 x5_1 ((rd_T72 t379 x24_1).f0)).length<17592186044416
          ·rw [if_pos c18] at H
           have LMc18:=Aside0.mk c18
           clear c18
           obtain ⟨y385,hy385⟩:∃ y_:List Int,y_=((rd_L6 x5_1 ((rd_T72 t379 x24_1).f0))++[(rd_T72 t379 x24_1).f1]):=⟨_,rfl⟩
           replace H:(impl_labelsOf.l0 k1 a0 (x5_1.set (((rd_T72 t379 x24_1).f0):Int).toNat y385) t379 (t379.length:Int) (wrap64 (x24_1 + 1)))=some r:=by first|(rw [hy385];with_reducible exact H)|(have H2_:=(Option.bind_some _ _).symm.trans H;rw [hy385];with_reducible exact H2_)|(have H2_:=(Option.bind_some _ _).symm.trans H;with_reducible exact H2_)|with_reducible exact H|(rw [hy385];exact H)|exact H
           have Ny385:=Aside0.mk hy385
           clear hy385
           obtain ⟨y388,hy388⟩:∃ y_:List (List Int),y_=(x5_1.set (((rd_T72 t379 x24_1).f0):Int).toNat y385):=⟨_,rfl⟩
           replace H:(impl_labelsOf.l0 k1 a0 y388 t379 (t379.length:Int) (wrap64 (x24_1 + 1)))=some r:=by first|(rw [hy388];with_reducible exact H)|(have H2_:=(Option.bind_some _ _).symm.trans H;rw [hy388];with_reducible exact H2_)|(have H2_:=(Option.bind_some _ _).symm.trans H;with_reducible exact H2_)|with_reducible exact H|(rw [hy388];exact H)|exact H
           have Ny388:=Aside0.mk hy388
           clear hy388
           have H':=Aside0.mk H
           clear H
           have p382:0≤(x24_1:Int):=of_decide_eq_true za
           have q382:x24_1<(t379.length:Int):=of_decide_eq_true za
           obtain ⟨ad382,e382,hx382_0,hx382_1⟩:=at_T72 (Kd.R_reads' HO_22.out).2.2 x24_1 p382 q382
           cases e382
           replace p382:=eq_true p382
           replace q382:=eq_true q382
           try go_wp2_with (first|((with_reducible refine gate_dst (N:=7) rfl ?_);refine box_event ?hg (N:=7) ?hd (cs:=#[.int .i64 0,.int .i64 0]) (t:=72) ?hr ?_;(case hd=>rfl);(case hg=>rfl);(case hr=>first|(go_simp;done)|(go_simp;rfl));intro gb383 hg w20 hbox hb;have n0_:=Aside0.mk (Kd.S_below (zS HO_5.out) hb);have n1_:=Aside0.mk (Kd.R_below (Kd.R_elderB (zR HO_22.out) gb383 (Nat.le_of_eq hg.symm)) hb);have n2_:=Aside0.mk (below_step zb hb);have n3_:=Aside0.mk (hbox);have n4_:=Aside0.mk ((by rw [hg];exact (below_size zb):w.heap.size≤gb383));have n5_:=Aside0.mk ((by rw [hg];exact (below_size zb):w.heap.size≤gb383));clear HO_5;clear HO_22;clear HB;have HO_5:=n0_;have HO_22:=n1_;have HB:=n2_;have BK383:=n3_;have GW383:=n4_;have GE383:=n5_;clear n0_ n1_ n2_ n3_ n4_ n5_;clear hb hbox hg;have hcz21_0:w20.cell? ⟨gb383,0,none⟩=some (.int .i64 0):=(blk_cell BK383.out 0).trans rfl;have hcz21_1:w20.cell? ⟨gb383,1,none⟩=some (.int .i64 0):=(blk_cell BK383.out 1).trans rfl;have hfz21_0:=blk_frozen BK383.out 0;have hfz21_1:=blk_frozen BK383.out 1))
           have n0_:Aside0 (Kd.S (Kd.slice 3 (Kd.int .i64)) 43 ((w20.setCell ⟨gb383,0,none⟩ (.int .i64 ((rd_T72 t379 x24_1).f0))).setCell ⟨gb383,1,none⟩ (.int .i64 ((rd_T72 t379 x24_1).f1))) w.heap.size (fun _=>True) v374 x5_1):=⟨by (with_reducible repeat (first|apply Kd.S_alloc|apply Kd.S_drewN|apply Kd.S_drew));exact Kd.S_mono (Kd.S_far (p:=⟨gb383,1,none⟩) (Kd.S_far (p:=⟨gb383,0,none⟩) (Kd.S_types HO_5.out BK383.out (by decide)) (fun _ hk=>hk.2) (.int .i64 ((rd_T72 t379 x24_1).f0))) (fun _ hk=>hk.2) (.int .i64 ((rd_T72 t379 x24_1).f1))) (fun _ hk=>trivial)⟩
           have n1_:Aside0 (Kd.R k72 72 ((w20.setCell ⟨gb383,0,none⟩ (.int .i64 ((rd_T72 t379 x24_1).f0))).setCell ⟨gb383,1,none⟩ (.int .i64 ((rd_T72 t379 x24_1).f1))) w.heap.size (fun k_=>k_≠gb383) (.slice (some ad382) t379.length co12) t379):=⟨by (with_reducible repeat (first|apply Kd.R_alloc|apply Kd.R_drewN|apply Kd.R_drew));exact Kd.R_mono (Kd.R_far (p:=⟨gb383,1,none⟩) (Kd.R_far (p:=⟨gb383,0,none⟩) (Kd.R_mono HO_22.out (fun k_ hk=>(⟨hk,hk.2⟩:_∧k_≠gb383))) (fun _ hk=>hk.2) (.int .i64 ((rd_T72 t379 x24_1).f0))) (fun _ hk=>hk.2) (.int .i64 ((rd_T72 t379 x24_1).f1))) (fun _ hk=>hk.1.2)⟩
           have n2_:Aside0 (((w20.setCell ⟨gb383,0,none⟩ (.int .i64 ((rd_T72 t379 x24_1).f0))).setCell ⟨gb383,1,none⟩ (.int .i64 ((rd_T72 t379 x24_1).f1))).heap[gb383]?=some (.cells #[.int .i64 ((rd_T72 t379 x24_1).f0),.int .i64 ((rd_T72 t379 x24_1).f1)] 72 (0,0))):=⟨by (with_reducible repeat (first|refine blk_drewN ?_ _|refine blk_drew ?_|refine blk_alloc ?_ _));refine blk_put (cs:=#[.int .i64 ((rd_T72 t379 x24_1).f0),.int .i64 0]) ?_ 1 _ rfl;(with_reducible repeat (first|refine blk_drewN ?_ _|refine blk_drew ?_|refine blk_alloc ?_ _));refine blk_put (cs:=#[.int .i64 0,.int .i64 0]) ?_ 0 _ rfl;(with_reducible repeat (first|refine blk_drewN ?_ _|refine blk_drew ?_|refine blk_alloc ?_ _));exact BK383.out⟩
           have n3_:Aside0 (Below w.heap.size w ((w20.setCell ⟨gb383,0,none⟩ (.int .i64 ((rd_T72 t379 x24_1).f0))).setCell ⟨gb383,1,none⟩ (.int .i64 ((rd_T72 t379 x24_1).f1)))):=⟨by repeat (first|(with_reducible first|exact HB.out|apply below_alloc|apply pw_below_drewN|apply below_drew1|refine below_set ?_ GE383.out)|exact HB.out)⟩
           (try clear HO_5)
           (try clear HO_22)
           (try clear BK383)
           (try clear HB)
           (try simp only [show ∀ (W_:World) (n_:Nat) (a_:Addr) (v_:Value),(W_.drewN n_).setCell a_ v_=(W_.setCell a_ v_).drewN n_ from fun _ _ _ _=>rfl])
           generalize ((w20.setCell ⟨gb383,0,none⟩ (.int .i64 ((rd_T72 t379 x24_1).f0))).setCell ⟨gb383,1,none⟩ (.int .i64 ((rd_T72 t379 x24_1).f1)))=w22 at n0_ n1_ n2_ n3_ ⊢
           have HO_5:=n0_
           have HO_22:=n1_
           have BK383:=n2_
           have HB:=n3_
           clear n0_ n1_ n2_ n3_
           replace HO_5:=Aside0.mk (Kd.S_drew HO_5.out)
           replace HO_22:=Aside0.mk (Kd.R_drew HO_22.out)
           replace BK383:=Aside0.mk (blk_drew BK383.out)
           replace HB:=Aside0.mk (below_drew1 HB.out)
           obtain ⟨Ao24,co24,eo24⟩:=Kd.S_slice HO_5.out
           (first|subst eo24|(injection eo24 with f1_ f2_ f3_;have f4_:=f1_.symm;have f5_:=f3_.symm;clear f1_ f2_ f3_;subst f4_;subst f5_))
           have p384:0≤(((rd_T72 t379 x24_1).f0):Int):=of_decide_eq_true za
           have q384:((rd_T72 t379 x24_1).f0)<(x5_1.length:Int):=of_decide_eq_true za
           obtain ⟨ad384,A384_0,c384_0,e384,hx384_0,hl384_0,hi384_0⟩:=at_L6 (Kd.S_reads' HO_5.out).2.2 ((rd_T72 t379 x24_1).f0) p384 q384
           cases e384
           obtain ⟨ce384,hce384,hMe384,hcc384⟩:=Kd.S_get HO_5.out [] ((rd_T72 t379 x24_1).f0) p384 (by first|exact q384|exact of_decide_eq_true za|(have e_:=(Kd.S_reads' HO_5.out).1;omega))
           obtain ⟨ve384_0,rfl,ge384_0⟩:=hMe384
           have hv384_0:=hcc384 0 _ rfl
           rw [Nat.add_zero,show ((Kd.slice 3 (Kd.int .i64))).sz=1 from rfl,Nat.mul_one] at hv384_0
           replace hv384_0:=Option.some.inj (hv384_0.symm.trans hx384_0)
           rw [hv384_0] at ge384_0
           have HL384_0:=Aside0.mk (show Kd.R (Kd.int .i64) 3 _ _ _ _ (rd_L6 x5_1 ((rd_T72 t379 x24_1).f0)) from ge384_0)
           clear hv384_0 ge384_0
           have HX384_0:=Aside0.mk hx384_0
           clear hcc384 hce384
           have HR384_0:=Aside0.mk hi384_0
           have HC384_0:=Aside0.mk hl384_0
           clear hi384_0 hl384_0
           replace p384:=eq_true p384
           replace q384:=eq_true q384
           obtain ⟨go25,co25,eo25,gb25,gl25,cl25,HG25⟩:=Kd.S_form HO_5.out (by have h_:(((rd_T72 t379 x24_1).f0):Int)<((x5_1.length:Int):Int):=of_decide_eq_true za;have h2_:0≤(((rd_T72 t379 x24_1).f0):Int):=(of_decide_eq_true za);omega)
           (first|cases eo25|(injection eo25 with ea_ en_ ec_;(first|subst ea_|(injection ea_ with ea_;subst ea_));subst ec_;clear en_))
           have GB25:=Aside0.mk gb25
           have GG25:=Aside0.mk HG25
           clear gb25 gl25 HG25
           (first|simp only [add_plain] at hx384_0|skip)
           obtain ⟨oki25,ce25,hcl25,hM25,hcc25,_,_,hH25⟩:=Kd.S_elem HO_5.out [] (((rd_T72 t379 x24_1).f0):Int) (of_decide_eq_true za) (by have h_:(((rd_T72 t379 x24_1).f0):Int)<((x5_1.length:Int):Int):=of_decide_eq_true za;first|exact h_|(have e_:=(Kd.S_reads' HO_5.out).1;omega)|simpa using h_)
           obtain ⟨ve25_0,rfl,ge25_0⟩:=hM25
           have hv25:=hcc25 0 _ rfl
           have hX25:=HX384_0.out
           (try simp only [add_plain] at hX25)
           (try simp only [Nat.add_zero] at hv25)
           (try rw [show ((Kd.slice 3 (Kd.int .i64))).sz=1 from rfl,Nat.mul_one] at hv25)
           replace hv25:=Option.some.inj (hv25.symm.trans hX25)
           subst hv25
           clear hX25 hcc25 hcl25
           have UU25:=Aside0.mk (show Kd.R (Kd.int .i64) 3 _ w.heap.size oki25 (.slice A384_0 (rd_L6 x5_1 ((rd_T72 t379 x24_1).f0)).length c384_0) (rd_L6 x5_1 ((rd_T72 t379 x24_1).f0)) from ge25_0)
           have HH25:=Aside0.mk hH25
           have HN25:=Aside0.mk (Kd.S_reads' HO_5.out).1
           clear hH25 ge25_0
           refine start_ (n:=14) (S:=fun w'=>w'.cell? ⟨gb383,0,none⟩=some (.int .i64 ((rd_T72 t379 x24_1).f0))∧w'.cell? ⟨gb383,1,none⟩=some (.int .i64 ((rd_T72 t379 x24_1).f1))∧w'.cell? ⟨go25,(((rd_T72 t379 x24_1).f0)).toNat,none⟩=some (.slice A384_0 (rd_L6 x5_1 ((rd_T72 t379 x24_1).f0)).length c384_0)) (ds:=[13]) #[false,false,false,false,false,false,false,false,false,false,false,false,false,false] (by kernel_rfl) rfl rfl ⟨(blk_cell BK383.out 0).trans rfl,(blk_cell BK383.out 1).trans rfl,hx384_0⟩ (fun hHeld=>?_);refine with_tabW impl_labelsOf.tab5 impl_labelsOf.bits5 (fun HT_ HW_=>?_)
           generalize w22.drew=w23 at HO_5 HO_22 BK383 HB GG25 HH25 HL384_0 HR384_0 HX384_0 UU25 hx384_0 hHeld ⊢
           refine pure_ (i:=0) (N:=some 28) (v:=?_) (a':=?_) #[true,false,false,false,false,false,false,false,false,false,false,false,false,false] rfl rfl (any_of HT_.out (by kernel_rfl)) (fun _ _ _ h=>h) (Or.inl ⟨by rfl,?_⟩) ?_ ?_
           rotate_left
           ·intro w'
            go_simp
            with_reducible rfl
           rotate_left
           ·simp only [Act.put,List.setIfInBounds_toArray,List.set_cons_zero,List.set_cons_succ,i64_w,i32_w]
            rfl
           refine pure_ (i:=1) (N:=some 29) (v:=?_) (a':=?_) #[true,true,false,false,false,false,false,false,false,false,false,false,false,false] rfl rfl (any_of HT_.out (by kernel_rfl)) (fun _ _ _ h=>h) (Or.inl ⟨by rfl,?_⟩) ?_ ?_
           rotate_left
           ·intro w'
            go_simp
            with_reducible rfl
           rotate_left
           ·simp only [Act.put,List.setIfInBounds_toArray,List.set_cons_zero,List.set_cons_succ,i64_w,i32_w]
            rfl
           refine pure_ (i:=3) (N:=some 31) (v:=?_) (a':=?_) #[true,true,false,true,false,false,false,false,false,false,false,false,false,false] rfl rfl (any_of HT_.out (by kernel_rfl)) (fun _ _ _ h=>h) (Or.inl ⟨by rfl,?_⟩) ?_ ?_
           rotate_left
           ·intro w'
            go_simp
            with_reducible rfl
           rotate_left
           ·simp only [Act.put,List.setIfInBounds_toArray,List.set_cons_zero,List.set_cons_succ,i64_w,i32_w]
            rfl
           refine pure_ (i:=4) (N:=some 32) (v:=?_) (a':=?_) #[true,true,false,true,true,false,false,false,false,false,false,false,false,false] rfl rfl (any_of HT_.out (by kernel_rfl)) (fun _ _ _ h=>h) (Or.inl ⟨by rfl,?_⟩) ?_ ?_
           rotate_left
           ·intro w'
            go_simp
            with_reducible rfl
           rotate_left
           ·simp only [Act.put,List.setIfInBounds_toArray,List.set_cons_zero,List.set_cons_succ,i64_w,i32_w]
            rfl
           refine pure_ (i:=8) (N:=some 36) (v:=?_) (a':=?_) #[true,true,false,true,true,false,false,false,true,false,false,false,false,false] rfl rfl (any_of HT_.out (by kernel_rfl)) (fun _ _ _ h=>h) (Or.inl ⟨by rfl,?_⟩) ?_ ?_
           rotate_left
           ·intro w'
            go_simp
            with_reducible rfl
           rotate_left
           ·simp only [Act.put,List.setIfInBounds_toArray,List.set_cons_zero,List.set_cons_succ,i64_w,i32_w]
            rfl
           refine take_ (i:=2) (N:=some 30) (v:=?_) (a':=?_) #[true,true,true,true,true,false,false,false,true,false,false,false,false,false] rfl rfl (take_ofW HT_.out HW_.out (by kernel_rfl)) (fun _ _ _ h=>h) (Or.inl ⟨by rfl,?_⟩) hHeld ?_ ?_
           rotate_left
           ·rintro w' ⟨s0,s1,s2⟩
            go_simp
            with_reducible rfl
           rotate_left
           ·simp only [Act.put,List.setIfInBounds_toArray,List.set_cons_zero,List.set_cons_succ,i64_w,i32_w]
            rfl
           refine take_ (i:=5) (N:=some 33) (v:=?_) (a':=?_) #[true,true,true,true,true,true,false,false,true,false,false,false,false,false] rfl rfl (take_ofW HT_.out HW_.out (by kernel_rfl)) (fun _ _ _ h=>h) (Or.inl ⟨by rfl,?_⟩) hHeld ?_ ?_
           rotate_left
           ·rintro w' ⟨s0,s1,s2⟩
            go_simp
            with_reducible rfl
           rotate_left
           ·simp only [Act.put,List.setIfInBounds_toArray,List.set_cons_zero,List.set_cons_succ,i64_w,i32_w]
            rfl
           refine pure_ (i:=6) (N:=some 34) (v:=?_) (a':=?_) #[true,true,true,true,true,true,true,false,true,false,false,false,false,false] rfl rfl (any_of HT_.out (by kernel_rfl)) (fun _ _ _ h=>h) (Or.inl ⟨by rfl,?_⟩) ?_ ?_
           rotate_left
           ·intro w'
            go_simp
            with_reducible rfl
           rotate_left
           ·simp only [Act.put,List.setIfInBounds_toArray,List.set_cons_zero,List.set_cons_succ,i64_w,i32_w]
            rfl
           refine take_ (i:=7) (N:=some 35) (v:=?_) (a':=?_) #[true,true,true,true,true,true,true,true,true,false,false,false,false,false] rfl rfl (take_ofW HT_.out HW_.out (by kernel_rfl)) (fun _ _ _ h=>h) (Or.inl ⟨by rfl,?_⟩) hHeld ?_ ?_
           rotate_left
           ·rintro w' ⟨s0,s1,s2⟩
            go_simp
            with_reducible rfl
           rotate_left
           ·simp only [Act.put,List.setIfInBounds_toArray,List.set_cons_zero,List.set_cons_succ,i64_w,i32_w]
            rfl
           refine take_ (i:=9) (N:=some 37) (v:=?_) (a':=?_) #[true,true,true,true,true,true,true,true,true,true,false,false,false,false] rfl rfl (take_ofW HT_.out HW_.out (by kernel_rfl)) (fun _ _ _ h=>h) (Or.inl ⟨by rfl,?_⟩) hHeld ?_ ?_
           rotate_left
           ·rintro w' ⟨s0,s1,s2⟩
            go_simp
            with_reducible rfl
           rotate_left
           ·simp only [Act.put,List.setIfInBounds_toArray,List.set_cons_zero,List.set_cons_succ,i64_w,i32_w]
            rfl
           refine one_ (i:=10) (N:=some 38) #[true,true,true,true,true,true,true,true,true,true,true,false,false,false] rfl rfl (one_of HT_.out (by kernel_rfl)) (by decide) (fun K hK=>?_)
           refine value_ (w1:=?_) (v:=?_) (by rfl) rfl ?_ ?_
           rotate_left 2
           ·go_simp
            constructor
            ·rfl
            ·rfl
           refine hK.out _ _ ⟨(blk_cell (blk_alloc BK383.out _) 0).trans rfl,(blk_cell (blk_alloc BK383.out _) 1).trans rfl,(World.cell?_alloc_lt _ _ _ (World.block_lt_of_cell? _ _ (hHeld.2.2))).trans (hHeld.2.2)⟩ (fun hHeld=>?_)
           clear hK K
           refine norm_ (a':=?_) ?_ ?_
           rotate_left
           ·show Act.put _ (some 38) _=_
            simp only [Act.put,List.setIfInBounds_toArray,List.set_cons_zero,List.set_cons_succ,i64_w,i32_w]
            rfl
           refine one_ (i:=11) (N:=some 39) #[true,true,true,true,true,true,true,true,true,true,true,true,false,false] rfl rfl (one_of HT_.out (by kernel_rfl)) (by decide) (fun K hK=>?_)
           refine Kd.R_append_step (Kd.int .i64) (w0:=w) w.heap.size (by rfl) (.tmp 35) (.tmp 38) 43 3 (.int .i64 0) 8 rfl Try.underlying43 info3 rfl (by decide) (by omega) (.slice A384_0 (rd_L6 x5_1 ((rd_T72 t379 x24_1).f0)).length c384_0) (rd_L6 x5_1 ((rd_T72 t379 x24_1).f0)) ((rd_T72 t379 x24_1).f1) [.int .i64 ((rd_T72 t379 x24_1).f1)] (fun k_=>oki25 k_∨((fun _=>True)) k_∧w23.heap.size≤k_) (fun _=>False) rfl rfl ?aP (fun _ hk=>hk.elim) ?aF ?aO ?aB ?aS ?aL ?_
           (case aP=>exact rfl)
           (case aB=>exact (by repeat (first|(with_reducible first|exact HB.out|apply below_alloc|apply pw_below_drewN|apply below_drew1|refine below_set ?_ GE383.out)|exact HB.out)))
           (case aF=>exact (fun k_ hk=>.inr ⟨trivial,hk⟩))
           (case aO=>exact (zR (Kd.R_mono UU25.out (fun _ hk=>.inl hk))))
           (case aS=>exact (below_size (by repeat (first|(with_reducible first|exact HB.out|apply below_alloc|apply pw_below_drewN|apply below_drew1|refine below_set ?_ GE383.out)|exact HB.out))))
           (case aL=>have:=LMc18.out;omega)
           intro v386 w26 ho hb hg hat
           (first|have HS2_:=cell_grown hg (hHeld.2.2) (by first|(rw [add_block];exact (fun e_=>((HL384_0.out.1 _ e_.symm).2) rfl))|(show some (Addr.add _ _).block≠_;rw [add_block];exact (fun e_=>((HL384_0.out.1 _ e_.symm).2) rfl))|exact (fun e_=>((HL384_0.out.1 _ e_.symm).2) rfl))|have HS2_:=cell_grown hg (cell_unalloc (hHeld.2.2) (by first|(rw [add_block];exact Kd.S_lt HO_5.out _ rfl)|(show (Addr.add _ _).block<_;rw [add_block];exact Kd.S_lt HO_5.out _ rfl)|exact Kd.S_lt HO_5.out _ rfl)) (by first|(rw [add_block];exact (fun e_=>((HL384_0.out.1 _ e_.symm).2) rfl))|(show some (Addr.add _ _).block≠_;rw [add_block];exact (fun e_=>((HL384_0.out.1 _ e_.symm).2) rfl))|exact (fun e_=>((HL384_0.out.1 _ e_.symm).2) rfl)))
           rw [←Ny385.out] at ho
           replace HO_22:=Aside0.mk (Kd.R_over' (v:=(.slice A384_0 (rd_L6 x5_1 ((rd_T72 t379 x24_1).f0)).length c384_0)) (zR HO_22.out) (Kd.R_typed HL384_0.out) (by decide) hg)
           replace BK383:=Aside0.mk (blk_grown (g:=gb383) (o:=.cells #[.int .i64 ((rd_T72 t379 x24_1).f0),.int .i64 ((rd_T72 t379 x24_1).f1)] 72 (0,0)) (by (with_reducible repeat (first|refine blk_drewN ?_ _|refine blk_drew ?_|refine blk_alloc ?_ _));exact BK383.out) hg (Kd.R_ne HL384_0.out BK383.out (by decide)))
           replace HB:=Aside0.mk (hb)
           replace HH25:=Aside0.mk (Kd.H_grown (Kd.H_widen (by repeat (first|exact HH25.out|refine Kd.H_alloc ?_ _|refine Kd.H_drewN ?_ _|refine Kd.H_drew ?_))) hg (fun k_ e_=>.inl (UU25.out.1 k_ e_)))
           have HO387:=Aside0.mk (ho)
           clear HO_5 UU25 HL384_0
           clear ho hb hg hat
           have p19:0≤(((rd_T72 t379 x24_1).f0):Int):=of_decide_eq_true za
           have q19:(((rd_T72 t379 x24_1).f0):Int)<((x5_1.length:Int):Int):=of_decide_eq_true za
           replace p19:=eq_true p19
           replace q19:=eq_true q19
           obtain ⟨Ao29,co29,eo29⟩:=Kd.R_slice HO387.out
           (first|subst eo29|(injection eo29 with f1_ f2_ f3_;have f4_:=f1_.symm;have f5_:=f3_.symm;clear f1_ f2_ f3_;subst f4_;subst f5_))
           obtain ⟨_,_,hraw27,_,_,hcc27,_⟩:=Kd.H_raw HH25.out (of_decide_eq_true za) (by have h_:(((rd_T72 t379 x24_1).f0):Int)<((x5_1.length:Int):Int):=of_decide_eq_true za;first|exact h_|(have e_:=(HN25.out);omega)|simpa using h_)
           obtain ⟨_,hfr27⟩:=Kd.H_at HH25.out (of_decide_eq_true za) (by have h_:(((rd_T72 t379 x24_1).f0):Int)<((x5_1.length:Int):Int):=of_decide_eq_true za;first|exact h_|(have e_:=(HN25.out);omega)|simpa using h_)
           have hx27_0:=hcc27 0 _ rfl
           have hf27_0:=hfr27 0
           (try simp only [Nat.add_zero] at hx27_0 hf27_0)
           (try rw [show ((Kd.slice 3 (Kd.int .i64))).sz=1 from rfl,Nat.mul_one] at hx27_0)
           (try rw [show ((Kd.slice 3 (Kd.int .i64))).sz=1 from rfl,Nat.mul_one] at hf27_0)
           have HP27:=Kd.S_seg0 HH25.out (of_decide_eq_true za) (by have h_:(((rd_T72 t379 x24_1).f0):Int)<((x5_1.length:Int):Int):=of_decide_eq_true za;first|exact h_|(have e_:=(HN25.out);omega)|simpa using h_) (seg:=[.slice Ao29 y385.length co29]) (j:=0) (show 1≤1 from by decide) (x':=y385) (Kd.M_row HO387.out) (fun _ hk=>hk)
           (try simp only [show ((Kd.slice 3 (Kd.int .i64))).sz=1 from rfl,Nat.mul_one,Nat.add_zero] at HP27)
           clear hcc27 hfr27
           have HNB383_go25:=Aside0.mk (show gb383≠go25 from by have h_:=Kd.R_ne hraw27 BK383.out (by decide);intro e_;exact h_ (by rw [e_];rfl))
           have HS27:=HP27.1
           rw [←Ny388.out] at HS27
           have HQ27:=Aside0.mk HS27
           obtain ⟨_,hgg27⟩:=Kd.R_typed hraw27 go25 rfl
           have GG27_:=Aside0.mk hgg27
           clear HP27 HS27 hgg27
           refine hK.out _ _ ⟨(blk_cell BK383.out 0).trans rfl,(blk_cell BK383.out 1).trans rfl,HS2_⟩ (fun hHeld=>?_)
           clear hK K
           refine norm_ (a':=?_) ?_ ?_
           rotate_left
           ·show Act.put _ (some 39) _=_
            simp only [Act.put,List.setIfInBounds_toArray,List.set_cons_zero,List.set_cons_succ,i64_w,i32_w]
            rfl
           refine pure_ (i:=12) (N:=some 40) (v:=?_) (a':=?_) #[true,true,true,true,true,true,true,true,true,true,true,true,true,false] rfl rfl (any_of HT_.out (by kernel_rfl)) (fun _ _ _ h=>h) (Or.inl ⟨by rfl,?_⟩) ?_ ?_
           rotate_left
           ·intro w'
            go_simp
            with_reducible rfl
           rotate_left
           ·simp only [Act.put,List.setIfInBounds_toArray,List.set_cons_zero,List.set_cons_succ,i64_w,i32_w]
            rfl
           refine last_ (i:=13) (N:=none) #[true,true,true,true,true,true,true,true,true,true,true,true,true,true] rfl rfl (one_of HT_.out (by kernel_rfl)) (by decide) (fun K hK=>?_)
           refine skip_ (w1:=?_) (by rfl) rfl ?_ ?_
           rotate_left
           ·go_simp
            rfl
           refine hK.out _ _ ?_
           clear hK K
           refine done_ (done_of HT_.out (by kernel_rfl)) ?_
           try go_wp2
           go_roundg k1
           case measure=>have:=HK1.out;omega
           case rel=>exact ⟨(y388),(wrap64 (x24_1 + 1)),zo,H',⟨by have:=HK1.out;omega⟩,⟨by (with_reducible repeat (first|apply Kd.S_alloc|apply Kd.S_drewN|apply Kd.S_drew));exact HQ27.out⟩,⟨by (with_reducible repeat (first|apply Kd.R_alloc|apply Kd.R_drewN|apply Kd.R_drew));exact Kd.R_mono (Kd.R_far (p:=⟨go25,(((rd_T72 t379 x24_1).f0):Int).toNat,none⟩) (Kd.R_types HO_22.out GG27_.out (by decide)) (fun _ hk=>hk.2) (.slice Ao29 y385.length co29)) (fun _ hk=>trivial)⟩,⟨by repeat (first|(with_reducible first|exact HB.out|apply below_alloc|apply pw_below_drewN|apply below_drew1|refine below_set ?_ GB25.out|refine below_set ?_ GE383.out)|exact HB.out)⟩⟩
          ·rw [if_neg c18] at H
           exact absurd H (by simp)
         ·rw [if_neg c17] at H
          exact absurd H (by simp)
        ·rw [if_neg c16] at H
         exact absurd H (by simp)
       ·rw [if_neg c15] at H
        exact absurd H (by simp)
      ·rw [if_neg c14] at H
       exact absurd H (by simp)
     ·rw [if_neg c13] at H
      have c13b0:decide (x24_1<(t379.length:Int))=false:=decide_eq_false c13
      clear c13
      by_cases c30:0≤a0
      ·rw [if_pos c30] at H
       have c30b0:=eq_true c30
       have c30b1:decide (0≤a0)=true:=decide_eq_true c30
       clear c30
       by_cases c31:(a0:Int).toNat≤35184372088832
       ·rw [if_pos c31] at H
        have c31b0:=eq_true c31
        have c31b1:decide ((a0:Int).toNat≤35184372088832)=true:=decide_eq_true c31
        clear c31
        obtain ⟨y389,hy389⟩:∃ y_:List Int,y_=(List.replicate (a0:Int).toNat 0):=⟨_,rfl⟩
        replace H:(impl_labelsOf.l1 k1 a0 x5_1 y389 1)=some r:=by first|(rw [hy389];with_reducible exact H)|(have H2_:=(Option.bind_some _ _).symm.trans H;rw [hy389];with_reducible exact H2_)|(have H2_:=(Option.bind_some _ _).symm.trans H;with_reducible exact H2_)|with_reducible exact H|(rw [hy389];exact H)|exact H
        have Ny389:=Aside0.mk hy389
        clear hy389
        have H':=Aside0.mk H
        clear H
        go_wp2_with (first|((with_reducible refine gate_dst (N:=43) rfl ?_);refine Kd.R_make (Kd.int .i64) _ 3 rfl (N:=43) rfl 43 _ _ rfl a0 rfl rfl Try.underlying43 (.int .i64 0) 8 info3 rfl (by decide) (by omega) 0 (ok:=fun _=>True) (okp:=fun _=>True) rfl (fun _ hk=>hk) trivial (of_decide_eq_true za) (Nat.le_trans (Nat.mul_le_mul_right _ (of_decide_eq_true za:a0.toNat≤35184372088832)) (by omega)) (Below.refl _ _) (Nat.le_refl _) ?_;intro v390 w32 ho33 hb hg_ hnew_;clear hg_ hnew_;(first|rw [←Ny389.out] at ho33|(simp only [Int.reduceToNat] at ho33;rw [←Ny389.out] at ho33));replace HO_5:=Aside0.mk (Kd.S_elder' (zS HO_5.out) (Kd.R_base ho33) hb);replace HO_22:=Aside0.mk (Kd.R_below (zR HO_22.out) hb);have HO391:=Aside0.mk (Kd.R_lower ho33 (below_size zb));replace HB:=Aside0.mk (below_step zb hb);clear hb ho33))
        go_loopg [9] k1 (fun kq v9 w'=>∃ (x8_2:List Int) (x9_2:Int),v9=.int .i64 x9_2∧Aside0 (impl_labelsOf.l1 kq a0 x5_1 x8_2 x9_2=some r)∧Aside0 (kq≤k1)∧Aside0 (Kd.S (Kd.slice 3 (Kd.int .i64)) 43 w' w.heap.size (fun k_=>some k_≠(v390:Value).ownBlock) v374 x5_1)∧Aside0 (Kd.R (Kd.int .i64) 3 w' w.heap.size (fun _=>True) v390 x8_2)∧Aside0 (Below w.heap.size w w'))
        case atStart=>exact ⟨(y389),(1),zo,H',⟨Nat.le_refl _⟩,⟨zS (Kd.S_mono HO_5.out (fun _ hk=>hk.2))⟩,⟨zR HO391.out⟩,⟨zb⟩⟩
        case round=>
         clear H'
         (try clear c1);(try clear p1);(try clear q1);(try clear c2);(try clear p2);(try clear hx2);(try clear hf2);(try clear c3);(try clear c3b0);(try clear c3b1);(try clear p3);(try clear q3);(try clear hx3);(try clear c4);(try clear c4b0);(try clear c4b1);(try clear c6);(try clear p6);(try clear c11);(try clear c13);(try clear c13b0);(try clear c14);(try clear c14b0);(try clear c15);(try clear c15b0);(try clear c16);(try clear c16b0);(try clear c17);(try clear c17b0);(try clear c18);(try clear p19);(try clear q19);(try clear c25);(try clear c27);(try clear hx27);(try clear hf27);(try clear c30);(try clear c30b0);(try clear c30b1);(try clear c31);(try clear c31b0);(try clear c31b1);(try clear hcz21_0);(try clear hcz21_1);(try clear hfz21_0);(try clear hfz21_1);(try clear hx27_0);(try clear hx382_0);(try clear hx382_1);(try clear hx384_0);(try clear p382);(try clear p384);(try clear q382);(try clear q384)
         obtain ⟨x8_2,x9_2,rfl,HA,HK2,HO_5,HO_8,HB⟩:=hrel
         cases gk with
         | zero=>exact absurd HA.out (by simp [impl_labelsOf.l1])
         | succ k2=>
          have H:=HA.out
          clear HA
          simp only [impl_labelsOf.l1] at H
          by_cases c34:x9_2≤a0
          ·rw [if_pos c34] at H
           have c34b0:decide (x9_2≤a0)=true:=decide_eq_true c34
           clear c34
           have H':=Aside0.mk H
           clear H
           obtain ⟨Ao35,co35,eo35⟩:=Kd.R_slice HO_8.out
           subst eo35
           go_wp2
           go_loopg [10,11,51] k2 (fun kq v10 v11 v51 w'=>∃ (x10_3:Int) (x11_3:List Int) (x51_3:Int),v10=.int .i64 x10_3∧v51=.int .i64 x51_3∧Aside0 (impl_labelsOf.l2 kq a0 x5_1 x8_2 x9_2 x10_3 x11_3 (x8_2.length:Int) x51_3=some r)∧Aside0 (kq≤k2)∧Aside0 (Kd.S (Kd.slice 3 (Kd.int .i64)) 43 w' w.heap.size (fun k_=>some k_≠((.slice Ao35 x8_2.length co35):Value).ownBlock∧some k_≠(v11:Value).ownBlock) v374 x5_1)∧Aside0 (Kd.R (Kd.int .i64) 3 w' w.heap.size (fun k_=>some k_≠(v11:Value).ownBlock) (.slice Ao35 x8_2.length co35) x8_2)∧Aside0 (Kd.R (Kd.int .i64) 3 w' w.heap.size (fun k_=>some k_≠((.slice Ao35 x8_2.length co35):Value).ownBlock) v11 x11_3)∧Aside0 (Below w.heap.size w w'))
           case atStart=>exact ⟨((-1)),(([]:List Int)),(0),zo,zo,H',⟨Nat.le_refl _⟩,⟨zS (Kd.S_mono HO_5.out (fun _ hk=>⟨hk,(by simp [Value.ownBlock])⟩))⟩,⟨zR (Kd.R_mono HO_8.out (fun _ hk=>(by simp [Value.ownBlock])))⟩,⟨by first|exact Kd.R_nil _ _ _ _ _|exact Kd.N_nil _ _ _ _ _|exact Kd.V_nil _ _ _ _ _|exact Kd.Q_nil _ _ _ _ _|exact Kd.S_nil _ _ _ _ _⟩,⟨zb⟩⟩
           case round=>
            clear H'
            (try clear c1);(try clear p1);(try clear q1);(try clear c2);(try clear p2);(try clear hx2);(try clear hf2);(try clear c3);(try clear c3b0);(try clear c3b1);(try clear p3);(try clear q3);(try clear hx3);(try clear c4);(try clear c4b0);(try clear c4b1);(try clear c6);(try clear p6);(try clear c11);(try clear c13);(try clear c13b0);(try clear c14);(try clear c14b0);(try clear c15);(try clear c15b0);(try clear c16);(try clear c16b0);(try clear c17);(try clear c17b0);(try clear c18);(try clear p19);(try clear q19);(try clear c25);(try clear c27);(try clear hx27);(try clear hf27);(try clear c30);(try clear c30b0);(try clear c30b1);(try clear c31);(try clear c31b0);(try clear c31b1);(try clear c34);(try clear c34b0);(try clear hcz21_0);(try clear hcz21_1);(try clear hfz21_0);(try clear hfz21_1);(try clear hx27_0);(try clear hx382_0);(try clear hx382_1);(try clear hx384_0);(try clear p382);(try clear p384);(try clear q382);(try clear q384)
            obtain ⟨x10_3,x11_3,x51_3,rfl,rfl,HA,HK3,HO_5,HO_8,HO_11,HB⟩:=hrel
            cases gk with
            | zero=>exact absurd HA.out (by simp [impl_labelsOf.l2])
            | succ k3=>
             have H:=HA.out
             clear HA
             simp only [impl_labelsOf.l2] at H
             by_cases c36:x51_3<(x8_2.length:Int)
             ·rw [if_pos c36] at H
              have c36b0:decide (x51_3<(x8_2.length:Int))=true:=decide_eq_true c36
              clear c36
              by_cases c37:0≤x51_3
              ·rw [if_pos c37] at H
               have c37b0:decide (0≤x51_3)=true:=decide_eq_true c37
               clear c37
               by_cases c38:x51_3<(x8_2.length:Int)
               ·rw [if_pos c38] at H
                have c38b0:decide (x51_3<(x8_2.length:Int))=true:=decide_eq_true c38
                clear c38
                by_cases c39:(rd x8_2 x51_3)>0
                ·rw [if_pos c39] at H
                 have c39b0:decide (0<(rd x8_2 x51_3))=true:=decide_eq_true c39
                 clear c39
                 have H':=Aside0.mk H
                 clear H
                 have p393:0≤(x51_3:Int):=of_decide_eq_true za
                 have q393:x51_3<(x8_2.length:Int):=of_decide_eq_true za
                 obtain ⟨ad393,e393,hx393_0⟩:=Kd.at_int (Kd.R_reads' HO_8.out).2.2 x51_3 p393 q393
                 cases e393
                 replace p393:=eq_true p393
                 replace q393:=eq_true q393
                 go_wp2
                 go_roundg k3
                 case measure=>have:=HK1.out;have:=HK2.out;have:=HK3.out;omega
                 case rel=>exact ⟨(x10_3),(x11_3),(wrap64 (x51_3 + 1)),zo,zo,H',⟨by have:=HK1.out;have:=HK2.out;have:=HK3.out;omega⟩,⟨zS HO_5.out⟩,⟨zR HO_8.out⟩,⟨zR HO_11.out⟩,⟨zb⟩⟩
                ·rw [if_neg c39] at H
                 have c39b0:decide (0<(rd x8_2 x51_3))=false:=decide_eq_false c39
                 clear c39
                 by_cases c40:x51_3<(x5_1.length:Int)
                 ·rw [if_pos c40] at H
                  have c40b0:decide (x51_3<(x5_1.length:Int))=true:=decide_eq_true c40
                  clear c40
                  have H':=Aside0.mk H
                  clear H
                  have p393:0≤(x51_3:Int):=of_decide_eq_true za
                  have q393:x51_3<(x8_2.length:Int):=of_decide_eq_true za
                  obtain ⟨ad393,e393,hx393_0⟩:=Kd.at_int (Kd.R_reads' HO_8.out).2.2 x51_3 p393 q393
                  cases e393
                  replace p393:=eq_true p393
                  replace q393:=eq_true q393
                  obtain ⟨Ao41,co41,eo41⟩:=Kd.S_slice HO_5.out
                  subst eo41
                  have p394:0≤(x51_3:Int):=of_decide_eq_true za
                  have q394:x51_3<(x5_1.length:Int):=of_decide_eq_true za
                  obtain ⟨ad394,A394_0,c394_0,e394,hx394_0,hl394_0,hi394_0⟩:=at_L6 (Kd.S_reads' HO_5.out).2.2 x51_3 p394 q394
                  cases e394
                  obtain ⟨ce394,hce394,hMe394,hcc394⟩:=Kd.S_get HO_5.out [] x51_3 p394 (by first|exact q394|exact of_decide_eq_true za|(have e_:=(Kd.S_reads' HO_5.out).1;omega))
                  obtain ⟨ve394_0,rfl,ge394_0⟩:=hMe394
                  have hv394_0:=hcc394 0 _ rfl
                  rw [Nat.add_zero,show ((Kd.slice 3 (Kd.int .i64))).sz=1 from rfl,Nat.mul_one] at hv394_0
                  replace hv394_0:=Option.some.inj (hv394_0.symm.trans hx394_0)
                  rw [hv394_0] at ge394_0
                  have HL394_0:=Aside0.mk (show Kd.R (Kd.int .i64) 3 _ _ _ _ (rd_L6 x5_1 x51_3) from ge394_0)
                  clear hv394_0 ge394_0
                  have HX394_0:=Aside0.mk hx394_0
                  clear hcc394 hce394
                  have HR394_0:=Aside0.mk hi394_0
                  have HC394_0:=Aside0.mk hl394_0
                  clear hi394_0 hl394_0
                  replace p394:=eq_true p394
                  replace q394:=eq_true q394
                  go_wp2
                  go_loopg [13,14,64] k3 (fun kq v13 v14 v64 w'=>∃ (x13_4:List Int) (x14_4:Bool) (x64_4:Int),v14=.bool x14_4∧v64=.int .i64 x64_4∧Aside0 (impl_labelsOf.l3 kq a0 x5_1 x8_2 x9_2 x10_3 x11_3 x51_3 x13_4 x14_4 (x8_2.length:Int) x51_3 (rd_L6 x5_1 x51_3) ((rd_L6 x5_1 x51_3).length:Int) x64_4=some r)∧Aside0 (kq≤k3)∧Aside0 (Kd.S (Kd.slice 3 (Kd.int .i64)) 43 w' w.heap.size (fun k_=>some k_≠((.slice (some ad393) x8_2.length co35):Value).ownBlock∧some k_≠(u11:Value).ownBlock∧some k_≠(v13:Value).ownBlock) (.slice (some ad394) x5_1.length co41) x5_1)∧Aside0 (Kd.R (Kd.int .i64) 3 w' w.heap.size (fun k_=>some k_≠(u11:Value).ownBlock∧some k_≠(v13:Value).ownBlock) (.slice (some ad393) x8_2.length co35) x8_2)∧Aside0 (Kd.R (Kd.int .i64) 3 w' w.heap.size (fun k_=>some k_≠((.slice (some ad393) x8_2.length co35):Value).ownBlock∧some k_≠(v13:Value).ownBlock) u11 x11_3)∧Aside0 (Kd.R (Kd.int .i64) 3 w' w.heap.size (fun k_=>some k_≠((.slice (some ad393) x8_2.length co35):Value).ownBlock∧some k_≠(u11:Value).ownBlock) v13 x13_4)∧Aside0 (Kd.R (Kd.int .i64) 3 w' w.heap.size (fun k_=>True∧some k_≠(v13:Value).ownBlock) (.slice A394_0 (rd_L6 x5_1 x51_3).length c394_0) (rd_L6 x5_1 x51_3))∧Aside0 (Below w.heap.size w w'))
                  case atStart=>exact ⟨(([]:List Int)),(true),(0),zo,zo,H',⟨Nat.le_refl _⟩,⟨zS (Kd.S_mono HO_5.out (fun _ hk=>⟨hk.1,⟨hk.2,(by simp [Value.ownBlock])⟩⟩))⟩,⟨zR (Kd.R_mono HO_8.out (fun _ hk=>⟨hk,(by simp [Value.ownBlock])⟩))⟩,⟨zR (Kd.R_mono HO_11.out (fun _ hk=>⟨hk,(by simp [Value.ownBlock])⟩))⟩,⟨by first|exact Kd.R_nil _ _ _ _ _|exact Kd.N_nil _ _ _ _ _|exact Kd.V_nil _ _ _ _ _|exact Kd.Q_nil _ _ _ _ _|exact Kd.S_nil _ _ _ _ _⟩,⟨zR (Kd.R_mono HL394_0.out (fun _ _=>⟨trivial,(by simp [Value.ownBlock])⟩))⟩,⟨zb⟩⟩
                  case round=>
                   clear H'
                   (try clear c1);(try clear p1);(try clear q1);(try clear c2);(try clear p2);(try clear hx2);(try clear hf2);(try clear c3);(try clear c3b0);(try clear c3b1);(try clear p3);(try clear q3);(try clear hx3);(try clear c4);(try clear c4b0);(try clear c4b1);(try clear c6);(try clear p6);(try clear c11);(try clear c13);(try clear c13b0);(try clear c14);(try clear c14b0);(try clear c15);(try clear c15b0);(try clear c16);(try clear c16b0);(try clear c17);(try clear c17b0);(try clear c18);(try clear p19);(try clear q19);(try clear c25);(try clear c27);(try clear hx27);(try clear hf27);(try clear c30);(try clear c30b0);(try clear c30b1);(try clear c31);(try clear c31b0);(try clear c31b1);(try clear c34);(try clear c34b0);(try clear c36);(try clear c36b0);(try clear c37);(try clear c37b0);(try clear c38);(try clear c38b0);(try clear p38);(try clear q38);(try clear hx38);(try clear c39);(try clear c39b0);(try clear p39);(try clear q39);(try clear hx39);(try clear c40);(try clear c40b0);(try clear hcz21_0);(try clear hcz21_1);(try clear hfz21_0);(try clear hfz21_1);(try clear hx27_0);(try clear hx382_0);(try clear hx382_1);(try clear hx384_0);(try clear hx393_0);(try clear hx394_0);(try clear p382);(try clear p384);(try clear p393);(try clear p394);(try clear q382);(try clear q384);(try clear q393);(try clear q394)
                   obtain ⟨x13_4,x14_4,x64_4,rfl,rfl,HA,HK4,HO_5,HO_8,HO_11,HO_13,HO_62,HB⟩:=hrel
                   cases gk with
                   | zero=>exact absurd HA.out (by simp [impl_labelsOf.l3])
                   | succ k4=>
                    have H:=HA.out
                    clear HA
                    simp only [impl_labelsOf.l3] at H
                    by_cases c42:x64_4<((rd_L6 x5_1 x51_3).length:Int)
                    ·rw [if_pos c42] at H
                     have c42b0:decide (x64_4<((rd_L6 x5_1 x51_3).length:Int))=true:=decide_eq_true c42
                     clear c42
                     by_cases c43:0≤x64_4
                     ·rw [if_pos c43] at H
                      have c43b0:decide (0≤x64_4)=true:=decide_eq_true c43
                      clear c43
                      by_cases c44:x64_4<((rd_L6 x5_1 x51_3).length:Int)
                      ·rw [if_pos c44] at H
                       have c44b0:decide (x64_4<((rd_L6 x5_1 x51_3).length:Int))=true:=decide_eq_true c44
                       clear c44
                       by_cases c45:x14_4=true
                       ·subst c45
                        have H1:(if 0≤(rd (rd_L6 x5_1 x51_3) x64_4) then (if (rd (rd_L6 x5_1 x51_3) x64_4)<(x8_2.length:Int) then (if x13_4.length<17592186044416 then (impl_labelsOf.l3 k4 a0 x5_1 x8_2 x9_2 x10_3 x11_3 x51_3 (x13_4++[rd x8_2 (rd (rd_L6 x5_1 x51_3) x64_4)]) (decide ((rd x8_2 (rd (rd_L6 x5_1 x51_3) x64_4))>0)) (x8_2.length:Int) x51_3 (rd_L6 x5_1 x51_3) ((rd_L6 x5_1 x51_3).length:Int) (wrap64 (x64_4 + 1))) else (none)) else (none)) else (none))=some r:=by rw [if_pos rfl] at H;exact H
                        clear H
                        have H:=H1
                        clear H1
                        by_cases c46:0≤(rd (rd_L6 x5_1 x51_3) x64_4)
                        ·rw [if_pos c46] at H
                         have c46b0:decide (0≤(rd (rd_L6 x5_1 x51_3) x64_4))=true:=decide_eq_true c46
                         clear c46
                         by_cases c47:(rd (rd_L6 x5_1 x51_3) x64_4)<(x8_2.length:Int)
                         ·rw [if_pos c47] at H
                          have c47b0:decide ((rd (rd_L6 x5_1 x51_3) x64_4)<(x8_2.length:Int))=true:=decide_eq_true c47
                          clear c47
                          by_cases c48:x13_4.length<17592186044416
                          ·rw [if_pos c48] at H
                           have LMc48:=Aside0.mk c48
                           clear c48
                           obtain ⟨y398,hy398⟩:∃ y_:List Int,y_=(x13_4++[rd x8_2 (rd (rd_L6 x5_1 x51_3) x64_4)]):=⟨_,rfl⟩
                           replace H:(impl_labelsOf.l3 k4 a0 x5_1 x8_2 x9_2 x10_3 x11_3 x51_3 y398 (decide ((rd x8_2 (rd (rd_L6 x5_1 x51_3) x64_4))>0)) (x8_2.length:Int) x51_3 (rd_L6 x5_1 x51_3) ((rd_L6 x5_1 x51_3).length:Int) (wrap64 (x64_4 + 1)))=some r:=by first|(rw [hy398];with_reducible exact H)|(have H2_:=(Option.bind_some _ _).symm.trans H;rw [hy398];with_reducible exact H2_)|(have H2_:=(Option.bind_some _ _).symm.trans H;with_reducible exact H2_)|with_reducible exact H|(rw [hy398];exact H)|exact H
                           have Ny398:=Aside0.mk hy398
                           clear hy398
                           have H':=Aside0.mk H
                           clear H
                           have p395:0≤(x64_4:Int):=of_decide_eq_true za
                           have q395:x64_4<((rd_L6 x5_1 x51_3).length:Int):=of_decide_eq_true za
                           obtain ⟨ad395,e395,hx395_0⟩:=Kd.at_int (Kd.R_reads' HO_62.out).2.2 x64_4 p395 q395
                           cases e395
                           (try replace hx395_0:=(HB.out.cell (World.block_lt_of_cell? w _ hx395_0)).trans hx395_0)
                           replace p395:=eq_true p395
                           replace q395:=eq_true q395
                           have p396:0≤((rd (rd_L6 x5_1 x51_3) x64_4):Int):=of_decide_eq_true za
                           have q396:(rd (rd_L6 x5_1 x51_3) x64_4)<(x8_2.length:Int):=of_decide_eq_true za
                           obtain ⟨ad396,e396,hx396_0⟩:=Kd.at_int (Kd.R_reads' HO_8.out).2.2 (rd (rd_L6 x5_1 x51_3) x64_4) p396 q396
                           obtain rfl:ad393=ad396:=(by injection e396)
                           replace p396:=eq_true p396
                           replace q396:=eq_true q396
                           have p397:0≤((rd (rd_L6 x5_1 x51_3) x64_4):Int):=of_decide_eq_true za
                           have q397:(rd (rd_L6 x5_1 x51_3) x64_4)<(x8_2.length:Int):=of_decide_eq_true za
                           obtain ⟨ad397,e397,hx397_0⟩:=Kd.at_int (Kd.R_reads' HO_8.out).2.2 (rd (rd_L6 x5_1 x51_3) x64_4) p397 q397
                           obtain rfl:ad393=ad397:=(by injection e397)
                           replace p397:=eq_true p397
                           replace q397:=eq_true q397
                           go_wp2_with (first|((with_reducible refine gate_builtin (b:=.append) (xs:=#[.tmp 76,.tmp 81]) rfl ?_);at_builtin;refine Kd.R_append (Kd.int .i64) (w0:=w) w.heap.size rfl (.tmp 76) (.tmp 81) 43 3 (.int .i64 0) 8 rfl Try.underlying43 info3 rfl (by decide) (by omega) u13 x13_4 (rd x8_2 (rd (rd_L6 x5_1 x51_3) x64_4)) [.int .i64 (rd x8_2 (rd (rd_L6 x5_1 x51_3) x64_4))] (fun k_=>some k_≠(.slice (some ad393) x8_2.length co35:Value).ownBlock∧some k_≠(u11:Value).ownBlock) (fun _=>False) rfl rfl ?aP (fun _ hk=>hk.elim) ?aF ?aO ?aB ?aS ?aL ?_;(case aP=>exact rfl);(case aB=>exact zb);(case aF=>exact (fun k_ hk=>⟨Kd.fresh' (Kd.R_lt (zR HO_8.out)) k_ hk,Kd.fresh' (Kd.R_lt (zR HO_11.out)) k_ hk⟩));(case aO=>exact (zR HO_13.out));(case aS=>exact (below_size zb));(case aL=>have:=LMc48.out;omega);intro v399 w49 ho hb hg hat;rw [←Ny398.out] at ho;have n0_:=Aside0.mk (Kd.S_after (ok:=(fun k_=>some k_≠(.slice (some ad393) x8_2.length co35:Value).ownBlock∧some k_≠(u11:Value).ownBlock)) (zS (Kd.S_mono HO_5.out (fun _ hk=>⟨⟨hk.1,hk.2.1⟩,hk.2.2⟩))) hg hat);have n1_:=Aside0.mk (Kd.R_after (ok:=(fun k_=>some k_≠(u11:Value).ownBlock)) (zR HO_8.out) hg hat);have n2_:=Aside0.mk (Kd.R_after (ok:=(fun k_=>some k_≠(.slice (some ad393) x8_2.length co35:Value).ownBlock)) (zR HO_11.out) hg hat);have n3_:=Aside0.mk (hb);have n4_:=Aside0.mk (ho);have n62_:=Aside0.mk (Kd.R_after (ok:=(fun _=>True)) (zR HO_62.out) hg hat);clear HO_62;have HO_62:=n62_;clear n62_;clear HO_5;clear HO_8;clear HO_11;clear HB;clear HO_13;have HO_5:=n0_;have HO_8:=n1_;have HO_11:=n2_;have HB:=n3_;have HO400:=n4_;clear n0_ n1_ n2_ n3_ n4_;clear ho hb hg hat))
                           go_roundg k4
                           case measure=>have:=HK1.out;have:=HK2.out;have:=HK3.out;have:=HK4.out;omega
                           case rel=>exact ⟨(y398),(decide ((rd x8_2 (rd (rd_L6 x5_1 x51_3) x64_4))>0)),(wrap64 (x64_4 + 1)),zo,zo,H',⟨by have:=HK1.out;have:=HK2.out;have:=HK3.out;have:=HK4.out;omega⟩,⟨zS (Kd.S_mono HO_5.out (fun _ hk=>⟨hk.1.1,⟨hk.1.2,hk.2⟩⟩))⟩,⟨zR HO_8.out⟩,⟨zR HO_11.out⟩,⟨zR HO400.out⟩,⟨zR HO_62.out⟩,⟨zb⟩⟩
                          ·rw [if_neg c48] at H
                           exact absurd H (by simp)
                         ·rw [if_neg c47] at H
                          exact absurd H (by simp)
                        ·rw [if_neg c46] at H
                         exact absurd H (by simp)
                       ·replace c45:=Bool.eq_false_iff.mpr c45
                        subst c45
                        have H1:(if 0≤(rd (rd_L6 x5_1 x51_3) x64_4) then (if (rd (rd_L6 x5_1 x51_3) x64_4)<(x8_2.length:Int) then (if x13_4.length<17592186044416 then (impl_labelsOf.l3 k4 a0 x5_1 x8_2 x9_2 x10_3 x11_3 x51_3 (x13_4++[rd x8_2 (rd (rd_L6 x5_1 x51_3) x64_4)]) false (x8_2.length:Int) x51_3 (rd_L6 x5_1 x51_3) ((rd_L6 x5_1 x51_3).length:Int) (wrap64 (x64_4 + 1))) else (none)) else (none)) else (none))=some r:=by rw [if_neg (show ¬ (false=true) by decide)] at H;exact H
                        clear H
                        have H:=H1
                        clear H1
                        by_cases c50:0≤(rd (rd_L6 x5_1 x51_3) x64_4)
                        ·rw [if_pos c50] at H
                         have c50b0:decide (0≤(rd (rd_L6 x5_1 x51_3) x64_4))=true:=decide_eq_true c50
                         clear c50
                         by_cases c51:(rd (rd_L6 x5_1 x51_3) x64_4)<(x8_2.length:Int)
                         ·rw [if_pos c51] at H
                          have c51b0:decide ((rd (rd_L6 x5_1 x51_3) x64_4)<(x8_2.length:Int))=true:=decide_eq_true c51
                          clear c51
                          by_cases c52:x13_4.length<17592186044416
                          ·rw [if_pos c52] at H
                           have LMc52:=Aside0.mk c52
                           clear c52
                           obtain ⟨y402,hy402⟩:∃ y_:List Int,y_=(x13_4++[rd x8_2 (rd (rd_L6 x5_1 x51_3) x64_4)]):=⟨_,rfl⟩
                           replace H:(impl_labelsOf.l3 k4 a0 x5_1 x8_2 x9_2 x10_3 x11_3 x51_3 y402 false (x8_2.length:Int) x51_3 (rd_L6 x5_1 x51_3) ((rd_L6 x5_1 x51_3).length:Int) (wrap64 (x64_4 + 1)))=some r:=by first|(rw [hy402];with_reducible exact H)|(have H2_:=(Option.bind_some _ _).symm.trans H;rw [hy402];with_reducible exact H2_)|(have H2_:=(Option.bind_some _ _).symm.trans H;with_reducible exact H2_)|with_reducible exact H|(rw [hy402];exact H)|exact H
                           have Ny402:=Aside0.mk hy402
                           clear hy402
                           have H':=Aside0.mk H
                           clear H
                           have p395:0≤(x64_4:Int):=of_decide_eq_true za
                           have q395:x64_4<((rd_L6 x5_1 x51_3).length:Int):=of_decide_eq_true za
                           obtain ⟨ad395,e395,hx395_0⟩:=Kd.at_int (Kd.R_reads' HO_62.out).2.2 x64_4 p395 q395
                           cases e395
                           (try replace hx395_0:=(HB.out.cell (World.block_lt_of_cell? w _ hx395_0)).trans hx395_0)
                           replace p395:=eq_true p395
                           replace q395:=eq_true q395
                           have p401:0≤((rd (rd_L6 x5_1 x51_3) x64_4):Int):=of_decide_eq_true za
                           have q401:(rd (rd_L6 x5_1 x51_3) x64_4)<(x8_2.length:Int):=of_decide_eq_true za
                           obtain ⟨ad401,e401,hx401_0⟩:=Kd.at_int (Kd.R_reads' HO_8.out).2.2 (rd (rd_L6 x5_1 x51_3) x64_4) p401 q401
                           obtain rfl:ad393=ad401:=(by injection e401)
                           replace p401:=eq_true p401
                           replace q401:=eq_true q401
                           go_wp2_with (first|((with_reducible refine gate_builtin (b:=.append) (xs:=#[.tmp 76,.tmp 81]) rfl ?_);at_builtin;refine Kd.R_append (Kd.int .i64) (w0:=w) w.heap.size rfl (.tmp 76) (.tmp 81) 43 3 (.int .i64 0) 8 rfl Try.underlying43 info3 rfl (by decide) (by omega) u13 x13_4 (rd x8_2 (rd (rd_L6 x5_1 x51_3) x64_4)) [.int .i64 (rd x8_2 (rd (rd_L6 x5_1 x51_3) x64_4))] (fun k_=>some k_≠(.slice (some ad393) x8_2.length co35:Value).ownBlock∧some k_≠(u11:Value).ownBlock) (fun _=>False) rfl rfl ?aP (fun _ hk=>hk.elim) ?aF ?aO ?aB ?aS ?aL ?_;(case aP=>exact rfl);(case aB=>exact zb);(case aF=>exact (fun k_ hk=>⟨Kd.fresh' (Kd.R_lt (zR HO_8.out)) k_ hk,Kd.fresh' (Kd.R_lt (zR HO_11.out)) k_ hk⟩));(case aO=>exact (zR HO_13.out));(case aS=>exact (below_size zb));(case aL=>have:=LMc52.out;omega);intro v403 w53 ho hb hg hat;rw [←Ny402.out] at ho;have n0_:=Aside0.mk (Kd.S_after (ok:=(fun k_=>some k_≠(.slice (some ad393) x8_2.length co35:Value).ownBlock∧some k_≠(u11:Value).ownBlock)) (zS (Kd.S_mono HO_5.out (fun _ hk=>⟨⟨hk.1,hk.2.1⟩,hk.2.2⟩))) hg hat);have n1_:=Aside0.mk (Kd.R_after (ok:=(fun k_=>some k_≠(u11:Value).ownBlock)) (zR HO_8.out) hg hat);have n2_:=Aside0.mk (Kd.R_after (ok:=(fun k_=>some k_≠(.slice (some ad393) x8_2.length co35:Value).ownBlock)) (zR HO_11.out) hg hat);have n3_:=Aside0.mk (hb);have n4_:=Aside0.mk (ho);have n62_:=Aside0.mk (Kd.R_after (ok:=(fun _=>True)) (zR HO_62.out) hg hat);clear HO_62;have HO_62:=n62_;clear n62_;clear HO_5;clear HO_8;clear HO_11;clear HB;clear HO_13;have HO_5:=n0_;have HO_8:=n1_;have HO_11:=n2_;have HB:=n3_;have HO404:=n4_;clear n0_ n1_ n2_ n3_ n4_;clear ho hb hg hat))
                           go_roundg k4
                           case measure=>have:=HK1.out;have:=HK2.out;have:=HK3.out;have:=HK4.out;omega
                           case rel=>exact ⟨(y402),(false),(wrap64 (x64_4 + 1)),zo,zo,H',⟨by have:=HK1.out;have:=HK2.out;have:=HK3.out;have:=HK4.out;omega⟩,⟨zS (Kd.S_mono HO_5.out (fun _ hk=>⟨hk.1.1,⟨hk.1.2,hk.2⟩⟩))⟩,⟨zR HO_8.out⟩,⟨zR HO_11.out⟩,⟨zR HO404.out⟩,⟨zR HO_62.out⟩,⟨zb⟩⟩
                          ·rw [if_neg c52] at H
                           exact absurd H (by simp)
                         ·rw [if_neg c51] at H
                          exact absurd H (by simp)
                        ·rw [if_neg c50] at H
                         exact absurd H (by simp)
                      ·rw [if_neg c44] at H
                       exact absurd H (by simp)
                     ·rw [if_neg c43] at H
                      exact absurd H (by simp)
                    ·rw [if_neg c42] at H
                     have c42b0:decide (x64_4<((rd_L6 x5_1 x51_3).length:Int))=false:=decide_eq_false c42
                     clear c42
                     replace H:=Option.bind_eq_some_iff.mp H
                     obtain ⟨t405,A540,H⟩:=H
                     replace H:(if x14_4=true then (if x10_3<0 then (impl_labelsOf.l2 k4 a0 x5_1 x8_2 x9_2 x51_3 t405 (x8_2.length:Int) (wrap64 (x51_3 + 1))) else ((impl_compareLists.f k4 t405 x11_3).bind fun t408=>(if t408<0 then (impl_labelsOf.l2 k4 a0 x5_1 x8_2 x9_2 x51_3 t405 (x8_2.length:Int) (wrap64 (x51_3 + 1))) else (impl_labelsOf.l2 k4 a0 x5_1 x8_2 x9_2 x10_3 x11_3 (x8_2.length:Int) (wrap64 (x51_3 + 1)))))) else (impl_labelsOf.l2 k4 a0 x5_1 x8_2 x9_2 x10_3 x11_3 (x8_2.length:Int) (wrap64 (x51_3 + 1))))=some r:=H
                     have A54:=Aside0.mk A540
                     clear A540
                     by_cases c55:x14_4=true
                     ·subst c55
                      have H1:(if x10_3<0 then (impl_labelsOf.l2 k4 a0 x5_1 x8_2 x9_2 x51_3 t405 (x8_2.length:Int) (wrap64 (x51_3 + 1))) else ((impl_compareLists.f k4 t405 x11_3).bind fun t408=>(if t408<0 then (impl_labelsOf.l2 k4 a0 x5_1 x8_2 x9_2 x51_3 t405 (x8_2.length:Int) (wrap64 (x51_3 + 1))) else (impl_labelsOf.l2 k4 a0 x5_1 x8_2 x9_2 x10_3 x11_3 (x8_2.length:Int) (wrap64 (x51_3 + 1))))))=some r:=by rw [if_pos rfl] at H;exact H
                      clear H
                      have H:=H1
                      clear H1
                      by_cases c56:x10_3<0
                      ·rw [if_pos c56] at H
                       have c56b0:decide (x10_3<0)=true:=decide_eq_true c56
                       clear c56
                       have H':=Aside0.mk H
                       clear H
                       obtain ⟨Ao57,co57,eo57⟩:=Kd.R_slice HO_13.out
                       subst eo57
                       go_wp2_with (first|((with_reducible refine gate_callee (f:=65) rfl ?_);refine goesL_ (some 85) rfl rfl Try.func65 (by kernel_rfl) rfl #[.slice Ao57 x13_4.length co57,.func (.func 117) #[] #[]] rfl zl ?_;(with_reducible refine (impl_sortedDown.calls k4 _ _ x13_4 t405 _ ?side1 ?side2 A54.out).mono ?_);(case side1=>exact zC ((Kd.R_reads' HO_13.out).2.2));(case side2=>exact (Kd.R_reads' HO_13.out).2.1);rintro e w58 ⟨v406,rfl,ho0,hb⟩;refine ⟨_,rfl,?_⟩;have n0_:=Aside0.mk (Kd.S_elder' (zS HO_5.out) (Kd.R_base ho0) hb);have n1_:=Aside0.mk (Kd.R_elder' (zR HO_8.out) (Kd.R_base ho0) hb);have n2_:=Aside0.mk (Kd.R_elder' (zR HO_11.out) (Kd.R_base ho0) hb);have n3_:=Aside0.mk (Kd.R_elder' (zR HO_13.out) (Kd.R_base ho0) hb);have n4_:=Aside0.mk (Kd.R_lower (Kd.R_new' (Kd.R_new' (Kd.R_new' ho0 (Kd.R_lt (zR HO_8.out))) (Kd.R_lt (zR HO_11.out))) (Kd.R_lt (zR HO_13.out))) (below_size zb));have n5_:=Aside0.mk (below_step zb hb);clear HO_5;clear HO_8;clear HO_11;clear HO_13;clear HB;have HO_5:=n0_;have HO_8:=n1_;have HO_11:=n2_;have HO_13:=n3_;have HO407:=n4_;have HB:=n5_;clear n0_ n1_ n2_ n3_ n4_ n5_;(try clear hb);(try clear ho0)))
                       go_roundg k4
                       case measure=>have:=HK1.out;have:=HK2.out;have:=HK3.out;have:=HK4.out;omega
                       case rel=>exact ⟨(x51_3),(t405),(wrap64 (x51_3 + 1)),zo,zo,H',⟨by have:=HK1.out;have:=HK2.out;have:=HK3.out;have:=HK4.out;omega⟩,⟨zS (Kd.S_mono HO_5.out (fun _ hk=>⟨hk.1.1,hk.2⟩))⟩,⟨zR (Kd.R_mono HO_8.out (fun _ hk=>hk.2))⟩,⟨zR (Kd.R_mono HO407.out (fun _ hk=>hk.1.1.2))⟩,⟨zb⟩⟩
                      ·rw [if_neg c56] at H
                       have c56b0:decide (x10_3<0)=false:=decide_eq_false c56
                       clear c56
                       replace H:=Option.bind_eq_some_iff.mp H
                       obtain ⟨t408,A590,H⟩:=H
                       replace H:(if t408<0 then (impl_labelsOf.l2 k4 a0 x5_1 x8_2 x9_2 x51_3 t405 (x8_2.length:Int) (wrap64 (x51_3 + 1))) else (impl_labelsOf.l2 k4 a0 x5_1 x8_2 x9_2 x10_3 x11_3 (x8_2.length:Int) (wrap64 (x51_3 + 1))))=some r:=H
                       have A59:=Aside0.mk A590
                       clear A590
                       by_cases c60:t408<0
                       ·rw [if_pos c60] at H
                        have c60b0:decide (t408<0)=true:=decide_eq_true c60
                        clear c60
                        have H':=Aside0.mk H
                        clear H
                        obtain ⟨Ao61,co61,eo61⟩:=Kd.R_slice HO_13.out
                        subst eo61
                        go_wp2_with (first|((with_reducible refine gate_callee (f:=65) rfl ?_);refine goesL_ (some 85) rfl rfl Try.func65 (by kernel_rfl) rfl #[.slice Ao61 x13_4.length co61,.func (.func 117) #[] #[]] rfl zl ?_;(with_reducible refine (impl_sortedDown.calls k4 _ _ x13_4 t405 _ ?side1 ?side2 A54.out).mono ?_);(case side1=>exact zC ((Kd.R_reads' HO_13.out).2.2));(case side2=>exact (Kd.R_reads' HO_13.out).2.1);rintro e w62 ⟨v406,rfl,ho0,hb⟩;refine ⟨_,rfl,?_⟩;have n0_:=Aside0.mk (Kd.S_elder' (zS HO_5.out) (Kd.R_base ho0) hb);have n1_:=Aside0.mk (Kd.R_elder' (zR HO_8.out) (Kd.R_base ho0) hb);have n2_:=Aside0.mk (Kd.R_elder' (zR HO_11.out) (Kd.R_base ho0) hb);have n3_:=Aside0.mk (Kd.R_elder' (zR HO_13.out) (Kd.R_base ho0) hb);have n4_:=Aside0.mk (Kd.R_lower (Kd.R_new' (Kd.R_new' (Kd.R_new' ho0 (Kd.R_lt (zR HO_8.out))) (Kd.R_lt (zR HO_11.out))) (Kd.R_lt (zR HO_13.out))) (below_size zb));have n5_:=Aside0.mk (below_step zb hb);clear HO_5;clear HO_8;clear HO_11;clear HO_13;clear HB;have HO_5:=n0_;have HO_8:=n1_;have HO_11:=n2_;have HO_13:=n3_;have HO407:=n4_;have HB:=n5_;clear n0_ n1_ n2_ n3_ n4_ n5_;(try clear hb);(try clear ho0);obtain ⟨Ao63,co63,eo63⟩:=Kd.R_slice HO407.out;subst eo63;obtain ⟨Ao64,co64,eo64⟩:=Kd.R_slice HO_11.out;subst eo64)|(go_at_call 118;(with_reducible refine (impl_compareLists.calls k4 _ _ t405 _ _ x11_3 t408 _ ?side1 ?side2 ?side3 ?side4 A59.out).mono ?_);(case side1=>exact zC ((Kd.R_reads' HO407.out).2.2));(case side2=>exact (Kd.R_reads' HO407.out).2.1);(case side3=>exact zC ((Kd.R_reads' HO_11.out).2.2));(case side4=>exact (Kd.R_reads' HO_11.out).2.1);rintro e w' ⟨rfl,⟨nd,rfl⟩⟩))
                        go_roundg k4
                        case measure=>have:=HK1.out;have:=HK2.out;have:=HK3.out;have:=HK4.out;omega
                        case rel=>exact ⟨(x51_3),(t405),(wrap64 (x51_3 + 1)),zo,zo,H',⟨by have:=HK1.out;have:=HK2.out;have:=HK3.out;have:=HK4.out;omega⟩,⟨zS (Kd.S_mono HO_5.out (fun _ hk=>⟨hk.1.1,hk.2⟩))⟩,⟨zR (Kd.R_mono HO_8.out (fun _ hk=>hk.2))⟩,⟨zR (Kd.R_mono HO407.out (fun _ hk=>hk.1.1.2))⟩,⟨zb⟩⟩
                       ·rw [if_neg c60] at H
                        have c60b0:decide (t408<0)=false:=decide_eq_false c60
                        clear c60
                        have H':=Aside0.mk H
                        clear H
                        obtain ⟨Ao65,co65,eo65⟩:=Kd.R_slice HO_13.out
                        subst eo65
                        go_wp2_with (first|((with_reducible refine gate_callee (f:=65) rfl ?_);refine goesL_ (some 85) rfl rfl Try.func65 (by kernel_rfl) rfl #[.slice Ao65 x13_4.length co65,.func (.func 117) #[] #[]] rfl zl ?_;(with_reducible refine (impl_sortedDown.calls k4 _ _ x13_4 t405 _ ?side1 ?side2 A54.out).mono ?_);(case side1=>exact zC ((Kd.R_reads' HO_13.out).2.2));(case side2=>exact (Kd.R_reads' HO_13.out).2.1);rintro e w66 ⟨v406,rfl,ho0,hb⟩;refine ⟨_,rfl,?_⟩;have n0_:=Aside0.mk (Kd.S_elder' (zS HO_5.out) (Kd.R_base ho0) hb);have n1_:=Aside0.mk (Kd.R_elder' (zR HO_8.out) (Kd.R_base ho0) hb);have n2_:=Aside0.mk (Kd.R_elder' (zR HO_11.out) (Kd.R_base ho0) hb);have n3_:=Aside0.mk (Kd.R_elder' (zR HO_13.out) (Kd.R_base ho0) hb);have n4_:=Aside0.mk (Kd.R_lower (Kd.R_new' (Kd.R_new' (Kd.R_new' ho0 (Kd.R_lt (zR HO_8.out))) (Kd.R_lt (zR HO_11.out))) (Kd.R_lt (zR HO_13.out))) (below_size zb));have n5_:=Aside0.mk (below_step zb hb);clear HO_5;clear HO_8;clear HO_11;clear HO_13;clear HB;have HO_5:=n0_;have HO_8:=n1_;have HO_11:=n2_;have HO_13:=n3_;have HO407:=n4_;have HB:=n5_;clear n0_ n1_ n2_ n3_ n4_ n5_;(try clear hb);(try clear ho0);obtain ⟨Ao67,co67,eo67⟩:=Kd.R_slice HO407.out;subst eo67;obtain ⟨Ao68,co68,eo68⟩:=Kd.R_slice HO_11.out;subst eo68)|(go_at_call 118;(with_reducible refine (impl_compareLists.calls k4 _ _ t405 _ _ x11_3 t408 _ ?side1 ?side2 ?side3 ?side4 A59.out).mono ?_);(case side1=>exact zC ((Kd.R_reads' HO407.out).2.2));(case side2=>exact (Kd.R_reads' HO407.out).2.1);(case side3=>exact zC ((Kd.R_reads' HO_11.out).2.2));(case side4=>exact (Kd.R_reads' HO_11.out).2.1);rintro e w' ⟨rfl,⟨nd,rfl⟩⟩))
                        go_roundg k4
                        case measure=>have:=HK1.out;have:=HK2.out;have:=HK3.out;have:=HK4.out;omega
                        case rel=>exact ⟨(x10_3),(x11_3),(wrap64 (x51_3 + 1)),zo,zo,H',⟨by have:=HK1.out;have:=HK2.out;have:=HK3.out;have:=HK4.out;omega⟩,⟨zS (Kd.S_mono HO_5.out (fun _ hk=>⟨hk.1.1,hk.1.2.1⟩))⟩,⟨zR (Kd.R_mono HO_8.out (fun _ hk=>hk.1.1))⟩,⟨zR (Kd.R_mono HO_11.out (fun _ hk=>hk.1.1))⟩,⟨zb⟩⟩
                     ·replace c55:=Bool.eq_false_iff.mpr c55
                      subst c55
                      have H1:(impl_labelsOf.l2 k4 a0 x5_1 x8_2 x9_2 x10_3 x11_3 (x8_2.length:Int) (wrap64 (x51_3 + 1)))=some r:=by rw [if_neg (show ¬ (false=true) by decide)] at H;exact H
                      clear H
                      have H:=H1
                      clear H1
                      have H':=Aside0.mk H
                      clear H
                      obtain ⟨Ao69,co69,eo69⟩:=Kd.R_slice HO_13.out
                      subst eo69
                      go_wp2_with (first|((with_reducible refine gate_callee (f:=65) rfl ?_);refine goesL_ (some 85) rfl rfl Try.func65 (by kernel_rfl) rfl #[.slice Ao69 x13_4.length co69,.func (.func 117) #[] #[]] rfl zl ?_;(with_reducible refine (impl_sortedDown.calls k4 _ _ x13_4 t405 _ ?side1 ?side2 A54.out).mono ?_);(case side1=>exact zC ((Kd.R_reads' HO_13.out).2.2));(case side2=>exact (Kd.R_reads' HO_13.out).2.1);rintro e w70 ⟨v406,rfl,ho0,hb⟩;refine ⟨_,rfl,?_⟩;have n0_:=Aside0.mk (Kd.S_elder' (zS HO_5.out) (Kd.R_base ho0) hb);have n1_:=Aside0.mk (Kd.R_elder' (zR HO_8.out) (Kd.R_base ho0) hb);have n2_:=Aside0.mk (Kd.R_elder' (zR HO_11.out) (Kd.R_base ho0) hb);have n3_:=Aside0.mk (Kd.R_elder' (zR HO_13.out) (Kd.R_base ho0) hb);have n4_:=Aside0.mk (Kd.R_lower (Kd.R_new' (Kd.R_new' (Kd.R_new' ho0 (Kd.R_lt (zR HO_8.out))) (Kd.R_lt (zR HO_11.out))) (Kd.R_lt (zR HO_13.out))) (below_size zb));have n5_:=Aside0.mk (below_step zb hb);clear HO_5;clear HO_8;clear HO_11;clear HO_13;clear HB;have HO_5:=n0_;have HO_8:=n1_;have HO_11:=n2_;have HO_13:=n3_;have HO407:=n4_;have HB:=n5_;clear n0_ n1_ n2_ n3_ n4_ n5_;(try clear hb);(try clear ho0)))
                      go_roundg k4
                      case measure=>have:=HK1.out;have:=HK2.out;have:=HK3.out;have:=HK4.out;omega
                      case rel=>exact ⟨(x10_3),(x11_3),(wrap64 (x51_3 + 1)),zo,zo,H',⟨by have:=HK1.out;have:=HK2.out;have:=HK3.out;have:=HK4.out;omega⟩,⟨zS (Kd.S_mono HO_5.out (fun _ hk=>⟨hk.1.1,hk.1.2.1⟩))⟩,⟨zR (Kd.R_mono HO_8.out (fun _ hk=>hk.1.1))⟩,⟨zR (Kd.R_mono HO_11.out (fun _ hk=>hk.1.1))⟩,⟨zb⟩⟩
                 ·rw [if_neg c40] at H
                  exact absurd H (by simp)
               ·rw [if_neg c38] at H
                exact absurd H (by simp)
              ·rw [if_neg c37] at H
               exact absurd H (by simp)
             ·rw [if_neg c36] at H
              have c36b0:decide (x51_3<(x8_2.length:Int))=false:=decide_eq_false c36
              clear c36
              by_cases c71:0≤x10_3
              ·rw [if_pos c71] at H
               have c71b0:decide (0≤x10_3)=true:=decide_eq_true c71
               clear c71
               by_cases c72:x10_3<(x8_2.length:Int)
               ·rw [if_pos c72] at H
                have c72b0:decide (x10_3<(x8_2.length:Int))=true:=decide_eq_true c72
                clear c72
                obtain ⟨y392,hy392⟩:∃ y_:List Int,y_=(x8_2.set (x10_3:Int).toNat x9_2):=⟨_,rfl⟩
                replace H:(impl_labelsOf.l1 k3 a0 x5_1 y392 (wrap64 (x9_2 + 1)))=some r:=by first|(rw [hy392];with_reducible exact H)|(have H2_:=(Option.bind_some _ _).symm.trans H;rw [hy392];with_reducible exact H2_)|(have H2_:=(Option.bind_some _ _).symm.trans H;with_reducible exact H2_)|with_reducible exact H|(rw [hy392];exact H)|exact H
                have Ny392:=Aside0.mk hy392
                clear hy392
                have H':=Aside0.mk H
                clear H
                have p73:0≤(x10_3:Int):=of_decide_eq_true za
                have q73:(x10_3:Int)<((x8_2.length:Int):Int):=of_decide_eq_true za
                obtain ⟨go73,co73,eo73,gb73,gl73,cl73,HG73⟩:=Kd.R_form HO_8.out (by omega)
                (first|cases eo73|(injection eo73 with ea_ en_ ec_;(first|subst ea_|(injection ea_ with ea_;subst ea_));subst ec_;clear en_))
                have GB73:=Aside0.mk gb73
                have GG73:=Aside0.mk HG73
                clear gb73 gl73 HG73
                obtain ⟨hx73_0,hf73_0⟩:=Kd.R_celln 0 HO_8.out (x10_3:Int) p73 q73
                replace p73:=eq_true p73
                replace q73:=eq_true q73
                have HP74:=Kd.R_putg HO_8.out (x10_3:Int) x9_2
                go_wp2_with (first|((with_reducible refine gate_store (t:=3) (p:=103) rfl ?_);(try (rw [drewN_self wr];generalize hq_:World.drewN wr _=wr;have n0_:=Aside0.mk (Kd.S_at hq_ HO_5.out);have n1_:=Aside0.mk (Kd.R_at hq_ HO_8.out);have n2_:=Aside0.mk (Kd.R_at hq_ HO_11.out);have n3_:=Aside0.mk (below_at hq_ HB.out);(try replace hx73_0:=cell_at hq_ hx73_0);(try replace hf73_0:=(fun {W_ W2_:World} {n_:Nat} {a_:Addr} {b_:Bool} (h_:W_.drewN n_=W2_) (e_:W_.frozen? a_=b_)=>(by subst h_;exact e_:W2_.frozen? a_=b_)) hq_ hf73_0);clear hq_ HO_5 HO_8 HO_11 HB;have HO_5:=n0_;have HO_8:=n1_;have HO_11:=n2_;have HB:=n3_;clear n0_ n1_ n2_ n3_;(try (have HP74:=Kd.R_putg HO_8.out (x10_3:Int) x9_2))));refine store_event (t:=3) (p:=103) (v:=?vo_w75) (w1:=(wr.setCell ⟨go73,(x10_3:Int).toNat,none⟩ (.int .i64 x9_2))) ?hg ?ho ?hn ?hr ?_;(case ho=>rfl);(case hg=>rfl);(case hn=>rfl);(case hr=>first|(go_simp;done)|(go_simp;rfl));intro w75 hw;have hg:wr.grownBy w75 (some go73):=(by rw [hw];exact HP74.2);have hp_:Kd.R (Kd.int .i64) 3 w75 w.heap.size (fun k_=>some k_≠(u11:Value).ownBlock) (.slice (some ⟨go73,0,none⟩) x8_2.length co35) y392:=(by rw [hw,Ny392.out];exact HP74.1);clear HP74;replace HO_5:=Aside0.mk (Kd.S_after (v:=(.slice (some ⟨go73,0,none⟩) x8_2.length co35)) (v1:=(.slice (some ⟨go73,0,none⟩) x8_2.length co35)) (ok:=(fun k_=>some k_≠(u11:Value).ownBlock)) (zS (Kd.S_mono HO_5.out (fun _ hk=>⟨hk.2,hk.1⟩))) hg (.inl rfl));replace HO_8:=Aside0.mk (hp_);replace HO_11:=Aside0.mk (Kd.R_after (v:=(.slice (some ⟨go73,0,none⟩) x8_2.length co35)) (v1:=(.slice (some ⟨go73,0,none⟩) x8_2.length co35)) (ok:=(fun _=>True)) (zR (Kd.R_mono HO_11.out (fun _ hk=>⟨trivial,hk⟩))) hg (.inl rfl));replace HB:=Aside0.mk ((by rw [hw];exact below_set (HB.out) GB73.out:Below w.heap.size w w75));clear hg hw hp_))
                go_roundg k3
                case measure=>have:=HK1.out;have:=HK2.out;have:=HK3.out;omega
                case rel=>exact ⟨(y392),(wrap64 (x9_2 + 1)),zo,H',⟨by have:=HK1.out;have:=HK2.out;have:=HK3.out;omega⟩,⟨zS (Kd.S_mono HO_5.out (fun _ hk=>hk.2))⟩,⟨zR (Kd.R_mono HO_8.out (fun _ hk=>trivial))⟩,⟨zb⟩⟩
               ·rw [if_neg c72] at H
                exact absurd H (by simp)
              ·rw [if_neg c71] at H
               exact absurd H (by simp)
          ·rw [if_neg c34] at H
           have c34b0:decide (x9_2≤a0)=false:=decide_eq_false c34
           clear c34
           obtain rfl:=Option.some.inj H
           go_wp2
           go_ret
           exact ⟨_,by first|rfl|(simp [errW_none,errW_some] <;> rfl)|(simp [*,errW_none,errW_some] <;> rfl),zR HO_8.out,zb⟩
       ·rw [if_neg c31] at H
        exact absurd H (by simp)
      ·rw [if_neg c30] at H
       exact absurd H (by simp)
  ·rw [if_neg c4] at H
   exact absurd H (by simp)
 ·rw [if_neg c3] at H
  exact absurd H (by simp)

end Go.Proofs.Ytbcfmegepkhlpaa.XFnExactLabelPlan
-- minified
