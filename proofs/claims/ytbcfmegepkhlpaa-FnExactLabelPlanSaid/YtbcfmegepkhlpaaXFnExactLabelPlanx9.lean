-- Written by a program of this session (the kit's print, widened). Proved here: what each function answers, for the arguments that its contract names.
import Derived.Test.YtbcfmegepkhlpaaXFnExactLabelPlanx0
import Derived.Test.YtbcfmegepkhlpaaXFnExactLabelPlanx7
import Derived.Test.YtbcfmegepkhlpaaXFnExactLabelPlanx8
namespace Go.Proofs.Ytbcfmegepkhlpaa.XFnExactLabelPlan
open Go.RowKit Go.Proofs.YtbcfmegepkhlpaaW.PrintWords Go.Proofs.YtbcfmegepkhlpaaW.PrintLast Go.Proofs.YtbcfmegepkhlpaaW.PrintMore
attribute [local go_sem] max2_int min2_int max_two min_two max_three min_three max_four min_four   -- for this text's walks alone
attribute [local go_sem] idxA_72_0 idxA_72_1 fldS_96_0 fldS_96_1 fldS_96_2 fldS_111_0 fldS_111_1 fldS_111_2
set_option linter.unusedVariables false
set_option linter.unusedSimpArgs false

/-! ### spec_l7List: function 57 -/
mutual
def spec_l7List.l0:Nat→List (S76)→Int→List Int→Int→List (List Bool)→List (S92)→List Int→Int→Option ((List (S92)))
 | 0,_,_,_,_,_,_,_,_=>none
 | k + 1,x0,x1,x3,x9,x10,x11,x12,x13=>if x13<x9 then (if 0≤x13 then (if x13<(x12.length:Int) then (spec_l7List.l0 k x0 x1 x3 x9 x10 x11 (x12.set (x13:Int).toNat (-1)) (wrap64 (x13 + 1))) else (none)) else (none)) else (if 0≤x1 then (if (x1:Int).toNat≤35184372088832 then (spec_l7List.l1 k x0 x1 x3 x10 x11 x12 (List.replicate (x1:Int).toNat 0) 0 x9) else (none)) else (none))
def spec_l7List.l1:Nat→List (S76)→Int→List Int→List (List Bool)→List (S92)→List Int→List Int→Int→Int→Option ((List (S92)))
 | 0,_,_,_,_,_,_,_,_,_=>none
 | k + 1,x0,x1,x3,x10,x11,x12,x14,x15,x16=>if x16>0 then (spec_l7List.l2 k x0 x1 x3 x10 x11 x12 x14 x15 x16 0) else (some x11)
def spec_l7List.l2:Nat→List (S76)→Int→List Int→List (List Bool)→List (S92)→List Int→List Int→Int→Int→Int→Option ((List (S92)))
 | 0,_,_,_,_,_,_,_,_,_,_=>none
 | k + 1,x0,x1,x3,x10,x11,x12,x14,x15,x16,x17=>if x17<x1 then (if 0≤x17 then (if x17<(x14.length:Int) then (if (rd x14 x17)≤x15 then ((spec_l7Next.f k x10 x3 x12 x15).bind fun t173=>(if t173≥0 then (if 0≤t173 then (if t173<(x11.length:Int) then (if t173<(x0.length:Int) then (if t173<(x12.length:Int) then ((some (x12.set (t173:Int).toNat (wrap64 (x15 + ((rd_T76 x0 t173).f0))):List Int)).bind fun y176=>(spec_l7List.l2 k x0 x1 x3 x10 (x11.set (t173:Int).toNat (⟨t173,x17,x15⟩:S92)) y176 (x14.set (x17:Int).toNat (rd y176 t173)) x15 (wrap64 (x16 - 1)) (wrap64 (x17 + 1)))) else (none)) else (none)) else (none)) else (none)) else (spec_l7List.l2 k x0 x1 x3 x10 x11 x12 x14 x15 x16 (wrap64 (x17 + 1))))) else (if (-1)≥0 then (if 0≤(-1) then (if (-1)<(x11.length:Int) then (if (-1)<(x0.length:Int) then (if (-1)<(x12.length:Int) then ((some (x12.set ((-1):Int).toNat (wrap64 (x15 + ((rd_T76 x0 (-1)).f0))):List Int)).bind fun y181=>(spec_l7List.l2 k x0 x1 x3 x10 (x11.set ((-1):Int).toNat (⟨(-1),x17,x15⟩:S92)) y181 (x14.set (x17:Int).toNat (rd y181 (-1))) x15 (wrap64 (x16 - 1)) (wrap64 (x17 + 1)))) else (none)) else (none)) else (none)) else (none)) else (spec_l7List.l2 k x0 x1 x3 x10 x11 x12 x14 x15 x16 (wrap64 (x17 + 1))))) else (none)) else (none)) else ((spec_l7Soon.f k x12 x15).bind fun t171=>(spec_l7List.l1 k x0 x1 x3 x10 x11 x12 x14 t171 x16))
end
def spec_l7List.f (k:Nat) (l0:List (S76)) (a1:Int) (l2:List (S72)) (l3:List Int):Option ((List (S92))):=(spec_l4Table.f k (l0.length:Int) l2).bind fun t158=>(if 0≤(l0.length:Int) then (if ((l0.length:Int):Int).toNat≤11728124029610 then (if ((l0.length:Int):Int).toNat≤35184372088832 then (spec_l7List.l0 k l0 a1 l3 (l0.length:Int) t158 (List.replicate ((l0.length:Int):Int).toNat z92) (List.replicate ((l0.length:Int):Int).toNat 0) 0) else (none)) else (none)) else (none))
theorem spec_l7List.mono_l:∀ k,(∀ y0 y1 y2 y3 y4 y5 y6 y7,LeO (spec_l7List.l0 k y0 y1 y2 y3 y4 y5 y6 y7) (spec_l7List.l0 (k + 1) y0 y1 y2 y3 y4 y5 y6 y7))∧(∀ y0 y1 y2 y3 y4 y5 y6 y7 y8,LeO (spec_l7List.l1 k y0 y1 y2 y3 y4 y5 y6 y7 y8) (spec_l7List.l1 (k + 1) y0 y1 y2 y3 y4 y5 y6 y7 y8))∧(∀ y0 y1 y2 y3 y4 y5 y6 y7 y8 y9,LeO (spec_l7List.l2 k y0 y1 y2 y3 y4 y5 y6 y7 y8 y9) (spec_l7List.l2 (k + 1) y0 y1 y2 y3 y4 y5 y6 y7 y8 y9))
 | 0=>⟨fun _ _ _ _ _ _ _ _ r h=>by simp [spec_l7List.l0] at h,fun _ _ _ _ _ _ _ _ _ r h=>by simp [spec_l7List.l1] at h,fun _ _ _ _ _ _ _ _ _ _ r h=>by simp [spec_l7List.l2] at h⟩
 | k + 1=>by
  obtain ⟨ih0,ih1,ih2⟩:=spec_l7List.mono_l k
  refine ⟨?_,?_,?_⟩
  ·intro y0 y1 y2 y3 y4 y5 y6 y7
   unfold spec_l7List.l0
   repeat' first
   | (with_reducible exact ih0 _ _ _ _ _ _ _ _)
   | (with_reducible exact ih1 _ _ _ _ _ _ _ _ _)
   | (with_reducible exact ih2 _ _ _ _ _ _ _ _ _ _)
   | (with_reducible exact spec_l4Table.mono _ _ _)
   | (with_reducible exact spec_l7Next.mono _ _ _ _ _)
   | (with_reducible exact spec_l7Soon.mono _ _ _)
   | (with_reducible exact LeO.refl _)
   | (with_reducible exact LeO.none _)
   | (with_reducible refine LeO.ite ?_ ?_)
   | (with_reducible refine LeO.bind ?_ (fun _=>?_))
   | exact ih0 _ _ _ _ _ _ _ _
   | exact ih1 _ _ _ _ _ _ _ _ _
   | exact ih2 _ _ _ _ _ _ _ _ _ _
   | exact spec_l4Table.mono _ _ _
   | exact spec_l7Next.mono _ _ _ _ _
   | exact spec_l7Soon.mono _ _ _
   | exact LeO.none _
   | refine LeO.ite ?_ ?_
   | refine LeO.bind ?_ (fun _=>?_)
  ·intro y0 y1 y2 y3 y4 y5 y6 y7 y8
   unfold spec_l7List.l1
   repeat' first
   | (with_reducible exact ih0 _ _ _ _ _ _ _ _)
   | (with_reducible exact ih1 _ _ _ _ _ _ _ _ _)
   | (with_reducible exact ih2 _ _ _ _ _ _ _ _ _ _)
   | (with_reducible exact spec_l4Table.mono _ _ _)
   | (with_reducible exact spec_l7Next.mono _ _ _ _ _)
   | (with_reducible exact spec_l7Soon.mono _ _ _)
   | (with_reducible exact LeO.refl _)
   | (with_reducible exact LeO.none _)
   | (with_reducible refine LeO.ite ?_ ?_)
   | (with_reducible refine LeO.bind ?_ (fun _=>?_))
   | exact ih0 _ _ _ _ _ _ _ _
   | exact ih1 _ _ _ _ _ _ _ _ _
   | exact ih2 _ _ _ _ _ _ _ _ _ _
   | exact spec_l4Table.mono _ _ _
   | exact spec_l7Next.mono _ _ _ _ _
   | exact spec_l7Soon.mono _ _ _
   | exact LeO.none _
   | refine LeO.ite ?_ ?_
   | refine LeO.bind ?_ (fun _=>?_)
  ·intro y0 y1 y2 y3 y4 y5 y6 y7 y8 y9
   unfold spec_l7List.l2
   repeat' first
   | (with_reducible exact ih0 _ _ _ _ _ _ _ _)
   | (with_reducible exact ih1 _ _ _ _ _ _ _ _ _)
   | (with_reducible exact ih2 _ _ _ _ _ _ _ _ _ _)
   | (with_reducible exact spec_l4Table.mono _ _ _)
   | (with_reducible exact spec_l7Next.mono _ _ _ _ _)
   | (with_reducible exact spec_l7Soon.mono _ _ _)
   | (with_reducible exact LeO.refl _)
   | (with_reducible exact LeO.none _)
   | (with_reducible refine LeO.ite ?_ ?_)
   | (with_reducible refine LeO.bind ?_ (fun _=>?_))
   | exact ih0 _ _ _ _ _ _ _ _
   | exact ih1 _ _ _ _ _ _ _ _ _
   | exact ih2 _ _ _ _ _ _ _ _ _ _
   | exact spec_l4Table.mono _ _ _
   | exact spec_l7Next.mono _ _ _ _ _
   | exact spec_l7Soon.mono _ _ _
   | exact LeO.none _
   | refine LeO.ite ?_ ?_
   | refine LeO.bind ?_ (fun _=>?_)
theorem spec_l7List.mono:∀ a0 a1 a2 a3 k,LeO (spec_l7List.f k a0 a1 a2 a3) (spec_l7List.f (k + 1) a0 a1 a2 a3):=by
 intro a0 a1 a2 a3 k
 obtain ⟨ih0,ih1,ih2⟩:=spec_l7List.mono_l k
 unfold spec_l7List.f
 repeat' first
   | (with_reducible exact ih0 _ _ _ _ _ _ _ _)
   | (with_reducible exact ih1 _ _ _ _ _ _ _ _ _)
   | (with_reducible exact ih2 _ _ _ _ _ _ _ _ _ _)
   | (with_reducible exact spec_l4Table.mono _ _ _)
   | (with_reducible exact spec_l7Next.mono _ _ _ _ _)
   | (with_reducible exact spec_l7Soon.mono _ _ _)
   | (with_reducible exact LeO.refl _)
   | (with_reducible exact LeO.none _)
   | (with_reducible refine LeO.ite ?_ ?_)
   | (with_reducible refine LeO.bind ?_ (fun _=>?_))
   | exact ih0 _ _ _ _ _ _ _ _
   | exact ih1 _ _ _ _ _ _ _ _ _
   | exact ih2 _ _ _ _ _ _ _ _ _ _
   | exact spec_l4Table.mono _ _ _
   | exact spec_l7Next.mono _ _ _ _ _
   | exact spec_l7Soon.mono _ _ _
   | exact LeO.none _
   | refine LeO.ite ?_ ?_
   | refine LeO.bind ?_ (fun _=>?_)
set_option maxHeartbeats 8000000 in
set_option maxRecDepth 100000 in
theorem spec_l7List.calls (k:Nat) (A0:Option Addr) (c0:Nat) (l0:List (S76)) (a1:Int) (A2:Option Addr) (c2:Nat) (l2:List (S72)) (A3:Option Addr) (c3:Nat) (l3:List Int) (r:List (S92)) (w:World) (hr0:Kd.C k76 w A0 l0.length l0) (hc0:l0.length≤c0) (hr2:Kd.C k72 w A2 l2.length l2) (hc2:l2.length≤c2) (hr3:Kd.C (Kd.int .i64) w A3 l3.length l3) (hc3:l3.length≤c3) (h:spec_l7List.f k l0 a1 l2 l3=some r) :
  Calls Try.prog 57 #[.slice A0 l0.length c0,.int .i64 a1,.slice A2 l2.length c2,.slice A3 l3.length c3] w fun e w'=>∃ v0_:Value,e=.returned (v0_)∧Kd.R k92 92 w' w.heap.size (fun _=>True) v0_ r∧Below w.heap.size w w':=by
 have hu92:=Try.underlying92
 have HR0:=Aside0.mk hr0
 have HC0:=Aside0.mk hc0
 clear hr0 hc0
 have HR2:=Aside0.mk hr2
 have HC2:=Aside0.mk hc2
 clear hr2 hc2
 have HR3:=Aside0.mk hr3
 have HC3:=Aside0.mk hc3
 clear hr3 hc3
 have HB:=Aside0.mk (Below.refl w.heap.size w)
 have H:((spec_l4Table.f k (l0.length:Int) l2).bind fun t158=>(if 0≤(l0.length:Int) then (if ((l0.length:Int):Int).toNat≤11728124029610 then (if ((l0.length:Int):Int).toNat≤35184372088832 then (spec_l7List.l0 k l0 a1 l3 (l0.length:Int) t158 (List.replicate ((l0.length:Int):Int).toNat z92) (List.replicate ((l0.length:Int):Int).toNat 0) 0) else (none)) else (none)) else (none)))=some r:=h
 clear h
 replace H:=Option.bind_eq_some_iff.mp H
 obtain ⟨t158,A50,H⟩:=H
 replace H:(if 0≤(l0.length:Int) then (if ((l0.length:Int):Int).toNat≤11728124029610 then (if ((l0.length:Int):Int).toNat≤35184372088832 then (spec_l7List.l0 k l0 a1 l3 (l0.length:Int) t158 (List.replicate ((l0.length:Int):Int).toNat z92) (List.replicate ((l0.length:Int):Int).toNat 0) 0) else (none)) else (none)) else (none))=some r:=H
 have A5:=Aside0.mk A50
 clear A50
 by_cases c6:0≤(l0.length:Int)
 ·rw [if_pos c6] at H
  have c6b0:=eq_true c6
  have c6b1:decide (0≤(l0.length:Int))=true:=decide_eq_true c6
  clear c6
  by_cases c7:((l0.length:Int):Int).toNat≤11728124029610
  ·rw [if_pos c7] at H
   have c7b0:=eq_true c7
   have c7b1:decide (((l0.length:Int):Int).toNat≤11728124029610)=true:=decide_eq_true c7
   clear c7
   obtain ⟨y161,hy161⟩:∃ y_:List (S92),y_=(List.replicate ((l0.length:Int):Int).toNat z92):=⟨_,rfl⟩
   replace H:(if ((l0.length:Int):Int).toNat≤35184372088832 then (spec_l7List.l0 k l0 a1 l3 (l0.length:Int) t158 y161 (List.replicate ((l0.length:Int):Int).toNat 0) 0) else (none))=some r:=by first|(rw [hy161];with_reducible exact H)|(have H2_:=(Option.bind_some _ _).symm.trans H;rw [hy161];with_reducible exact H2_)|(have H2_:=(Option.bind_some _ _).symm.trans H;with_reducible exact H2_)|with_reducible exact H|(rw [hy161];exact H)|exact H
   have Ny161:=Aside0.mk hy161
   clear hy161
   by_cases c8:((l0.length:Int):Int).toNat≤35184372088832
   ·rw [if_pos c8] at H
    have c8b0:=eq_true c8
    have c8b1:decide (((l0.length:Int):Int).toNat≤35184372088832)=true:=decide_eq_true c8
    clear c8
    obtain ⟨y164,hy164⟩:∃ y_:List Int,y_=(List.replicate ((l0.length:Int):Int).toNat 0):=⟨_,rfl⟩
    replace H:(spec_l7List.l0 k l0 a1 l3 (l0.length:Int) t158 y161 y164 0)=some r:=by first|(rw [hy164];with_reducible exact H)|(have H2_:=(Option.bind_some _ _).symm.trans H;rw [hy164];with_reducible exact H2_)|(have H2_:=(Option.bind_some _ _).symm.trans H;with_reducible exact H2_)|with_reducible exact H|(rw [hy164];exact H)|exact H
    have Ny164:=Aside0.mk hy164
    clear hy164
    have H':=Aside0.mk H
    clear H
    go_enter Try.func57,Try.ntmps57
    go_wp2_with (first|((with_reducible refine gate_callee (f:=107) rfl ?_);refine goesL_ (some 23) rfl rfl Try.func107 (by kernel_rfl) rfl #[.int .i64 (l0.length:Int),.slice A2 l2.length c2] rfl zl ?_;(with_reducible refine (spec_l4Table.calls k (l0.length:Int) _ _ l2 t158 _ ?side1 ?side2 A5.out).mono ?_);(case side1=>exact zC HR2.out);(case side2=>exact HC2.out);rintro e w9 ⟨v159,rfl,ho0,hb⟩;refine ⟨_,rfl,?_⟩;have HO160:=Aside0.mk (Kd.S_lower ho0 (below_size zb));replace HB:=Aside0.mk (below_step zb hb);(try clear hb);(try clear ho0))|((with_reducible refine gate_dst (N:=25) rfl ?_);refine Kd.R_make k92 _ 92 rfl (N:=25) rfl 34 _ _ rfl (l0.length:Int) rfl rfl Try.underlying34 (.agg #[(.int .i64 0),(.int .i64 0),(.int .i64 0)]) 24 info92 rfl (by decide) (by omega) z92 (ok:=fun _=>True) (okp:=fun _=>True) (k92_mkM _ _ _ z92) (fun _ hk=>hk) trivial (of_decide_eq_true za) (Nat.le_trans (Nat.mul_le_mul_right _ (of_decide_eq_true za:(l0.length:Int).toNat≤11728124029610)) (by omega)) (Below.refl _ _) (Nat.le_refl _) ?_;intro v162 w10 ho11 hb hg_ hnew_;clear hg_ hnew_;(first|rw [←Ny161.out] at ho11|(simp only [Int.reduceToNat] at ho11;rw [←Ny161.out] at ho11));replace HO160:=Aside0.mk (Kd.S_below (zS HO160.out) hb);have HO163:=Aside0.mk (Kd.R_lower ho11 (below_size zb));replace HB:=Aside0.mk (below_step zb hb);clear hb ho11)|((with_reducible refine gate_dst (N:=27) rfl ?_);refine Kd.R_make (Kd.int .i64) _ 3 rfl (N:=27) rfl 43 _ _ rfl (l0.length:Int) rfl rfl Try.underlying43 (.int .i64 0) 8 info3 rfl (by decide) (by omega) 0 (ok:=fun _=>True) (okp:=fun _=>True) rfl (fun _ hk=>hk) trivial (of_decide_eq_true za) (Nat.le_trans (Nat.mul_le_mul_right _ (of_decide_eq_true za:(l0.length:Int).toNat≤35184372088832)) (by omega)) (Below.refl _ _) (Nat.le_refl _) ?_;intro v165 w12 ho13 hb hg_ hnew_;clear hg_ hnew_;(first|rw [←Ny164.out] at ho13|(simp only [Int.reduceToNat] at ho13;rw [←Ny164.out] at ho13));replace HO160:=Aside0.mk (Kd.S_below (zS HO160.out) hb);replace HO163:=Aside0.mk (Kd.R_below (zR HO163.out) hb);have HO166:=Aside0.mk (Kd.R_lower ho13 (below_size zb));replace HB:=Aside0.mk (below_step zb hb);clear hb ho13))
    go_loopg [13] k (fun kq v13 w'=>∃ (x12_1:List Int) (x13_1:Int),v13=.int .i64 x13_1∧Aside0 (spec_l7List.l0 kq l0 a1 l3 (l0.length:Int) t158 y161 x12_1 x13_1=some r)∧Aside0 (kq≤k)∧Aside0 (Kd.S (Kd.slice 4 Kd.bool) 127 w' w.heap.size (fun _=>True) v159 t158)∧Aside0 (Kd.R k92 92 w' w.heap.size (fun _=>True) v162 y161)∧Aside0 (Kd.R (Kd.int .i64) 3 w' w.heap.size (fun _=>True) v165 x12_1)∧Aside0 (Below w.heap.size w w'))
    case atStart=>exact ⟨(y164),(0),zo,H',⟨Nat.le_refl _⟩,⟨zS HO160.out⟩,⟨zR HO163.out⟩,⟨zR HO166.out⟩,⟨zb⟩⟩
    case round=>
     clear H'
     (try clear c1);(try clear c2);(try clear p2);(try clear c3);(try clear c5);(try clear c6);(try clear c6b0);(try clear c6b1);(try clear c7);(try clear c7b0);(try clear c7b1);(try clear c8);(try clear c8b0);(try clear c8b1);(try clear c10)
     obtain ⟨x12_1,x13_1,rfl,HA,HK1,HO_10,HO_11,HO_12,HB⟩:=hrel
     cases gk with
     | zero=>exact absurd HA.out (by simp [spec_l7List.l0])
     | succ k1=>
      have H:=HA.out
      clear HA
      simp only [spec_l7List.l0] at H
      by_cases c14:x13_1<(l0.length:Int)
      ·rw [if_pos c14] at H
       have c14b0:decide (x13_1<(l0.length:Int))=true:=decide_eq_true c14
       clear c14
       by_cases c15:0≤x13_1
       ·rw [if_pos c15] at H
        have c15b0:decide (0≤x13_1)=true:=decide_eq_true c15
        clear c15
        by_cases c16:x13_1<(x12_1.length:Int)
        ·rw [if_pos c16] at H
         have c16b0:decide (x13_1<(x12_1.length:Int))=true:=decide_eq_true c16
         clear c16
         obtain ⟨y167,hy167⟩:∃ y_:List Int,y_=(x12_1.set (x13_1:Int).toNat (-1)):=⟨_,rfl⟩
         replace H:(spec_l7List.l0 k1 l0 a1 l3 (l0.length:Int) t158 y161 y167 (wrap64 (x13_1 + 1)))=some r:=by first|(rw [hy167];with_reducible exact H)|(have H2_:=(Option.bind_some _ _).symm.trans H;rw [hy167];with_reducible exact H2_)|(have H2_:=(Option.bind_some _ _).symm.trans H;with_reducible exact H2_)|with_reducible exact H|(rw [hy167];exact H)|exact H
         have Ny167:=Aside0.mk hy167
         clear hy167
         have H':=Aside0.mk H
         clear H
         have p17:0≤(x13_1:Int):=of_decide_eq_true za
         have q17:(x13_1:Int)<((x12_1.length:Int):Int):=of_decide_eq_true za
         obtain ⟨go17,co17,eo17,gb17,gl17,cl17,HG17⟩:=Kd.R_form HO_12.out (by omega)
         (first|cases eo17|(injection eo17 with ea_ en_ ec_;(first|subst ea_|(injection ea_ with ea_;subst ea_));subst ec_;clear en_))
         have GB17:=Aside0.mk gb17
         have GG17:=Aside0.mk HG17
         clear gb17 gl17 HG17
         obtain ⟨hx17_0,hf17_0⟩:=Kd.R_celln 0 HO_12.out (x13_1:Int) p17 q17
         replace p17:=eq_true p17
         replace q17:=eq_true q17
         have HP18:=Kd.R_putg HO_12.out (x13_1:Int) (-1)
         go_wp2_with (first|((with_reducible refine gate_store (t:=3) (p:=35) rfl ?_);(try (rw [drewN_self wr];generalize hq_:World.drewN wr _=wr;have n0_:=Aside0.mk (Kd.S_at hq_ HO_10.out);have n1_:=Aside0.mk (Kd.R_at hq_ HO_11.out);have n2_:=Aside0.mk (Kd.R_at hq_ HO_12.out);have n3_:=Aside0.mk (below_at hq_ HB.out);(try replace hx17_0:=cell_at hq_ hx17_0);(try replace hf17_0:=(fun {W_ W2_:World} {n_:Nat} {a_:Addr} {b_:Bool} (h_:W_.drewN n_=W2_) (e_:W_.frozen? a_=b_)=>(by subst h_;exact e_:W2_.frozen? a_=b_)) hq_ hf17_0);clear hq_ HO_10 HO_11 HO_12 HB;have HO_10:=n0_;have HO_11:=n1_;have HO_12:=n2_;have HB:=n3_;clear n0_ n1_ n2_ n3_;(try (have HP18:=Kd.R_putg HO_12.out (x13_1:Int) (-1)))));refine store_event (t:=3) (p:=35) (v:=?vo_w19) (w1:=(wr.setCell ⟨go17,(x13_1:Int).toNat,none⟩ (.int .i64 (-1)))) ?hg ?ho ?hn ?hr ?_;(case ho=>rfl);(case hg=>rfl);(case hn=>rfl);(case hr=>first|(go_simp;done)|(go_simp;rfl));intro w19 hw;have hg:wr.grownBy w19 (some go17):=(by rw [hw];exact HP18.2);have hp_:Kd.R (Kd.int .i64) 3 w19 w.heap.size (fun _=>True) (.slice (some ⟨go17,0,none⟩) x12_1.length co17) y167:=(by rw [hw,Ny167.out];exact HP18.1);clear HP18;replace HO_10:=Aside0.mk (Kd.S_over' (v:=(.slice (some ⟨go17,0,none⟩) x12_1.length co17)) (zS HO_10.out) (Kd.R_typed HO_12.out) (by decide) hg);replace HO_11:=Aside0.mk (Kd.R_over' (v:=(.slice (some ⟨go17,0,none⟩) x12_1.length co17)) (zR HO_11.out) (Kd.R_typed HO_12.out) (by decide) hg);replace HO_12:=Aside0.mk (hp_);replace HB:=Aside0.mk ((by rw [hw];exact below_set (HB.out) GB17.out:Below w.heap.size w w19));clear hg hw hp_))
         go_roundg k1
         case measure=>have:=HK1.out;omega
         case rel=>exact ⟨(y167),(wrap64 (x13_1 + 1)),zo,H',⟨by have:=HK1.out;omega⟩,⟨zS HO_10.out⟩,⟨zR HO_11.out⟩,⟨zR HO_12.out⟩,⟨zb⟩⟩
        ·rw [if_neg c16] at H
         exact absurd H (by simp)
       ·rw [if_neg c15] at H
        exact absurd H (by simp)
      ·rw [if_neg c14] at H
       have c14b0:decide (x13_1<(l0.length:Int))=false:=decide_eq_false c14
       clear c14
       by_cases c20:0≤a1
       ·rw [if_pos c20] at H
        have c20b0:=eq_true c20
        have c20b1:decide (0≤a1)=true:=decide_eq_true c20
        clear c20
        by_cases c21:(a1:Int).toNat≤35184372088832
        ·rw [if_pos c21] at H
         have c21b0:=eq_true c21
         have c21b1:decide ((a1:Int).toNat≤35184372088832)=true:=decide_eq_true c21
         clear c21
         obtain ⟨y168,hy168⟩:∃ y_:List Int,y_=(List.replicate (a1:Int).toNat 0):=⟨_,rfl⟩
         replace H:(spec_l7List.l1 k1 l0 a1 l3 t158 y161 x12_1 y168 0 (l0.length:Int))=some r:=by first|(rw [hy168];with_reducible exact H)|(have H2_:=(Option.bind_some _ _).symm.trans H;rw [hy168];with_reducible exact H2_)|(have H2_:=(Option.bind_some _ _).symm.trans H;with_reducible exact H2_)|with_reducible exact H|(rw [hy168];exact H)|exact H
         have Ny168:=Aside0.mk hy168
         clear hy168
         have H':=Aside0.mk H
         clear H
         go_wp2_with (first|((with_reducible refine gate_dst (N:=37) rfl ?_);refine Kd.R_make (Kd.int .i64) _ 3 rfl (N:=37) rfl 43 _ _ rfl a1 rfl rfl Try.underlying43 (.int .i64 0) 8 info3 rfl (by decide) (by omega) 0 (ok:=fun _=>True) (okp:=fun _=>True) rfl (fun _ hk=>hk) trivial (of_decide_eq_true za) (Nat.le_trans (Nat.mul_le_mul_right _ (of_decide_eq_true za:a1.toNat≤35184372088832)) (by omega)) (Below.refl _ _) (Nat.le_refl _) ?_;intro v169 w22 ho23 hb hg_ hnew_;clear hg_ hnew_;(first|rw [←Ny168.out] at ho23|(simp only [Int.reduceToNat] at ho23;rw [←Ny168.out] at ho23));have n0_:=Aside0.mk (Kd.S_below (zS HO_10.out) hb);have n1_:=Aside0.mk (Kd.R_below (zR HO_11.out) hb);have n2_:=Aside0.mk (Kd.R_elder' (zR HO_12.out) (Kd.R_base ho23) hb);have n3_:=Aside0.mk (Kd.R_lower (Kd.R_new' ho23 (Kd.R_lt (zR HO_12.out))) (below_size zb));have n4_:=Aside0.mk (below_step zb hb);clear HO_10;clear HO_11;clear HO_12;clear HB;have HO_10:=n0_;have HO_11:=n1_;have HO_12:=n2_;have HO170:=n3_;have HB:=n4_;clear n0_ n1_ n2_ n3_ n4_;clear hb ho23))
         go_loopg [15,16] k1 (fun kq v15 v16 w'=>∃ (x11_2:List (S92)) (x12_2:List Int) (x14_2:List Int) (x15_2:Int) (x16_2:Int),v15=.int .i64 x15_2∧v16=.int .i64 x16_2∧Aside0 (spec_l7List.l1 kq l0 a1 l3 t158 x11_2 x12_2 x14_2 x15_2 x16_2=some r)∧Aside0 (kq≤k1)∧Aside0 (Kd.S (Kd.slice 4 Kd.bool) 127 w' w.heap.size (fun _=>True) v159 t158)∧Aside0 (Kd.R k92 92 w' w.heap.size (fun _=>True) v162 x11_2)∧Aside0 (Kd.R (Kd.int .i64) 3 w' w.heap.size (fun k_=>some k_≠(v169:Value).ownBlock) v165 x12_2)∧Aside0 (Kd.R (Kd.int .i64) 3 w' w.heap.size (fun k_=>some k_≠(v165:Value).ownBlock) v169 x14_2)∧Aside0 (Below w.heap.size w w'))
         case atStart=>exact ⟨(y161),(x12_1),(y168),(0),((l0.length:Int)),zo,zo,H',⟨Nat.le_refl _⟩,⟨zS HO_10.out⟩,⟨zR HO_11.out⟩,⟨zR (Kd.R_mono HO_12.out (fun _ hk=>hk.2))⟩,⟨zR (Kd.R_mono HO170.out (fun _ hk=>hk.2))⟩,⟨zb⟩⟩
         case round=>
          clear H'
          (try clear c1);(try clear p1);(try clear q1);(try clear hx1);(try clear c2);(try clear p2);(try clear c3);(try clear c5);(try clear c6);(try clear c6b0);(try clear c6b1);(try clear p6);(try clear c7);(try clear c7b0);(try clear c7b1);(try clear c8);(try clear c8b0);(try clear c8b1);(try clear c10);(try clear c14);(try clear c14b0);(try clear c15);(try clear c15b0);(try clear c16);(try clear c16b0);(try clear p17);(try clear q17);(try clear hx17);(try clear hf17);(try clear c20);(try clear c20b0);(try clear c20b1);(try clear c21);(try clear c21b0);(try clear c21b1);(try clear hx17_0)
          obtain ⟨x11_2,x12_2,x14_2,x15_2,x16_2,rfl,rfl,HA,HK2,HO_10,HO_11,HO_12,HO_14,HB⟩:=hrel
          cases gk with
          | zero=>exact absurd HA.out (by simp [spec_l7List.l1])
          | succ k2=>
           have H:=HA.out
           clear HA
           simp only [spec_l7List.l1] at H
           by_cases c24:x16_2>0
           ·rw [if_pos c24] at H
            have c24b0:decide (0<x16_2)=true:=decide_eq_true c24
            clear c24
            have H':=Aside0.mk H
            clear H
            go_wp2
            go_loopg [16,17] k2 (fun kq v16 v17 w'=>∃ (x11_3:List (S92)) (x12_3:List Int) (x14_3:List Int) (x16_3:Int) (x17_3:Int),v16=.int .i64 x16_3∧v17=.int .i64 x17_3∧Aside0 (spec_l7List.l2 kq l0 a1 l3 t158 x11_3 x12_3 x14_3 x15_2 x16_3 x17_3=some r)∧Aside0 (kq≤k2)∧Aside0 (Kd.S (Kd.slice 4 Kd.bool) 127 w' w.heap.size (fun _=>True) v159 t158)∧Aside0 (Kd.R k92 92 w' w.heap.size (fun _=>True) v162 x11_3)∧Aside0 (Kd.R (Kd.int .i64) 3 w' w.heap.size (fun k_=>some k_≠(v169:Value).ownBlock) v165 x12_3)∧Aside0 (Kd.R (Kd.int .i64) 3 w' w.heap.size (fun k_=>some k_≠(v165:Value).ownBlock) v169 x14_3)∧Aside0 (Below w.heap.size w w'))
            case atStart=>exact ⟨(x11_2),(x12_2),(x14_2),(x16_2),(0),zo,zo,H',⟨Nat.le_refl _⟩,⟨zS HO_10.out⟩,⟨zR HO_11.out⟩,⟨zR HO_12.out⟩,⟨zR HO_14.out⟩,⟨zb⟩⟩
            case round=>
             clear H'
             (try clear c1);(try clear p1);(try clear q1);(try clear hx1);(try clear c2);(try clear p2);(try clear c3);(try clear c5);(try clear c6);(try clear c6b0);(try clear c6b1);(try clear p6);(try clear c7);(try clear c7b0);(try clear c7b1);(try clear c8);(try clear c8b0);(try clear c8b1);(try clear c10);(try clear c14);(try clear c14b0);(try clear c15);(try clear c15b0);(try clear c16);(try clear c16b0);(try clear p17);(try clear q17);(try clear hx17);(try clear hf17);(try clear c20);(try clear c20b0);(try clear c20b1);(try clear c21);(try clear c21b0);(try clear c21b1);(try clear c24);(try clear c24b0);(try clear hx17_0)
             obtain ⟨x11_3,x12_3,x14_3,x16_3,x17_3,rfl,rfl,HA,HK3,HO_10,HO_11,HO_12,HO_14,HB⟩:=hrel
             cases gk with
             | zero=>exact absurd HA.out (by simp [spec_l7List.l2])
             | succ k3=>
              have H:=HA.out
              clear HA
              simp only [spec_l7List.l2] at H
              by_cases c25:x17_3<a1
              ·rw [if_pos c25] at H
               have c25b0:decide (x17_3<a1)=true:=decide_eq_true c25
               clear c25
               by_cases c26:0≤x17_3
               ·rw [if_pos c26] at H
                have c26b0:decide (0≤x17_3)=true:=decide_eq_true c26
                clear c26
                by_cases c27:x17_3<(x14_3.length:Int)
                ·rw [if_pos c27] at H
                 have c27b0:decide (x17_3<(x14_3.length:Int))=true:=decide_eq_true c27
                 clear c27
                 by_cases c28:(rd x14_3 x17_3)≤x15_2
                 ·rw [if_pos c28] at H
                  have c28b0:decide ((rd x14_3 x17_3)≤x15_2)=true:=decide_eq_true c28
                  clear c28
                  replace H:=Option.bind_eq_some_iff.mp H
                  obtain ⟨t173,A290,H⟩:=H
                  replace H:(if t173≥0 then (if 0≤t173 then (if t173<(x11_3.length:Int) then (if t173<(l0.length:Int) then (if t173<(x12_3.length:Int) then ((some (x12_3.set (t173:Int).toNat (wrap64 (x15_2 + ((rd_T76 l0 t173).f0))):List Int)).bind fun y176=>(spec_l7List.l2 k3 l0 a1 l3 t158 (x11_3.set (t173:Int).toNat (⟨t173,x17_3,x15_2⟩:S92)) y176 (x14_3.set (x17_3:Int).toNat (rd y176 t173)) x15_2 (wrap64 (x16_3 - 1)) (wrap64 (x17_3 + 1)))) else (none)) else (none)) else (none)) else (none)) else (spec_l7List.l2 k3 l0 a1 l3 t158 x11_3 x12_3 x14_3 x15_2 x16_3 (wrap64 (x17_3 + 1))))=some r:=H
                  have A29:=Aside0.mk A290
                  clear A290
                  by_cases c30:t173≥0
                  ·rw [if_pos c30] at H
                   have c30b0:decide (0≤t173)=true:=decide_eq_true c30
                   clear c30
                   by_cases c31:0≤t173
                   ·rw [if_pos c31] at H
                    have c31b0:decide (0≤t173)=true:=decide_eq_true c31
                    clear c31
                    by_cases c32:t173<(x11_3.length:Int)
                    ·rw [if_pos c32] at H
                     have c32b0:decide (t173<(x11_3.length:Int))=true:=decide_eq_true c32
                     clear c32
                     obtain ⟨y174,hy174⟩:∃ y_:List (S92),y_=(x11_3.set (t173:Int).toNat (⟨t173,x17_3,x15_2⟩:S92)):=⟨_,rfl⟩
                     replace H:(if t173<(l0.length:Int) then (if t173<(x12_3.length:Int) then ((some (x12_3.set (t173:Int).toNat (wrap64 (x15_2 + ((rd_T76 l0 t173).f0))):List Int)).bind fun y176=>(spec_l7List.l2 k3 l0 a1 l3 t158 y174 y176 (x14_3.set (x17_3:Int).toNat (rd y176 t173)) x15_2 (wrap64 (x16_3 - 1)) (wrap64 (x17_3 + 1)))) else (none)) else (none))=some r:=by first|(rw [hy174];with_reducible exact H)|(have H2_:=(Option.bind_some _ _).symm.trans H;rw [hy174];with_reducible exact H2_)|(have H2_:=(Option.bind_some _ _).symm.trans H;with_reducible exact H2_)|with_reducible exact H|(rw [hy174];exact H)|exact H
                     have Ny174:=Aside0.mk hy174
                     clear hy174
                     by_cases c34:t173<(l0.length:Int)
                     ·rw [if_pos c34] at H
                      have c34b0:decide (t173<(l0.length:Int))=true:=decide_eq_true c34
                      clear c34
                      by_cases c35:t173<(x12_3.length:Int)
                      ·rw [if_pos c35] at H
                       have c35b0:decide (t173<(x12_3.length:Int))=true:=decide_eq_true c35
                       clear c35
                       obtain ⟨y176,hy176⟩:∃ y_:List Int,y_=(x12_3.set (t173:Int).toNat (wrap64 (x15_2 + ((rd_T76 l0 t173).f0)))):=⟨_,rfl⟩
                       replace H:(spec_l7List.l2 k3 l0 a1 l3 t158 y174 y176 (x14_3.set (x17_3:Int).toNat (rd y176 t173)) x15_2 (wrap64 (x16_3 - 1)) (wrap64 (x17_3 + 1)))=some r:=by first|(rw [hy176];with_reducible exact H)|(have H2_:=(Option.bind_some _ _).symm.trans H;rw [hy176];with_reducible exact H2_)|(have H2_:=(Option.bind_some _ _).symm.trans H;with_reducible exact H2_)|with_reducible exact H|(rw [hy176];exact H)|exact H
                       have Ny176:=Aside0.mk hy176
                       clear hy176
                       obtain ⟨y178,hy178⟩:∃ y_:List Int,y_=(x14_3.set (x17_3:Int).toNat (rd y176 t173)):=⟨_,rfl⟩
                       replace H:(spec_l7List.l2 k3 l0 a1 l3 t158 y174 y176 y178 x15_2 (wrap64 (x16_3 - 1)) (wrap64 (x17_3 + 1)))=some r:=by first|(rw [hy178];with_reducible exact H)|(have H2_:=(Option.bind_some _ _).symm.trans H;rw [hy178];with_reducible exact H2_)|(have H2_:=(Option.bind_some _ _).symm.trans H;with_reducible exact H2_)|with_reducible exact H|(rw [hy178];exact H)|exact H
                       have Ny178:=Aside0.mk hy178
                       clear hy178
                       have H':=Aside0.mk H
                       clear H
                       obtain ⟨Ao38,co38,eo38⟩:=Kd.R_slice HO_14.out
                       subst eo38
                       have p172:0≤(x17_3:Int):=of_decide_eq_true za
                       have q172:x17_3<(x14_3.length:Int):=of_decide_eq_true za
                       obtain ⟨ad172,e172,hx172_0⟩:=Kd.at_int (Kd.R_reads' HO_14.out).2.2 x17_3 p172 q172
                       cases e172
                       replace p172:=eq_true p172
                       replace q172:=eq_true q172
                       obtain ⟨Ao39,co39,eo39⟩:=Kd.S_slice HO_10.out
                       subst eo39
                       obtain ⟨Ao40,co40,eo40⟩:=Kd.R_slice HO_12.out
                       subst eo40
                       go_wp2_with (first|((with_reducible refine gate_callee (f:=108) rfl ?_);refine goesL_ (some 56) rfl rfl Try.func108 (by kernel_rfl) rfl #[.slice Ao39 t158.length co39,.slice A3 l3.length c3,.slice Ao40 x12_3.length co40,.int .i64 x15_2] rfl zl ?_;(with_reducible refine (spec_l7Next.calls k3 _ _ t158 _ _ l3 _ _ x12_3 x15_2 t173 _ ?side1 ?side2 ?side3 ?side4 ?side5 ?side6 A29.out).mono ?_);(case side1=>exact zC ((Kd.S_reads' HO_10.out).2.2));(case side2=>exact (Kd.S_reads' HO_10.out).2.1);(case side3=>exact zC (Kd.C_below HR3.out HB.out));(case side4=>exact HC3.out);(case side5=>exact zC ((Kd.R_reads' HO_12.out).2.2));(case side6=>exact (Kd.R_reads' HO_12.out).2.1);rintro e w' ⟨rfl,⟨nd,rfl⟩⟩;refine ⟨_,rfl,?_⟩;(try (rw [drewN_self wr];generalize hq_:World.drewN wr _=wr;have n0_:Aside0 (Kd.S (Kd.slice 4 Kd.bool) 127 wr w.heap.size (fun _=>True) (.slice Ao39 t158.length co39) t158):=⟨by rw [←hq_];exact (zS HO_10.out)⟩;have n1_:Aside0 (Kd.R k92 92 wr w.heap.size (fun _=>True) v162 x11_3):=⟨by rw [←hq_];exact (zR HO_11.out)⟩;have n2_:Aside0 (Kd.R (Kd.int .i64) 3 wr w.heap.size (fun k_=>some k_≠(.slice (some ad172) x14_3.length co38:Value).ownBlock) (.slice Ao40 x12_3.length co40) x12_3):=⟨by rw [←hq_];exact (zR HO_12.out)⟩;have n3_:Aside0 (Kd.R (Kd.int .i64) 3 wr w.heap.size (fun k_=>some k_≠(.slice Ao40 x12_3.length co40:Value).ownBlock) (.slice (some ad172) x14_3.length co38) x14_3):=⟨by rw [←hq_];exact (zR HO_14.out)⟩;have n4_:Aside0 (Below w.heap.size w wr):=⟨by rw [←hq_];exact zb⟩;clear HO_10 HO_11 HO_12 HO_14 HB hq_;have HO_10:=n0_;have HO_11:=n1_;have HO_12:=n2_;have HO_14:=n3_;have HB:=n4_;clear n0_ n1_ n2_ n3_ n4_));have p33:0≤(t173:Int):=of_decide_eq_true za;have q33:(t173:Int)<((x11_3.length:Int):Int):=of_decide_eq_true za;obtain ⟨go33,co33,eo33,gb33,gl33,cl33,HG33⟩:=Kd.R_form HO_11.out (by omega);(first|cases eo33|(injection eo33 with ea_ en_ ec_;(first|subst ea_|(injection ea_ with ea_;subst ea_));subst ec_;clear en_));have GB33:=Aside0.mk gb33;have GG33:=Aside0.mk HG33;clear gb33 gl33 HG33;obtain ⟨ce33,hcl33,hM33,hcc33,hfr33⟩:=Kd.R_elem HO_11.out z92 (t173:Int) p33 q33;obtain rfl:=k92_openM hM33;have hx33_0:wr.cell? ⟨go33,(t173:Int).toNat * 3,none⟩=some (.int .i64 ((rd_T92 x11_3 t173).f0)):=hcc33 0 _ rfl;have hx33_1:wr.cell? ⟨go33,(t173:Int).toNat * 3 + 1,none⟩=some (.int .i64 ((rd_T92 x11_3 t173).f1)):=hcc33 1 _ rfl;have hx33_2:wr.cell? ⟨go33,(t173:Int).toNat * 3 + 2,none⟩=some (.int .i64 ((rd_T92 x11_3 t173).f2)):=hcc33 2 _ rfl;have hf33_0:wr.frozen? ⟨go33,(t173:Int).toNat * 3,none⟩=false:=hfr33 0;have hf33_1:wr.frozen? ⟨go33,(t173:Int).toNat * 3 + 1,none⟩=false:=hfr33 1;have hf33_2:wr.frozen? ⟨go33,(t173:Int).toNat * 3 + 2,none⟩=false:=hfr33 2;(clear hcl33 hcc33 hfr33;(try clear hM33));replace p33:=eq_true p33;replace q33:=eq_true q33;have HX41:=Aside0.mk (show Kd.R k92 92 wr w.heap.size (fun _=>True) (.slice (some ⟨go33,0,none⟩) x11_3.length co33) x11_3 from (zR HO_11.out));obtain ⟨ce41,hcl41,hM41,hcc41,hfr41⟩:=Kd.R_elem HX41.out z92 (t173:Int) (of_decide_eq_true za) (by have h_:(t173:Int)<((x11_3.length:Int):Int):=of_decide_eq_true za;first|exact h_|(have e_:=(Kd.R_reads' HO_11.out).1;omega)|simpa using h_);obtain rfl:=k92_openM hM41;have HP41:=Kd.R_seg HX41.out (t173:Int) (of_decide_eq_true za) (by have h_:(t173:Int)<((x11_3.length:Int):Int):=of_decide_eq_true za;first|exact h_|(have e_:=(Kd.R_reads' HO_11.out).1;omega)|simpa using h_) (seg:=[.int .i64 t173,.int .i64 x17_3,.int .i64 x15_2]) (j:=0) hcl41 hcc41 (show 3≤3 from by decide) (x':=(⟨t173,x17_3,x15_2⟩:S92)) (k92_mkM _ _ _ (⟨t173,x17_3,x15_2⟩:S92)) (fun _ hk=>hk);have hx41_0:=hcc41 0 _ rfl;(try simp only [show (k92).sz=3 from rfl,Nat.mul_one,Nat.add_zero] at hx41_0);have hf41_0:=hfr41 0;(try simp only [show (k92).sz=3 from rfl,Nat.mul_one,Nat.add_zero] at hf41_0);have hx41_1:=hcc41 1 _ rfl;(try simp only [show (k92).sz=3 from rfl,Nat.mul_one,Nat.add_zero] at hx41_1);have hf41_1:=hfr41 1;(try simp only [show (k92).sz=3 from rfl,Nat.mul_one,Nat.add_zero] at hf41_1);have hx41_2:=hcc41 2 _ rfl;(try simp only [show (k92).sz=3 from rfl,Nat.mul_one,Nat.add_zero] at hx41_2);have hf41_2:=hfr41 2;(try simp only [show (k92).sz=3 from rfl,Nat.mul_one,Nat.add_zero] at hf41_2);(clear hcl41 hcc41 hfr41;(try clear hM41)))|((with_reducible refine gate_store (t:=92) (p:=65) rfl ?_);(try (rw [drewN_self wr];generalize hq_:World.drewN wr _=wr;have n0_:=Aside0.mk (Kd.S_at hq_ HO_10.out);have n1_:=Aside0.mk (Kd.R_at hq_ HO_11.out);have n2_:=Aside0.mk (Kd.R_at hq_ HO_12.out);have n3_:=Aside0.mk (Kd.R_at hq_ HO_14.out);have n4_:=Aside0.mk (below_at hq_ HB.out);(try replace hx33_0:=cell_at hq_ hx33_0);(try replace hx33_1:=cell_at hq_ hx33_1);(try replace hx33_2:=cell_at hq_ hx33_2);(try replace hf33_0:=(fun {W_ W2_:World} {n_:Nat} {a_:Addr} {b_:Bool} (h_:W_.drewN n_=W2_) (e_:W_.frozen? a_=b_)=>(by subst h_;exact e_:W2_.frozen? a_=b_)) hq_ hf33_0);(try replace hf33_1:=(fun {W_ W2_:World} {n_:Nat} {a_:Addr} {b_:Bool} (h_:W_.drewN n_=W2_) (e_:W_.frozen? a_=b_)=>(by subst h_;exact e_:W2_.frozen? a_=b_)) hq_ hf33_1);(try replace hf33_2:=(fun {W_ W2_:World} {n_:Nat} {a_:Addr} {b_:Bool} (h_:W_.drewN n_=W2_) (e_:W_.frozen? a_=b_)=>(by subst h_;exact e_:W2_.frozen? a_=b_)) hq_ hf33_2);(try replace hx41_0:=cell_at hq_ hx41_0);(try replace hf41_0:=(fun {W_ W2_:World} {n_:Nat} {a_:Addr} {b_:Bool} (h_:W_.drewN n_=W2_) (e_:W_.frozen? a_=b_)=>(by subst h_;exact e_:W2_.frozen? a_=b_)) hq_ hf41_0);(try replace hx41_1:=cell_at hq_ hx41_1);(try replace hf41_1:=(fun {W_ W2_:World} {n_:Nat} {a_:Addr} {b_:Bool} (h_:W_.drewN n_=W2_) (e_:W_.frozen? a_=b_)=>(by subst h_;exact e_:W2_.frozen? a_=b_)) hq_ hf41_1);(try replace hx41_2:=cell_at hq_ hx41_2);(try replace hf41_2:=(fun {W_ W2_:World} {n_:Nat} {a_:Addr} {b_:Bool} (h_:W_.drewN n_=W2_) (e_:W_.frozen? a_=b_)=>(by subst h_;exact e_:W2_.frozen? a_=b_)) hq_ hf41_2);clear hq_ HO_10 HO_11 HO_12 HO_14 HB;have HO_10:=n0_;have HO_11:=n1_;have HO_12:=n2_;have HO_14:=n3_;have HB:=n4_;clear n0_ n1_ n2_ n3_ n4_;(try (have HX41:=Aside0.mk (show Kd.R k92 92 wr w.heap.size (fun _=>True) (.slice (some ⟨go33,0,none⟩) x11_3.length co33) x11_3 from (zR HO_11.out))));(try (obtain ⟨ce41,hcl41,hM41,hcc41,hfr41⟩:=Kd.R_elem HX41.out z92 (t173:Int) (of_decide_eq_true za) (by have h_:(t173:Int)<((x11_3.length:Int):Int):=of_decide_eq_true za;first|exact h_|(have e_:=(Kd.R_reads' HO_11.out).1;omega)|simpa using h_)));(try (obtain rfl:=k92_openM hM41));(try (have HP41:=Kd.R_seg HX41.out (t173:Int) (of_decide_eq_true za) (by have h_:(t173:Int)<((x11_3.length:Int):Int):=of_decide_eq_true za;first|exact h_|(have e_:=(Kd.R_reads' HO_11.out).1;omega)|simpa using h_) (seg:=[.int .i64 t173,.int .i64 x17_3,.int .i64 x15_2]) (j:=0) hcl41 hcc41 (show 3≤3 from by decide) (x':=(⟨t173,x17_3,x15_2⟩:S92)) (k92_mkM _ _ _ (⟨t173,x17_3,x15_2⟩:S92)) (fun _ hk=>hk)));(try (have hx41_0:=hcc41 0 _ rfl));(try (try simp only [show (k92).sz=3 from rfl,Nat.mul_one,Nat.add_zero] at hx41_0));(try (have hf41_0:=hfr41 0));(try (try simp only [show (k92).sz=3 from rfl,Nat.mul_one,Nat.add_zero] at hf41_0));(try (have hx41_1:=hcc41 1 _ rfl));(try (try simp only [show (k92).sz=3 from rfl,Nat.mul_one,Nat.add_zero] at hx41_1));(try (have hf41_1:=hfr41 1));(try (try simp only [show (k92).sz=3 from rfl,Nat.mul_one,Nat.add_zero] at hf41_1));(try (have hx41_2:=hcc41 2 _ rfl));(try (try simp only [show (k92).sz=3 from rfl,Nat.mul_one,Nat.add_zero] at hx41_2));(try (have hf41_2:=hfr41 2));(try (try simp only [show (k92).sz=3 from rfl,Nat.mul_one,Nat.add_zero] at hf41_2));(try (clear hcl41 hcc41 hfr41;(try clear hM41)))));refine store_event (t:=92) (p:=65) (v:=?vo_w42) (w1:=(((wr.setCell ⟨go33,(t173:Int).toNat * 3,none⟩ (.int .i64 t173)).setCell ⟨go33,(t173:Int).toNat * 3 + 1,none⟩ (.int .i64 x17_3)).setCell ⟨go33,(t173:Int).toNat * 3 + 2,none⟩ (.int .i64 x15_2))) ?hg ?ho ?hn ?hr ?_;(case ho=>rfl);(case hg=>rfl);(case hn=>rfl);(case hr=>first|(go_simp;done)|(go_simp;rfl));intro w42 hw;have hg:wr.grownBy w42 (some go33):=(by rw [hw];exact HP41.2);have hp_:Kd.R k92 92 w42 w.heap.size (fun _=>True) (.slice (some ⟨go33,0,none⟩) x11_3.length co33) y174:=(by rw [hw,Ny174.out];exact HP41.1);clear HP41;have n0_:=Aside0.mk (Kd.S_over' (v:=(.slice (some ⟨go33,0,none⟩) x11_3.length co33)) (zS HO_10.out) (Kd.R_typed HO_11.out) (by decide) hg);have n1_:=Aside0.mk (hp_);have n2_:=Aside0.mk (Kd.R_over' (v:=(.slice (some ⟨go33,0,none⟩) x11_3.length co33)) (zR HO_12.out) (Kd.R_typed HO_11.out) (by decide) hg);have n3_:=Aside0.mk (Kd.R_over' (v:=(.slice (some ⟨go33,0,none⟩) x11_3.length co33)) (zR HO_14.out) (Kd.R_typed HO_11.out) (by decide) hg);have n4_:=Aside0.mk ((by rw [hw];exact below_set (below_set (below_set (HB.out) GB33.out) GB33.out) GB33.out:Below w.heap.size w w42));clear HO_10;clear HO_11;clear HO_12;clear HO_14;clear HB;have HO_10:=n0_;have HO_11:=n1_;have HO_12:=n2_;have HO_14:=n3_;have HB:=n4_;clear n0_ n1_ n2_ n3_ n4_;clear hg hw hp_;have p175:0≤(t173:Int):=of_decide_eq_true za;have q175:t173<(l0.length:Int):=of_decide_eq_true za;obtain ⟨ad175,e175,hx175_0,hx175_1,hx175_2,hx175_3⟩:=at_T76 HR0.out t173 p175 q175;cases e175;replace hx175_0:=(HB.out.cell (World.block_lt_of_cell? w _ hx175_0)).trans hx175_0;replace hx175_1:=(HB.out.cell (World.block_lt_of_cell? w _ hx175_1)).trans hx175_1;replace hx175_2:=(HB.out.cell (World.block_lt_of_cell? w _ hx175_2)).trans hx175_2;replace hx175_3:=(HB.out.cell (World.block_lt_of_cell? w _ hx175_3)).trans hx175_3;replace p175:=eq_true p175;replace q175:=eq_true q175;have p36:0≤(t173:Int):=of_decide_eq_true za;have q36:(t173:Int)<((x12_3.length:Int):Int):=of_decide_eq_true za;obtain ⟨go36,co36,eo36,gb36,gl36,cl36,HG36⟩:=Kd.R_form HO_12.out (by omega);(first|cases eo36|(injection eo36 with ea_ en_ ec_;(first|subst ea_|(injection ea_ with ea_;subst ea_));subst ec_;clear en_));have GB36:=Aside0.mk gb36;have GG36:=Aside0.mk HG36;clear gb36 gl36 HG36;obtain ⟨hx36_0,hf36_0⟩:=Kd.R_celln 0 HO_12.out (t173:Int) p36 q36;replace p36:=eq_true p36;replace q36:=eq_true q36;obtain ⟨hy43_,hz43_⟩:=Kd.R_celln 0 HO_12.out (t173:Int) (of_decide_eq_true za) (of_decide_eq_true za);have HP43:=Kd.R_putg HO_12.out (t173:Int) (wrap64 (x15_2 + ((rd_T76 l0 t173).f0))))|((with_reducible refine gate_store (t:=3) (p:=75) rfl ?_);(try (rw [drewN_self w42];generalize hq_:World.drewN w42 _=w42;have n0_:=Aside0.mk (Kd.S_at hq_ HO_10.out);have n1_:=Aside0.mk (Kd.R_at hq_ HO_11.out);have n2_:=Aside0.mk (Kd.R_at hq_ HO_12.out);have n3_:=Aside0.mk (Kd.R_at hq_ HO_14.out);have n4_:=Aside0.mk (below_at hq_ HB.out);(try replace hx36_0:=cell_at hq_ hx36_0);(try replace hf36_0:=(fun {W_ W2_:World} {n_:Nat} {a_:Addr} {b_:Bool} (h_:W_.drewN n_=W2_) (e_:W_.frozen? a_=b_)=>(by subst h_;exact e_:W2_.frozen? a_=b_)) hq_ hf36_0);clear hq_ HO_10 HO_11 HO_12 HO_14 HB;have HO_10:=n0_;have HO_11:=n1_;have HO_12:=n2_;have HO_14:=n3_;have HB:=n4_;clear n0_ n1_ n2_ n3_ n4_;(try (obtain ⟨hy43_,hz43_⟩:=Kd.R_celln 0 HO_12.out (t173:Int) (of_decide_eq_true za) (of_decide_eq_true za)));(try (have HP43:=Kd.R_putg HO_12.out (t173:Int) (wrap64 (x15_2 + ((rd_T76 l0 t173).f0)))))));refine store_event (t:=3) (p:=75) (v:=?vo_w44) (w1:=(w42.setCell ⟨go36,(t173:Int).toNat,none⟩ (.int .i64 (wrap64 (x15_2 + ((rd_T76 l0 t173).f0)))))) ?hg ?ho ?hn ?hr ?_;(case ho=>rfl);(case hg=>rfl);(case hn=>rfl);(case hr=>first|(go_simp;done)|(go_simp;rfl));intro w44 hw;have hg:w42.grownBy w44 (some go36):=(by rw [hw];exact HP43.2);have hp_:Kd.R (Kd.int .i64) 3 w44 w.heap.size (fun k_=>some k_≠(.slice (some ad172) x14_3.length co38:Value).ownBlock) (.slice (some ⟨go36,0,none⟩) x12_3.length co40) y176:=(by rw [hw,Ny176.out];exact HP43.1);clear HP43;replace HO_10:=Aside0.mk (Kd.S_over' (v:=(.slice (some ⟨go36,0,none⟩) x12_3.length co40)) (zS HO_10.out) (Kd.R_typed HO_12.out) (by decide) hg);replace HO_11:=Aside0.mk (Kd.R_over' (v:=(.slice (some ⟨go36,0,none⟩) x12_3.length co40)) (zR HO_11.out) (Kd.R_typed HO_12.out) (by decide) hg);replace HO_12:=Aside0.mk (hp_);replace HO_14:=Aside0.mk (Kd.R_after (v:=(.slice (some ⟨go36,0,none⟩) x12_3.length co40)) (v1:=(.slice (some ⟨go36,0,none⟩) x12_3.length co40)) (ok:=(fun _=>True)) (zR (Kd.R_mono HO_14.out (fun _ hk=>⟨trivial,hk⟩))) hg (.inl rfl));replace HB:=Aside0.mk ((by rw [hw];exact below_set (HB.out) GB36.out:Below w.heap.size w w44));clear hg hw hp_;have p177:0≤(t173:Int):=of_decide_eq_true za;have q177:t173<(y176.length:Int):=(by have h_:(t173:Int)<((x12_3.length:Int):Int):=of_decide_eq_true za;first|(have e_:=(Kd.R_reads' HO_12.out).1;omega)|simpa only [Ny176.out,List.length_set] using h_);have ql177:((t173:Int)<((x12_3.length:Int):Int))=True:=eq_true (of_decide_eq_true za);obtain ⟨ad177,e177,hx177_0⟩:=Kd.at_int (Kd.R_reads' HO_12.out).2.2 t173 p177 q177;obtain rfl:(⟨go36,0,none⟩:Addr)=ad177:=(by injection e177);(first|simp only [add_plain] at hx177_0|simp only [add_at] at hx177_0|simp only [Addr.add,Nat.zero_add] at hx177_0|skip);replace p177:=eq_true p177;replace q177:=eq_true q177;have p37:0≤(x17_3:Int):=of_decide_eq_true za;have q37:(x17_3:Int)<((x14_3.length:Int):Int):=of_decide_eq_true za;obtain ⟨go37,co37,eo37,gb37,gl37,cl37,HG37⟩:=Kd.R_form HO_14.out (by omega);(first|cases eo37|(injection eo37 with ea_ en_ ec_;(first|subst ea_|(injection ea_ with ea_;subst ea_));subst ec_;clear en_));have GB37:=Aside0.mk gb37;have GG37:=Aside0.mk HG37;clear gb37 gl37 HG37;(first|simp only [add_plain] at hx172_0|skip);obtain ⟨hx37_0,hf37_0⟩:=Kd.R_celln 0 HO_14.out (x17_3:Int) p37 q37;replace p37:=eq_true p37;replace q37:=eq_true q37;have n_:=Aside0.mk (Kd.R_mono (ok':=(fun k_=>some k_≠(.slice (some ⟨go36,0,none⟩) x12_3.length co40:Value).ownBlock)) HO_14.out (fun k_ hk=>hk.2));clear HO_14;have HO_14:=n_;clear n_;obtain ⟨hy45_,hz45_⟩:=Kd.R_celln 0 HO_14.out (x17_3:Int) (of_decide_eq_true za) (of_decide_eq_true za);have HP45:=Kd.R_putg HO_14.out (x17_3:Int) (rd y176 t173))|((with_reducible refine gate_store (t:=3) (p:=82) rfl ?_);(try (rw [drewN_self w44];generalize hq_:World.drewN w44 _=w44;have n0_:=Aside0.mk (Kd.S_at hq_ HO_10.out);have n1_:=Aside0.mk (Kd.R_at hq_ HO_11.out);have n2_:=Aside0.mk (Kd.R_at hq_ HO_12.out);have n3_:=Aside0.mk (Kd.R_at hq_ HO_14.out);have n4_:=Aside0.mk (below_at hq_ HB.out);(try replace hx37_0:=cell_at hq_ hx37_0);(try replace hf37_0:=(fun {W_ W2_:World} {n_:Nat} {a_:Addr} {b_:Bool} (h_:W_.drewN n_=W2_) (e_:W_.frozen? a_=b_)=>(by subst h_;exact e_:W2_.frozen? a_=b_)) hq_ hf37_0);clear hq_ HO_10 HO_11 HO_12 HO_14 HB;have HO_10:=n0_;have HO_11:=n1_;have HO_12:=n2_;have HO_14:=n3_;have HB:=n4_;clear n0_ n1_ n2_ n3_ n4_;(try (have n_:=Aside0.mk (Kd.R_mono (ok':=(fun k_=>some k_≠(.slice (some ⟨go36,0,none⟩) x12_3.length co40:Value).ownBlock)) HO_14.out (fun k_ hk=>hk.2));clear HO_14;have HO_14:=n_;clear n_));(try (obtain ⟨hy45_,hz45_⟩:=Kd.R_celln 0 HO_14.out (x17_3:Int) (of_decide_eq_true za) (of_decide_eq_true za)));(try (have HP45:=Kd.R_putg HO_14.out (x17_3:Int) (rd y176 t173)))));refine store_event (t:=3) (p:=82) (v:=?vo_w46) (w1:=(w44.setCell ⟨go37,(x17_3:Int).toNat,none⟩ (.int .i64 (rd y176 t173)))) ?hg ?ho ?hn ?hr ?_;(case ho=>rfl);(case hg=>rfl);(case hn=>rfl);(case hr=>first|(go_simp;done)|(go_simp;rfl));intro w46 hw;have hg:w44.grownBy w46 (some go37):=(by rw [hw];exact HP45.2);have hp_:Kd.R (Kd.int .i64) 3 w46 w.heap.size (fun k_=>some k_≠(.slice (some ⟨go36,0,none⟩) x12_3.length co40:Value).ownBlock) (.slice (some ⟨go37,0,none⟩) x14_3.length co38) y178:=(by rw [hw,Ny178.out];exact HP45.1);clear HP45;replace HO_10:=Aside0.mk (Kd.S_over' (v:=(.slice (some ⟨go37,0,none⟩) x14_3.length co38)) (zS HO_10.out) (Kd.R_typed HO_14.out) (by decide) hg);replace HO_11:=Aside0.mk (Kd.R_over' (v:=(.slice (some ⟨go37,0,none⟩) x14_3.length co38)) (zR HO_11.out) (Kd.R_typed HO_14.out) (by decide) hg);replace HO_12:=Aside0.mk (Kd.R_after (v:=(.slice (some ⟨go37,0,none⟩) x14_3.length co38)) (v1:=(.slice (some ⟨go37,0,none⟩) x14_3.length co38)) (ok:=(fun _=>True)) (zR (Kd.R_mono HO_12.out (fun _ hk=>⟨trivial,hk⟩))) hg (.inl rfl));replace HO_14:=Aside0.mk (hp_);replace HB:=Aside0.mk ((by rw [hw];exact below_set (HB.out) GB37.out:Below w.heap.size w w46));clear hg hw hp_))
                       go_roundg k3
                       case measure=>have:=HK1.out;have:=HK2.out;have:=HK3.out;omega
                       case rel=>exact ⟨(y174),(y176),(y178),(wrap64 (x16_3 - 1)),(wrap64 (x17_3 + 1)),zo,zo,H',⟨by have:=HK1.out;have:=HK2.out;have:=HK3.out;omega⟩,⟨zS HO_10.out⟩,⟨zR HO_11.out⟩,⟨zR (Kd.R_mono HO_12.out (fun _ hk=>hk.2))⟩,⟨zR HO_14.out⟩,⟨zb⟩⟩
                      ·rw [if_neg c35] at H
                       exact absurd H (by simp)
                     ·rw [if_neg c34] at H
                      exact absurd H (by simp)
                    ·rw [if_neg c32] at H
                     exact absurd H (by simp)
                   ·rw [if_neg c31] at H
                    exact absurd H (by simp)
                  ·rw [if_neg c30] at H
                   have c30b0:decide (0≤t173)=false:=decide_eq_false c30
                   clear c30
                   have H':=Aside0.mk H
                   clear H
                   obtain ⟨Ao47,co47,eo47⟩:=Kd.R_slice HO_14.out
                   subst eo47
                   have p172:0≤(x17_3:Int):=of_decide_eq_true za
                   have q172:x17_3<(x14_3.length:Int):=of_decide_eq_true za
                   obtain ⟨ad172,e172,hx172_0⟩:=Kd.at_int (Kd.R_reads' HO_14.out).2.2 x17_3 p172 q172
                   cases e172
                   replace p172:=eq_true p172
                   replace q172:=eq_true q172
                   obtain ⟨Ao48,co48,eo48⟩:=Kd.S_slice HO_10.out
                   subst eo48
                   obtain ⟨Ao49,co49,eo49⟩:=Kd.R_slice HO_12.out
                   subst eo49
                   go_wp2_with (first|((with_reducible refine gate_callee (f:=108) rfl ?_);refine goesL_ (some 56) rfl rfl Try.func108 (by kernel_rfl) rfl #[.slice Ao48 t158.length co48,.slice A3 l3.length c3,.slice Ao49 x12_3.length co49,.int .i64 x15_2] rfl zl ?_;(with_reducible refine (spec_l7Next.calls k3 _ _ t158 _ _ l3 _ _ x12_3 x15_2 t173 _ ?side1 ?side2 ?side3 ?side4 ?side5 ?side6 A29.out).mono ?_);(case side1=>exact zC ((Kd.S_reads' HO_10.out).2.2));(case side2=>exact (Kd.S_reads' HO_10.out).2.1);(case side3=>exact zC (Kd.C_below HR3.out HB.out));(case side4=>exact HC3.out);(case side5=>exact zC ((Kd.R_reads' HO_12.out).2.2));(case side6=>exact (Kd.R_reads' HO_12.out).2.1);rintro e w' ⟨rfl,⟨nd,rfl⟩⟩;refine ⟨_,rfl,?_⟩))
                   go_roundg k3
                   case measure=>have:=HK1.out;have:=HK2.out;have:=HK3.out;omega
                   case rel=>exact ⟨(x11_3),(x12_3),(x14_3),(x16_3),(wrap64 (x17_3 + 1)),zo,zo,H',⟨by have:=HK1.out;have:=HK2.out;have:=HK3.out;omega⟩,⟨zS HO_10.out⟩,⟨zR HO_11.out⟩,⟨zR HO_12.out⟩,⟨zR HO_14.out⟩,⟨zb⟩⟩
                 ·rw [if_neg c28] at H
                  have c28b0:decide ((rd x14_3 x17_3)≤x15_2)=false:=decide_eq_false c28
                  clear c28
                  by_cases c50:(-1)≥0
                  ·exact absurd c50 (by decide)
                  ·rw [if_neg c50] at H
                   have c50b0:decide (0≤(-1))=false:=decide_eq_false c50
                   clear c50
                   have H':=Aside0.mk H
                   clear H
                   obtain ⟨Ao65,co65,eo65⟩:=Kd.R_slice HO_14.out
                   subst eo65
                   have p172:0≤(x17_3:Int):=of_decide_eq_true za
                   have q172:x17_3<(x14_3.length:Int):=of_decide_eq_true za
                   obtain ⟨ad172,e172,hx172_0⟩:=Kd.at_int (Kd.R_reads' HO_14.out).2.2 x17_3 p172 q172
                   cases e172
                   replace p172:=eq_true p172
                   replace q172:=eq_true q172
                   go_wp2
                   go_roundg k3
                   case measure=>have:=HK1.out;have:=HK2.out;have:=HK3.out;omega
                   case rel=>exact ⟨(x11_3),(x12_3),(x14_3),(x16_3),(wrap64 (x17_3 + 1)),zo,zo,H',⟨by have:=HK1.out;have:=HK2.out;have:=HK3.out;omega⟩,⟨zS HO_10.out⟩,⟨zR HO_11.out⟩,⟨zR HO_12.out⟩,⟨zR HO_14.out⟩,⟨zb⟩⟩
                ·rw [if_neg c27] at H
                 exact absurd H (by simp)
               ·rw [if_neg c26] at H
                exact absurd H (by simp)
              ·rw [if_neg c25] at H
               have c25b0:decide (x17_3<a1)=false:=decide_eq_false c25
               clear c25
               replace H:=Option.bind_eq_some_iff.mp H
               obtain ⟨t171,A660,H⟩:=H
               replace H:(spec_l7List.l1 k3 l0 a1 l3 t158 x11_3 x12_3 x14_3 t171 x16_3)=some r:=H
               have A66:=Aside0.mk A660
               clear A660
               have H':=Aside0.mk H
               clear H
               obtain ⟨Ao67,co67,eo67⟩:=Kd.R_slice HO_12.out
               subst eo67
               go_wp2_with (first|((with_reducible refine gate_callee (f:=109) rfl ?_);refine goesL_ (some 87) rfl rfl Try.func109 (by kernel_rfl) rfl #[.slice Ao67 x12_3.length co67,.int .i64 x15_2] rfl zl ?_;(with_reducible refine (spec_l7Soon.calls k3 _ _ x12_3 x15_2 t171 _ ?side1 ?side2 A66.out).mono ?_);(case side1=>exact zC ((Kd.R_reads' HO_12.out).2.2));(case side2=>exact (Kd.R_reads' HO_12.out).2.1);rintro e w' ⟨rfl,⟨nd,rfl⟩⟩;refine ⟨_,rfl,?_⟩))
               go_roundg k3
               case measure=>have:=HK1.out;have:=HK2.out;have:=HK3.out;omega
               case rel=>exact ⟨(x11_3),(x12_3),(x14_3),(t171),(x16_3),zo,zo,H',⟨by have:=HK1.out;have:=HK2.out;have:=HK3.out;omega⟩,⟨zS HO_10.out⟩,⟨zR HO_11.out⟩,⟨zR HO_12.out⟩,⟨zR HO_14.out⟩,⟨zb⟩⟩
           ·rw [if_neg c24] at H
            have c24b0:decide (0<x16_2)=false:=decide_eq_false c24
            clear c24
            obtain rfl:=Option.some.inj H
            go_wp2
            go_ret
            exact ⟨_,by first|rfl|(simp [errW_none,errW_some] <;> rfl)|(simp [*,errW_none,errW_some] <;> rfl),zR HO_11.out,zb⟩
        ·rw [if_neg c21] at H
         exact absurd H (by simp)
       ·rw [if_neg c20] at H
        exact absurd H (by simp)
   ·rw [if_neg c8] at H
    exact absurd H (by simp)
  ·rw [if_neg c7] at H
   exact absurd H (by simp)
 ·rw [if_neg c6] at H
  exact absurd H (by simp)

/-! ### spec_l7Units: function 58 -/
def spec_l7Units.l0:Nat→Int→List (S76)→Int→Option ((List (S76)))
 | 0,_,_,_=>none
 | k + 1,x0,x3,x4=>if x4<x0 then (if x3.length<4398046511104 then (spec_l7Units.l0 k x0 (x3++[(⟨1,0,0,0⟩:S76)]) (wrap64 (x4 + 1))) else (none)) else (some x3)
def spec_l7Units.f (k:Nat) (a0:Int):Option ((List (S76))):=spec_l7Units.l0 k a0 (([]:List (S76))) 0
theorem spec_l7Units.mono_l:∀ k,(∀ y0 y1 y2,LeO (spec_l7Units.l0 k y0 y1 y2) (spec_l7Units.l0 (k + 1) y0 y1 y2))
 | 0=>fun _ _ _ r h=>by simp [spec_l7Units.l0] at h
 | k + 1=>by
  have ih0:=spec_l7Units.mono_l k
  ·intro y0 y1 y2
   unfold spec_l7Units.l0
   repeat' first
   | (with_reducible exact ih0 _ _ _)
   | (with_reducible exact LeO.refl _)
   | (with_reducible exact LeO.none _)
   | (with_reducible refine LeO.ite ?_ ?_)
   | (with_reducible refine LeO.bind ?_ (fun _=>?_))
   | exact ih0 _ _ _
   | exact LeO.none _
   | refine LeO.ite ?_ ?_
   | refine LeO.bind ?_ (fun _=>?_)
theorem spec_l7Units.mono:∀ a0 k,LeO (spec_l7Units.f k a0) (spec_l7Units.f (k + 1) a0):=by
 intro a0 k
 have ih0:=spec_l7Units.mono_l k
 unfold spec_l7Units.f
 repeat' first
   | (with_reducible exact ih0 _ _ _)
   | (with_reducible exact LeO.refl _)
   | (with_reducible exact LeO.none _)
   | (with_reducible refine LeO.ite ?_ ?_)
   | (with_reducible refine LeO.bind ?_ (fun _=>?_))
   | exact ih0 _ _ _
   | exact LeO.none _
   | refine LeO.ite ?_ ?_
   | refine LeO.bind ?_ (fun _=>?_)
set_option maxHeartbeats 8000000 in
set_option maxRecDepth 100000 in
theorem spec_l7Units.calls (k:Nat) (a0:Int) (r:List (S76)) (w:World) (h:spec_l7Units.f k a0=some r) :
  Calls Try.prog 58 #[.int .i64 a0] w fun e w'=>∃ v0_:Value,e=.returned (v0_)∧Kd.R k76 76 w' w.heap.size (fun _=>True) v0_ r∧Below w.heap.size w w':=by
 have hu76:=Try.underlying76
 have HB:=Aside0.mk (Below.refl w.heap.size w)
 have H:(spec_l7Units.l0 k a0 (([]:List (S76))) 0)=some r:=h
 clear h
 obtain ⟨y184,hy184⟩:∃ y_:List (S76),y_=(([]:List (S76))):=⟨_,rfl⟩
 replace H:(spec_l7Units.l0 k a0 y184 0)=some r:=by first|(rw [hy184];with_reducible exact H)|(have H2_:=(Option.bind_some _ _).symm.trans H;rw [hy184];with_reducible exact H2_)|(have H2_:=(Option.bind_some _ _).symm.trans H;with_reducible exact H2_)|with_reducible exact H|(rw [hy184];exact H)|exact H
 have Ny184:=Aside0.mk hy184
 clear hy184
 have H':=Aside0.mk H
 clear H
 go_enter Try.func58,Try.ntmps58
 go_wp2_with (first|((with_reducible refine gate_dst (N:=5) rfl ?_);refine Kd.R_lit k76 _ 76 ?hg (N:=5) ?hd (xs:=([]:List (S76))) (inner:=[]) (ok:=fun _=>True) (okp:=fun _=>True) ?hr ?hp (fun _ hk=>hk) trivial (Below.refl _ _) (Nat.le_refl _) (by simp) ?_;(case hd=>rfl);(case hg=>rfl);(case hr=>first|(go_simp;done)|(go_simp;rfl));(case hp=>exact (Reps.none _ _));intro v185 w2 ho3 hb hg_ hnew_;clear hg_ hnew_;(first|rw [←Ny184.out] at ho3|(simp only [Int.reduceToNat] at ho3;rw [←Ny184.out] at ho3));have HO186:=Aside0.mk (Kd.R_lower ho3 (below_size zb));replace HB:=Aside0.mk (below_step zb hb);clear hb ho3))
 go_loopg [3,4] k (fun kq v3 v4 w'=>∃ (x3_1:List (S76)) (x4_1:Int),v4=.int .i64 x4_1∧Aside0 (spec_l7Units.l0 kq a0 x3_1 x4_1=some r)∧Aside0 (kq≤k)∧Aside0 (Kd.R k76 76 w' w.heap.size (fun _=>True) v3 x3_1)∧Aside0 (Below w.heap.size w w'))
 case atStart=>exact ⟨(y184),(0),zo,H',⟨Nat.le_refl _⟩,⟨zR HO186.out⟩,⟨zb⟩⟩
 case round=>
  clear H'
  try clear p2
  obtain ⟨x3_1,x4_1,rfl,HA,HK1,HO_3,HB⟩:=hrel
  cases gk with
  | zero=>exact absurd HA.out (by simp [spec_l7Units.l0])
  | succ k1=>
   have H:=HA.out
   clear HA
   simp only [spec_l7Units.l0] at H
   by_cases c4:x4_1<a0
   ·rw [if_pos c4] at H
    have c4b0:decide (x4_1<a0)=true:=decide_eq_true c4
    clear c4
    by_cases c5:x3_1.length<4398046511104
    ·rw [if_pos c5] at H
     have LMc5:=Aside0.mk c5
     clear c5
     obtain ⟨y187,hy187⟩:∃ y_:List (S76),y_=(x3_1++[(⟨1,0,0,0⟩:S76)]):=⟨_,rfl⟩
     replace H:(spec_l7Units.l0 k1 a0 y187 (wrap64 (x4_1 + 1)))=some r:=by first|(rw [hy187];with_reducible exact H)|(have H2_:=(Option.bind_some _ _).symm.trans H;rw [hy187];with_reducible exact H2_)|(have H2_:=(Option.bind_some _ _).symm.trans H;with_reducible exact H2_)|with_reducible exact H|(rw [hy187];exact H)|exact H
     have Ny187:=Aside0.mk hy187
     clear hy187
     have H':=Aside0.mk H
     clear H
     go_wp2_with (first|((with_reducible refine gate_builtin (b:=.append) (xs:=#[.tmp 11,.tmp 13]) rfl ?_);at_builtin;refine Kd.R_append k76 (w0:=w) w.heap.size rfl (.tmp 11) (.tmp 13) 27 76 (.agg #[(.int .i64 0),(.int .i64 0),(.int .i64 0),(.int .i64 0)]) 32 rfl Try.underlying27 info76 rfl (by decide) (by omega) u3 x3_1 (⟨1,0,0,0⟩:S76) [.int .i64 1,.int .i64 0,.int .i64 0,.int .i64 0] (fun _=>True) (fun _=>False) rfl rfl ?aP (fun _ hk=>hk.elim) ?aF ?aO ?aB ?aS ?aL ?_;(case aP=>exact k76_mkM _ _ _ (⟨1,0,0,0⟩:S76));(case aB=>exact zb);(case aF=>exact (fun _ _=>trivial));(case aO=>exact (zR HO_3.out));(case aS=>exact (below_size zb));(case aL=>have:=LMc5.out;omega);intro v188 w6 ho hb hg hat;rw [←Ny187.out] at ho;replace HB:=Aside0.mk (hb);have HO189:=Aside0.mk (ho);clear HO_3;clear ho hb hg hat))
     go_roundg k1
     case measure=>have:=HK1.out;omega
     case rel=>exact ⟨(y187),(wrap64 (x4_1 + 1)),zo,H',⟨by have:=HK1.out;omega⟩,⟨zR HO189.out⟩,⟨zb⟩⟩
    ·rw [if_neg c5] at H
     exact absurd H (by simp)
   ·rw [if_neg c4] at H
    have c4b0:decide (x4_1<a0)=false:=decide_eq_false c4
    clear c4
    obtain rfl:=Option.some.inj H
    go_wp2
    go_ret
    exact ⟨_,by first|rfl|(simp [errW_none,errW_some] <;> rfl)|(simp [*,errW_none,errW_some] <;> rfl),zR HO_3.out,zb⟩

/-! ### spec_l1Own: function 110 -/
def spec_l1Own.f (l0:List Int):Option (List Int):=(some (([]:List Int):List Int)).bind fun y190=>(if y190.length + l0.length<17592186044416 then (some (y190++l0)) else (none))
set_option maxHeartbeats 8000000 in
set_option maxRecDepth 100000 in
theorem spec_l1Own.calls (A0:Option Addr) (c0:Nat) (l0:List Int) (r:List Int) (w:World) (hr0:Kd.C (Kd.int .i64) w A0 l0.length l0) (hc0:l0.length≤c0) (h:spec_l1Own.f l0=some r) :
  Calls Try.prog 110 #[.slice A0 l0.length c0] w fun e w'=>∃ v0_:Value,e=.returned (v0_)∧Kd.R (Kd.int .i64) 3 w' w.heap.size (fun _=>True) v0_ r∧Below w.heap.size w w':=by
 have HR0:=Aside0.mk hr0
 have HC0:=Aside0.mk hc0
 clear hr0 hc0
 have HB:=Aside0.mk (Below.refl w.heap.size w)
 have H:((some (([]:List Int):List Int)).bind fun y190=>(if y190.length + l0.length<17592186044416 then (some (y190++l0)) else (none)))=some r:=h
 clear h
 obtain ⟨y190,hy190⟩:∃ y_:List Int,y_=(([]:List Int)):=⟨_,rfl⟩
 replace H:(if y190.length + l0.length<17592186044416 then (some (y190++l0)) else (none))=some r:=by first|(rw [hy190];with_reducible exact H)|(have H2_:=(Option.bind_some _ _).symm.trans H;rw [hy190];with_reducible exact H2_)|(have H2_:=(Option.bind_some _ _).symm.trans H;with_reducible exact H2_)|with_reducible exact H|(rw [hy190];exact H)|exact H
 have Ny190:=Aside0.mk hy190
 clear hy190
 by_cases c2:y190.length + l0.length<17592186044416
 ·rw [if_pos c2] at H
  have LMc2:=Aside0.mk c2
  clear c2
  obtain ⟨y193,hy193⟩:∃ y_:List Int,y_=(y190++l0):=⟨_,rfl⟩
  replace H:(some y193)=some r:=by first|(rw [hy193];with_reducible exact H)|(have H2_:=(Option.bind_some _ _).symm.trans H;rw [hy193];with_reducible exact H2_)|(have H2_:=(Option.bind_some _ _).symm.trans H;with_reducible exact H2_)|with_reducible exact H|(rw [hy193];exact H)|exact H
  have Ny193:=Aside0.mk hy193
  clear hy193
  obtain rfl:=Option.some.inj H
  go_enter Try.func110,Try.ntmps110
  go_wp2_with (first|((with_reducible refine gate_dst (N:=3) rfl ?_);refine Kd.R_lit (Kd.int .i64) _ 3 ?hg (N:=3) ?hd (xs:=([]:List Int)) (inner:=[]) (ok:=fun _=>True) (okp:=fun _=>True) ?hr ?hp (fun _ hk=>hk) trivial (Below.refl _ _) (Nat.le_refl _) (by simp) ?_;(case hd=>rfl);(case hg=>rfl);(case hr=>first|(go_simp;done)|(go_simp;rfl));(case hp=>exact (Reps.none _ _));intro v191 w3 ho4 hb hg_ hnew_;clear hg_ hnew_;(first|rw [←Ny190.out] at ho4|(simp only [Int.reduceToNat] at ho4;rw [←Ny190.out] at ho4));have HO192:=Aside0.mk (Kd.R_lower ho4 (below_size zb));replace HB:=Aside0.mk (below_step zb hb);clear hb ho4)|((with_reducible refine gate_builtin (b:=.append) (xs:=#[.tmp 3,.tmp 4]) rfl ?_);at_builtin;refine Kd.R_append_rows (Kd.int .i64) (w0:=w) w.heap.size rfl (.tmp 3) (.tmp 4) 43 3 (.int .i64 0) 8 rfl Try.underlying43 info3 rfl (by decide) (by omega) v191 y190 l0 _ _ _ (fun _=>True) (fun _=>False) rfl rfl ?aO ?aR (fun _ _ h=>h) (fun _ h=>h.elim) ?aF ?aB ?aS ?aL ?_;(case aR=>exact zC (Kd.C_below HR0.out HB.out));(case aB=>exact zb);(case aF=>exact (fun _ _=>trivial));(case aO=>exact (zR HO192.out));(case aS=>exact (below_size zb));(case aL=>have:=LMc2.out;omega);intro v194 w5 ho hb hg hat;rw [←Ny193.out] at ho;replace HB:=Aside0.mk (hb);have HO195:=Aside0.mk (ho);clear HO192;clear ho hb hg hat))
  go_ret
  exact ⟨_,by first|rfl|(simp [errW_none,errW_some] <;> rfl)|(simp [*,errW_none,errW_some] <;> rfl),zR HO195.out,zb⟩
 ·rw [if_neg c2] at H
  exact absurd H (by simp)

end Go.Proofs.Ytbcfmegepkhlpaa.XFnExactLabelPlan
-- minified
