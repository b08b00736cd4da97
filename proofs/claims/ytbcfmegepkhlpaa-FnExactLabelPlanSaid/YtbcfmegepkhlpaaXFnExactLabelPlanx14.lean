-- Written by a program of this session (the kit's print, widened). Proved here: what each function answers, for the arguments that its contract names.
import Derived.Test.YtbcfmegepkhlpaaXFnExactLabelPlanx0
import Derived.Test.YtbcfmegepkhlpaaXFnExactLabelPlanx13
namespace Go.Proofs.Ytbcfmegepkhlpaa.XFnExactLabelPlan
open Go.RowKit Go.Proofs.YtbcfmegepkhlpaaW.PrintWords Go.Proofs.YtbcfmegepkhlpaaW.PrintLast Go.Proofs.YtbcfmegepkhlpaaW.PrintMore
attribute [local go_sem] max2_int min2_int max_two min_two max_three min_three max_four min_four   -- for this text's walks alone
attribute [local go_sem] idxA_72_0 idxA_72_1 fldS_96_0 fldS_96_1 fldS_96_2 fldS_111_0 fldS_111_1 fldS_111_2
set_option linter.unusedVariables false
set_option linter.unusedSimpArgs false

/-! ### laws_toIntA2S: function 20 -/
def laws_toIntA2S.l0:Nat→List (S72)→List (S72)→Int→Option ((List (S72)))
 | 0,_,_,_=>none
 | k + 1,x0,x3,x4=>if x4<(x0.length:Int) then (if 0≤x4 then ((laws_toIntA2.f k ((rd_T72 x0 x4).f0) ((rd_T72 x0 x4).f1)).bind fun bt306=>(if x4<(x3.length:Int) then (laws_toIntA2S.l0 k x0 (x3.set (x4:Int).toNat (⟨bt306.1,bt306.2⟩:S72)) (wrap64 (x4 + 1))) else (none))) else (none)) else (some x3)
def laws_toIntA2S.f (k:Nat) (l0:List (S72)):Option ((List (S72))):=if 0≤(l0.length:Int) then (if ((l0.length:Int):Int).toNat≤17592186044416 then (laws_toIntA2S.l0 k l0 (List.replicate ((l0.length:Int):Int).toNat z72) 0) else (none)) else (none)
theorem laws_toIntA2S.mono_l:∀ k,(∀ y0 y1 y2,LeO (laws_toIntA2S.l0 k y0 y1 y2) (laws_toIntA2S.l0 (k + 1) y0 y1 y2))
 | 0=>fun _ _ _ r h=>by simp [laws_toIntA2S.l0] at h
 | k + 1=>by
  have ih0:=laws_toIntA2S.mono_l k
  ·intro y0 y1 y2
   unfold laws_toIntA2S.l0
   repeat' first
   | (with_reducible exact ih0 _ _ _)
   | (with_reducible exact laws_toIntA2.mono _ _ _)
   | (with_reducible exact LeO.refl _)
   | (with_reducible exact LeO.none _)
   | (with_reducible refine LeO.ite ?_ ?_)
   | (with_reducible refine LeO.bind ?_ (fun _=>?_))
   | exact ih0 _ _ _
   | exact laws_toIntA2.mono _ _ _
   | exact LeO.none _
   | refine LeO.ite ?_ ?_
   | refine LeO.bind ?_ (fun _=>?_)
theorem laws_toIntA2S.mono:∀ a0 k,LeO (laws_toIntA2S.f k a0) (laws_toIntA2S.f (k + 1) a0):=by
 intro a0 k
 have ih0:=laws_toIntA2S.mono_l k
 unfold laws_toIntA2S.f
 repeat' first
   | (with_reducible exact ih0 _ _ _)
   | (with_reducible exact laws_toIntA2.mono _ _ _)
   | (with_reducible exact LeO.refl _)
   | (with_reducible exact LeO.none _)
   | (with_reducible refine LeO.ite ?_ ?_)
   | (with_reducible refine LeO.bind ?_ (fun _=>?_))
   | exact ih0 _ _ _
   | exact laws_toIntA2.mono _ _ _
   | exact LeO.none _
   | refine LeO.ite ?_ ?_
   | refine LeO.bind ?_ (fun _=>?_)
set_option maxHeartbeats 8000000 in
set_option maxRecDepth 100000 in
theorem laws_toIntA2S.calls (k:Nat) (A0:Option Addr) (c0:Nat) (l0:List (S72)) (r:List (S72)) (w:World) (hr0:Kd.C k72 w A0 l0.length l0) (hc0:l0.length≤c0) (h:laws_toIntA2S.f k l0=some r) :
  Calls Try.prog 20 #[.slice A0 l0.length c0] w fun e w'=>∃ v0_:Value,e=.returned (v0_)∧Kd.R k72 72 w' w.heap.size (fun _=>True) v0_ r∧Below w.heap.size w w':=by
 have hu72:=Try.underlying72
 have HR0:=Aside0.mk hr0
 have HC0:=Aside0.mk hc0
 clear hr0 hc0
 have HB:=Aside0.mk (Below.refl w.heap.size w)
 have H:(if 0≤(l0.length:Int) then (if ((l0.length:Int):Int).toNat≤17592186044416 then (laws_toIntA2S.l0 k l0 (List.replicate ((l0.length:Int):Int).toNat z72) 0) else (none)) else (none))=some r:=h
 clear h
 by_cases c2:0≤(l0.length:Int)
 ·rw [if_pos c2] at H
  have c2b0:=eq_true c2
  have c2b1:decide (0≤(l0.length:Int))=true:=decide_eq_true c2
  clear c2
  by_cases c3:((l0.length:Int):Int).toNat≤17592186044416
  ·rw [if_pos c3] at H
   have c3b0:=eq_true c3
   have c3b1:decide (((l0.length:Int):Int).toNat≤17592186044416)=true:=decide_eq_true c3
   clear c3
   obtain ⟨y302,hy302⟩:∃ y_:List (S72),y_=(List.replicate ((l0.length:Int):Int).toNat z72):=⟨_,rfl⟩
   replace H:(laws_toIntA2S.l0 k l0 y302 0)=some r:=by first|(rw [hy302];with_reducible exact H)|(have H2_:=(Option.bind_some _ _).symm.trans H;rw [hy302];with_reducible exact H2_)|(have H2_:=(Option.bind_some _ _).symm.trans H;with_reducible exact H2_)|with_reducible exact H|(rw [hy302];exact H)|exact H
   have Ny302:=Aside0.mk hy302
   clear hy302
   have H':=Aside0.mk H
   clear H
   go_enter Try.func20,Try.ntmps20
   go_wp2_with (first|((with_reducible refine gate_dst (N:=7) rfl ?_);refine Kd.R_make k72 _ 72 rfl (N:=7) rfl 24 _ _ rfl (l0.length:Int) rfl rfl Try.underlying24 (.agg #[(.int .i64 0),(.int .i64 0)]) 16 info72 rfl (by decide) (by omega) z72 (ok:=fun _=>True) (okp:=fun _=>True) (k72_mkM _ _ _ z72) (fun _ hk=>hk) trivial (of_decide_eq_true za) (Nat.le_trans (Nat.mul_le_mul_right _ (of_decide_eq_true za:(l0.length:Int).toNat≤17592186044416)) (by omega)) (Below.refl _ _) (Nat.le_refl _) ?_;intro v303 w4 ho5 hb hg_ hnew_;clear hg_ hnew_;(first|rw [←Ny302.out] at ho5|(simp only [Int.reduceToNat] at ho5;rw [←Ny302.out] at ho5));have HO304:=Aside0.mk (Kd.R_lower ho5 (below_size zb));replace HB:=Aside0.mk (below_step zb hb);clear hb ho5))
   go_loopg [4] k (fun kq v4 w'=>∃ (x3_1:List (S72)) (x4_1:Int),v4=.int .i64 x4_1∧Aside0 (laws_toIntA2S.l0 kq l0 x3_1 x4_1=some r)∧Aside0 (kq≤k)∧Aside0 (Kd.R k72 72 w' w.heap.size (fun _=>True) v303 x3_1)∧Aside0 (Below w.heap.size w w'))
   case atStart=>exact ⟨(y302),(0),zo,H',⟨Nat.le_refl _⟩,⟨zR HO304.out⟩,⟨zb⟩⟩
   case round=>
    clear H'
    (try clear c2);(try clear c2b0);(try clear c2b1);(try clear p2);(try clear c3);(try clear c3b0);(try clear c3b1)
    obtain ⟨x3_1,x4_1,rfl,HA,HK1,HO_3,HB⟩:=hrel
    cases gk with
    | zero=>exact absurd HA.out (by simp [laws_toIntA2S.l0])
    | succ k1=>
     have H:=HA.out
     clear HA
     simp only [laws_toIntA2S.l0] at H
     by_cases c6:x4_1<(l0.length:Int)
     ·rw [if_pos c6] at H
      have c6b0:decide (x4_1<(l0.length:Int))=true:=decide_eq_true c6
      clear c6
      by_cases c7:0≤x4_1
      ·rw [if_pos c7] at H
       have c7b0:decide (0≤x4_1)=true:=decide_eq_true c7
       clear c7
       replace H:=Option.bind_eq_some_iff.mp H
       obtain ⟨⟨t306,t307⟩,A80,H⟩:=H
       replace H:(if x4_1<(x3_1.length:Int) then (laws_toIntA2S.l0 k1 l0 (x3_1.set (x4_1:Int).toNat (⟨t306,t307⟩:S72)) (wrap64 (x4_1 + 1))) else (none))=some r:=H
       have A8:=Aside0.mk A80
       clear A80
       by_cases c9:x4_1<(x3_1.length:Int)
       ·rw [if_pos c9] at H
        have c9b0:decide (x4_1<(x3_1.length:Int))=true:=decide_eq_true c9
        clear c9
        obtain ⟨y308,hy308⟩:∃ y_:List (S72),y_=(x3_1.set (x4_1:Int).toNat (⟨t306,t307⟩:S72)):=⟨_,rfl⟩
        replace H:(laws_toIntA2S.l0 k1 l0 y308 (wrap64 (x4_1 + 1)))=some r:=by first|(rw [hy308];with_reducible exact H)|(have H2_:=(Option.bind_some _ _).symm.trans H;rw [hy308];with_reducible exact H2_)|(have H2_:=(Option.bind_some _ _).symm.trans H;with_reducible exact H2_)|with_reducible exact H|(rw [hy308];exact H)|exact H
        have Ny308:=Aside0.mk hy308
        clear hy308
        have H':=Aside0.mk H
        clear H
        have p305:0≤(x4_1:Int):=of_decide_eq_true za
        have q305:x4_1<(l0.length:Int):=of_decide_eq_true za
        obtain ⟨ad305,e305,hx305_0,hx305_1⟩:=at_T72 HR0.out x4_1 p305 q305
        cases e305
        replace hx305_0:=(HB.out.cell (World.block_lt_of_cell? w _ hx305_0)).trans hx305_0
        replace hx305_1:=(HB.out.cell (World.block_lt_of_cell? w _ hx305_1)).trans hx305_1
        replace p305:=eq_true p305
        replace q305:=eq_true q305
        go_wp2_with (first|((with_reducible refine gate_callee (f:=61) rfl ?_);refine goesL_ (some 20) rfl rfl Try.func61 (by kernel_rfl) rfl #[.agg #[.int .i64 ((rd_T72 l0 x4_1).f0),.int .i64 ((rd_T72 l0 x4_1).f1)]] rfl zl ?_;(with_reducible refine (laws_toIntA2.calls k1 ((rd_T72 l0 x4_1).f0) ((rd_T72 l0 x4_1).f1) t306 t307 _ A8.out).mono ?_);rintro e w11 ⟨rfl,hb⟩;refine ⟨_,rfl,?_⟩;replace HO_3:=Aside0.mk (Kd.R_below (zR HO_3.out) hb);replace HB:=Aside0.mk (below_step zb hb);(try clear hb);(try clear hk);have p10:0≤(x4_1:Int):=of_decide_eq_true za;have q10:(x4_1:Int)<((x3_1.length:Int):Int):=of_decide_eq_true za;obtain ⟨go10,co10,eo10,gb10,gl10,cl10,HG10⟩:=Kd.R_form HO_3.out (by omega);(first|cases eo10|(injection eo10 with ea_ en_ ec_;(first|subst ea_|(injection ea_ with ea_;subst ea_));subst ec_;clear en_));have GB10:=Aside0.mk gb10;have GG10:=Aside0.mk HG10;clear gb10 gl10 HG10;obtain ⟨ce10,hcl10,hM10,hcc10,hfr10⟩:=Kd.R_elem HO_3.out z72 (x4_1:Int) p10 q10;obtain rfl:=k72_openM hM10;have hx10_0:w11.cell? ⟨go10,(x4_1:Int).toNat * 2,none⟩=some (.int .i64 ((rd_T72 x3_1 x4_1).f0)):=hcc10 0 _ rfl;have hx10_1:w11.cell? ⟨go10,(x4_1:Int).toNat * 2 + 1,none⟩=some (.int .i64 ((rd_T72 x3_1 x4_1).f1)):=hcc10 1 _ rfl;have hf10_0:w11.frozen? ⟨go10,(x4_1:Int).toNat * 2,none⟩=false:=hfr10 0;have hf10_1:w11.frozen? ⟨go10,(x4_1:Int).toNat * 2 + 1,none⟩=false:=hfr10 1;(clear hcl10 hcc10 hfr10;(try clear hM10));replace p10:=eq_true p10;replace q10:=eq_true q10;have HX12:=Aside0.mk (show Kd.R k72 72 w11 w.heap.size (fun _=>True) (.slice (some ⟨go10,0,none⟩) x3_1.length co10) x3_1 from (zR HO_3.out));obtain ⟨ce12,hcl12,hM12,hcc12,hfr12⟩:=Kd.R_elem HX12.out z72 (x4_1:Int) (of_decide_eq_true za) (by have h_:(x4_1:Int)<((x3_1.length:Int):Int):=of_decide_eq_true za;first|exact h_|(have e_:=(Kd.R_reads' HO_3.out).1;omega)|simpa using h_);obtain rfl:=k72_openM hM12;have HP12:=Kd.R_seg HX12.out (x4_1:Int) (of_decide_eq_true za) (by have h_:(x4_1:Int)<((x3_1.length:Int):Int):=of_decide_eq_true za;first|exact h_|(have e_:=(Kd.R_reads' HO_3.out).1;omega)|simpa using h_) (seg:=[.int .i64 t306,.int .i64 t307]) (j:=0) hcl12 hcc12 (show 2≤2 from by decide) (x':=(⟨t306,t307⟩:S72)) (k72_mkM _ _ _ (⟨t306,t307⟩:S72)) (fun _ hk=>hk);have hx12_0:=hcc12 0 _ rfl;(try simp only [show (k72).sz=2 from rfl,Nat.mul_one,Nat.add_zero] at hx12_0);have hf12_0:=hfr12 0;(try simp only [show (k72).sz=2 from rfl,Nat.mul_one,Nat.add_zero] at hf12_0);have hx12_1:=hcc12 1 _ rfl;(try simp only [show (k72).sz=2 from rfl,Nat.mul_one,Nat.add_zero] at hx12_1);have hf12_1:=hfr12 1;(try simp only [show (k72).sz=2 from rfl,Nat.mul_one,Nat.add_zero] at hf12_1);(clear hcl12 hcc12 hfr12;(try clear hM12)))|((with_reducible refine gate_store (t:=72) (p:=21) rfl ?_);(try (rw [drewN_self w11];generalize hq_:World.drewN w11 _=w11;have n0_:=Aside0.mk (Kd.R_at hq_ HO_3.out);have n1_:=Aside0.mk (below_at hq_ HB.out);(try replace hx10_0:=cell_at hq_ hx10_0);(try replace hx10_1:=cell_at hq_ hx10_1);(try replace hf10_0:=(fun {W_ W2_:World} {n_:Nat} {a_:Addr} {b_:Bool} (h_:W_.drewN n_=W2_) (e_:W_.frozen? a_=b_)=>(by subst h_;exact e_:W2_.frozen? a_=b_)) hq_ hf10_0);(try replace hf10_1:=(fun {W_ W2_:World} {n_:Nat} {a_:Addr} {b_:Bool} (h_:W_.drewN n_=W2_) (e_:W_.frozen? a_=b_)=>(by subst h_;exact e_:W2_.frozen? a_=b_)) hq_ hf10_1);(try replace hx12_0:=cell_at hq_ hx12_0);(try replace hf12_0:=(fun {W_ W2_:World} {n_:Nat} {a_:Addr} {b_:Bool} (h_:W_.drewN n_=W2_) (e_:W_.frozen? a_=b_)=>(by subst h_;exact e_:W2_.frozen? a_=b_)) hq_ hf12_0);(try replace hx12_1:=cell_at hq_ hx12_1);(try replace hf12_1:=(fun {W_ W2_:World} {n_:Nat} {a_:Addr} {b_:Bool} (h_:W_.drewN n_=W2_) (e_:W_.frozen? a_=b_)=>(by subst h_;exact e_:W2_.frozen? a_=b_)) hq_ hf12_1);clear hq_ HO_3 HB;have HO_3:=n0_;have HB:=n1_;clear n0_ n1_;(try (have HX12:=Aside0.mk (show Kd.R k72 72 w11 w.heap.size (fun _=>True) (.slice (some ⟨go10,0,none⟩) x3_1.length co10) x3_1 from (zR HO_3.out))));(try (obtain ⟨ce12,hcl12,hM12,hcc12,hfr12⟩:=Kd.R_elem HX12.out z72 (x4_1:Int) (of_decide_eq_true za) (by have h_:(x4_1:Int)<((x3_1.length:Int):Int):=of_decide_eq_true za;first|exact h_|(have e_:=(Kd.R_reads' HO_3.out).1;omega)|simpa using h_)));(try (obtain rfl:=k72_openM hM12));(try (have HP12:=Kd.R_seg HX12.out (x4_1:Int) (of_decide_eq_true za) (by have h_:(x4_1:Int)<((x3_1.length:Int):Int):=of_decide_eq_true za;first|exact h_|(have e_:=(Kd.R_reads' HO_3.out).1;omega)|simpa using h_) (seg:=[.int .i64 t306,.int .i64 t307]) (j:=0) hcl12 hcc12 (show 2≤2 from by decide) (x':=(⟨t306,t307⟩:S72)) (k72_mkM _ _ _ (⟨t306,t307⟩:S72)) (fun _ hk=>hk)));(try (have hx12_0:=hcc12 0 _ rfl));(try (try simp only [show (k72).sz=2 from rfl,Nat.mul_one,Nat.add_zero] at hx12_0));(try (have hf12_0:=hfr12 0));(try (try simp only [show (k72).sz=2 from rfl,Nat.mul_one,Nat.add_zero] at hf12_0));(try (have hx12_1:=hcc12 1 _ rfl));(try (try simp only [show (k72).sz=2 from rfl,Nat.mul_one,Nat.add_zero] at hx12_1));(try (have hf12_1:=hfr12 1));(try (try simp only [show (k72).sz=2 from rfl,Nat.mul_one,Nat.add_zero] at hf12_1));(try (clear hcl12 hcc12 hfr12;(try clear hM12)))));refine store_event (t:=72) (p:=21) (v:=?vo_w13) (w1:=((w11.setCell ⟨go10,(x4_1:Int).toNat * 2,none⟩ (.int .i64 t306)).setCell ⟨go10,(x4_1:Int).toNat * 2 + 1,none⟩ (.int .i64 t307))) ?hg ?ho ?hn ?hr ?_;(case ho=>rfl);(case hg=>rfl);(case hn=>rfl);(case hr=>first|(go_simp;done)|(go_simp;rfl));intro w13 hw;have hg:w11.grownBy w13 (some go10):=(by rw [hw];exact HP12.2);have hp_:Kd.R k72 72 w13 w.heap.size (fun _=>True) (.slice (some ⟨go10,0,none⟩) x3_1.length co10) y308:=(by rw [hw,Ny308.out];exact HP12.1);clear HP12;replace HO_3:=Aside0.mk (hp_);replace HB:=Aside0.mk ((by rw [hw];exact below_set (below_set (HB.out) GB10.out) GB10.out:Below w.heap.size w w13));clear hg hw hp_))
        go_roundg k1
        case measure=>have:=HK1.out;omega
        case rel=>exact ⟨(y308),(wrap64 (x4_1 + 1)),zo,H',⟨by have:=HK1.out;omega⟩,⟨zR HO_3.out⟩,⟨zb⟩⟩
       ·rw [if_neg c9] at H
        exact absurd H (by simp)
      ·rw [if_neg c7] at H
       exact absurd H (by simp)
     ·rw [if_neg c6] at H
      have c6b0:decide (x4_1<(l0.length:Int))=false:=decide_eq_false c6
      clear c6
      obtain rfl:=Option.some.inj H
      go_wp2
      go_ret
      exact ⟨_,by first|rfl|(simp [errW_none,errW_some] <;> rfl)|(simp [*,errW_none,errW_some] <;> rfl),zR HO_3.out,zb⟩
  ·rw [if_neg c3] at H
   exact absurd H (by simp)
 ·rw [if_neg c2] at H
  exact absurd H (by simp)

/-! ### impl_within: function 113 -/
def impl_within.f (a0:Int) (a1:Int) (a2:Int):Option (Bool):=if a1≤a0 then (some (decide (a0≤a2))) else (some false)
set_option maxHeartbeats 8000000 in
set_option maxRecDepth 100000 in
theorem impl_within.calls (a0:Int) (a1:Int) (a2:Int) (r:Bool) (w:World) (h:impl_within.f a0 a1 a2=some r) :
  Calls Try.prog 113 #[.int .i64 a0,.int .i64 a1,.int .i64 a2] w fun e w'=>e=.returned (.bool r)∧Drawn0 w w':=by
 have H:(if a1≤a0 then (some (decide (a0≤a2))) else (some false))=some r:=h
 clear h
 by_cases c4:a1≤a0
 ·rw [if_pos c4] at H
  have c4b0:decide (a1≤a0)=true:=decide_eq_true c4
  clear c4
  obtain rfl:=Option.some.inj H
  go_enter Try.func113,Try.ntmps113
  go_wp2
  go_ret
  exact ⟨by first|rfl|(simp;done)|(simp [*];done),by repeat (first|exact Drawn0.refl _|apply Drawn0.step)⟩
 ·rw [if_neg c4] at H
  have c4b0:decide (a1≤a0)=false:=decide_eq_false c4
  clear c4
  obtain rfl:=Option.some.inj H
  go_enter Try.func113,Try.ntmps113
  go_wp2
  go_ret
  exact ⟨by first|rfl|(simp;done)|(simp [*];done),by repeat (first|exact Drawn0.refl _|apply Drawn0.step)⟩

/-! ### impl_isNumber: function 114 -/
def impl_isNumber.f (a0:Int) (a1:Int):Option (Bool):=(impl_within.f a0 0 (wrap64 (a1 - 1))).bind fun t309=>(some t309)
set_option maxHeartbeats 8000000 in
set_option maxRecDepth 100000 in
theorem impl_isNumber.calls (a0:Int) (a1:Int) (r:Bool) (w:World) (h:impl_isNumber.f a0 a1=some r) :
  Calls Try.prog 114 #[.int .i64 a0,.int .i64 a1] w fun e w'=>e=.returned (.bool r)∧Drawn0 w w':=by
 have H:((impl_within.f a0 0 (wrap64 (a1 - 1))).bind fun t309=>(some t309))=some r:=h
 clear h
 replace H:=Option.bind_eq_some_iff.mp H
 obtain ⟨t309,A30,H⟩:=H
 replace H:(some t309)=some r:=H
 have A3:=Aside0.mk A30
 clear A30
 obtain rfl:=Option.some.inj H
 go_enter Try.func114,Try.ntmps114
 go_wp2_with (first|((with_reducible refine gate_callee (f:=113) rfl ?_);refine goesL_ (some 8) rfl rfl Try.func113 (by kernel_rfl) rfl #[.int .i64 a0,.int .i64 0,.int .i64 (wrap64 (a1 - 1))] rfl zl ?_;(with_reducible refine (impl_within.calls a0 0 (wrap64 (a1 - 1)) t309 _ A3.out).mono ?_);rintro e w' ⟨rfl,⟨nd,rfl⟩⟩;refine ⟨_,rfl,?_⟩))
 go_ret
 exact ⟨by first|rfl|(simp;done)|(simp [*];done),by repeat (first|exact Drawn0.refl _|apply Drawn0.step)⟩

end Go.Proofs.Ytbcfmegepkhlpaa.XFnExactLabelPlan
-- minified
