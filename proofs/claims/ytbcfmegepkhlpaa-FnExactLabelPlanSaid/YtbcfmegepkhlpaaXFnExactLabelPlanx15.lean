-- Written by a program of this session (the kit's print, widened). Proved here: what each function answers, for the arguments that its contract names.
import Derived.Test.YtbcfmegepkhlpaaXFnExactLabelPlanx0
namespace Go.Proofs.Ytbcfmegepkhlpaa.XFnExactLabelPlan
open Go.RowKit Go.Proofs.YtbcfmegepkhlpaaW.PrintWords Go.Proofs.YtbcfmegepkhlpaaW.PrintLast Go.Proofs.YtbcfmegepkhlpaaW.PrintMore
attribute [local go_sem] max2_int min2_int max_two min_two max_three min_three max_four min_four   -- for this text's walks alone
attribute [local go_sem] idxA_72_0 idxA_72_1 fldS_96_0 fldS_96_1 fldS_96_2 fldS_111_0 fldS_111_1 fldS_111_2
set_option linter.unusedVariables false
set_option linter.unusedSimpArgs false

/-! ### impl_closure: function 115 -/
mutual
def impl_closure.l0:Nat→Int→List (S72)→List (List Bool)→Int→Int→Option ((List (List Bool)))
 | 0,_,_,_,_,_=>none
 | k + 1,x0,x1,x5,x15,x16=>if x16<x15 then (if 0≤x0 then (if (x0:Int).toNat≤281474976710656 then (if 0≤x16 then (if x16<(x5.length:Int) then (impl_closure.l0 k x0 x1 (x5.set (x16:Int).toNat (List.replicate (x0:Int).toNat false)) x15 (wrap64 (x16 + 1))) else (none)) else (none)) else (none)) else (none)) else (impl_closure.l1 k x0 x5 x1 (x1.length:Int) 0)
def impl_closure.l1:Nat→Int→List (List Bool)→List (S72)→Int→Int→Option ((List (List Bool)))
 | 0,_,_,_,_,_=>none
 | k + 1,x0,x5,x25,x26,x27=>if x27<x26 then (if 0≤x27 then (if x27<(x25.length:Int) then (if 0≤((rd_T72 x25 x27).f0) then (if ((rd_T72 x25 x27).f0)<(x5.length:Int) then (if 0≤((rd_T72 x25 x27).f1) then (if ((rd_T72 x25 x27).f1)<((rd_L3 x5 ((rd_T72 x25 x27).f0)).length:Int) then (impl_closure.l1 k x0 (x5.set (((rd_T72 x25 x27).f0):Int).toNat ((rd_L3 x5 ((rd_T72 x25 x27).f0)).set (((rd_T72 x25 x27).f1):Int).toNat true)) x25 x26 (wrap64 (x27 + 1))) else (none)) else (none)) else (none)) else (none)) else (none)) else (none)) else (impl_closure.l2 k x0 x5 0)
def impl_closure.l2:Nat→Int→List (List Bool)→Int→Option ((List (List Bool)))
 | 0,_,_,_=>none
 | k + 1,x0,x5,x9=>if x9<x0 then (impl_closure.l3 k x0 x5 x9 0) else (some x5)
def impl_closure.l3:Nat→Int→List (List Bool)→Int→Int→Option ((List (List Bool)))
 | 0,_,_,_,_=>none
 | k + 1,x0,x5,x9,x10=>if x10<x0 then (impl_closure.l4 k x0 x5 x9 x10 0) else (impl_closure.l2 k x0 x5 (wrap64 (x9 + 1)))
def impl_closure.l4:Nat→Int→List (List Bool)→Int→Int→Int→Option ((List (List Bool)))
 | 0,_,_,_,_,_=>none
 | k + 1,x0,x5,x9,x10,x11=>if x11<x0 then (if 0≤x10 then (if x10<(x5.length:Int) then (if 0≤x11 then (if x11<((rd_L3 x5 x10).length:Int) then (if rdOf false (rd_L3 x5 x10) x11=true then (impl_closure.l4 k x0 (x5.set (x10:Int).toNat ((rd_L3 x5 x10).set (x11:Int).toNat true)) x9 x10 (wrap64 (x11 + 1))) else (if 0≤x9 then (if x9<((rd_L3 x5 x10).length:Int) then (if rdOf false (rd_L3 x5 x10) x9=true then (if x9<(x5.length:Int) then (if x11<((rd_L3 x5 x9).length:Int) then (impl_closure.l4 k x0 (x5.set (x10:Int).toNat ((rd_L3 x5 x10).set (x11:Int).toNat (rdOf false (rd_L3 x5 x9) x11))) x9 x10 (wrap64 (x11 + 1))) else (none)) else (none)) else (impl_closure.l4 k x0 (x5.set (x10:Int).toNat ((rd_L3 x5 x10).set (x11:Int).toNat false)) x9 x10 (wrap64 (x11 + 1)))) else (none)) else (none))) else (none)) else (none)) else (none)) else (none)) else (impl_closure.l3 k x0 x5 x9 (wrap64 (x10 + 1)))
end
def impl_closure.f (k:Nat) (a0:Int) (l1:List (S72)):Option ((List (List Bool))):=if 0≤a0 then (if (a0:Int).toNat≤11728124029610 then ((some (List.replicate (a0:Int).toNat []:List (List Bool))).bind fun y310=>(impl_closure.l0 k a0 l1 y310 (y310.length:Int) 0)) else (none)) else (none)
theorem impl_closure.mono_l:∀ k,(∀ y0 y1 y2 y3 y4,LeO (impl_closure.l0 k y0 y1 y2 y3 y4) (impl_closure.l0 (k + 1) y0 y1 y2 y3 y4))∧(∀ y0 y1 y2 y3 y4,LeO (impl_closure.l1 k y0 y1 y2 y3 y4) (impl_closure.l1 (k + 1) y0 y1 y2 y3 y4))∧(∀ y0 y1 y2,LeO (impl_closure.l2 k y0 y1 y2) (impl_closure.l2 (k + 1) y0 y1 y2))∧(∀ y0 y1 y2 y3,LeO (impl_closure.l3 k y0 y1 y2 y3) (impl_closure.l3 (k + 1) y0 y1 y2 y3))∧(∀ y0 y1 y2 y3 y4,LeO (impl_closure.l4 k y0 y1 y2 y3 y4) (impl_closure.l4 (k + 1) y0 y1 y2 y3 y4))
 | 0=>⟨fun _ _ _ _ _ r h=>by simp [impl_closure.l0] at h,fun _ _ _ _ _ r h=>by simp [impl_closure.l1] at h,fun _ _ _ r h=>by simp [impl_closure.l2] at h,fun _ _ _ _ r h=>by simp [impl_closure.l3] at h,fun _ _ _ _ _ r h=>by simp [impl_closure.l4] at h⟩
 | k + 1=>by
  obtain ⟨ih0,ih1,ih2,ih3,ih4⟩:=impl_closure.mono_l k
  refine ⟨?_,?_,?_,?_,?_⟩
  ·intro y0 y1 y2 y3 y4
   unfold impl_closure.l0
   repeat' first
   | (with_reducible exact ih0 _ _ _ _ _)
   | (with_reducible exact ih1 _ _ _ _ _)
   | (with_reducible exact ih2 _ _ _)
   | (with_reducible exact ih3 _ _ _ _)
   | (with_reducible exact ih4 _ _ _ _ _)
   | (with_reducible exact LeO.refl _)
   | (with_reducible exact LeO.none _)
   | (with_reducible refine LeO.ite ?_ ?_)
   | (with_reducible refine LeO.bind ?_ (fun _=>?_))
   | exact ih0 _ _ _ _ _
   | exact ih1 _ _ _ _ _
   | exact ih2 _ _ _
   | exact ih3 _ _ _ _
   | exact ih4 _ _ _ _ _
   | exact LeO.none _
   | refine LeO.ite ?_ ?_
   | refine LeO.bind ?_ (fun _=>?_)
  ·intro y0 y1 y2 y3 y4
   unfold impl_closure.l1
   repeat' first
   | (with_reducible exact ih0 _ _ _ _ _)
   | (with_reducible exact ih1 _ _ _ _ _)
   | (with_reducible exact ih2 _ _ _)
   | (with_reducible exact ih3 _ _ _ _)
   | (with_reducible exact ih4 _ _ _ _ _)
   | (with_reducible exact LeO.refl _)
   | (with_reducible exact LeO.none _)
   | (with_reducible refine LeO.ite ?_ ?_)
   | (with_reducible refine LeO.bind ?_ (fun _=>?_))
   | exact ih0 _ _ _ _ _
   | exact ih1 _ _ _ _ _
   | exact ih2 _ _ _
   | exact ih3 _ _ _ _
   | exact ih4 _ _ _ _ _
   | exact LeO.none _
   | refine LeO.ite ?_ ?_
   | refine LeO.bind ?_ (fun _=>?_)
  ·intro y0 y1 y2
   unfold impl_closure.l2
   repeat' first
   | (with_reducible exact ih0 _ _ _ _ _)
   | (with_reducible exact ih1 _ _ _ _ _)
   | (with_reducible exact ih2 _ _ _)
   | (with_reducible exact ih3 _ _ _ _)
   | (with_reducible exact ih4 _ _ _ _ _)
   | (with_reducible exact LeO.refl _)
   | (with_reducible exact LeO.none _)
   | (with_reducible refine LeO.ite ?_ ?_)
   | (with_reducible refine LeO.bind ?_ (fun _=>?_))
   | exact ih0 _ _ _ _ _
   | exact ih1 _ _ _ _ _
   | exact ih2 _ _ _
   | exact ih3 _ _ _ _
   | exact ih4 _ _ _ _ _
   | exact LeO.none _
   | refine LeO.ite ?_ ?_
   | refine LeO.bind ?_ (fun _=>?_)
  ·intro y0 y1 y2 y3
   unfold impl_closure.l3
   repeat' first
   | (with_reducible exact ih0 _ _ _ _ _)
   | (with_reducible exact ih1 _ _ _ _ _)
   | (with_reducible exact ih2 _ _ _)
   | (with_reducible exact ih3 _ _ _ _)
   | (with_reducible exact ih4 _ _ _ _ _)
   | (with_reducible exact LeO.refl _)
   | (with_reducible exact LeO.none _)
   | (with_reducible refine LeO.ite ?_ ?_)
   | (with_reducible refine LeO.bind ?_ (fun _=>?_))
   | exact ih0 _ _ _ _ _
   | exact ih1 _ _ _ _ _
   | exact ih2 _ _ _
   | exact ih3 _ _ _ _
   | exact ih4 _ _ _ _ _
   | exact LeO.none _
   | refine LeO.ite ?_ ?_
   | refine LeO.bind ?_ (fun _=>?_)
  ·intro y0 y1 y2 y3 y4
   unfold impl_closure.l4
   repeat' first
   | (with_reducible exact ih0 _ _ _ _ _)
   | (with_reducible exact ih1 _ _ _ _ _)
   | (with_reducible exact ih2 _ _ _)
   | (with_reducible exact ih3 _ _ _ _)
   | (with_reducible exact ih4 _ _ _ _ _)
   | (with_reducible exact LeO.refl _)
   | (with_reducible exact LeO.none _)
   | (with_reducible refine LeO.ite ?_ ?_)
   | (with_reducible refine LeO.bind ?_ (fun _=>?_))
   | exact ih0 _ _ _ _ _
   | exact ih1 _ _ _ _ _
   | exact ih2 _ _ _
   | exact ih3 _ _ _ _
   | exact ih4 _ _ _ _ _
   | exact LeO.none _
   | refine LeO.ite ?_ ?_
   | refine LeO.bind ?_ (fun _=>?_)
theorem impl_closure.mono:∀ a0 a1 k,LeO (impl_closure.f k a0 a1) (impl_closure.f (k + 1) a0 a1):=by
 intro a0 a1 k
 obtain ⟨ih0,ih1,ih2,ih3,ih4⟩:=impl_closure.mono_l k
 unfold impl_closure.f
 repeat' first
   | (with_reducible exact ih0 _ _ _ _ _)
   | (with_reducible exact ih1 _ _ _ _ _)
   | (with_reducible exact ih2 _ _ _)
   | (with_reducible exact ih3 _ _ _ _)
   | (with_reducible exact ih4 _ _ _ _ _)
   | (with_reducible exact LeO.refl _)
   | (with_reducible exact LeO.none _)
   | (with_reducible refine LeO.ite ?_ ?_)
   | (with_reducible refine LeO.bind ?_ (fun _=>?_))
   | exact ih0 _ _ _ _ _
   | exact ih1 _ _ _ _ _
   | exact ih2 _ _ _
   | exact ih3 _ _ _ _
   | exact ih4 _ _ _ _ _
   | exact LeO.none _
   | refine LeO.ite ?_ ?_
   | refine LeO.bind ?_ (fun _=>?_)
def impl_closure.T10:Bool × List (List Nat × List Nat):=(true,[([],[]),([],[]),([1],[1]),([0,2],[0,2]),([3],[3]),([],[]),([5],[5]),([4,6,0,1,2,3,4,5,6],[4,6]),([7,0,1,2,3,4,5,6],[7])])
def impl_closure.B10:List Nat:=[0,0,2,7,15,0,32,127,255]
theorem impl_closure.tab10:rtab .any (opsOf Try.f115 10)=impl_closure.T10:=by kernel_rfl
theorem impl_closure.bits10:waitsOk impl_closure.T10.2 impl_closure.B10=true:=by kernel_rfl
def impl_closure.T21:Bool × List (List Nat × List Nat):=(true,[([],[]),([],[]),([0,1],[0,1]),([2],[2]),([],[]),([],[]),([],[]),([5,6],[5,6]),([7],[7]),([],[]),([8,9],[8,9]),([10],[10]),([11],[11]),([12],[12]),([12],[12]),([13,14,12],[12,13,14]),([15,12],[12,15]),([12],[12]),([16,17,12],[12,16,17]),([18,12],[12,18]),([19,12,12],[12,19]),([20],[20]),([20],[20]),([21,22,20],[20,21,22]),([23,20],[20,23]),([20],[20]),([24,25,20],[20,24,25]),([26,20],[20,26]),([20,27,12],[12,20,27]),([12,28],[12,28]),([3,4,0,1,2,3,4,5,6,7,8,9,10,11,12,13,14,15,16,17,18,19,20,21,22,23,24,25,26,27,28,29],[3,4]),([30,29,20,0,1,2,3,4,5,6,7,8,9,10,11,12,13,14,15,16,17,18,19,20,21,22,23,24,25,26,27,28,29],[29,30])])
def impl_closure.B21:List Nat:=[0,0,3,7,0,0,0,96,224,0,992,2016,4064,8160,8160,32736,65504,8160,262112,524256,1048544,2097120,2097120,8388576,16777184,2097120,67108832,134217696,268435424,536870880,1073741823,2147483647]
theorem impl_closure.tab21:rtab .any (opsOf Try.f115 21)=impl_closure.T21:=by kernel_rfl
theorem impl_closure.bits21:waitsOk impl_closure.T21.2 impl_closure.B21=true:=by kernel_rfl
set_option maxHeartbeats 8000000 in
set_option maxRecDepth 100000 in
theorem impl_closure.calls (k:Nat) (a0:Int) (A1:Option Addr) (c1:Nat) (l1:List (S72)) (r:List (List Bool)) (w:World) (hr1:Kd.C k72 w A1 l1.length l1) (hc1:l1.length≤c1) (h:impl_closure.f k a0 l1=some r) :
  Calls Try.prog 115 #[.int .i64 a0,.slice A1 l1.length c1] w fun e w'=>∃ v0_:Value,e=.returned (v0_)∧Kd.S (Kd.slice 4 Kd.bool) 127 w' w.heap.size (fun _=>True) v0_ r∧Below w.heap.size w w':=by
 have hu72:=Try.underlying72
 have HR1:=Aside0.mk hr1
 have HC1:=Aside0.mk hc1
 clear hr1 hc1
 have HB:=Aside0.mk (Below.refl w.heap.size w)
 have H:(if 0≤a0 then (if (a0:Int).toNat≤11728124029610 then ((some (List.replicate (a0:Int).toNat []:List (List Bool))).bind fun y310=>(impl_closure.l0 k a0 l1 y310 (y310.length:Int) 0)) else (none)) else (none))=some r:=h
 clear h
 by_cases c3:0≤a0
 ·rw [if_pos c3] at H
  have c3b0:=eq_true c3
  have c3b1:decide (0≤a0)=true:=decide_eq_true c3
  clear c3
  by_cases c4:(a0:Int).toNat≤11728124029610
  ·rw [if_pos c4] at H
   have c4b0:=eq_true c4
   have c4b1:decide ((a0:Int).toNat≤11728124029610)=true:=decide_eq_true c4
   clear c4
   obtain ⟨y310,hy310⟩:∃ y_:List (List Bool),y_=(List.replicate (a0:Int).toNat []):=⟨_,rfl⟩
   replace H:(impl_closure.l0 k a0 l1 y310 (y310.length:Int) 0)=some r:=by first|(rw [hy310];with_reducible exact H)|(have H2_:=(Option.bind_some _ _).symm.trans H;rw [hy310];with_reducible exact H2_)|(have H2_:=(Option.bind_some _ _).symm.trans H;with_reducible exact H2_)|with_reducible exact H|(rw [hy310];exact H)|exact H
   have Ny310:=Aside0.mk hy310
   clear hy310
   have H':=Aside0.mk H
   clear H
   go_enter Try.func115,Try.ntmps115
   go_wp2_with (first|((with_reducible refine gate_dst (N:=13) rfl ?_);refine Kd.S_make (Kd.slice 4 Kd.bool) _ 127 rfl (N:=13) rfl 125 _ _ rfl a0 rfl rfl Try.underlying125 (.slice none 0 0) 24 info127 rfl (by decide) (by omega) [] (ok:=fun _=>True) (okp:=fun _=>True) ⟨_,rfl,Kd.R_nil _ _ _ _ _⟩ (fun _ hk=>hk) trivial (of_decide_eq_true za) (Nat.le_trans (Nat.mul_le_mul_right _ (of_decide_eq_true za:a0.toNat≤11728124029610)) (by omega)) (Below.refl _ _) (Nat.le_refl _) ?_;intro v311 w5 ho6 hb hg_ hnew_;clear hg_ hnew_;(first|rw [←Ny310.out] at ho6|(simp only [Int.reduceToNat] at ho6;rw [←Ny310.out] at ho6));have HO312:=Aside0.mk (Kd.S_lower ho6 (below_size zb));replace HB:=Aside0.mk (below_step zb hb);clear hb ho6;obtain ⟨Ao7,co7,eo7⟩:=Kd.S_slice HO312.out;subst eo7))
   go_loopg [16] k (fun kq v16 w'=>∃ (x5_1:List (List Bool)) (x16_1:Int),v16=.int .i64 x16_1∧Aside0 (impl_closure.l0 kq a0 l1 x5_1 (y310.length:Int) x16_1=some r)∧Aside0 (kq≤k)∧Aside0 (Kd.S (Kd.slice 4 Kd.bool) 127 w' w.heap.size (fun _=>True) (.slice Ao7 y310.length co7) x5_1)∧Aside0 (Below w.heap.size w w'))
   case atStart=>exact ⟨(y310),(0),zo,H',⟨Nat.le_refl _⟩,⟨zS HO312.out⟩,⟨zb⟩⟩
   case round=>
    clear H'
    (try clear c1);(try clear p2);(try clear c3);(try clear c3b0);(try clear c3b1);(try clear c4);(try clear c4b0);(try clear c4b1)
    obtain ⟨x5_1,x16_1,rfl,HA,HK1,HO_5,HB⟩:=hrel
    have hl5_1:=(Kd.S_reads' HO_5.out).1
    rw [hl5_1] at HO_5
    (try simp only [hl5_1])
    cases gk with
    | zero=>exact absurd HA.out (by simp [impl_closure.l0])
    | succ k1=>
     have H:=HA.out
     clear HA
     simp only [impl_closure.l0] at H
     by_cases c8:x16_1<(y310.length:Int)
     ·rw [if_pos c8] at H
      have c8b0:decide (x16_1<(y310.length:Int))=true:=decide_eq_true c8
      try have c8b0z:=c8b0
      try rw [hl5_1] at c8b0z
      clear c8
      by_cases c9:0≤a0
      ·rw [if_pos c9] at H
       have c9b0:=eq_true c9
       have c9b1:decide (0≤a0)=true:=decide_eq_true c9
       clear c9
       by_cases c10:(a0:Int).toNat≤281474976710656
       ·rw [if_pos c10] at H
        have c10b0:=eq_true c10
        have c10b1:decide ((a0:Int).toNat≤281474976710656)=true:=decide_eq_true c10
        clear c10
        obtain ⟨y313,hy313⟩:∃ y_:List Bool,y_=(List.replicate (a0:Int).toNat false):=⟨_,rfl⟩
        replace H:(if 0≤x16_1 then (if x16_1<(x5_1.length:Int) then (impl_closure.l0 k1 a0 l1 (x5_1.set (x16_1:Int).toNat y313) (y310.length:Int) (wrap64 (x16_1 + 1))) else (none)) else (none))=some r:=by first|(rw [hy313];with_reducible exact H)|(have H2_:=(Option.bind_some _ _).symm.trans H;rw [hy313];with_reducible exact H2_)|(have H2_:=(Option.bind_some _ _).symm.trans H;with_reducible exact H2_)|with_reducible exact H|(rw [hy313];exact H)|exact H
        have Ny313:=Aside0.mk hy313
        clear hy313
        by_cases c11:0≤x16_1
        ·rw [if_pos c11] at H
         have c11b0:decide (0≤x16_1)=true:=decide_eq_true c11
         clear c11
         by_cases c12:x16_1<(x5_1.length:Int)
         ·rw [if_pos c12] at H
          have c12b0:decide (x16_1<(x5_1.length:Int))=true:=decide_eq_true c12
          clear c12
          obtain ⟨y316,hy316⟩:∃ y_:List (List Bool),y_=(x5_1.set (x16_1:Int).toNat y313):=⟨_,rfl⟩
          replace H:(impl_closure.l0 k1 a0 l1 y316 (y310.length:Int) (wrap64 (x16_1 + 1)))=some r:=by first|(rw [hy316];with_reducible exact H)|(have H2_:=(Option.bind_some _ _).symm.trans H;rw [hy316];with_reducible exact H2_)|(have H2_:=(Option.bind_some _ _).symm.trans H;with_reducible exact H2_)|with_reducible exact H|(rw [hy316];exact H)|exact H
          have Ny316:=Aside0.mk hy316
          clear hy316
          have H':=Aside0.mk H
          clear H
          go_wp2_with (first|((with_reducible refine gate_dst (N:=22) rfl ?_);refine Kd.R_make Kd.bool _ 4 rfl (N:=22) rfl 127 _ _ rfl a0 rfl rfl Try.underlying127 (.bool false) 1 info4 rfl (by decide) (by omega) false (ok:=fun _=>True) (okp:=fun _=>True) rfl (fun _ hk=>hk) trivial (of_decide_eq_true za) (Nat.le_trans (Nat.mul_le_mul_right _ (of_decide_eq_true za:a0.toNat≤281474976710656)) (by omega)) (Below.refl _ _) (Nat.le_refl _) ?_;intro v314 w14 ho15 hb hg_ hnew_;clear hg_ hnew_;(first|rw [←Ny313.out] at ho15|(simp only [Int.reduceToNat] at ho15;rw [←Ny313.out] at ho15));replace HO_5:=Aside0.mk (Kd.S_elder' (zS HO_5.out) (Kd.R_base ho15) hb);have HO315:=Aside0.mk (Kd.R_lower ho15 (below_size zb));replace HB:=Aside0.mk (below_step zb hb);clear hb ho15;have p13:0≤(x16_1:Int):=of_decide_eq_true za;have q13:(x16_1:Int)<((x5_1.length:Int):Int):=of_decide_eq_true za;obtain ⟨go13,co13,eo13,gb13,gl13,cl13,HG13⟩:=Kd.S_form HO_5.out (by omega);(first|cases eo13|(injection eo13 with ea_ en_ ec_;(first|subst ea_|(injection ea_ with ea_;subst ea_));subst ec_;clear en_));have GB13:=Aside0.mk gb13;have GG13:=Aside0.mk HG13;clear gb13 gl13 HG13;obtain ⟨_,ce13,hcl13,hM13,hcc13,hfr13,_,_⟩:=Kd.S_elem HO_5.out [] (x16_1:Int) p13 q13;obtain ⟨ve13_0,rfl,ge13_0⟩:=hM13;have hx13_0:=hcc13 0 _ rfl;have hf13_0:=hfr13 0;(try simp only [show ((Kd.slice 4 Kd.bool)).sz=1 from rfl,Nat.mul_one,Nat.add_zero] at hx13_0);(try simp only [show ((Kd.slice 4 Kd.bool)).sz=1 from rfl,Nat.mul_one,Nat.add_zero] at hf13_0);(clear hcl13 hcc13 hfr13;(try clear hM13));replace p13:=eq_true p13;replace q13:=eq_true q13;have n_:=Aside0.mk (Kd.S_mono (ok':=(fun k_=>some k_≠(v314:Value).ownBlock)) HO_5.out (fun k_ hk=>hk.2));clear HO_5;have HO_5:=n_;clear n_;have HX16:=Aside0.mk (show Kd.S (Kd.slice 4 Kd.bool) 127 w14 w.heap.size (fun k_=>((fun _=>True)) k_∧¬ ((fun k_=>some k_=(v314:Value).ownBlock)) k_) (.slice (some ⟨go13,0,none⟩) x5_1.length co7) x5_1 from (zS (Kd.S_mono HO_5.out (fun k_ hk=>⟨trivial,fun e_=>hk e_⟩))));obtain ⟨oki16,ce16,hcl16,hM16,hcc16,hfr16,hoki16,hH16⟩:=Kd.S_elem HX16.out [] (x16_1:Int) (of_decide_eq_true za) (by have h_:(x16_1:Int)<((x5_1.length:Int):Int):=of_decide_eq_true za;first|exact h_|(have e_:=(Kd.S_reads' HO_5.out).1;omega)|simpa using h_);obtain ⟨ve16_0,rfl,ge16_0⟩:=hM16;have HP16:=Kd.S_seg hH16 (of_decide_eq_true za) (by have h_:(x16_1:Int)<((x5_1.length:Int):Int):=of_decide_eq_true za;first|exact h_|(have e_:=(Kd.S_reads' HO_5.out).1;omega)|simpa using h_) (seg:=[v314]) (j:=0) (show 1≤1 from by decide) (x':=y313) (Kd.M_row (Kd.R_mono (Kd.R_tight rfl (Kd.R_mono (ok':=fun k_=>((fun _=>True)) k_∧k_≠go13) (Kd.R_apart' (HO315.out) (Kd.S_typed HO_5.out) (by decide)) (fun k_ hk=>⟨trivial,fun e_=>(hk.2) (by rw [e_];rfl)⟩))) (fun _ h_=>Or.inr (h_)))) (fun _ hk=>hk) (fun k_ hk_=>((Kd.R_mono (ok':=fun k_=>((fun _=>True)) k_∧k_≠go13) (Kd.R_apart' (HO315.out) (Kd.S_typed HO_5.out) (by decide)) (fun k_ hk=>⟨trivial,fun e_=>(hk.2) (by rw [e_];rfl)⟩))).1 k_ hk_.symm);have hx16_0:=hcc16 0 _ rfl;(try simp only [show ((Kd.slice 4 Kd.bool)).sz=1 from rfl,Nat.mul_one,Nat.add_zero] at hx16_0);have hf16_0:=hfr16 0;(try simp only [show ((Kd.slice 4 Kd.bool)).sz=1 from rfl,Nat.mul_one,Nat.add_zero] at hf16_0);(clear hcl16 hcc16 hfr16;(try clear hM16);clear hoki16 hH16);(try simp only [show ((Kd.slice 4 Kd.bool)).sz=1 from rfl,Nat.mul_one,Nat.add_zero] at HP16))|((with_reducible refine gate_store (t:=127) (p:=23) rfl ?_);(try (rw [drewN_self w14];generalize hq_:World.drewN w14 _=w14;have n0_:=Aside0.mk (Kd.S_at hq_ HO_5.out);have n1_:=Aside0.mk (below_at hq_ HB.out);(try replace hx13_0:=cell_at hq_ hx13_0);(try replace hf13_0:=(fun {W_ W2_:World} {n_:Nat} {a_:Addr} {b_:Bool} (h_:W_.drewN n_=W2_) (e_:W_.frozen? a_=b_)=>(by subst h_;exact e_:W2_.frozen? a_=b_)) hq_ hf13_0);(try replace hx16_0:=cell_at hq_ hx16_0);(try replace hf16_0:=(fun {W_ W2_:World} {n_:Nat} {a_:Addr} {b_:Bool} (h_:W_.drewN n_=W2_) (e_:W_.frozen? a_=b_)=>(by subst h_;exact e_:W2_.frozen? a_=b_)) hq_ hf16_0);clear hq_ HO_5 HB;have HO_5:=n0_;have HB:=n1_;clear n0_ n1_;(try (have n_:=Aside0.mk (Kd.S_mono (ok':=(fun k_=>some k_≠(v314:Value).ownBlock)) HO_5.out (fun k_ hk=>hk.2));clear HO_5;have HO_5:=n_;clear n_));(try (have HX16:=Aside0.mk (show Kd.S (Kd.slice 4 Kd.bool) 127 w14 w.heap.size (fun k_=>((fun _=>True)) k_∧¬ ((fun k_=>some k_=(v314:Value).ownBlock)) k_) (.slice (some ⟨go13,0,none⟩) x5_1.length co7) x5_1 from (zS (Kd.S_mono HO_5.out (fun k_ hk=>⟨trivial,fun e_=>hk e_⟩))))));(try (obtain ⟨oki16,ce16,hcl16,hM16,hcc16,hfr16,hoki16,hH16⟩:=Kd.S_elem HX16.out [] (x16_1:Int) (of_decide_eq_true za) (by have h_:(x16_1:Int)<((x5_1.length:Int):Int):=of_decide_eq_true za;first|exact h_|(have e_:=(Kd.S_reads' HO_5.out).1;omega)|simpa using h_)));(try (obtain ⟨ve16_0,rfl,ge16_0⟩:=hM16));(try (have HP16:=Kd.S_seg hH16 (of_decide_eq_true za) (by have h_:(x16_1:Int)<((x5_1.length:Int):Int):=of_decide_eq_true za;first|exact h_|(have e_:=(Kd.S_reads' HO_5.out).1;omega)|simpa using h_) (seg:=[v314]) (j:=0) (show 1≤1 from by decide) (x':=y313) (Kd.M_row (Kd.R_mono (Kd.R_tight rfl (Kd.R_mono (ok':=fun k_=>((fun _=>True)) k_∧k_≠go13) (Kd.R_apart' (HO315.out) (Kd.S_typed HO_5.out) (by decide)) (fun k_ hk=>⟨trivial,fun e_=>(hk.2) (by rw [e_];rfl)⟩))) (fun _ h_=>Or.inr (h_)))) (fun _ hk=>hk) (fun k_ hk_=>((Kd.R_mono (ok':=fun k_=>((fun _=>True)) k_∧k_≠go13) (Kd.R_apart' (HO315.out) (Kd.S_typed HO_5.out) (by decide)) (fun k_ hk=>⟨trivial,fun e_=>(hk.2) (by rw [e_];rfl)⟩))).1 k_ hk_.symm)));(try (have hx16_0:=hcc16 0 _ rfl));(try (try simp only [show ((Kd.slice 4 Kd.bool)).sz=1 from rfl,Nat.mul_one,Nat.add_zero] at hx16_0));(try (have hf16_0:=hfr16 0));(try (try simp only [show ((Kd.slice 4 Kd.bool)).sz=1 from rfl,Nat.mul_one,Nat.add_zero] at hf16_0));(try (clear hcl16 hcc16 hfr16;(try clear hM16);clear hoki16 hH16));(try (try simp only [show ((Kd.slice 4 Kd.bool)).sz=1 from rfl,Nat.mul_one,Nat.add_zero] at HP16))));refine store_event (t:=127) (p:=23) (v:=?vo_w17) (w1:=(w14.setCell ⟨go13,(x16_1:Int).toNat,none⟩ (v314))) ?hg ?ho ?hn ?hr ?_;(case ho=>rfl);(case hg=>rfl);(case hn=>rfl);(case hr=>first|(go_simp;done)|(go_simp;rfl)|(obtain ⟨Ag_,cg_,eg_⟩:=Kd.R_slice HO315.out;subst eg_;first|(go_simp;done)|(go_simp;rfl)));intro w17 hw;have hg:w14.grownBy w17 (some go13):=(by rw [hw];exact HP16.2);have hp_:Kd.S (Kd.slice 4 Kd.bool) 127 w17 w.heap.size (fun _=>True) (.slice (some ⟨go13,0,none⟩) x5_1.length co7) y316:=(by rw [hw,Ny316.out];exact HP16.1);clear HP16;replace HO_5:=Aside0.mk (hp_);replace HB:=Aside0.mk ((by rw [hw];exact below_set (HB.out) GB13.out:Below w.heap.size w w17));clear HO315;clear hg hw hp_))
          (try simp only [←hl5_1])
          go_roundg k1
          case measure=>have:=HK1.out;omega
          case rel=>exact ⟨(y316),(wrap64 (x16_1 + 1)),zo,H',⟨by have:=HK1.out;omega⟩,⟨by (try simp only [hl5_1]);(with_reducible repeat (first|apply Kd.S_alloc|apply Kd.S_drewN|apply Kd.S_drew));exact HO_5.out⟩,⟨zb⟩⟩
         ·rw [if_neg c12] at H
          exact absurd H (by simp)
        ·rw [if_neg c11] at H
         exact absurd H (by simp)
       ·rw [if_neg c10] at H
        exact absurd H (by simp)
      ·rw [if_neg c9] at H
       exact absurd H (by simp)
     ·rw [if_neg c8] at H
      have c8b0:decide (x16_1<(y310.length:Int))=false:=decide_eq_false c8
      try have c8b0z:=c8b0
      try rw [hl5_1] at c8b0z
      clear c8
      have H':=Aside0.mk H
      clear H
      go_wp2
      go_loopg [27] k1 (fun kq v27 w'=>∃ (x5_2:List (List Bool)) (x27_2:Int),v27=.int .i64 x27_2∧Aside0 (impl_closure.l1 kq a0 x5_2 l1 (l1.length:Int) x27_2=some r)∧Aside0 (kq≤k1)∧Aside0 (Kd.S (Kd.slice 4 Kd.bool) 127 w' w.heap.size (fun _=>True) (.slice Ao7 x5_1.length co7) x5_2)∧Aside0 (Below w.heap.size w w'))
      case atStart=>exact ⟨(x5_1),(0),zo,H',⟨Nat.le_refl _⟩,⟨by (try simp only [hl5_1]);(with_reducible repeat (first|apply Kd.S_alloc|apply Kd.S_drewN|apply Kd.S_drew));exact HO_5.out⟩,⟨zb⟩⟩
      case round=>
       clear H'
       (try clear c1);(try clear p1);(try clear q1);(try clear hx1);(try clear p2);(try clear c3);(try clear c3b0);(try clear c3b1);(try clear c4);(try clear c4b0);(try clear c4b1);(try clear p6);(try clear c8);(try clear c8b0);(try clear c9);(try clear c9b0);(try clear c9b1);(try clear c10);(try clear c10b0);(try clear c10b1);(try clear c11);(try clear c11b0);(try clear c12);(try clear c12b0);(try clear c13);(try clear p13);(try clear q13);(try clear hx13);(try clear hf13);(try clear c16);(try clear hx16);(try clear hf16);(try clear hx13_0);(try clear hx16_0)
       obtain ⟨x5_2,x27_2,rfl,HA,HK2,HO_5,HB⟩:=hrel
       have hl5_2:=(Kd.S_reads' HO_5.out).1
       rw [hl5_2] at HO_5
       (try simp only [hl5_2])
       cases gk with
       | zero=>exact absurd HA.out (by simp [impl_closure.l1])
       | succ k2=>
        have H:=HA.out
        clear HA
        simp only [impl_closure.l1] at H
        by_cases c18:x27_2<(l1.length:Int)
        ·rw [if_pos c18] at H
         have c18b0:decide (x27_2<(l1.length:Int))=true:=decide_eq_true c18
         clear c18
         by_cases c19:0≤x27_2
         ·rw [if_pos c19] at H
          have c19b0:decide (0≤x27_2)=true:=decide_eq_true c19
          clear c19
          by_cases c20:x27_2<(l1.length:Int)
          ·rw [if_pos c20] at H
           have c20b0:decide (x27_2<(l1.length:Int))=true:=decide_eq_true c20
           clear c20
           by_cases c21:0≤((rd_T72 l1 x27_2).f0)
           ·rw [if_pos c21] at H
            have c21b0:decide (0≤((rd_T72 l1 x27_2).f0))=true:=decide_eq_true c21
            clear c21
            by_cases c22:((rd_T72 l1 x27_2).f0)<(x5_2.length:Int)
            ·rw [if_pos c22] at H
             have c22b0:decide (((rd_T72 l1 x27_2).f0)<(x5_2.length:Int))=true:=decide_eq_true c22
             clear c22
             by_cases c23:0≤((rd_T72 l1 x27_2).f1)
             ·rw [if_pos c23] at H
              have c23b0:decide (0≤((rd_T72 l1 x27_2).f1))=true:=decide_eq_true c23
              clear c23
              by_cases c24:((rd_T72 l1 x27_2).f1)<((rd_L3 x5_2 ((rd_T72 l1 x27_2).f0)).length:Int)
              ·rw [if_pos c24] at H
               have c24b0:decide (((rd_T72 l1 x27_2).f1)<((rd_L3 x5_2 ((rd_T72 l1 x27_2).f0)).length:Int))=true:=decide_eq_true c24
               clear c24
               obtain ⟨y320,hy320⟩:∃ y_:List Bool,y_=((rd_L3 x5_2 ((rd_T72 l1 x27_2).f0)).set (((rd_T72 l1 x27_2).f1):Int).toNat true):=⟨_,rfl⟩
               replace H:(impl_closure.l1 k2 a0 (x5_2.set (((rd_T72 l1 x27_2).f0):Int).toNat y320) l1 (l1.length:Int) (wrap64 (x27_2 + 1)))=some r:=by first|(rw [hy320];with_reducible exact H)|(have H2_:=(Option.bind_some _ _).symm.trans H;rw [hy320];with_reducible exact H2_)|(have H2_:=(Option.bind_some _ _).symm.trans H;with_reducible exact H2_)|with_reducible exact H|(rw [hy320];exact H)|exact H
               have Ny320:=Aside0.mk hy320
               clear hy320
               obtain ⟨y322,hy322⟩:∃ y_:List (List Bool),y_=(x5_2.set (((rd_T72 l1 x27_2).f0):Int).toNat y320):=⟨_,rfl⟩
               replace H:(impl_closure.l1 k2 a0 y322 l1 (l1.length:Int) (wrap64 (x27_2 + 1)))=some r:=by first|(rw [hy322];with_reducible exact H)|(have H2_:=(Option.bind_some _ _).symm.trans H;rw [hy322];with_reducible exact H2_)|(have H2_:=(Option.bind_some _ _).symm.trans H;with_reducible exact H2_)|with_reducible exact H|(rw [hy322];exact H)|exact H
               have Ny322:=Aside0.mk hy322
               clear hy322
               have H':=Aside0.mk H
               clear H
               have p317:0≤(x27_2:Int):=of_decide_eq_true za
               have q317:x27_2<(l1.length:Int):=of_decide_eq_true za
               obtain ⟨ad317,e317,hx317_0,hx317_1⟩:=at_T72 HR1.out x27_2 p317 q317
               cases e317
               replace hx317_0:=(HB.out.cell (World.block_lt_of_cell? w _ hx317_0)).trans hx317_0
               replace hx317_1:=(HB.out.cell (World.block_lt_of_cell? w _ hx317_1)).trans hx317_1
               replace p317:=eq_true p317
               replace q317:=eq_true q317
               try go_wp2_with (first|((with_reducible refine gate_dst (N:=8) rfl ?_);refine box_event ?hg (N:=8) ?hd (cs:=#[.int .i64 0,.int .i64 0]) (t:=72) ?hr ?_;(case hd=>rfl);(case hg=>rfl);(case hr=>first|(go_simp;done)|(go_simp;rfl));intro gb318 hg w26 hbox hb;have n0_:=Aside0.mk (Kd.S_below (zS HO_5.out) hb);have n1_:=Aside0.mk (below_step zb hb);have n2_:=Aside0.mk (hbox);have n3_:=Aside0.mk ((by rw [hg];exact (below_size zb):w.heap.size≤gb318));have n4_:=Aside0.mk ((by rw [hg];exact (below_size zb):w.heap.size≤gb318));clear HO_5;clear HB;have HO_5:=n0_;have HB:=n1_;have BK318:=n2_;have GW318:=n3_;have GE318:=n4_;clear n0_ n1_ n2_ n3_ n4_;clear hb hbox hg;have hcz27_0:w26.cell? ⟨gb318,0,none⟩=some (.int .i64 0):=(blk_cell BK318.out 0).trans rfl;have hcz27_1:w26.cell? ⟨gb318,1,none⟩=some (.int .i64 0):=(blk_cell BK318.out 1).trans rfl;have hfz27_0:=blk_frozen BK318.out 0;have hfz27_1:=blk_frozen BK318.out 1))
               have n0_:Aside0 (Kd.S (Kd.slice 4 Kd.bool) 127 ((w26.setCell ⟨gb318,0,none⟩ (.int .i64 ((rd_T72 l1 x27_2).f0))).setCell ⟨gb318,1,none⟩ (.int .i64 ((rd_T72 l1 x27_2).f1))) w.heap.size (fun _=>True) (.slice Ao7 x5_2.length co7) x5_2):=⟨by (with_reducible repeat (first|apply Kd.S_alloc|apply Kd.S_drewN|apply Kd.S_drew));exact Kd.S_mono (Kd.S_far (p:=⟨gb318,1,none⟩) (Kd.S_far (p:=⟨gb318,0,none⟩) (Kd.S_types HO_5.out BK318.out (by decide)) (fun _ hk=>hk.2) (.int .i64 ((rd_T72 l1 x27_2).f0))) (fun _ hk=>hk.2) (.int .i64 ((rd_T72 l1 x27_2).f1))) (fun _ hk=>trivial)⟩
               have n1_:Aside0 (((w26.setCell ⟨gb318,0,none⟩ (.int .i64 ((rd_T72 l1 x27_2).f0))).setCell ⟨gb318,1,none⟩ (.int .i64 ((rd_T72 l1 x27_2).f1))).heap[gb318]?=some (.cells #[.int .i64 ((rd_T72 l1 x27_2).f0),.int .i64 ((rd_T72 l1 x27_2).f1)] 72 (0,0))):=⟨by (with_reducible repeat (first|refine blk_drewN ?_ _|refine blk_drew ?_|refine blk_alloc ?_ _));refine blk_put (cs:=#[.int .i64 ((rd_T72 l1 x27_2).f0),.int .i64 0]) ?_ 1 _ rfl;(with_reducible repeat (first|refine blk_drewN ?_ _|refine blk_drew ?_|refine blk_alloc ?_ _));refine blk_put (cs:=#[.int .i64 0,.int .i64 0]) ?_ 0 _ rfl;(with_reducible repeat (first|refine blk_drewN ?_ _|refine blk_drew ?_|refine blk_alloc ?_ _));exact BK318.out⟩
               have n2_:Aside0 (Below w.heap.size w ((w26.setCell ⟨gb318,0,none⟩ (.int .i64 ((rd_T72 l1 x27_2).f0))).setCell ⟨gb318,1,none⟩ (.int .i64 ((rd_T72 l1 x27_2).f1)))):=⟨by repeat (first|(with_reducible first|exact HB.out|apply below_alloc|apply pw_below_drewN|apply below_drew1|refine below_set ?_ GE318.out)|exact HB.out)⟩
               (try clear HO_5)
               (try clear BK318)
               (try clear HB)
               (try simp only [show ∀ (W_:World) (n_:Nat) (a_:Addr) (v_:Value),(W_.drewN n_).setCell a_ v_=(W_.setCell a_ v_).drewN n_ from fun _ _ _ _=>rfl])
               generalize ((w26.setCell ⟨gb318,0,none⟩ (.int .i64 ((rd_T72 l1 x27_2).f0))).setCell ⟨gb318,1,none⟩ (.int .i64 ((rd_T72 l1 x27_2).f1)))=w28 at n0_ n1_ n2_ ⊢
               have HO_5:=n0_
               have BK318:=n1_
               have HB:=n2_
               clear n0_ n1_ n2_
               replace HO_5:=Aside0.mk (Kd.S_drew HO_5.out)
               replace BK318:=Aside0.mk (blk_drew BK318.out)
               replace HB:=Aside0.mk (below_drew1 HB.out)
               have p319:0≤(((rd_T72 l1 x27_2).f0):Int):=of_decide_eq_true za
               have q319:((rd_T72 l1 x27_2).f0)<(x5_2.length:Int):=of_decide_eq_true za
               obtain ⟨ad319,A319_0,c319_0,e319,hx319_0,hl319_0,hi319_0⟩:=at_L3 (Kd.S_reads' HO_5.out).2.2 ((rd_T72 l1 x27_2).f0) p319 q319
               cases e319
               obtain ⟨ce319,hce319,hMe319,hcc319⟩:=Kd.S_get HO_5.out [] ((rd_T72 l1 x27_2).f0) p319 (by first|exact q319|exact of_decide_eq_true za|(have e_:=(Kd.S_reads' HO_5.out).1;omega))
               obtain ⟨ve319_0,rfl,ge319_0⟩:=hMe319
               have hv319_0:=hcc319 0 _ rfl
               rw [Nat.add_zero,show ((Kd.slice 4 Kd.bool)).sz=1 from rfl,Nat.mul_one] at hv319_0
               replace hv319_0:=Option.some.inj (hv319_0.symm.trans hx319_0)
               rw [hv319_0] at ge319_0
               have HL319_0:=Aside0.mk (show Kd.R Kd.bool 4 _ _ _ _ (rd_L3 x5_2 ((rd_T72 l1 x27_2).f0)) from ge319_0)
               clear hv319_0 ge319_0
               have HX319_0:=Aside0.mk hx319_0
               clear hcc319 hce319
               have HR319_0:=Aside0.mk hi319_0
               have HC319_0:=Aside0.mk hl319_0
               clear hi319_0 hl319_0
               replace p319:=eq_true p319
               replace q319:=eq_true q319
               have p25:0≤(((rd_T72 l1 x27_2).f1):Int):=of_decide_eq_true za
               have q25:(((rd_T72 l1 x27_2).f1):Int)<(((rd_L3 x5_2 ((rd_T72 l1 x27_2).f0)).length:Int):Int):=of_decide_eq_true za
               obtain ⟨go25,co25,eo25,gb25,gl25,cl25,HG25⟩:=Kd.R_form HL319_0.out (by omega)
               (first|cases eo25|(injection eo25 with ea_ en_ ec_;(first|subst ea_|(injection ea_ with ea_;subst ea_));subst ec_;clear en_))
               have GB25:=Aside0.mk gb25
               have GG25:=Aside0.mk HG25
               clear gb25 gl25 HG25
               obtain ⟨hx25_0,hf25_0⟩:=Kd.R_celln false HL319_0.out (((rd_T72 l1 x27_2).f1):Int) p25 q25
               replace p25:=eq_true p25
               replace q25:=eq_true q25
               have hq30:(((rd_T72 l1 x27_2).f0):Int)<(x5_2.length:Int):=(by have h_:(((rd_T72 l1 x27_2).f0):Int)<((x5_2.length:Int):Int):=of_decide_eq_true za;first|exact h_|(have e_:=(Kd.S_reads' HO_5.out).1;omega)|simpa only [List.length_set,List.length_set] using h_)
               obtain ⟨oki30,ce30,hcl30,hM30,hcc30,hok30,hbk30⟩:=Kd.S_borrow HO_5.out [] (((rd_T72 l1 x27_2).f0):Int) (of_decide_eq_true za) hq30
               obtain ⟨ve30_0,rfl,ge30_0⟩:=hM30
               have hv30:=hcc30 0 _ rfl
               rw [Nat.add_zero,show ((Kd.slice 4 Kd.bool)).sz=1 from rfl,Nat.mul_one] at hv30
               replace hv30:=Option.some.inj (hv30.symm.trans HX319_0.out)
               subst hv30
               clear hcc30 hcl30
               replace ge30_0:=(show Kd.R Kd.bool 4 _ _ _ _ (rd_L3 x5_2 ((rd_T72 l1 x27_2).f0)) from ge30_0)
               have HP30:=Kd.R_putg ge30_0 (((rd_T72 l1 x27_2).f1):Int) true
               rw [←Ny320.out] at HP30
               have HS30:=hbk30 HP30.2 (fun k_ e_=>by injection e_ with e_;subst e_;exact ge30_0.1 _ rfl) (x':=y320) (Kd.M_row HP30.1)
               rw [←Ny322.out] at HS30
               have HQ30:=Aside0.mk HS30
               clear HP30 HS30 hbk30 hok30
               refine start_ (n:=9) (S:=fun w'=>w'.cell? ⟨gb318,0,none⟩=some (.int .i64 ((rd_T72 l1 x27_2).f0))∧w'.cell? ⟨gb318,1,none⟩=some (.int .i64 ((rd_T72 l1 x27_2).f1))∧w'.cell? (ad319.add (((rd_T72 l1 x27_2).f0)).toNat)=some (.slice (some ⟨go25,0,none⟩) (rd_L3 x5_2 ((rd_T72 l1 x27_2).f0)).length c319_0)) (ds:=[8]) #[false,false,false,false,false,false,false,false,false] (by kernel_rfl) rfl rfl ⟨(blk_cell BK318.out 0).trans rfl,(blk_cell BK318.out 1).trans rfl,hx319_0⟩ (fun hHeld=>?_);refine with_tabW impl_closure.tab10 impl_closure.bits10 (fun HT_ HW_=>?_)
               generalize w28.drew=w29 at HO_5 BK318 HB GG25 HL319_0 HQ30 HR319_0 HX319_0 hf25_0 hx25_0 hx319_0 hHeld ⊢
               refine pure_ (i:=0) (N:=some 31) (v:=?_) (a':=?_) #[true,false,false,false,false,false,false,false,false] rfl rfl (any_of HT_.out (by kernel_rfl)) (fun _ _ _ h=>h) (Or.inl ⟨by rfl,?_⟩) ?_ ?_
               rotate_left
               ·intro w'
                go_simp
                with_reducible rfl
               rotate_left
               ·simp only [Act.put,List.setIfInBounds_toArray,List.set_cons_zero,List.set_cons_succ,i64_w,i32_w]
                rfl
               refine pure_ (i:=1) (N:=some 32) (v:=?_) (a':=?_) #[true,true,false,false,false,false,false,false,false] rfl rfl (any_of HT_.out (by kernel_rfl)) (fun _ _ _ h=>h) (Or.inl ⟨by rfl,?_⟩) ?_ ?_
               rotate_left
               ·intro w'
                go_simp
                with_reducible rfl
               rotate_left
               ·simp only [Act.put,List.setIfInBounds_toArray,List.set_cons_zero,List.set_cons_succ,i64_w,i32_w]
                rfl
               refine pure_ (i:=5) (N:=some 36) (v:=?_) (a':=?_) #[true,true,false,false,false,true,false,false,false] rfl rfl (any_of HT_.out (by kernel_rfl)) (fun _ _ _ h=>h) (Or.inl ⟨by rfl,?_⟩) ?_ ?_
               rotate_left
               ·intro w'
                go_simp
                with_reducible rfl
               rotate_left
               ·simp only [Act.put,List.setIfInBounds_toArray,List.set_cons_zero,List.set_cons_succ,i64_w,i32_w]
                rfl
               refine take_ (i:=2) (N:=some 33) (v:=?_) (a':=?_) #[true,true,true,false,false,true,false,false,false] rfl rfl (take_ofW HT_.out HW_.out (by kernel_rfl)) (fun _ _ _ h=>h) (Or.inl ⟨by rfl,?_⟩) hHeld ?_ ?_
               rotate_left
               ·rintro w' ⟨s0,s1,s2⟩
                go_simp
                with_reducible rfl
               rotate_left
               ·simp only [Act.put,List.setIfInBounds_toArray,List.set_cons_zero,List.set_cons_succ,i64_w,i32_w]
                rfl
               refine pure_ (i:=3) (N:=some 34) (v:=?_) (a':=?_) #[true,true,true,true,false,true,false,false,false] rfl rfl (any_of HT_.out (by kernel_rfl)) (fun _ _ _ h=>h) (Or.inl ⟨by rfl,?_⟩) ?_ ?_
               rotate_left
               ·intro w'
                go_simp
                with_reducible rfl
               rotate_left
               ·simp only [Act.put,List.setIfInBounds_toArray,List.set_cons_zero,List.set_cons_succ,i64_w,i32_w]
                rfl
               refine take_ (i:=4) (N:=some 35) (v:=?_) (a':=?_) #[true,true,true,true,true,true,false,false,false] rfl rfl (take_ofW HT_.out HW_.out (by kernel_rfl)) (fun _ _ _ h=>h) (Or.inl ⟨by rfl,?_⟩) hHeld ?_ ?_
               rotate_left
               ·rintro w' ⟨s0,s1,s2⟩
                go_simp
                with_reducible rfl
               rotate_left
               ·simp only [Act.put,List.setIfInBounds_toArray,List.set_cons_zero,List.set_cons_succ,i64_w,i32_w]
                rfl
               refine take_ (i:=6) (N:=some 37) (v:=?_) (a':=?_) #[true,true,true,true,true,true,true,false,false] rfl rfl (take_ofW HT_.out HW_.out (by kernel_rfl)) (fun _ _ _ h=>h) (Or.inl ⟨by rfl,?_⟩) hHeld ?_ ?_
               rotate_left
               ·rintro w' ⟨s0,s1,s2⟩
                go_simp
                with_reducible rfl
               rotate_left
               ·simp only [Act.put,List.setIfInBounds_toArray,List.set_cons_zero,List.set_cons_succ,i64_w,i32_w]
                rfl
               refine pure_ (i:=7) (N:=some 38) (v:=?_) (a':=?_) #[true,true,true,true,true,true,true,true,false] rfl rfl (any_of HT_.out (by kernel_rfl)) (fun _ _ _ h=>h) (Or.inl ⟨by rfl,?_⟩) ?_ ?_
               rotate_left
               ·intro w'
                go_simp
                with_reducible rfl
               rotate_left
               ·simp only [Act.put,List.setIfInBounds_toArray,List.set_cons_zero,List.set_cons_succ,i64_w,i32_w]
                rfl
               refine last_ (i:=8) (N:=none) #[true,true,true,true,true,true,true,true,true] rfl rfl (one_of HT_.out (by kernel_rfl)) (by decide) (fun K hK=>?_)
               refine skip_ (w1:=?_) (by rfl) rfl ?_ ?_
               rotate_left
               ·go_simp
                rfl
               refine hK.out _ _ ?_
               clear hK K
               refine done_ (done_of HT_.out (by kernel_rfl)) ?_
               try go_wp2
               (try simp only [←hl5_2])
               go_roundg k2
               case measure=>have:=HK1.out;have:=HK2.out;omega
               case rel=>exact ⟨(y322),(wrap64 (x27_2 + 1)),zo,H',⟨by have:=HK1.out;have:=HK2.out;omega⟩,⟨by (try simp only [hl5_1]);(try simp only [hl5_2]);(with_reducible repeat (first|apply Kd.S_alloc|apply Kd.S_drewN|apply Kd.S_drew));exact HQ30.out⟩,⟨by repeat (first|(with_reducible first|exact HB.out|apply below_alloc|apply pw_below_drewN|apply below_drew1|refine below_set ?_ GB25.out|refine below_set ?_ GE318.out)|exact HB.out)⟩⟩
              ·rw [if_neg c24] at H
               exact absurd H (by simp)
             ·rw [if_neg c23] at H
              exact absurd H (by simp)
            ·rw [if_neg c22] at H
             exact absurd H (by simp)
           ·rw [if_neg c21] at H
            exact absurd H (by simp)
          ·rw [if_neg c20] at H
           exact absurd H (by simp)
         ·rw [if_neg c19] at H
          exact absurd H (by simp)
        ·rw [if_neg c18] at H
         have c18b0:decide (x27_2<(l1.length:Int))=false:=decide_eq_false c18
         clear c18
         have H':=Aside0.mk H
         clear H
         go_wp2
         go_loopg [9] k2 (fun kq v9 w'=>∃ (x5_3:List (List Bool)) (x9_3:Int),v9=.int .i64 x9_3∧Aside0 (impl_closure.l2 kq a0 x5_3 x9_3=some r)∧Aside0 (kq≤k2)∧Aside0 (Kd.S (Kd.slice 4 Kd.bool) 127 w' w.heap.size (fun _=>True) (.slice Ao7 x5_2.length co7) x5_3)∧Aside0 (Below w.heap.size w w'))
         case atStart=>exact ⟨(x5_2),(0),zo,H',⟨Nat.le_refl _⟩,⟨by (try simp only [hl5_1]);(try simp only [hl5_2]);(with_reducible repeat (first|apply Kd.S_alloc|apply Kd.S_drewN|apply Kd.S_drew));exact HO_5.out⟩,⟨zb⟩⟩
         case round=>
          clear H'
          (try clear c1);(try clear p1);(try clear q1);(try clear hx1);(try clear c2);(try clear p2);(try clear q2);(try clear hx2);(try clear hf2);(try clear c3);(try clear c3b0);(try clear c3b1);(try clear p3);(try clear q3);(try clear hx3);(try clear c4);(try clear c4b0);(try clear c4b1);(try clear p6);(try clear c8);(try clear c8b0);(try clear c9);(try clear c9b0);(try clear c9b1);(try clear c10);(try clear c10b0);(try clear c10b1);(try clear c11);(try clear c11b0);(try clear c12);(try clear c12b0);(try clear c13);(try clear p13);(try clear q13);(try clear hx13);(try clear hf13);(try clear c16);(try clear hx16);(try clear hf16);(try clear c18);(try clear c18b0);(try clear c19);(try clear c19b0);(try clear c20);(try clear c20b0);(try clear c21);(try clear c21b0);(try clear c22);(try clear c22b0);(try clear c23);(try clear c23b0);(try clear c24);(try clear c24b0);(try clear p25);(try clear q25);(try clear hx25);(try clear hf25);(try clear c30);(try clear q30);(try clear c31);(try clear p31);(try clear q31);(try clear hx31);(try clear hcz27_0);(try clear hcz27_1);(try clear hfz27_0);(try clear hfz27_1);(try clear hx13_0);(try clear hx16_0);(try clear hx25_0);(try clear hx317_0);(try clear hx317_1);(try clear hx319_0);(try clear p317);(try clear p319);(try clear q317);(try clear q319)
          obtain ⟨x5_3,x9_3,rfl,HA,HK3,HO_5,HB⟩:=hrel
          have hl5_3:=(Kd.S_reads' HO_5.out).1
          rw [hl5_3] at HO_5
          (try simp only [hl5_3])
          cases gk with
          | zero=>exact absurd HA.out (by simp [impl_closure.l2])
          | succ k3=>
           have H:=HA.out
           clear HA
           simp only [impl_closure.l2] at H
           by_cases c32:x9_3<a0
           ·rw [if_pos c32] at H
            have c32b0:decide (x9_3<a0)=true:=decide_eq_true c32
            clear c32
            have H':=Aside0.mk H
            clear H
            go_wp2
            go_loopg [10] k3 (fun kq v10 w'=>∃ (x5_4:List (List Bool)) (x10_4:Int),v10=.int .i64 x10_4∧Aside0 (impl_closure.l3 kq a0 x5_4 x9_3 x10_4=some r)∧Aside0 (kq≤k3)∧Aside0 (Kd.S (Kd.slice 4 Kd.bool) 127 w' w.heap.size (fun _=>True) (.slice Ao7 x5_3.length co7) x5_4)∧Aside0 (Below w.heap.size w w'))
            case atStart=>exact ⟨(x5_3),(0),zo,H',⟨Nat.le_refl _⟩,⟨by (try simp only [hl5_1]);(try simp only [hl5_2]);(try simp only [hl5_3]);(with_reducible repeat (first|apply Kd.S_alloc|apply Kd.S_drewN|apply Kd.S_drew));exact HO_5.out⟩,⟨zb⟩⟩
            case round=>
             clear H'
             (try clear c1);(try clear p1);(try clear q1);(try clear hx1);(try clear c2);(try clear p2);(try clear q2);(try clear hx2);(try clear hf2);(try clear c3);(try clear c3b0);(try clear c3b1);(try clear p3);(try clear q3);(try clear hx3);(try clear c4);(try clear c4b0);(try clear c4b1);(try clear p6);(try clear c8);(try clear c8b0);(try clear c9);(try clear c9b0);(try clear c9b1);(try clear c10);(try clear c10b0);(try clear c10b1);(try clear c11);(try clear c11b0);(try clear c12);(try clear c12b0);(try clear c13);(try clear p13);(try clear q13);(try clear hx13);(try clear hf13);(try clear c16);(try clear hx16);(try clear hf16);(try clear c18);(try clear c18b0);(try clear c19);(try clear c19b0);(try clear c20);(try clear c20b0);(try clear c21);(try clear c21b0);(try clear c22);(try clear c22b0);(try clear c23);(try clear c23b0);(try clear c24);(try clear c24b0);(try clear p25);(try clear q25);(try clear hx25);(try clear hf25);(try clear c30);(try clear q30);(try clear c31);(try clear p31);(try clear q31);(try clear hx31);(try clear c32);(try clear c32b0);(try clear hcz27_0);(try clear hcz27_1);(try clear hfz27_0);(try clear hfz27_1);(try clear hx13_0);(try clear hx16_0);(try clear hx25_0);(try clear hx317_0);(try clear hx317_1);(try clear hx319_0);(try clear p317);(try clear p319);(try clear q317);(try clear q319)
             obtain ⟨x5_4,x10_4,rfl,HA,HK4,HO_5,HB⟩:=hrel
             have hl5_4:=(Kd.S_reads' HO_5.out).1
             rw [hl5_4] at HO_5
             (try simp only [hl5_4])
             cases gk with
             | zero=>exact absurd HA.out (by simp [impl_closure.l3])
             | succ k4=>
              have H:=HA.out
              clear HA
              simp only [impl_closure.l3] at H
              by_cases c33:x10_4<a0
              ·rw [if_pos c33] at H
               have c33b0:decide (x10_4<a0)=true:=decide_eq_true c33
               clear c33
               have H':=Aside0.mk H
               clear H
               go_wp2
               go_loopg [11] k4 (fun kq v11 w'=>∃ (x5_5:List (List Bool)) (x11_5:Int),v11=.int .i64 x11_5∧Aside0 (impl_closure.l4 kq a0 x5_5 x9_3 x10_4 x11_5=some r)∧Aside0 (kq≤k4)∧Aside0 (Kd.S (Kd.slice 4 Kd.bool) 127 w' w.heap.size (fun _=>True) (.slice Ao7 x5_4.length co7) x5_5)∧Aside0 (Below w.heap.size w w'))
               case atStart=>exact ⟨(x5_4),(0),zo,H',⟨Nat.le_refl _⟩,⟨by (try simp only [hl5_1]);(try simp only [hl5_2]);(try simp only [hl5_3]);(try simp only [hl5_4]);(with_reducible repeat (first|apply Kd.S_alloc|apply Kd.S_drewN|apply Kd.S_drew));exact HO_5.out⟩,⟨zb⟩⟩
               case round=>
                clear H'
                (try clear c1);(try clear p1);(try clear q1);(try clear hx1);(try clear c2);(try clear p2);(try clear q2);(try clear hx2);(try clear hf2);(try clear c3);(try clear c3b0);(try clear c3b1);(try clear p3);(try clear q3);(try clear hx3);(try clear c4);(try clear c4b0);(try clear c4b1);(try clear p6);(try clear c8);(try clear c8b0);(try clear c9);(try clear c9b0);(try clear c9b1);(try clear c10);(try clear c10b0);(try clear c10b1);(try clear c11);(try clear c11b0);(try clear c12);(try clear c12b0);(try clear c13);(try clear p13);(try clear q13);(try clear hx13);(try clear hf13);(try clear c16);(try clear hx16);(try clear hf16);(try clear c18);(try clear c18b0);(try clear c19);(try clear c19b0);(try clear c20);(try clear c20b0);(try clear c21);(try clear c21b0);(try clear c22);(try clear c22b0);(try clear c23);(try clear c23b0);(try clear c24);(try clear c24b0);(try clear p25);(try clear q25);(try clear hx25);(try clear hf25);(try clear c30);(try clear q30);(try clear c31);(try clear p31);(try clear q31);(try clear hx31);(try clear c32);(try clear c32b0);(try clear c33);(try clear c33b0);(try clear hcz27_0);(try clear hcz27_1);(try clear hfz27_0);(try clear hfz27_1);(try clear hx13_0);(try clear hx16_0);(try clear hx25_0);(try clear hx317_0);(try clear hx317_1);(try clear hx319_0);(try clear p317);(try clear p319);(try clear q317);(try clear q319)
                obtain ⟨x5_5,x11_5,rfl,HA,HK5,HO_5,HB⟩:=hrel
                have hl5_5:=(Kd.S_reads' HO_5.out).1
                rw [hl5_5] at HO_5
                (try simp only [hl5_5])
                cases gk with
                | zero=>exact absurd HA.out (by simp [impl_closure.l4])
                | succ k5=>
                 have H:=HA.out
                 clear HA
                 simp only [impl_closure.l4] at H
                 by_cases c34:x11_5<a0
                 ·rw [if_pos c34] at H
                  have c34b0:decide (x11_5<a0)=true:=decide_eq_true c34
                  clear c34
                  by_cases c35:0≤x10_4
                  ·rw [if_pos c35] at H
                   have c35b0:decide (0≤x10_4)=true:=decide_eq_true c35
                   clear c35
                   by_cases c36:x10_4<(x5_5.length:Int)
                   ·rw [if_pos c36] at H
                    have c36b0:decide (x10_4<(x5_5.length:Int))=true:=decide_eq_true c36
                    clear c36
                    by_cases c37:0≤x11_5
                    ·rw [if_pos c37] at H
                     have c37b0:decide (0≤x11_5)=true:=decide_eq_true c37
                     clear c37
                     by_cases c38:x11_5<((rd_L3 x5_5 x10_4).length:Int)
                     ·rw [if_pos c38] at H
                      have c38b0:decide (x11_5<((rd_L3 x5_5 x10_4).length:Int))=true:=decide_eq_true c38
                      clear c38
                      obtain ⟨bq39,hbq39⟩:∃ b_:Bool,b_=(rdOf false (rd_L3 x5_5 x10_4) x11_5):=⟨_,rfl⟩
                      replace H:(if bq39=true then (impl_closure.l4 k5 a0 (x5_5.set (x10_4:Int).toNat ((rd_L3 x5_5 x10_4).set (x11_5:Int).toNat true)) x9_3 x10_4 (wrap64 (x11_5 + 1))) else (if 0≤x9_3 then (if x9_3<((rd_L3 x5_5 x10_4).length:Int) then (if rdOf false (rd_L3 x5_5 x10_4) x9_3=true then (if x9_3<(x5_5.length:Int) then (if x11_5<((rd_L3 x5_5 x9_3).length:Int) then (impl_closure.l4 k5 a0 (x5_5.set (x10_4:Int).toNat ((rd_L3 x5_5 x10_4).set (x11_5:Int).toNat (rdOf false (rd_L3 x5_5 x9_3) x11_5))) x9_3 x10_4 (wrap64 (x11_5 + 1))) else (none)) else (none)) else (impl_closure.l4 k5 a0 (x5_5.set (x10_4:Int).toNat ((rd_L3 x5_5 x10_4).set (x11_5:Int).toNat false)) x9_3 x10_4 (wrap64 (x11_5 + 1)))) else (none)) else (none)))=some r:=by rw [←hbq39] at H;exact H
                      have Nbq39:=Aside0.mk hbq39
                      clear hbq39
                      by_cases c40:bq39=true
                      ·subst c40
                       have H1:(impl_closure.l4 k5 a0 (x5_5.set (x10_4:Int).toNat ((rd_L3 x5_5 x10_4).set (x11_5:Int).toNat true)) x9_3 x10_4 (wrap64 (x11_5 + 1)))=some r:=by rw [if_pos rfl] at H;exact H
                       clear H
                       have H:=H1
                       clear H1
                       obtain ⟨y326,hy326⟩:∃ y_:List Bool,y_=((rd_L3 x5_5 x10_4).set (x11_5:Int).toNat true):=⟨_,rfl⟩
                       replace H:(impl_closure.l4 k5 a0 (x5_5.set (x10_4:Int).toNat y326) x9_3 x10_4 (wrap64 (x11_5 + 1)))=some r:=by first|(rw [hy326];with_reducible exact H)|(have H2_:=(Option.bind_some _ _).symm.trans H;rw [hy326];with_reducible exact H2_)|(have H2_:=(Option.bind_some _ _).symm.trans H;with_reducible exact H2_)|with_reducible exact H|(rw [hy326];exact H)|exact H
                       have Ny326:=Aside0.mk hy326
                       clear hy326
                       obtain ⟨y328,hy328⟩:∃ y_:List (List Bool),y_=(x5_5.set (x10_4:Int).toNat y326):=⟨_,rfl⟩
                       replace H:(impl_closure.l4 k5 a0 y328 x9_3 x10_4 (wrap64 (x11_5 + 1)))=some r:=by first|(rw [hy328];with_reducible exact H)|(have H2_:=(Option.bind_some _ _).symm.trans H;rw [hy328];with_reducible exact H2_)|(have H2_:=(Option.bind_some _ _).symm.trans H;with_reducible exact H2_)|with_reducible exact H|(rw [hy328];exact H)|exact H
                       have Ny328:=Aside0.mk hy328
                       clear hy328
                       have H':=Aside0.mk H
                       clear H
                       try go_wp2
                       have n0_:=Aside0.mk (Kd.S_drew HO_5.out)
                       have HBo:=Aside0.mk HB.out
                       have n1_:=Aside0.mk (below_drew1 HB.out)
                       clear HO_5
                       clear HB
                       have HO_5:=n0_
                       have HB:=n1_
                       clear n0_ n1_
                       have p323:0≤(x10_4:Int):=of_decide_eq_true za
                       have q323:x10_4<(x5_5.length:Int):=of_decide_eq_true za
                       obtain ⟨ad323,A323_0,c323_0,e323,hx323_0,hl323_0,hi323_0⟩:=at_L3 (Kd.S_reads' HO_5.out).2.2 x10_4 p323 q323
                       cases e323
                       obtain ⟨ce323,hce323,hMe323,hcc323⟩:=Kd.S_get HO_5.out [] x10_4 p323 (by first|exact q323|exact of_decide_eq_true za|(have e_:=(Kd.S_reads' HO_5.out).1;omega))
                       obtain ⟨ve323_0,rfl,ge323_0⟩:=hMe323
                       have hv323_0:=hcc323 0 _ rfl
                       rw [Nat.add_zero,show ((Kd.slice 4 Kd.bool)).sz=1 from rfl,Nat.mul_one] at hv323_0
                       replace hv323_0:=Option.some.inj (hv323_0.symm.trans hx323_0)
                       rw [hv323_0] at ge323_0
                       have HL323_0:=Aside0.mk (show Kd.R Kd.bool 4 _ _ _ _ (rd_L3 x5_5 x10_4) from ge323_0)
                       clear hv323_0 ge323_0
                       have HX323_0:=Aside0.mk hx323_0
                       clear hcc323 hce323
                       have HR323_0:=Aside0.mk hi323_0
                       have HC323_0:=Aside0.mk hl323_0
                       clear hi323_0 hl323_0
                       replace p323:=eq_true p323
                       replace q323:=eq_true q323
                       have p324:0≤(x10_4:Int):=of_decide_eq_true za
                       have q324:x10_4<(x5_5.length:Int):=of_decide_eq_true za
                       obtain ⟨ad324,A324_0,c324_0,e324,hx324_0,hl324_0,hi324_0⟩:=at_L3 (Kd.S_reads' HO_5.out).2.2 x10_4 p324 q324
                       obtain rfl:ad323=ad324:=(by injection e324)
                       obtain ⟨ce324,hce324,hMe324,hcc324⟩:=Kd.S_get HO_5.out [] x10_4 p324 (by first|exact q324|exact of_decide_eq_true za|(have e_:=(Kd.S_reads' HO_5.out).1;omega))
                       obtain ⟨ve324_0,rfl,ge324_0⟩:=hMe324
                       have hv324_0:=hcc324 0 _ rfl
                       rw [Nat.add_zero,show ((Kd.slice 4 Kd.bool)).sz=1 from rfl,Nat.mul_one] at hv324_0
                       replace hv324_0:=Option.some.inj (hv324_0.symm.trans hx324_0)
                       rw [hv324_0] at ge324_0
                       have HL324_0:=Aside0.mk (show Kd.R Kd.bool 4 _ _ _ _ (rd_L3 x5_5 x10_4) from ge324_0)
                       clear hv324_0 ge324_0
                       have HX324_0:=Aside0.mk hx324_0
                       clear hcc324 hce324
                       have HR324_0:=Aside0.mk hi324_0
                       have HC324_0:=Aside0.mk hl324_0
                       clear hi324_0 hl324_0
                       replace p324:=eq_true p324
                       replace q324:=eq_true q324
                       have ea_:=Option.some.inj (hx323_0.symm.trans hx324_0)
                       injection ea_ with ea_ en_ ec_
                       subst ea_
                       subst ec_
                       clear en_
                       have p325:0≤(x11_5:Int):=of_decide_eq_true za
                       have q325:x11_5<((rd_L3 x5_5 x10_4).length:Int):=of_decide_eq_true za
                       obtain ⟨ad325,e325,hx325_0⟩:=Kd.at_bool (by repeat (first|(with_reducible exact HR324_0.out)|(with_reducible refine Kd.C_alloc ?_ _)|(with_reducible refine Kd.C_drewN ?_ _)|(with_reducible refine Kd.C_drew ?_)|exact HR324_0.out)) x11_5 p325 q325
                       (try rw [←Nbq39.out] at hx325_0)
                       cases e325
                       replace p325:=eq_true p325
                       replace q325:=eq_true q325
                       have p41:0≤(x11_5:Int):=of_decide_eq_true za
                       have q41:(x11_5:Int)<(((rd_L3 x5_5 x10_4).length:Int):Int):=of_decide_eq_true za
                       obtain ⟨go41,co41,eo41,gb41,gl41,cl41,HG41⟩:=Kd.R_form HL323_0.out (by omega)
                       (first|cases eo41|(injection eo41 with ea_ en_ ec_;(first|subst ea_|(injection ea_ with ea_;subst ea_));subst ec_;clear en_))
                       have GB41:=Aside0.mk gb41
                       have GG41:=Aside0.mk HG41
                       clear gb41 gl41 HG41
                       (first|simp only [add_plain] at hx325_0|skip)
                       obtain ⟨hx41_0,hf41_0⟩:=Kd.R_celln false HL323_0.out (x11_5:Int) p41 q41
                       replace p41:=eq_true p41
                       replace q41:=eq_true q41
                       have hq43:(x10_4:Int)<(x5_5.length:Int):=(by have h_:(x10_4:Int)<((x5_5.length:Int):Int):=of_decide_eq_true za;first|exact h_|(have e_:=(Kd.S_reads' HO_5.out).1;omega)|simpa only [List.length_set,List.length_set] using h_)
                       obtain ⟨oki43,ce43,hcl43,hM43,hcc43,hok43,hbk43⟩:=Kd.S_borrow HO_5.out [] (x10_4:Int) (of_decide_eq_true za) hq43
                       obtain ⟨ve43_0,rfl,ge43_0⟩:=hM43
                       have hv43:=hcc43 0 _ rfl
                       rw [Nat.add_zero,show ((Kd.slice 4 Kd.bool)).sz=1 from rfl,Nat.mul_one] at hv43
                       replace hv43:=Option.some.inj (hv43.symm.trans HX323_0.out)
                       subst hv43
                       clear hcc43 hcl43
                       replace ge43_0:=(show Kd.R Kd.bool 4 _ _ _ _ (rd_L3 x5_5 x10_4) from ge43_0)
                       have HP43:=Kd.R_putg ge43_0 (x11_5:Int) true
                       rw [←Ny326.out] at HP43
                       have HS43:=hbk43 HP43.2 (fun k_ e_=>by injection e_ with e_;subst e_;exact ge43_0.1 _ rfl) (x':=y326) (Kd.M_row HP43.1)
                       rw [←Ny328.out] at HS43
                       have HQ43:=Aside0.mk HS43
                       clear HP43 HS43 hbk43 hok43
                       (try rw [←Nbq39.out] at hx41_0)
                       (try simp only [add_plain] at hx323_0)
                       (try simp only [add_plain] at hx324_0)
                       (try simp only [add_plain] at hx325_0)
                       (try simp only [add_plain] at hx41_0)
                       replace hx323_0:wr.cell? _=_:=hx323_0
                       replace hx324_0:wr.cell? _=_:=hx324_0
                       replace hx325_0:wr.cell? _=_:=hx325_0
                       replace hx41_0:wr.cell? _=_:=hx41_0
                       replace hf41_0:wr.frozen? _=false:=hf41_0
                       have HQ_:=HQ43.out
                       rw [World.setCell_drew] at HQ_
                       clear HQ43
                       have HQ43:=Aside0.mk HQ_
                       clear HQ_
                       go_region
                       all_goals
                        try go_wp2
                        (try simp only [←hl5_5])
                        go_roundg k5
                        case measure=>have:=HK1.out;have:=HK2.out;have:=HK3.out;have:=HK4.out;have:=HK5.out;omega
                        case rel=>exact ⟨(y328),(wrap64 (x11_5 + 1)),zo,H',⟨by have:=HK1.out;have:=HK2.out;have:=HK3.out;have:=HK4.out;have:=HK5.out;omega⟩,⟨by (try simp only [hl5_1]);(try simp only [hl5_2]);(try simp only [hl5_3]);(try simp only [hl5_4]);(try simp only [hl5_5]);(with_reducible repeat (first|apply Kd.S_alloc|apply Kd.S_drewN|apply Kd.S_drew));exact HQ43.out⟩,⟨by repeat (first|(with_reducible first|exact HBo.out|exact HB.out|apply below_alloc|apply pw_below_drewN|apply below_drew1|refine below_set ?_ GB41.out)|exact HBo.out|exact HB.out)⟩⟩
                      ·replace c40:=Bool.eq_false_iff.mpr c40
                       subst c40
                       have H1:(if 0≤x9_3 then (if x9_3<((rd_L3 x5_5 x10_4).length:Int) then (if rdOf false (rd_L3 x5_5 x10_4) x9_3=true then (if x9_3<(x5_5.length:Int) then (if x11_5<((rd_L3 x5_5 x9_3).length:Int) then (impl_closure.l4 k5 a0 (x5_5.set (x10_4:Int).toNat ((rd_L3 x5_5 x10_4).set (x11_5:Int).toNat (rdOf false (rd_L3 x5_5 x9_3) x11_5))) x9_3 x10_4 (wrap64 (x11_5 + 1))) else (none)) else (none)) else (impl_closure.l4 k5 a0 (x5_5.set (x10_4:Int).toNat ((rd_L3 x5_5 x10_4).set (x11_5:Int).toNat false)) x9_3 x10_4 (wrap64 (x11_5 + 1)))) else (none)) else (none))=some r:=by rw [if_neg (show ¬ (false=true) by decide)] at H;exact H
                       clear H
                       have H:=H1
                       clear H1
                       by_cases c45:0≤x9_3
                       ·rw [if_pos c45] at H
                        have c45b0:decide (0≤x9_3)=true:=decide_eq_true c45
                        clear c45
                        by_cases c46:x9_3<((rd_L3 x5_5 x10_4).length:Int)
                        ·rw [if_pos c46] at H
                         have c46b0:decide (x9_3<((rd_L3 x5_5 x10_4).length:Int))=true:=decide_eq_true c46
                         clear c46
                         obtain ⟨bq47,hbq47⟩:∃ b_:Bool,b_=(rdOf false (rd_L3 x5_5 x10_4) x9_3):=⟨_,rfl⟩
                         replace H:(if bq47=true then (if x9_3<(x5_5.length:Int) then (if x11_5<((rd_L3 x5_5 x9_3).length:Int) then (impl_closure.l4 k5 a0 (x5_5.set (x10_4:Int).toNat ((rd_L3 x5_5 x10_4).set (x11_5:Int).toNat (rdOf false (rd_L3 x5_5 x9_3) x11_5))) x9_3 x10_4 (wrap64 (x11_5 + 1))) else (none)) else (none)) else (impl_closure.l4 k5 a0 (x5_5.set (x10_4:Int).toNat ((rd_L3 x5_5 x10_4).set (x11_5:Int).toNat false)) x9_3 x10_4 (wrap64 (x11_5 + 1))))=some r:=by rw [←hbq47] at H;exact H
                         have Nbq47:=Aside0.mk hbq47
                         clear hbq47
                         by_cases c48:bq47=true
                         ·subst c48
                          have H1:(if x9_3<(x5_5.length:Int) then (if x11_5<((rd_L3 x5_5 x9_3).length:Int) then (impl_closure.l4 k5 a0 (x5_5.set (x10_4:Int).toNat ((rd_L3 x5_5 x10_4).set (x11_5:Int).toNat (rdOf false (rd_L3 x5_5 x9_3) x11_5))) x9_3 x10_4 (wrap64 (x11_5 + 1))) else (none)) else (none))=some r:=by rw [if_pos rfl] at H;exact H
                          clear H
                          have H:=H1
                          clear H1
                          by_cases c49:x9_3<(x5_5.length:Int)
                          ·rw [if_pos c49] at H
                           have c49b0:decide (x9_3<(x5_5.length:Int))=true:=decide_eq_true c49
                           clear c49
                           by_cases c50:x11_5<((rd_L3 x5_5 x9_3).length:Int)
                           ·rw [if_pos c50] at H
                            have c50b0:decide (x11_5<((rd_L3 x5_5 x9_3).length:Int))=true:=decide_eq_true c50
                            clear c50
                            obtain ⟨y333,hy333⟩:∃ y_:List Bool,y_=((rd_L3 x5_5 x10_4).set (x11_5:Int).toNat (rdOf false (rd_L3 x5_5 x9_3) x11_5)):=⟨_,rfl⟩
                            replace H:(impl_closure.l4 k5 a0 (x5_5.set (x10_4:Int).toNat y333) x9_3 x10_4 (wrap64 (x11_5 + 1)))=some r:=by first|(rw [hy333];with_reducible exact H)|(have H2_:=(Option.bind_some _ _).symm.trans H;rw [hy333];with_reducible exact H2_)|(have H2_:=(Option.bind_some _ _).symm.trans H;with_reducible exact H2_)|with_reducible exact H|(rw [hy333];exact H)|exact H
                            have Ny333:=Aside0.mk hy333
                            clear hy333
                            obtain ⟨y335,hy335⟩:∃ y_:List (List Bool),y_=(x5_5.set (x10_4:Int).toNat y333):=⟨_,rfl⟩
                            replace H:(impl_closure.l4 k5 a0 y335 x9_3 x10_4 (wrap64 (x11_5 + 1)))=some r:=by first|(rw [hy335];with_reducible exact H)|(have H2_:=(Option.bind_some _ _).symm.trans H;rw [hy335];with_reducible exact H2_)|(have H2_:=(Option.bind_some _ _).symm.trans H;with_reducible exact H2_)|with_reducible exact H|(rw [hy335];exact H)|exact H
                            have Ny335:=Aside0.mk hy335
                            clear hy335
                            have H':=Aside0.mk H
                            clear H
                            try go_wp2
                            have n0_:=Aside0.mk (Kd.S_drew HO_5.out)
                            have HBo:=Aside0.mk HB.out
                            have n1_:=Aside0.mk (below_drew1 HB.out)
                            clear HO_5
                            clear HB
                            have HO_5:=n0_
                            have HB:=n1_
                            clear n0_ n1_
                            have p323:0≤(x10_4:Int):=of_decide_eq_true za
                            have q323:x10_4<(x5_5.length:Int):=of_decide_eq_true za
                            obtain ⟨ad323,A323_0,c323_0,e323,hx323_0,hl323_0,hi323_0⟩:=at_L3 (Kd.S_reads' HO_5.out).2.2 x10_4 p323 q323
                            cases e323
                            obtain ⟨ce323,hce323,hMe323,hcc323⟩:=Kd.S_get HO_5.out [] x10_4 p323 (by first|exact q323|exact of_decide_eq_true za|(have e_:=(Kd.S_reads' HO_5.out).1;omega))
                            obtain ⟨ve323_0,rfl,ge323_0⟩:=hMe323
                            have hv323_0:=hcc323 0 _ rfl
                            rw [Nat.add_zero,show ((Kd.slice 4 Kd.bool)).sz=1 from rfl,Nat.mul_one] at hv323_0
                            replace hv323_0:=Option.some.inj (hv323_0.symm.trans hx323_0)
                            rw [hv323_0] at ge323_0
                            have HL323_0:=Aside0.mk (show Kd.R Kd.bool 4 _ _ _ _ (rd_L3 x5_5 x10_4) from ge323_0)
                            clear hv323_0 ge323_0
                            have HX323_0:=Aside0.mk hx323_0
                            clear hcc323 hce323
                            have HR323_0:=Aside0.mk hi323_0
                            have HC323_0:=Aside0.mk hl323_0
                            clear hi323_0 hl323_0
                            replace p323:=eq_true p323
                            replace q323:=eq_true q323
                            have p324:0≤(x10_4:Int):=of_decide_eq_true za
                            have q324:x10_4<(x5_5.length:Int):=of_decide_eq_true za
                            obtain ⟨ad324,A324_0,c324_0,e324,hx324_0,hl324_0,hi324_0⟩:=at_L3 (Kd.S_reads' HO_5.out).2.2 x10_4 p324 q324
                            obtain rfl:ad323=ad324:=(by injection e324)
                            obtain ⟨ce324,hce324,hMe324,hcc324⟩:=Kd.S_get HO_5.out [] x10_4 p324 (by first|exact q324|exact of_decide_eq_true za|(have e_:=(Kd.S_reads' HO_5.out).1;omega))
                            obtain ⟨ve324_0,rfl,ge324_0⟩:=hMe324
                            have hv324_0:=hcc324 0 _ rfl
                            rw [Nat.add_zero,show ((Kd.slice 4 Kd.bool)).sz=1 from rfl,Nat.mul_one] at hv324_0
                            replace hv324_0:=Option.some.inj (hv324_0.symm.trans hx324_0)
                            rw [hv324_0] at ge324_0
                            have HL324_0:=Aside0.mk (show Kd.R Kd.bool 4 _ _ _ _ (rd_L3 x5_5 x10_4) from ge324_0)
                            clear hv324_0 ge324_0
                            have HX324_0:=Aside0.mk hx324_0
                            clear hcc324 hce324
                            have HR324_0:=Aside0.mk hi324_0
                            have HC324_0:=Aside0.mk hl324_0
                            clear hi324_0 hl324_0
                            replace p324:=eq_true p324
                            replace q324:=eq_true q324
                            have ea_:=Option.some.inj (hx323_0.symm.trans hx324_0)
                            injection ea_ with ea_ en_ ec_
                            subst ea_
                            subst ec_
                            clear en_
                            have p325:0≤(x11_5:Int):=of_decide_eq_true za
                            have q325:x11_5<((rd_L3 x5_5 x10_4).length:Int):=of_decide_eq_true za
                            obtain ⟨ad325,e325,hx325_0⟩:=Kd.at_bool (by repeat (first|(with_reducible exact HR324_0.out)|(with_reducible refine Kd.C_alloc ?_ _)|(with_reducible refine Kd.C_drewN ?_ _)|(with_reducible refine Kd.C_drew ?_)|exact HR324_0.out)) x11_5 p325 q325
                            (try rw [←Nbq39.out] at hx325_0)
                            (try rw [←Nbq47.out] at hx325_0)
                            cases e325
                            replace p325:=eq_true p325
                            replace q325:=eq_true q325
                            have p329:0≤(x10_4:Int):=of_decide_eq_true za
                            have q329:x10_4<(x5_5.length:Int):=of_decide_eq_true za
                            obtain ⟨ad329,A329_0,c329_0,e329,hx329_0,hl329_0,hi329_0⟩:=at_L3 (Kd.S_reads' HO_5.out).2.2 x10_4 p329 q329
                            obtain rfl:ad323=ad329:=(by injection e329)
                            obtain ⟨ce329,hce329,hMe329,hcc329⟩:=Kd.S_get HO_5.out [] x10_4 p329 (by first|exact q329|exact of_decide_eq_true za|(have e_:=(Kd.S_reads' HO_5.out).1;omega))
                            obtain ⟨ve329_0,rfl,ge329_0⟩:=hMe329
                            have hv329_0:=hcc329 0 _ rfl
                            rw [Nat.add_zero,show ((Kd.slice 4 Kd.bool)).sz=1 from rfl,Nat.mul_one] at hv329_0
                            replace hv329_0:=Option.some.inj (hv329_0.symm.trans hx329_0)
                            rw [hv329_0] at ge329_0
                            have HL329_0:=Aside0.mk (show Kd.R Kd.bool 4 _ _ _ _ (rd_L3 x5_5 x10_4) from ge329_0)
                            clear hv329_0 ge329_0
                            have HX329_0:=Aside0.mk hx329_0
                            clear hcc329 hce329
                            have HR329_0:=Aside0.mk hi329_0
                            have HC329_0:=Aside0.mk hl329_0
                            clear hi329_0 hl329_0
                            replace p329:=eq_true p329
                            replace q329:=eq_true q329
                            have ea_:=Option.some.inj (hx323_0.symm.trans hx329_0)
                            injection ea_ with ea_ en_ ec_
                            subst ea_
                            subst ec_
                            clear en_
                            have p330:0≤(x9_3:Int):=of_decide_eq_true za
                            have q330:x9_3<((rd_L3 x5_5 x10_4).length:Int):=of_decide_eq_true za
                            obtain ⟨ad330,e330,hx330_0⟩:=Kd.at_bool (by repeat (first|(with_reducible exact HR329_0.out)|(with_reducible refine Kd.C_alloc ?_ _)|(with_reducible refine Kd.C_drewN ?_ _)|(with_reducible refine Kd.C_drew ?_)|exact HR329_0.out)) x9_3 p330 q330
                            (try rw [←Nbq39.out] at hx330_0)
                            (try rw [←Nbq47.out] at hx330_0)
                            cases e330
                            replace p330:=eq_true p330
                            replace q330:=eq_true q330
                            have p331:0≤(x9_3:Int):=of_decide_eq_true za
                            have q331:x9_3<(x5_5.length:Int):=of_decide_eq_true za
                            obtain ⟨ad331,A331_0,c331_0,e331,hx331_0,hl331_0,hi331_0⟩:=at_L3 (Kd.S_reads' HO_5.out).2.2 x9_3 p331 q331
                            obtain rfl:ad323=ad331:=(by injection e331)
                            obtain ⟨ce331,hce331,hMe331,hcc331⟩:=Kd.S_get HO_5.out [] x9_3 p331 (by first|exact q331|exact of_decide_eq_true za|(have e_:=(Kd.S_reads' HO_5.out).1;omega))
                            obtain ⟨ve331_0,rfl,ge331_0⟩:=hMe331
                            have hv331_0:=hcc331 0 _ rfl
                            rw [Nat.add_zero,show ((Kd.slice 4 Kd.bool)).sz=1 from rfl,Nat.mul_one] at hv331_0
                            replace hv331_0:=Option.some.inj (hv331_0.symm.trans hx331_0)
                            rw [hv331_0] at ge331_0
                            have HL331_0:=Aside0.mk (show Kd.R Kd.bool 4 _ _ _ _ (rd_L3 x5_5 x9_3) from ge331_0)
                            clear hv331_0 ge331_0
                            have HX331_0:=Aside0.mk hx331_0
                            clear hcc331 hce331
                            have HR331_0:=Aside0.mk hi331_0
                            have HC331_0:=Aside0.mk hl331_0
                            clear hi331_0 hl331_0
                            replace p331:=eq_true p331
                            replace q331:=eq_true q331
                            have p332:0≤(x11_5:Int):=of_decide_eq_true za
                            have q332:x11_5<((rd_L3 x5_5 x9_3).length:Int):=of_decide_eq_true za
                            obtain ⟨ad332,e332,hx332_0⟩:=Kd.at_bool (by repeat (first|(with_reducible exact HR331_0.out)|(with_reducible refine Kd.C_alloc ?_ _)|(with_reducible refine Kd.C_drewN ?_ _)|(with_reducible refine Kd.C_drew ?_)|exact HR331_0.out)) x11_5 p332 q332
                            (try rw [←Nbq39.out] at hx332_0)
                            (try rw [←Nbq47.out] at hx332_0)
                            cases e332
                            replace p332:=eq_true p332
                            replace q332:=eq_true q332
                            have p51:0≤(x11_5:Int):=of_decide_eq_true za
                            have q51:(x11_5:Int)<(((rd_L3 x5_5 x10_4).length:Int):Int):=of_decide_eq_true za
                            obtain ⟨go51,co51,eo51,gb51,gl51,cl51,HG51⟩:=Kd.R_form HL323_0.out (by omega)
                            (first|cases eo51|(injection eo51 with ea_ en_ ec_;(first|subst ea_|(injection ea_ with ea_;subst ea_));subst ec_;clear en_))
                            have GB51:=Aside0.mk gb51
                            have GG51:=Aside0.mk HG51
                            clear gb51 gl51 HG51
                            (first|simp only [add_plain] at hx330_0|skip)
                            obtain ⟨hx51_0,hf51_0⟩:=Kd.R_celln false HL323_0.out (x11_5:Int) p51 q51
                            replace p51:=eq_true p51
                            replace q51:=eq_true q51
                            have hq53:(x10_4:Int)<(x5_5.length:Int):=(by have h_:(x10_4:Int)<((x5_5.length:Int):Int):=of_decide_eq_true za;first|exact h_|(have e_:=(Kd.S_reads' HO_5.out).1;omega)|simpa only [List.length_set,List.length_set] using h_)
                            obtain ⟨oki53,ce53,hcl53,hM53,hcc53,hok53,hbk53⟩:=Kd.S_borrow HO_5.out [] (x10_4:Int) (of_decide_eq_true za) hq53
                            obtain ⟨ve53_0,rfl,ge53_0⟩:=hM53
                            have hv53:=hcc53 0 _ rfl
                            rw [Nat.add_zero,show ((Kd.slice 4 Kd.bool)).sz=1 from rfl,Nat.mul_one] at hv53
                            replace hv53:=Option.some.inj (hv53.symm.trans HX323_0.out)
                            subst hv53
                            clear hcc53 hcl53
                            replace ge53_0:=(show Kd.R Kd.bool 4 _ _ _ _ (rd_L3 x5_5 x10_4) from ge53_0)
                            have HP53:=Kd.R_putg ge53_0 (x11_5:Int) (rdOf false (rd_L3 x5_5 x9_3) x11_5)
                            rw [←Ny333.out] at HP53
                            have HS53:=hbk53 HP53.2 (fun k_ e_=>by injection e_ with e_;subst e_;exact ge53_0.1 _ rfl) (x':=y333) (Kd.M_row HP53.1)
                            rw [←Ny335.out] at HS53
                            have HQ53:=Aside0.mk HS53
                            clear HP53 HS53 hbk53 hok53
                            (try rw [←Nbq39.out] at hx51_0)
                            (try rw [←Nbq47.out] at hx51_0)
                            (try simp only [add_plain] at hx323_0)
                            (try simp only [add_plain] at hx324_0)
                            (try simp only [add_plain] at hx325_0)
                            (try simp only [add_plain] at hx329_0)
                            (try simp only [add_plain] at hx330_0)
                            (try simp only [add_plain] at hx331_0)
                            (try simp only [add_plain] at hx332_0)
                            (try simp only [add_plain] at hx51_0)
                            replace hx323_0:wr.cell? _=_:=hx323_0
                            replace hx324_0:wr.cell? _=_:=hx324_0
                            replace hx325_0:wr.cell? _=_:=hx325_0
                            replace hx329_0:wr.cell? _=_:=hx329_0
                            replace hx330_0:wr.cell? _=_:=hx330_0
                            replace hx331_0:wr.cell? _=_:=hx331_0
                            replace hx332_0:wr.cell? _=_:=hx332_0
                            replace hx51_0:wr.cell? _=_:=hx51_0
                            replace hf51_0:wr.frozen? _=false:=hf51_0
                            have HQ_:=HQ53.out
                            rw [World.setCell_drew] at HQ_
                            clear HQ53
                            have HQ53:=Aside0.mk HQ_
                            clear HQ_
                            go_region
                            all_goals
                             try go_wp2
                             (try simp only [←hl5_5])
                             go_roundg k5
                             case measure=>have:=HK1.out;have:=HK2.out;have:=HK3.out;have:=HK4.out;have:=HK5.out;omega
                             case rel=>exact ⟨(y335),(wrap64 (x11_5 + 1)),zo,H',⟨by have:=HK1.out;have:=HK2.out;have:=HK3.out;have:=HK4.out;have:=HK5.out;omega⟩,⟨by (try simp only [hl5_1]);(try simp only [hl5_2]);(try simp only [hl5_3]);(try simp only [hl5_4]);(try simp only [hl5_5]);(with_reducible repeat (first|apply Kd.S_alloc|apply Kd.S_drewN|apply Kd.S_drew));exact HQ53.out⟩,⟨by repeat (first|(with_reducible first|exact HBo.out|exact HB.out|apply below_alloc|apply pw_below_drewN|apply below_drew1|refine below_set ?_ GB51.out)|exact HBo.out|exact HB.out)⟩⟩
                           ·rw [if_neg c50] at H
                            exact absurd H (by simp)
                          ·rw [if_neg c49] at H
                           exact absurd H (by simp)
                         ·replace c48:=Bool.eq_false_iff.mpr c48
                          subst c48
                          have H1:(impl_closure.l4 k5 a0 (x5_5.set (x10_4:Int).toNat ((rd_L3 x5_5 x10_4).set (x11_5:Int).toNat false)) x9_3 x10_4 (wrap64 (x11_5 + 1)))=some r:=by rw [if_neg (show ¬ (false=true) by decide)] at H;exact H
                          clear H
                          have H:=H1
                          clear H1
                          obtain ⟨y336,hy336⟩:∃ y_:List Bool,y_=((rd_L3 x5_5 x10_4).set (x11_5:Int).toNat false):=⟨_,rfl⟩
                          replace H:(impl_closure.l4 k5 a0 (x5_5.set (x10_4:Int).toNat y336) x9_3 x10_4 (wrap64 (x11_5 + 1)))=some r:=by first|(rw [hy336];with_reducible exact H)|(have H2_:=(Option.bind_some _ _).symm.trans H;rw [hy336];with_reducible exact H2_)|(have H2_:=(Option.bind_some _ _).symm.trans H;with_reducible exact H2_)|with_reducible exact H|(rw [hy336];exact H)|exact H
                          have Ny336:=Aside0.mk hy336
                          clear hy336
                          obtain ⟨y338,hy338⟩:∃ y_:List (List Bool),y_=(x5_5.set (x10_4:Int).toNat y336):=⟨_,rfl⟩
                          replace H:(impl_closure.l4 k5 a0 y338 x9_3 x10_4 (wrap64 (x11_5 + 1)))=some r:=by first|(rw [hy338];with_reducible exact H)|(have H2_:=(Option.bind_some _ _).symm.trans H;rw [hy338];with_reducible exact H2_)|(have H2_:=(Option.bind_some _ _).symm.trans H;with_reducible exact H2_)|with_reducible exact H|(rw [hy338];exact H)|exact H
                          have Ny338:=Aside0.mk hy338
                          clear hy338
                          have H':=Aside0.mk H
                          clear H
                          try go_wp2
                          have n0_:=Aside0.mk (Kd.S_drew HO_5.out)
                          have HBo:=Aside0.mk HB.out
                          have n1_:=Aside0.mk (below_drew1 HB.out)
                          clear HO_5
                          clear HB
                          have HO_5:=n0_
                          have HB:=n1_
                          clear n0_ n1_
                          have p323:0≤(x10_4:Int):=of_decide_eq_true za
                          have q323:x10_4<(x5_5.length:Int):=of_decide_eq_true za
                          obtain ⟨ad323,A323_0,c323_0,e323,hx323_0,hl323_0,hi323_0⟩:=at_L3 (Kd.S_reads' HO_5.out).2.2 x10_4 p323 q323
                          cases e323
                          obtain ⟨ce323,hce323,hMe323,hcc323⟩:=Kd.S_get HO_5.out [] x10_4 p323 (by first|exact q323|exact of_decide_eq_true za|(have e_:=(Kd.S_reads' HO_5.out).1;omega))
                          obtain ⟨ve323_0,rfl,ge323_0⟩:=hMe323
                          have hv323_0:=hcc323 0 _ rfl
                          rw [Nat.add_zero,show ((Kd.slice 4 Kd.bool)).sz=1 from rfl,Nat.mul_one] at hv323_0
                          replace hv323_0:=Option.some.inj (hv323_0.symm.trans hx323_0)
                          rw [hv323_0] at ge323_0
                          have HL323_0:=Aside0.mk (show Kd.R Kd.bool 4 _ _ _ _ (rd_L3 x5_5 x10_4) from ge323_0)
                          clear hv323_0 ge323_0
                          have HX323_0:=Aside0.mk hx323_0
                          clear hcc323 hce323
                          have HR323_0:=Aside0.mk hi323_0
                          have HC323_0:=Aside0.mk hl323_0
                          clear hi323_0 hl323_0
                          replace p323:=eq_true p323
                          replace q323:=eq_true q323
                          have p324:0≤(x10_4:Int):=of_decide_eq_true za
                          have q324:x10_4<(x5_5.length:Int):=of_decide_eq_true za
                          obtain ⟨ad324,A324_0,c324_0,e324,hx324_0,hl324_0,hi324_0⟩:=at_L3 (Kd.S_reads' HO_5.out).2.2 x10_4 p324 q324
                          obtain rfl:ad323=ad324:=(by injection e324)
                          obtain ⟨ce324,hce324,hMe324,hcc324⟩:=Kd.S_get HO_5.out [] x10_4 p324 (by first|exact q324|exact of_decide_eq_true za|(have e_:=(Kd.S_reads' HO_5.out).1;omega))
                          obtain ⟨ve324_0,rfl,ge324_0⟩:=hMe324
                          have hv324_0:=hcc324 0 _ rfl
                          rw [Nat.add_zero,show ((Kd.slice 4 Kd.bool)).sz=1 from rfl,Nat.mul_one] at hv324_0
                          replace hv324_0:=Option.some.inj (hv324_0.symm.trans hx324_0)
                          rw [hv324_0] at ge324_0
                          have HL324_0:=Aside0.mk (show Kd.R Kd.bool 4 _ _ _ _ (rd_L3 x5_5 x10_4) from ge324_0)
                          clear hv324_0 ge324_0
                          have HX324_0:=Aside0.mk hx324_0
                          clear hcc324 hce324
                          have HR324_0:=Aside0.mk hi324_0
                          have HC324_0:=Aside0.mk hl324_0
                          clear hi324_0 hl324_0
                          replace p324:=eq_true p324
                          replace q324:=eq_true q324
                          have ea_:=Option.some.inj (hx323_0.symm.trans hx324_0)
                          injection ea_ with ea_ en_ ec_
                          subst ea_
                          subst ec_
                          clear en_
                          have p325:0≤(x11_5:Int):=of_decide_eq_true za
                          have q325:x11_5<((rd_L3 x5_5 x10_4).length:Int):=of_decide_eq_true za
                          obtain ⟨ad325,e325,hx325_0⟩:=Kd.at_bool (by repeat (first|(with_reducible exact HR324_0.out)|(with_reducible refine Kd.C_alloc ?_ _)|(with_reducible refine Kd.C_drewN ?_ _)|(with_reducible refine Kd.C_drew ?_)|exact HR324_0.out)) x11_5 p325 q325
                          (try rw [←Nbq39.out] at hx325_0)
                          (try rw [←Nbq47.out] at hx325_0)
                          cases e325
                          replace p325:=eq_true p325
                          replace q325:=eq_true q325
                          have p329:0≤(x10_4:Int):=of_decide_eq_true za
                          have q329:x10_4<(x5_5.length:Int):=of_decide_eq_true za
                          obtain ⟨ad329,A329_0,c329_0,e329,hx329_0,hl329_0,hi329_0⟩:=at_L3 (Kd.S_reads' HO_5.out).2.2 x10_4 p329 q329
                          obtain rfl:ad323=ad329:=(by injection e329)
                          obtain ⟨ce329,hce329,hMe329,hcc329⟩:=Kd.S_get HO_5.out [] x10_4 p329 (by first|exact q329|exact of_decide_eq_true za|(have e_:=(Kd.S_reads' HO_5.out).1;omega))
                          obtain ⟨ve329_0,rfl,ge329_0⟩:=hMe329
                          have hv329_0:=hcc329 0 _ rfl
                          rw [Nat.add_zero,show ((Kd.slice 4 Kd.bool)).sz=1 from rfl,Nat.mul_one] at hv329_0
                          replace hv329_0:=Option.some.inj (hv329_0.symm.trans hx329_0)
                          rw [hv329_0] at ge329_0
                          have HL329_0:=Aside0.mk (show Kd.R Kd.bool 4 _ _ _ _ (rd_L3 x5_5 x10_4) from ge329_0)
                          clear hv329_0 ge329_0
                          have HX329_0:=Aside0.mk hx329_0
                          clear hcc329 hce329
                          have HR329_0:=Aside0.mk hi329_0
                          have HC329_0:=Aside0.mk hl329_0
                          clear hi329_0 hl329_0
                          replace p329:=eq_true p329
                          replace q329:=eq_true q329
                          have ea_:=Option.some.inj (hx323_0.symm.trans hx329_0)
                          injection ea_ with ea_ en_ ec_
                          subst ea_
                          subst ec_
                          clear en_
                          have p330:0≤(x9_3:Int):=of_decide_eq_true za
                          have q330:x9_3<((rd_L3 x5_5 x10_4).length:Int):=of_decide_eq_true za
                          obtain ⟨ad330,e330,hx330_0⟩:=Kd.at_bool (by repeat (first|(with_reducible exact HR329_0.out)|(with_reducible refine Kd.C_alloc ?_ _)|(with_reducible refine Kd.C_drewN ?_ _)|(with_reducible refine Kd.C_drew ?_)|exact HR329_0.out)) x9_3 p330 q330
                          (try rw [←Nbq39.out] at hx330_0)
                          (try rw [←Nbq47.out] at hx330_0)
                          cases e330
                          replace p330:=eq_true p330
                          replace q330:=eq_true q330
                          have p55:0≤(x11_5:Int):=of_decide_eq_true za
                          have q55:(x11_5:Int)<(((rd_L3 x5_5 x10_4).length:Int):Int):=of_decide_eq_true za
                          obtain ⟨go55,co55,eo55,gb55,gl55,cl55,HG55⟩:=Kd.R_form HL323_0.out (by omega)
                          (first|cases eo55|(injection eo55 with ea_ en_ ec_;(first|subst ea_|(injection ea_ with ea_;subst ea_));subst ec_;clear en_))
                          have GB55:=Aside0.mk gb55
                          have GG55:=Aside0.mk HG55
                          clear gb55 gl55 HG55
                          (first|simp only [add_plain] at hx330_0|skip)
                          obtain ⟨hx55_0,hf55_0⟩:=Kd.R_celln false HL323_0.out (x11_5:Int) p55 q55
                          replace p55:=eq_true p55
                          replace q55:=eq_true q55
                          have hq57:(x10_4:Int)<(x5_5.length:Int):=(by have h_:(x10_4:Int)<((x5_5.length:Int):Int):=of_decide_eq_true za;first|exact h_|(have e_:=(Kd.S_reads' HO_5.out).1;omega)|simpa only [List.length_set,List.length_set] using h_)
                          obtain ⟨oki57,ce57,hcl57,hM57,hcc57,hok57,hbk57⟩:=Kd.S_borrow HO_5.out [] (x10_4:Int) (of_decide_eq_true za) hq57
                          obtain ⟨ve57_0,rfl,ge57_0⟩:=hM57
                          have hv57:=hcc57 0 _ rfl
                          rw [Nat.add_zero,show ((Kd.slice 4 Kd.bool)).sz=1 from rfl,Nat.mul_one] at hv57
                          replace hv57:=Option.some.inj (hv57.symm.trans HX323_0.out)
                          subst hv57
                          clear hcc57 hcl57
                          replace ge57_0:=(show Kd.R Kd.bool 4 _ _ _ _ (rd_L3 x5_5 x10_4) from ge57_0)
                          have HP57:=Kd.R_putg ge57_0 (x11_5:Int) false
                          rw [←Ny336.out] at HP57
                          have HS57:=hbk57 HP57.2 (fun k_ e_=>by injection e_ with e_;subst e_;exact ge57_0.1 _ rfl) (x':=y336) (Kd.M_row HP57.1)
                          rw [←Ny338.out] at HS57
                          have HQ57:=Aside0.mk HS57
                          clear HP57 HS57 hbk57 hok57
                          (try rw [←Nbq39.out] at hx55_0)
                          (try rw [←Nbq47.out] at hx55_0)
                          (try simp only [add_plain] at hx323_0)
                          (try simp only [add_plain] at hx324_0)
                          (try simp only [add_plain] at hx325_0)
                          (try simp only [add_plain] at hx329_0)
                          (try simp only [add_plain] at hx330_0)
                          (try simp only [add_plain] at hx55_0)
                          replace hx323_0:wr.cell? _=_:=hx323_0
                          replace hx324_0:wr.cell? _=_:=hx324_0
                          replace hx325_0:wr.cell? _=_:=hx325_0
                          replace hx329_0:wr.cell? _=_:=hx329_0
                          replace hx330_0:wr.cell? _=_:=hx330_0
                          replace hx55_0:wr.cell? _=_:=hx55_0
                          replace hf55_0:wr.frozen? _=false:=hf55_0
                          have HQ_:=HQ57.out
                          rw [World.setCell_drew] at HQ_
                          clear HQ57
                          have HQ57:=Aside0.mk HQ_
                          clear HQ_
                          go_region
                          all_goals
                           try go_wp2
                           (try simp only [←hl5_5])
                           go_roundg k5
                           case measure=>have:=HK1.out;have:=HK2.out;have:=HK3.out;have:=HK4.out;have:=HK5.out;omega
                           case rel=>exact ⟨(y338),(wrap64 (x11_5 + 1)),zo,H',⟨by have:=HK1.out;have:=HK2.out;have:=HK3.out;have:=HK4.out;have:=HK5.out;omega⟩,⟨by (try simp only [hl5_1]);(try simp only [hl5_2]);(try simp only [hl5_3]);(try simp only [hl5_4]);(try simp only [hl5_5]);(with_reducible repeat (first|apply Kd.S_alloc|apply Kd.S_drewN|apply Kd.S_drew));exact HQ57.out⟩,⟨by repeat (first|(with_reducible first|exact HBo.out|exact HB.out|apply below_alloc|apply pw_below_drewN|apply below_drew1|refine below_set ?_ GB55.out)|exact HBo.out|exact HB.out)⟩⟩
                        ·rw [if_neg c46] at H
                         exact absurd H (by simp)
                       ·rw [if_neg c45] at H
                        exact absurd H (by simp)
                     ·rw [if_neg c38] at H
                      exact absurd H (by simp)
                    ·rw [if_neg c37] at H
                     exact absurd H (by simp)
                   ·rw [if_neg c36] at H
                    exact absurd H (by simp)
                  ·rw [if_neg c35] at H
                   exact absurd H (by simp)
                 ·rw [if_neg c34] at H
                  have c34b0:decide (x11_5<a0)=false:=decide_eq_false c34
                  clear c34
                  have H':=Aside0.mk H
                  clear H
                  go_wp2
                  (try simp only [←hl5_4,←hl5_5])
                  go_roundg k5
                  case measure=>have:=HK1.out;have:=HK2.out;have:=HK3.out;have:=HK4.out;have:=HK5.out;omega
                  case rel=>exact ⟨(x5_5),(wrap64 (x10_4 + 1)),zo,H',⟨by have:=HK1.out;have:=HK2.out;have:=HK3.out;have:=HK4.out;have:=HK5.out;omega⟩,⟨by (try simp only [hl5_1]);(try simp only [hl5_2]);(try simp only [hl5_3]);(try simp only [hl5_4]);(try simp only [hl5_5]);(with_reducible repeat (first|apply Kd.S_alloc|apply Kd.S_drewN|apply Kd.S_drew));exact HO_5.out⟩,⟨zb⟩⟩
              ·rw [if_neg c33] at H
               have c33b0:decide (x10_4<a0)=false:=decide_eq_false c33
               clear c33
               have H':=Aside0.mk H
               clear H
               go_wp2
               (try simp only [←hl5_3,←hl5_4])
               go_roundg k4
               case measure=>have:=HK1.out;have:=HK2.out;have:=HK3.out;have:=HK4.out;omega
               case rel=>exact ⟨(x5_4),(wrap64 (x9_3 + 1)),zo,H',⟨by have:=HK1.out;have:=HK2.out;have:=HK3.out;have:=HK4.out;omega⟩,⟨by (try simp only [hl5_1]);(try simp only [hl5_2]);(try simp only [hl5_3]);(try simp only [hl5_4]);(with_reducible repeat (first|apply Kd.S_alloc|apply Kd.S_drewN|apply Kd.S_drew));exact HO_5.out⟩,⟨zb⟩⟩
           ·rw [if_neg c32] at H
            have c32b0:decide (x9_3<a0)=false:=decide_eq_false c32
            clear c32
            obtain rfl:=Option.some.inj H
            go_wp2
            go_ret
            exact ⟨_,by first|rfl|(simp [errW_none,errW_some] <;> rfl)|(simp [*,errW_none,errW_some] <;> rfl),zS HO_5.out,zb⟩
  ·rw [if_neg c4] at H
   exact absurd H (by simp)
 ·rw [if_neg c3] at H
  exact absurd H (by simp)

end Go.Proofs.Ytbcfmegepkhlpaa.XFnExactLabelPlan
-- minified
