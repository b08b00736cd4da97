-- Written by a program of this session (the kit's print, widened). Proved here: what each function answers, for the arguments that its contract names.
import Derived.Test.YtplbabjigikgjaaXFnTailsx0
import Derived.Test.YtplbabjigikgjaaXFnTailsx6
import Derived.Test.YtplbabjigikgjaaXFnTailsx8
namespace Go.Proofs.Ytplbabjigikgjaa.XFnTails
open Go.RowKit Go.Proofs.YtplbabjigikgjaaW.PrintWords Go.Proofs.YtplbabjigikgjaaW.PrintLast Go.Proofs.YtplbabjigikgjaaW.PrintMore
attribute [local go_sem] max2_int min2_int max_two min_two max_three min_three max_four min_four   -- for this text's walks alone
attribute [local go_sem] idxA_45_0 idxA_45_1 fldS_94_0 fldS_94_1 fldS_94_2 fldS_125_0 fldS_125_1 fldS_125_2
set_option linter.unusedVariables false
set_option linter.unusedSimpArgs false

/-! ### impl_tailsOf: function 69 -/
mutual
def impl_tailsOf.l0:Nat→List (S47)→List (List Bool)→List Int→Int→Int→Option (List Int)
 | 0,_,_,_,_,_=>none
 | k + 1,x0,x5,x6,x18,x19=>if x19<x18 then (impl_tailsOf.l1 k x0 x5 x6 x18 x19 x0 (x0.length:Int) 0) else (some x6)
def impl_tailsOf.l1:Nat→List (S47)→List (List Bool)→List Int→Int→Int→List (S47)→Int→Int→Option (List Int)
 | 0,_,_,_,_,_,_,_,_=>none
 | k + 1,x0,x5,x6,x18,x19,x21,x22,x23=>if x23<x22 then (if 0≤x23 then (if x23<(x21.length:Int) then (if x23<(x6.length:Int) then (impl_tailsOf.l2 k x0 x5 (x6.set (x23:Int).toNat (mx (rd x6 x23) ((rd_T47 x21 x23).f0))) x23 x18 x19 x21 x22 x23 (x0.length:Int) 0 ((rd_T47 x21 x23).f0) ((rd_T47 x21 x23).f1) ((rd_T47 x21 x23).f2) ((rd_T47 x21 x23).f3)) else (none)) else (none)) else (none)) else (impl_tailsOf.l0 k x0 x5 x6 x18 (wrap64 (x19 + 1)))
def impl_tailsOf.l2:Nat→List (S47)→List (List Bool)→List Int→Int→Int→Int→List (S47)→Int→Int→Int→Int→Int→Int→Int→Int→Option (List Int)
 | 0,_,_,_,_,_,_,_,_,_,_,_,_,_,_,_=>none
 | k + 1,x0,x5,x6,x7,x18,x19,x21,x22,x23,x39,x40,x378000,x378001,x378002,x378003=>if x40<x39 then (if 0≤x7 then (if x7<(x5.length:Int) then (if 0≤x40 then (if x40<((rd_L5 x5 x7).length:Int) then (if rdOf false (rd_L5 x5 x7) x40=true then (if x7<(x6.length:Int) then (if x40<(x6.length:Int) then (impl_tailsOf.l2 k x0 x5 (x6.set (x7:Int).toNat (mx (rd x6 x7) (wrap64 (x378000 + (rd x6 x40))))) x7 x18 x19 x21 x22 x23 x39 (wrap64 (x40 + 1)) x378000 x378001 x378002 x378003) else (none)) else (none)) else (impl_tailsOf.l2 k x0 x5 x6 x7 x18 x19 x21 x22 x23 x39 (wrap64 (x40 + 1)) x378000 x378001 x378002 x378003)) else (none)) else (none)) else (none)) else (none)) else (impl_tailsOf.l1 k x0 x5 x6 x18 x19 x21 x22 (wrap64 (x23 + 1)))
end
def impl_tailsOf.f (k:Nat) (l0:List (S47)) (l1:List (S45)):Option (List Int):=(impl_closure.f k (l0.length:Int) l1).bind fun t370=>(if 0≤(l0.length:Int) then (if ((l0.length:Int):Int).toNat≤35184372088832 then (impl_tailsOf.l0 k l0 t370 (List.replicate ((l0.length:Int):Int).toNat 0) (l0.length:Int) 0) else (none)) else (none))
theorem impl_tailsOf.mono_l:∀ k,(∀ y0 y1 y2 y3 y4,LeO (impl_tailsOf.l0 k y0 y1 y2 y3 y4) (impl_tailsOf.l0 (k + 1) y0 y1 y2 y3 y4))∧(∀ y0 y1 y2 y3 y4 y5 y6 y7,LeO (impl_tailsOf.l1 k y0 y1 y2 y3 y4 y5 y6 y7) (impl_tailsOf.l1 (k + 1) y0 y1 y2 y3 y4 y5 y6 y7))∧(∀ y0 y1 y2 y3 y4 y5 y6 y7 y8 y9 y10 y11 y12 y13 y14,LeO (impl_tailsOf.l2 k y0 y1 y2 y3 y4 y5 y6 y7 y8 y9 y10 y11 y12 y13 y14) (impl_tailsOf.l2 (k + 1) y0 y1 y2 y3 y4 y5 y6 y7 y8 y9 y10 y11 y12 y13 y14))
 | 0=>⟨fun _ _ _ _ _ r h=>by simp [impl_tailsOf.l0] at h,fun _ _ _ _ _ _ _ _ r h=>by simp [impl_tailsOf.l1] at h,fun _ _ _ _ _ _ _ _ _ _ _ _ _ _ _ r h=>by simp [impl_tailsOf.l2] at h⟩
 | k + 1=>by
  obtain ⟨ih0,ih1,ih2⟩:=impl_tailsOf.mono_l k
  refine ⟨?_,?_,?_⟩
  ·intro y0 y1 y2 y3 y4
   unfold impl_tailsOf.l0
   repeat' first
   | (with_reducible exact ih0 _ _ _ _ _)
   | (with_reducible exact ih1 _ _ _ _ _ _ _ _)
   | (with_reducible exact ih2 _ _ _ _ _ _ _ _ _ _ _ _ _ _ _)
   | (with_reducible exact impl_closure.mono _ _ _)
   | (with_reducible exact LeO.refl _)
   | (with_reducible exact LeO.none _)
   | (with_reducible refine LeO.ite ?_ ?_)
   | (with_reducible refine LeO.bind ?_ (fun _=>?_))
   | exact ih0 _ _ _ _ _
   | exact ih1 _ _ _ _ _ _ _ _
   | exact ih2 _ _ _ _ _ _ _ _ _ _ _ _ _ _ _
   | exact impl_closure.mono _ _ _
   | exact LeO.none _
   | refine LeO.ite ?_ ?_
   | refine LeO.bind ?_ (fun _=>?_)
  ·intro y0 y1 y2 y3 y4 y5 y6 y7
   unfold impl_tailsOf.l1
   repeat' first
   | (with_reducible exact ih0 _ _ _ _ _)
   | (with_reducible exact ih1 _ _ _ _ _ _ _ _)
   | (with_reducible exact ih2 _ _ _ _ _ _ _ _ _ _ _ _ _ _ _)
   | (with_reducible exact impl_closure.mono _ _ _)
   | (with_reducible exact LeO.refl _)
   | (with_reducible exact LeO.none _)
   | (with_reducible refine LeO.ite ?_ ?_)
   | (with_reducible refine LeO.bind ?_ (fun _=>?_))
   | exact ih0 _ _ _ _ _
   | exact ih1 _ _ _ _ _ _ _ _
   | exact ih2 _ _ _ _ _ _ _ _ _ _ _ _ _ _ _
   | exact impl_closure.mono _ _ _
   | exact LeO.none _
   | refine LeO.ite ?_ ?_
   | refine LeO.bind ?_ (fun _=>?_)
  ·intro y0 y1 y2 y3 y4 y5 y6 y7 y8 y9 y10 y11 y12 y13 y14
   unfold impl_tailsOf.l2
   repeat' first
   | (with_reducible exact ih0 _ _ _ _ _)
   | (with_reducible exact ih1 _ _ _ _ _ _ _ _)
   | (with_reducible exact ih2 _ _ _ _ _ _ _ _ _ _ _ _ _ _ _)
   | (with_reducible exact impl_closure.mono _ _ _)
   | (with_reducible exact LeO.refl _)
   | (with_reducible exact LeO.none _)
   | (with_reducible refine LeO.ite ?_ ?_)
   | (with_reducible refine LeO.bind ?_ (fun _=>?_))
   | exact ih0 _ _ _ _ _
   | exact ih1 _ _ _ _ _ _ _ _
   | exact ih2 _ _ _ _ _ _ _ _ _ _ _ _ _ _ _
   | exact impl_closure.mono _ _ _
   | exact LeO.none _
   | refine LeO.ite ?_ ?_
   | refine LeO.bind ?_ (fun _=>?_)
theorem impl_tailsOf.mono:∀ a0 a1 k,LeO (impl_tailsOf.f k a0 a1) (impl_tailsOf.f (k + 1) a0 a1):=by
 intro a0 a1 k
 obtain ⟨ih0,ih1,ih2⟩:=impl_tailsOf.mono_l k
 unfold impl_tailsOf.f
 repeat' first
   | (with_reducible exact ih0 _ _ _ _ _)
   | (with_reducible exact ih1 _ _ _ _ _ _ _ _)
   | (with_reducible exact ih2 _ _ _ _ _ _ _ _ _ _ _ _ _ _ _)
   | (with_reducible exact impl_closure.mono _ _ _)
   | (with_reducible exact LeO.refl _)
   | (with_reducible exact LeO.none _)
   | (with_reducible refine LeO.ite ?_ ?_)
   | (with_reducible refine LeO.bind ?_ (fun _=>?_))
   | exact ih0 _ _ _ _ _
   | exact ih1 _ _ _ _ _ _ _ _
   | exact ih2 _ _ _ _ _ _ _ _ _ _ _ _ _ _ _
   | exact impl_closure.mono _ _ _
   | exact LeO.none _
   | refine LeO.ite ?_ ?_
   | refine LeO.bind ?_ (fun _=>?_)
def impl_tailsOf.T8:Bool × List (List Nat × List Nat):=(true,[([],[]),([],[]),([],[]),([],[]),([2,3],[2,3]),([4],[4]),([],[]),([6],[6]),([5,7],[5,7]),([0,1,0,1,2,3,4,5,6,7,8],[0,1]),([9,8,0,1,2,3,4,5,6,7,8],[8,9])])
def impl_tailsOf.B8:List Nat:=[0,0,0,0,12,28,0,64,252,511,1023]
theorem impl_tailsOf.tab8:rtab .any (opsOf Try.f69 8)=impl_tailsOf.T8:=by kernel_rfl
theorem impl_tailsOf.bits8:waitsOk impl_tailsOf.T8.2 impl_tailsOf.B8=true:=by kernel_rfl
def impl_tailsOf.T13:Bool × List (List Nat × List Nat):=(true,[([],[]),([],[]),([],[]),([],[]),([2,3],[2,3]),([4],[4]),([],[]),([6],[6]),([],[]),([],[]),([8,9],[8,9]),([10],[10]),([7,11],[7,11]),([5,12],[5,12]),([0,1,0,1,2,3,4,5,6,7,8,9,10,11,12,13],[0,1]),([14,13,0,1,2,3,4,5,6,7,8,9,10,11,12,13],[13,14])])
def impl_tailsOf.B13:List Nat:=[0,0,0,0,12,28,0,64,0,0,768,1792,4032,8188,16383,32767]
theorem impl_tailsOf.tab13:rtab .any (opsOf Try.f69 13)=impl_tailsOf.T13:=by kernel_rfl
theorem impl_tailsOf.bits13:waitsOk impl_tailsOf.T13.2 impl_tailsOf.B13=true:=by kernel_rfl
set_option maxHeartbeats 8000000 in
set_option maxRecDepth 100000 in
theorem impl_tailsOf.calls (k:Nat) (A0:Option Addr) (c0:Nat) (l0:List (S47)) (A1:Option Addr) (c1:Nat) (l1:List (S45)) (r:List Int) (w:World) (hr0:Kd.C k47 w A0 l0.length l0) (hc0:l0.length≤c0) (hr1:Kd.C k45 w A1 l1.length l1) (hc1:l1.length≤c1) (h:impl_tailsOf.f k l0 l1=some r) :
  Calls Try.prog 69 #[.slice A0 l0.length c0,.slice A1 l1.length c1] w fun e w'=>∃ v0_:Value,e=.returned (v0_)∧Kd.R (Kd.int .i64) 3 w' w.heap.size (fun _=>True) v0_ r∧Below w.heap.size w w':=by
 have hu47:=Try.underlying47
 have HR0:=Aside0.mk hr0
 have HC0:=Aside0.mk hc0
 clear hr0 hc0
 have HR1:=Aside0.mk hr1
 have HC1:=Aside0.mk hc1
 clear hr1 hc1
 have HB:=Aside0.mk (Below.refl w.heap.size w)
 have H:((impl_closure.f k (l0.length:Int) l1).bind fun t370=>(if 0≤(l0.length:Int) then (if ((l0.length:Int):Int).toNat≤35184372088832 then (impl_tailsOf.l0 k l0 t370 (List.replicate ((l0.length:Int):Int).toNat 0) (l0.length:Int) 0) else (none)) else (none)))=some r:=h
 clear h
 replace H:=Option.bind_eq_some_iff.mp H
 obtain ⟨t370,A30,H⟩:=H
 try dsimp only at H
 have A3:=Aside0.mk A30
 clear A30
 by_cases c4:0≤(l0.length:Int)
 ·rw [if_pos c4] at H
  have c4b0:=eq_true c4
  have c4b1:decide (0≤(l0.length:Int))=true:=decide_eq_true c4
  clear c4
  by_cases c5:((l0.length:Int):Int).toNat≤35184372088832
  ·rw [if_pos c5] at H
   have c5b0:=eq_true c5
   have c5b1:decide (((l0.length:Int):Int).toNat≤35184372088832)=true:=decide_eq_true c5
   clear c5
   obtain ⟨y373,hy373⟩:∃ y_:List Int,y_=(List.replicate ((l0.length:Int):Int).toNat 0):=⟨_,rfl⟩
   replace H:(impl_tailsOf.l0 k l0 t370 y373 (l0.length:Int) 0)=some r:=by first|(rw [hy373];with_reducible exact H)|(have H2_:=(Option.bind_some _ _).symm.trans H;rw [hy373];with_reducible exact H2_)|(have H2_:=(Option.bind_some _ _).symm.trans H;with_reducible exact H2_)|with_reducible exact H|(rw [hy373];exact H)|exact H
   have Ny373:=Aside0.mk hy373
   clear hy373
   have H':=Aside0.mk H
   clear H
   go_enter Try.func69,Try.ntmps69
   go_wp2_with (first|((with_reducible refine gate_callee (f:=71) rfl ?_);refine goesL_ (some 13) rfl rfl Try.func71 (by kernel_rfl) rfl #[.int .i64 (l0.length:Int),.slice A1 l1.length c1] rfl zl ?_;(with_reducible refine (impl_closure.calls k (l0.length:Int) _ _ l1 t370 _ ?side1 ?side2 A3.out).mono ?_);(case side1=>exact zC HR1.out);(case side2=>exact HC1.out);rintro e w6 ⟨v371,rfl,ho0,hb⟩;refine ⟨_,rfl,?_⟩;have HO372:=Aside0.mk (Kd.S_lower ho0 (below_size zb));replace HB:=Aside0.mk (below_step zb hb);(try clear hb);(try clear ho0))|((with_reducible refine gate_dst (N:=16) rfl ?_);refine Kd.R_make (Kd.int .i64) _ 3 rfl (N:=16) rfl 39 _ _ rfl (l0.length:Int) rfl rfl Try.underlying39 (.int .i64 0) 8 info3 rfl (by decide) (by omega) 0 (ok:=fun _=>True) (okp:=fun _=>True) rfl (fun _ hk=>hk) trivial (of_decide_eq_true za) (Nat.le_trans (Nat.mul_le_mul_right _ (of_decide_eq_true za:(l0.length:Int).toNat≤35184372088832)) (by omega)) (Below.refl _ _) (Nat.le_refl _) ?_;intro v374 w7 ho8 hb hg_ hnew_;clear hg_ hnew_;(first|rw [←Ny373.out] at ho8|(simp only [Int.reduceToNat] at ho8;rw [←Ny373.out] at ho8));replace HO372:=Aside0.mk (Kd.S_below (zS HO372.out) hb);have HO375:=Aside0.mk (Kd.R_lower ho8 (below_size zb));replace HB:=Aside0.mk (below_step zb hb);clear hb ho8))
   go_loopg [19] k (fun kq v19 w'=>∃ (x6_1:List Int) (x19_1:Int),v19=.int .i64 x19_1∧Aside0 (impl_tailsOf.l0 kq l0 t370 x6_1 (l0.length:Int) x19_1=some r)∧Aside0 (kq≤k)∧Aside0 (Kd.S (Kd.slice 4 Kd.bool) 101 w' w.heap.size (fun _=>True) v371 t370)∧Aside0 (Kd.R (Kd.int .i64) 3 w' w.heap.size (fun _=>True) v374 x6_1)∧Aside0 (Below w.heap.size w w'))
   case atStart=>exact ⟨(y373),(0),zo,H',⟨Nat.le_refl _⟩,⟨zS HO372.out⟩,⟨zR HO375.out⟩,⟨zb⟩⟩
   case round=>
    clear H'
    (try clear c1);(try clear p2);(try clear c4);(try clear c4b0);(try clear c4b1);(try clear c5);(try clear c5b0);(try clear c5b1);(try clear c6);(try clear c7)
    obtain ⟨x6_1,x19_1,rfl,HA,HK1,HO_5,HO_6,HB⟩:=hrel
    cases gk with
    | zero=>exact absurd HA.out (by simp [impl_tailsOf.l0])
    | succ k1=>
     have H:=HA.out
     clear HA
     simp only [impl_tailsOf.l0] at H
     by_cases c9:x19_1<(l0.length:Int)
     ·rw [if_pos c9] at H
      have c9b0:decide (x19_1<(l0.length:Int))=true:=decide_eq_true c9
      clear c9
      have H':=Aside0.mk H
      clear H
      go_wp2
      go_loopg [23] k1 (fun kq v23 w'=>∃ (x6_2:List Int) (x23_2:Int),v23=.int .i64 x23_2∧Aside0 (impl_tailsOf.l1 kq l0 t370 x6_2 (l0.length:Int) x19_1 l0 (l0.length:Int) x23_2=some r)∧Aside0 (kq≤k1)∧Aside0 (Kd.S (Kd.slice 4 Kd.bool) 101 w' w.heap.size (fun _=>True) v371 t370)∧Aside0 (Kd.R (Kd.int .i64) 3 w' w.heap.size (fun _=>True) v374 x6_2)∧Aside0 (Below w.heap.size w w'))
      case atStart=>exact ⟨(x6_1),(0),zo,H',⟨Nat.le_refl _⟩,⟨zS HO_5.out⟩,⟨zR HO_6.out⟩,⟨zb⟩⟩
      case round=>
       clear H'
       (try clear c1);(try clear p2);(try clear c4);(try clear c4b0);(try clear c4b1);(try clear c5);(try clear c5b0);(try clear c5b1);(try clear c6);(try clear c7);(try clear c9);(try clear c9b0)
       obtain ⟨x6_2,x23_2,rfl,HA,HK2,HO_5,HO_6,HB⟩:=hrel
       cases gk with
       | zero=>exact absurd HA.out (by simp [impl_tailsOf.l1])
       | succ k2=>
        have H:=HA.out
        clear HA
        simp only [impl_tailsOf.l1] at H
        by_cases c10:x23_2<(l0.length:Int)
        ·rw [if_pos c10] at H
         have c10b0:decide (x23_2<(l0.length:Int))=true:=decide_eq_true c10
         clear c10
         by_cases c11:0≤x23_2
         ·rw [if_pos c11] at H
          have c11b0:decide (0≤x23_2)=true:=decide_eq_true c11
          clear c11
          by_cases c12:x23_2<(l0.length:Int)
          ·rw [if_pos c12] at H
           have c12b0:decide (x23_2<(l0.length:Int))=true:=decide_eq_true c12
           clear c12
           by_cases c13:x23_2<(x6_2.length:Int)
           ·rw [if_pos c13] at H
            have c13b0:decide (x23_2<(x6_2.length:Int))=true:=decide_eq_true c13
            clear c13
            obtain ⟨ji14,hji14⟩:∃ j_:Int,(mx (rd x6_2 x23_2) ((rd_T47 l0 x23_2).f0))=j_:=⟨_,rfl⟩
            replace H:(impl_tailsOf.l2 k2 l0 t370 (x6_2.set (x23_2:Int).toNat (ji14)) x23_2 (l0.length:Int) x19_1 l0 (l0.length:Int) x23_2 (l0.length:Int) 0 ((rd_T47 l0 x23_2).f0) ((rd_T47 l0 x23_2).f1) ((rd_T47 l0 x23_2).f2) ((rd_T47 l0 x23_2).f3))=some r:=by first|(rw [hji14] at H;exact H)|(simp only [hji14] at H ⊢;exact H)
            have hji14_:(if (rd x6_2 x23_2)<((rd_T47 l0 x23_2).f0) then ((rd_T47 l0 x23_2).f0) else (rd x6_2 x23_2))=ji14:=hji14
            obtain ⟨y379,hy379⟩:∃ y_:List Int,y_=(x6_2.set (x23_2:Int).toNat (ji14)):=⟨_,rfl⟩
            replace H:(impl_tailsOf.l2 k2 l0 t370 y379 x23_2 (l0.length:Int) x19_1 l0 (l0.length:Int) x23_2 (l0.length:Int) 0 ((rd_T47 l0 x23_2).f0) ((rd_T47 l0 x23_2).f1) ((rd_T47 l0 x23_2).f2) ((rd_T47 l0 x23_2).f3))=some r:=by first|(rw [hy379];with_reducible exact H)|(have H2_:=(Option.bind_some _ _).symm.trans H;rw [hy379];with_reducible exact H2_)|(have H2_:=(Option.bind_some _ _).symm.trans H;with_reducible exact H2_)|with_reducible exact H|(rw [hy379];exact H)|exact H
            have Ny379:=Aside0.mk hy379
            clear hy379
            have H':=Aside0.mk H
            clear H
            have p376:0≤(x23_2:Int):=of_decide_eq_true za
            have q376:x23_2<(l0.length:Int):=of_decide_eq_true za
            obtain ⟨ad376,e376,hx376_0,hx376_1,hx376_2,hx376_3⟩:=at_T47 HR0.out x23_2 p376 q376
            cases e376
            replace hx376_0:=(HB.out.cell (World.block_lt_of_cell? w _ hx376_0)).trans hx376_0
            replace hx376_1:=(HB.out.cell (World.block_lt_of_cell? w _ hx376_1)).trans hx376_1
            replace hx376_2:=(HB.out.cell (World.block_lt_of_cell? w _ hx376_2)).trans hx376_2
            replace hx376_3:=(HB.out.cell (World.block_lt_of_cell? w _ hx376_3)).trans hx376_3
            replace p376:=eq_true p376
            replace q376:=eq_true q376
            try go_wp2_with (first|((with_reducible refine gate_dst (N:=8) rfl ?_);refine box_event ?hg (N:=8) ?hd (cs:=#[.int .i64 0,.int .i64 0,.int .i64 0,.int .i64 0]) (t:=47) ?hr ?_;(case hd=>rfl);(case hg=>rfl);(case hr=>first|(go_simp;done)|(go_simp;rfl));intro gb377 hg w16 hbox hb;have n0_:=Aside0.mk (Kd.S_below (zS HO_5.out) hb);have n1_:=Aside0.mk (Kd.R_below (zR HO_6.out) hb);have n2_:=Aside0.mk (below_step zb hb);have n3_:=Aside0.mk (hbox);have n4_:=Aside0.mk ((by rw [hg];exact (below_size zb):w.heap.size≤gb377));have n5_:=Aside0.mk ((by rw [hg];exact (below_size zb):w.heap.size≤gb377));clear HO_5;clear HO_6;clear HB;have HO_5:=n0_;have HO_6:=n1_;have HB:=n2_;have BK377:=n3_;have GW377:=n4_;have GE377:=n5_;clear n0_ n1_ n2_ n3_ n4_ n5_;clear hb hbox hg;have hcz17_0:w16.cell? ⟨gb377,0,none⟩=some (.int .i64 0):=(blk_cell BK377.out 0).trans rfl;have hcz17_1:w16.cell? ⟨gb377,1,none⟩=some (.int .i64 0):=(blk_cell BK377.out 1).trans rfl;have hcz17_2:w16.cell? ⟨gb377,2,none⟩=some (.int .i64 0):=(blk_cell BK377.out 2).trans rfl;have hcz17_3:w16.cell? ⟨gb377,3,none⟩=some (.int .i64 0):=(blk_cell BK377.out 3).trans rfl;have hfz17_0:=blk_frozen BK377.out 0;have hfz17_1:=blk_frozen BK377.out 1;have hfz17_2:=blk_frozen BK377.out 2;have hfz17_3:=blk_frozen BK377.out 3))
            have n0_:Aside0 (Kd.S (Kd.slice 4 Kd.bool) 101 ((((w16.setCell ⟨gb377,0,none⟩ (.int .i64 ((rd_T47 l0 x23_2).f0))).setCell ⟨gb377,1,none⟩ (.int .i64 ((rd_T47 l0 x23_2).f1))).setCell ⟨gb377,2,none⟩ (.int .i64 ((rd_T47 l0 x23_2).f2))).setCell ⟨gb377,3,none⟩ (.int .i64 ((rd_T47 l0 x23_2).f3))) w.heap.size (fun _=>True) v371 t370):=⟨zS (Kd.S_mono (Kd.S_far (p:=⟨gb377,3,none⟩) (Kd.S_far (p:=⟨gb377,2,none⟩) (Kd.S_far (p:=⟨gb377,1,none⟩) (Kd.S_far (p:=⟨gb377,0,none⟩) (Kd.S_types HO_5.out BK377.out (by decide)) (fun _ hk=>hk.2) (.int .i64 ((rd_T47 l0 x23_2).f0))) (fun _ hk=>hk.2) (.int .i64 ((rd_T47 l0 x23_2).f1))) (fun _ hk=>hk.2) (.int .i64 ((rd_T47 l0 x23_2).f2))) (fun _ hk=>hk.2) (.int .i64 ((rd_T47 l0 x23_2).f3))) (fun _ hk=>trivial))⟩
            have n1_:Aside0 (Kd.R (Kd.int .i64) 3 ((((w16.setCell ⟨gb377,0,none⟩ (.int .i64 ((rd_T47 l0 x23_2).f0))).setCell ⟨gb377,1,none⟩ (.int .i64 ((rd_T47 l0 x23_2).f1))).setCell ⟨gb377,2,none⟩ (.int .i64 ((rd_T47 l0 x23_2).f2))).setCell ⟨gb377,3,none⟩ (.int .i64 ((rd_T47 l0 x23_2).f3))) w.heap.size (fun _=>True) v374 x6_2):=⟨zR (Kd.R_mono (Kd.R_far (p:=⟨gb377,3,none⟩) (Kd.R_far (p:=⟨gb377,2,none⟩) (Kd.R_far (p:=⟨gb377,1,none⟩) (Kd.R_far (p:=⟨gb377,0,none⟩) (Kd.R_types HO_6.out BK377.out (by decide)) (fun _ hk=>hk.2) (.int .i64 ((rd_T47 l0 x23_2).f0))) (fun _ hk=>hk.2) (.int .i64 ((rd_T47 l0 x23_2).f1))) (fun _ hk=>hk.2) (.int .i64 ((rd_T47 l0 x23_2).f2))) (fun _ hk=>hk.2) (.int .i64 ((rd_T47 l0 x23_2).f3))) (fun _ hk=>trivial))⟩
            have n2_:Aside0 (((((w16.setCell ⟨gb377,0,none⟩ (.int .i64 ((rd_T47 l0 x23_2).f0))).setCell ⟨gb377,1,none⟩ (.int .i64 ((rd_T47 l0 x23_2).f1))).setCell ⟨gb377,2,none⟩ (.int .i64 ((rd_T47 l0 x23_2).f2))).setCell ⟨gb377,3,none⟩ (.int .i64 ((rd_T47 l0 x23_2).f3))).heap[gb377]?=some (.cells #[.int .i64 ((rd_T47 l0 x23_2).f0),.int .i64 ((rd_T47 l0 x23_2).f1),.int .i64 ((rd_T47 l0 x23_2).f2),.int .i64 ((rd_T47 l0 x23_2).f3)] 47 (0,0))):=⟨by (with_reducible repeat (first|refine blk_drewN ?_ _|refine blk_drew ?_|refine blk_alloc ?_ _));refine blk_put (cs:=#[.int .i64 ((rd_T47 l0 x23_2).f0),.int .i64 ((rd_T47 l0 x23_2).f1),.int .i64 ((rd_T47 l0 x23_2).f2),.int .i64 0]) ?_ 3 _ rfl;(with_reducible repeat (first|refine blk_drewN ?_ _|refine blk_drew ?_|refine blk_alloc ?_ _));refine blk_put (cs:=#[.int .i64 ((rd_T47 l0 x23_2).f0),.int .i64 ((rd_T47 l0 x23_2).f1),.int .i64 0,.int .i64 0]) ?_ 2 _ rfl;(with_reducible repeat (first|refine blk_drewN ?_ _|refine blk_drew ?_|refine blk_alloc ?_ _));refine blk_put (cs:=#[.int .i64 ((rd_T47 l0 x23_2).f0),.int .i64 0,.int .i64 0,.int .i64 0]) ?_ 1 _ rfl;(with_reducible repeat (first|refine blk_drewN ?_ _|refine blk_drew ?_|refine blk_alloc ?_ _));refine blk_put (cs:=#[.int .i64 0,.int .i64 0,.int .i64 0,.int .i64 0]) ?_ 0 _ rfl;(with_reducible repeat (first|refine blk_drewN ?_ _|refine blk_drew ?_|refine blk_alloc ?_ _));exact BK377.out⟩
            have n3_:Aside0 (Below w.heap.size w ((((w16.setCell ⟨gb377,0,none⟩ (.int .i64 ((rd_T47 l0 x23_2).f0))).setCell ⟨gb377,1,none⟩ (.int .i64 ((rd_T47 l0 x23_2).f1))).setCell ⟨gb377,2,none⟩ (.int .i64 ((rd_T47 l0 x23_2).f2))).setCell ⟨gb377,3,none⟩ (.int .i64 ((rd_T47 l0 x23_2).f3)))):=⟨by repeat (first|(with_reducible first|exact HB.out|apply below_alloc|apply pw_below_drewN|apply below_drew1|refine below_set ?_ GE377.out)|exact HB.out)⟩
            (try clear HO_5)
            (try clear HO_6)
            (try clear BK377)
            (try clear HB)
            (try simp only [show ∀ (W_:World) (n_:Nat) (a_:Addr) (v_:Value),(W_.drewN n_).setCell a_ v_=(W_.setCell a_ v_).drewN n_ from fun _ _ _ _=>rfl])
            generalize ((((w16.setCell ⟨gb377,0,none⟩ (.int .i64 ((rd_T47 l0 x23_2).f0))).setCell ⟨gb377,1,none⟩ (.int .i64 ((rd_T47 l0 x23_2).f1))).setCell ⟨gb377,2,none⟩ (.int .i64 ((rd_T47 l0 x23_2).f2))).setCell ⟨gb377,3,none⟩ (.int .i64 ((rd_T47 l0 x23_2).f3)))=w18 at n0_ n1_ n2_ n3_ ⊢
            have HO_5:=n0_
            have HO_6:=n1_
            have BK377:=n2_
            have HB:=n3_
            clear n0_ n1_ n2_ n3_
            replace HO_5:=Aside0.mk (Kd.S_drew HO_5.out)
            replace HO_6:=Aside0.mk (Kd.R_drew HO_6.out)
            replace BK377:=Aside0.mk (blk_drew BK377.out)
            replace HB:=Aside0.mk (below_drew1 HB.out)
            obtain ⟨Ao20,co20,eo20⟩:=Kd.R_slice HO_6.out
            (first|subst eo20|(injection eo20 with f1_ f2_ f3_;have f4_:=f1_.symm;have f5_:=f3_.symm;clear f1_ f2_ f3_;subst f4_;subst f5_))
            have p378:0≤(x23_2:Int):=of_decide_eq_true za
            have q378:x23_2<(x6_2.length:Int):=of_decide_eq_true za
            obtain ⟨ad378,e378,hx378_0⟩:=Kd.at_int (Kd.R_reads' HO_6.out).2.2 x23_2 p378 q378
            cases e378
            replace p378:=eq_true p378
            replace q378:=eq_true q378
            have p15:0≤(x23_2:Int):=of_decide_eq_true za
            have q15:(x23_2:Int)<((x6_2.length:Int):Int):=of_decide_eq_true za
            obtain ⟨go15,co15,eo15,gb15,gl15,cl15,HG15⟩:=Kd.R_form HO_6.out (by omega)
            (first|cases eo15|(injection eo15 with ea_ en_ ec_;(first|subst ea_|(injection ea_ with ea_;subst ea_));subst ec_;clear en_))
            have GB15:=Aside0.mk gb15
            have GG15:=Aside0.mk HG15
            clear gb15 gl15 HG15
            (first|simp only [add_plain] at hx378_0|skip)
            obtain ⟨hx15_0,hf15_0⟩:=Kd.R_celln 0 HO_6.out (x23_2:Int) p15 q15
            replace p15:=eq_true p15
            replace q15:=eq_true q15
            have HP21:=Kd.R_putn HO_6.out (x23_2:Int) ji14
            rw [←Ny379.out] at HP21
            have HQ21:=Aside0.mk HP21
            clear HP21
            refine start_ (n:=11) (S:=fun w'=>w'.cell? ⟨gb377,0,none⟩=some (.int .i64 ((rd_T47 l0 x23_2).f0))∧w'.cell? ⟨gb377,1,none⟩=some (.int .i64 ((rd_T47 l0 x23_2).f1))∧w'.cell? ⟨gb377,2,none⟩=some (.int .i64 ((rd_T47 l0 x23_2).f2))∧w'.cell? ⟨gb377,3,none⟩=some (.int .i64 ((rd_T47 l0 x23_2).f3))∧w'.cell? ⟨go15,(x23_2).toNat,none⟩=some (.int .i64 (rd x6_2 x23_2))) (ds:=[10]) #[false,false,false,false,false,false,false,false,false,false,false] (by kernel_rfl) rfl rfl ⟨(blk_cell BK377.out 0).trans rfl,(blk_cell BK377.out 1).trans rfl,(blk_cell BK377.out 2).trans rfl,(blk_cell BK377.out 3).trans rfl,hx378_0⟩ (fun hHeld=>?_);refine with_tabW impl_tailsOf.tab8 impl_tailsOf.bits8 (fun HT_ HW_=>?_)
            generalize w18.drew=w19 at HO_5 HO_6 BK377 HB GG15 HQ21 hf15_0 hx15_0 hx378_0 hHeld ⊢
            refine pure_ (i:=0) (N:=some 28) (v:=?_) (a':=?_) #[true,false,false,false,false,false,false,false,false,false,false] rfl rfl (any_of HT_.out (by kernel_rfl)) (fun _ _ _ h=>h) (Or.inl ⟨by rfl,?_⟩) ?_ ?_
            rotate_left
            ·intro w'
             go_simp
             with_reducible rfl
            rotate_left
            ·simp only [Act.put,List.setIfInBounds_toArray,List.set_cons_zero,List.set_cons_succ,i64_w,i32_w]
             rfl
            refine pure_ (i:=1) (N:=some 29) (v:=?_) (a':=?_) #[true,true,false,false,false,false,false,false,false,false,false] rfl rfl (any_of HT_.out (by kernel_rfl)) (fun _ _ _ h=>h) (Or.inl ⟨by rfl,?_⟩) ?_ ?_
            rotate_left
            ·intro w'
             go_simp
             with_reducible rfl
            rotate_left
            ·simp only [Act.put,List.setIfInBounds_toArray,List.set_cons_zero,List.set_cons_succ,i64_w,i32_w]
             rfl
            refine pure_ (i:=2) (N:=some 30) (v:=?_) (a':=?_) #[true,true,true,false,false,false,false,false,false,false,false] rfl rfl (any_of HT_.out (by kernel_rfl)) (fun _ _ _ h=>h) (Or.inl ⟨by rfl,?_⟩) ?_ ?_
            rotate_left
            ·intro w'
             go_simp
             with_reducible rfl
            rotate_left
            ·simp only [Act.put,List.setIfInBounds_toArray,List.set_cons_zero,List.set_cons_succ,i64_w,i32_w]
             rfl
            refine pure_ (i:=3) (N:=some 31) (v:=?_) (a':=?_) #[true,true,true,true,false,false,false,false,false,false,false] rfl rfl (any_of HT_.out (by kernel_rfl)) (fun _ _ _ h=>h) (Or.inl ⟨by rfl,?_⟩) ?_ ?_
            rotate_left
            ·intro w'
             go_simp
             with_reducible rfl
            rotate_left
            ·simp only [Act.put,List.setIfInBounds_toArray,List.set_cons_zero,List.set_cons_succ,i64_w,i32_w]
             rfl
            refine pure_ (i:=4) (N:=some 32) (v:=?_) (a':=?_) #[true,true,true,true,true,false,false,false,false,false,false] rfl rfl (any_of HT_.out (by kernel_rfl)) (fun _ _ _ h=>h) (Or.inl ⟨by rfl,?_⟩) ?_ ?_
            rotate_left
            ·intro w'
             go_simp
             with_reducible rfl
            rotate_left
            ·simp only [Act.put,List.setIfInBounds_toArray,List.set_cons_zero,List.set_cons_succ,i64_w,i32_w]
             rfl
            refine pure_ (i:=6) (N:=some 34) (v:=?_) (a':=?_) #[true,true,true,true,true,false,true,false,false,false,false] rfl rfl (any_of HT_.out (by kernel_rfl)) (fun _ _ _ h=>h) (Or.inl ⟨by rfl,?_⟩) ?_ ?_
            rotate_left
            ·intro w'
             go_simp
             with_reducible rfl
            rotate_left
            ·simp only [Act.put,List.setIfInBounds_toArray,List.set_cons_zero,List.set_cons_succ,i64_w,i32_w]
             rfl
            refine take_ (i:=5) (N:=some 33) (v:=?_) (a':=?_) #[true,true,true,true,true,true,true,false,false,false,false] rfl rfl (take_ofW HT_.out HW_.out (by kernel_rfl)) (fun _ _ _ h=>h) (Or.inl ⟨by rfl,?_⟩) hHeld ?_ ?_
            rotate_left
            ·rintro w' ⟨s0,s1,s2,s3,s4⟩
             go_simp
             with_reducible rfl
            rotate_left
            ·simp only [Act.put,List.setIfInBounds_toArray,List.set_cons_zero,List.set_cons_succ,i64_w,i32_w]
             rfl
            refine take_ (i:=7) (N:=some 35) (v:=?_) (a':=?_) #[true,true,true,true,true,true,true,true,false,false,false] rfl rfl (take_ofW HT_.out HW_.out (by kernel_rfl)) (fun _ _ _ h=>h) (Or.inl ⟨by rfl,?_⟩) hHeld ?_ ?_
            rotate_left
            ·rintro w' ⟨s0,s1,s2,s3,s4⟩
             go_simp
             with_reducible rfl
            rotate_left
            ·simp only [Act.put,List.setIfInBounds_toArray,List.set_cons_zero,List.set_cons_succ,i64_w,i32_w]
             rfl
            refine pure_ (i:=8) (N:=some 36) (v:=?_) (a':=?_) #[true,true,true,true,true,true,true,true,true,false,false] rfl rfl (any_of HT_.out (by kernel_rfl)) (fun _ _ _ h=>h) (Or.inl ⟨by rfl,?_⟩) ?_ ?_
            rotate_left
            ·intro w'
             go_simp
             with_reducible rfl
            rotate_left
            ·simp only [Act.put,List.setIfInBounds_toArray,List.set_cons_zero,List.set_cons_succ,i64_w,i32_w]
             rfl
            refine pure_ (i:=9) (N:=some 37) (v:=?_) (a':=?_) #[true,true,true,true,true,true,true,true,true,true,false] rfl rfl (any_of HT_.out (by kernel_rfl)) (fun _ _ _ h=>h) (Or.inl ⟨by rfl,?_⟩) ?_ ?_
            rotate_left
            ·intro w'
             go_simp
             with_reducible rfl
            rotate_left
            ·simp only [Act.put,List.setIfInBounds_toArray,List.set_cons_zero,List.set_cons_succ,i64_w,i32_w]
             rfl
            refine last_ (i:=10) (N:=none) #[true,true,true,true,true,true,true,true,true,true,true] rfl rfl (one_of HT_.out (by kernel_rfl)) (by decide) (fun K hK=>?_)
            refine skip_ (w1:=?_) (by rfl) rfl ?_ ?_
            rotate_left
            ·go_simp
             rfl
            refine hK.out _ _ ?_
            clear hK K
            refine done_ (done_of HT_.out (by kernel_rfl)) ?_
            try go_wp2
            go_loopg [40] k2 (fun kq v40 w'=>∃ (x6_3:List Int) (x40_3:Int),v40=.int .i64 x40_3∧Aside0 (impl_tailsOf.l2 kq l0 t370 x6_3 x23_2 (l0.length:Int) x19_1 l0 (l0.length:Int) x23_2 (l0.length:Int) x40_3 ((rd_T47 l0 x23_2).f0) ((rd_T47 l0 x23_2).f1) ((rd_T47 l0 x23_2).f2) ((rd_T47 l0 x23_2).f3)=some r)∧Aside0 (kq≤k2)∧Aside0 (Kd.S (Kd.slice 4 Kd.bool) 101 w' w.heap.size (fun _=>True) v371 t370)∧Aside0 (Kd.R (Kd.int .i64) 3 w' w.heap.size (fun _=>True) (.slice (some ⟨go15,0,none⟩) x6_2.length co20) x6_3)∧Aside0 (w'.heap[gb377]?=some (.cells #[.int .i64 ((rd_T47 l0 x23_2).f0),.int .i64 ((rd_T47 l0 x23_2).f1),.int .i64 ((rd_T47 l0 x23_2).f2),.int .i64 ((rd_T47 l0 x23_2).f3)] 47 (0,0)))∧Aside0 (Below w.heap.size w w'))
            case atStart=>exact ⟨(y379),(0),zo,H',⟨Nat.le_refl _⟩,⟨zS (Kd.S_mono (Kd.S_far (p:=⟨go15,(x23_2:Int).toNat,none⟩) (Kd.S_types HO_5.out GG15.out (by decide)) (fun _ hk=>hk.2) (.int .i64 ji14)) (fun _ hk=>trivial))⟩,⟨zR HQ21.out⟩,⟨by (with_reducible repeat (first|refine blk_drewN ?_ _|refine blk_drew ?_|refine blk_alloc ?_ _));refine blk_far ?_ (by have h_:=Kd.R_ne HO_6.out BK377.out (by decide);intro e_;exact h_ (by rw [e_];rfl)) _;(with_reducible repeat (first|refine blk_drewN ?_ _|refine blk_drew ?_|refine blk_alloc ?_ _));exact BK377.out⟩,⟨by repeat (first|(with_reducible first|exact HB.out|apply below_alloc|apply pw_below_drewN|apply below_drew1|refine below_set ?_ GB15.out|refine below_set ?_ GE377.out)|exact HB.out)⟩⟩
            case round=>
             clear H'
             (try clear c1);(try clear p1);(try clear q1);(try clear hx1);(try clear p2);(try clear p3);(try clear q3);(try clear hx3);(try clear c4);(try clear c4b0);(try clear c4b1);(try clear c5);(try clear c5b0);(try clear c5b1);(try clear c6);(try clear c7);(try clear c9);(try clear c9b0);(try clear c10);(try clear c10b0);(try clear c11);(try clear c11b0);(try clear c12);(try clear c12b0);(try clear c13);(try clear c13b0);(try clear p15);(try clear q15);(try clear hx15);(try clear hf15);(try clear hcz17_0);(try clear hcz17_1);(try clear hcz17_2);(try clear hcz17_3);(try clear hfz17_0);(try clear hfz17_1);(try clear hfz17_2);(try clear hfz17_3);(try clear hx15_0);(try clear hx376_0);(try clear hx376_1);(try clear hx376_2);(try clear hx376_3);(try clear hx378_0);(try clear p376);(try clear p378);(try clear q376);(try clear q378)
             obtain ⟨x6_3,x40_3,rfl,HA,HK3,HO_5,HO_6,BK377,HB⟩:=hrel
             have hl6_3:=(Kd.R_reads' HO_6.out).1
             rw [hl6_3] at HO_6
             (try simp only [hl6_3])
             (try simp only [hl6_3] at BK377)
             (try simp only [hl6_3] at HO_5)
             cases gk with
             | zero=>exact absurd HA.out (by simp [impl_tailsOf.l2])
             | succ k3=>
              have H:=HA.out
              clear HA
              simp only [impl_tailsOf.l2] at H
              by_cases c22:x40_3<(l0.length:Int)
              ·rw [if_pos c22] at H
               have c22b0:decide (x40_3<(l0.length:Int))=true:=decide_eq_true c22
               clear c22
               by_cases c23:0≤x23_2
               ·rw [if_pos c23] at H
                have c23b0:decide (0≤x23_2)=true:=decide_eq_true c23
                clear c23
                by_cases c24:x23_2<(t370.length:Int)
                ·rw [if_pos c24] at H
                 have c24b0:decide (x23_2<(t370.length:Int))=true:=decide_eq_true c24
                 clear c24
                 by_cases c25:0≤x40_3
                 ·rw [if_pos c25] at H
                  have c25b0:decide (0≤x40_3)=true:=decide_eq_true c25
                  clear c25
                  by_cases c26:x40_3<((rd_L5 t370 x23_2).length:Int)
                  ·rw [if_pos c26] at H
                   have c26b0:decide (x40_3<((rd_L5 t370 x23_2).length:Int))=true:=decide_eq_true c26
                   clear c26
                   obtain ⟨bq27,hbq27⟩:∃ b_:Bool,b_=(rdOf false (rd_L5 t370 x23_2) x40_3):=⟨_,rfl⟩
                   replace H:(if bq27=true then (if x23_2<(x6_3.length:Int) then (if x40_3<(x6_3.length:Int) then (impl_tailsOf.l2 k3 l0 t370 (x6_3.set (x23_2:Int).toNat (mx (rd x6_3 x23_2) (wrap64 (((rd_T47 l0 x23_2).f0) + (rd x6_3 x40_3))))) x23_2 (l0.length:Int) x19_1 l0 (l0.length:Int) x23_2 (l0.length:Int) (wrap64 (x40_3 + 1)) ((rd_T47 l0 x23_2).f0) ((rd_T47 l0 x23_2).f1) ((rd_T47 l0 x23_2).f2) ((rd_T47 l0 x23_2).f3)) else (none)) else (none)) else (impl_tailsOf.l2 k3 l0 t370 x6_3 x23_2 (l0.length:Int) x19_1 l0 (l0.length:Int) x23_2 (l0.length:Int) (wrap64 (x40_3 + 1)) ((rd_T47 l0 x23_2).f0) ((rd_T47 l0 x23_2).f1) ((rd_T47 l0 x23_2).f2) ((rd_T47 l0 x23_2).f3)))=some r:=by rw [←hbq27] at H;exact H
                   have Nbq27:=Aside0.mk hbq27
                   clear hbq27
                   by_cases c28:bq27=true
                   ·subst c28
                    rw [if_pos rfl] at H
                    by_cases c29:x23_2<(x6_3.length:Int)
                    ·rw [if_pos c29] at H
                     have c29b0:decide (x23_2<(x6_3.length:Int))=true:=decide_eq_true c29
                     clear c29
                     by_cases c30:x40_3<(x6_3.length:Int)
                     ·rw [if_pos c30] at H
                      have c30b0:decide (x40_3<(x6_3.length:Int))=true:=decide_eq_true c30
                      clear c30
                      obtain ⟨ji31,hji31⟩:∃ j_:Int,(mx (rd x6_3 x23_2) (wrap64 (((rd_T47 l0 x23_2).f0) + (rd x6_3 x40_3))))=j_:=⟨_,rfl⟩
                      replace H:(impl_tailsOf.l2 k3 l0 t370 (x6_3.set (x23_2:Int).toNat (ji31)) x23_2 (l0.length:Int) x19_1 l0 (l0.length:Int) x23_2 (l0.length:Int) (wrap64 (x40_3 + 1)) ((rd_T47 l0 x23_2).f0) ((rd_T47 l0 x23_2).f1) ((rd_T47 l0 x23_2).f2) ((rd_T47 l0 x23_2).f3))=some r:=by first|(rw [hji31] at H;exact H)|(simp only [hji31] at H ⊢;exact H)
                      have hji31_:(if (rd x6_3 x23_2)<(wrap64 (((rd_T47 l0 x23_2).f0) + (rd x6_3 x40_3))) then (wrap64 (((rd_T47 l0 x23_2).f0) + (rd x6_3 x40_3))) else (rd x6_3 x23_2))=ji31:=hji31
                      obtain ⟨y384,hy384⟩:∃ y_:List Int,y_=(x6_3.set (x23_2:Int).toNat (ji31)):=⟨_,rfl⟩
                      replace H:(impl_tailsOf.l2 k3 l0 t370 y384 x23_2 (l0.length:Int) x19_1 l0 (l0.length:Int) x23_2 (l0.length:Int) (wrap64 (x40_3 + 1)) ((rd_T47 l0 x23_2).f0) ((rd_T47 l0 x23_2).f1) ((rd_T47 l0 x23_2).f2) ((rd_T47 l0 x23_2).f3))=some r:=by first|(rw [hy384];with_reducible exact H)|(have H2_:=(Option.bind_some _ _).symm.trans H;rw [hy384];with_reducible exact H2_)|(have H2_:=(Option.bind_some _ _).symm.trans H;with_reducible exact H2_)|with_reducible exact H|(rw [hy384];exact H)|exact H
                      have Ny384:=Aside0.mk hy384
                      clear hy384
                      have H':=Aside0.mk H
                      clear H
                      obtain ⟨Ao33,co33,eo33⟩:=Kd.S_slice HO_5.out
                      subst eo33
                      have p380:0≤(x23_2:Int):=of_decide_eq_true za
                      have q380:x23_2<(t370.length:Int):=of_decide_eq_true za
                      obtain ⟨ad380,A380_0,c380_0,e380,hx380_0,hl380_0,hi380_0⟩:=at_L5 (Kd.S_reads' HO_5.out).2.2 x23_2 p380 q380
                      cases e380
                      obtain ⟨ce380,hce380,hMe380,hcc380⟩:=Kd.S_get HO_5.out [] x23_2 p380 (by first|exact q380|exact of_decide_eq_true za|(have e_:=(Kd.S_reads' HO_5.out).1;omega))
                      obtain ⟨ve380_0,rfl,ge380_0⟩:=hMe380
                      have hv380_0:=hcc380 0 _ rfl
                      rw [Nat.add_zero,show ((Kd.slice 4 Kd.bool)).sz=1 from rfl,Nat.mul_one] at hv380_0
                      replace hv380_0:=Option.some.inj (hv380_0.symm.trans hx380_0)
                      rw [hv380_0] at ge380_0
                      have HL380_0:=Aside0.mk (show Kd.R Kd.bool 4 _ _ _ _ (rd_L5 t370 x23_2) from ge380_0)
                      clear hv380_0 ge380_0
                      clear hcc380 hce380
                      have HR380_0:=Aside0.mk hi380_0
                      have HC380_0:=Aside0.mk hl380_0
                      clear hi380_0 hl380_0
                      replace p380:=eq_true p380
                      replace q380:=eq_true q380
                      have p381:0≤(x40_3:Int):=of_decide_eq_true za
                      have q381:x40_3<((rd_L5 t370 x23_2).length:Int):=of_decide_eq_true za
                      obtain ⟨ad381,e381,hx381_0⟩:=Kd.at_bool (by repeat (first|(with_reducible exact HR380_0.out)|(with_reducible refine Kd.C_alloc ?_ _)|(with_reducible refine Kd.C_drewN ?_ _)|(with_reducible refine Kd.C_drew ?_)|exact HR380_0.out)) x40_3 p381 q381
                      (try rw [←Nbq27.out] at hx381_0)
                      cases e381
                      replace p381:=eq_true p381
                      replace q381:=eq_true q381
                      try go_wp2
                      replace HO_5:=Aside0.mk (Kd.S_drew HO_5.out)
                      replace HO_6:=Aside0.mk (Kd.R_drew HO_6.out)
                      replace HL380_0:=Aside0.mk (Kd.R_drew HL380_0.out)
                      replace BK377:=Aside0.mk (blk_drew BK377.out)
                      replace HR380_0:=Aside0.mk (Kd.C_drew HR380_0.out)
                      replace HB:=Aside0.mk (below_drew1 HB.out)
                      have p382:0≤(x23_2:Int):=of_decide_eq_true za
                      have q382:x23_2<(x6_3.length:Int):=of_decide_eq_true za
                      obtain ⟨ad382,e382,hx382_0⟩:=Kd.at_int (Kd.R_reads' HO_6.out).2.2 x23_2 p382 q382
                      obtain rfl:(⟨go15,0,none⟩:Addr)=ad382:=(by injection e382)
                      (first|simp only [add_plain] at hx382_0|simp only [add_at] at hx382_0|simp only [Addr.add,Nat.zero_add] at hx382_0|skip)
                      replace p382:=eq_true p382
                      replace q382:=eq_true q382
                      have p383:0≤(x40_3:Int):=of_decide_eq_true za
                      have q383:x40_3<(x6_3.length:Int):=of_decide_eq_true za
                      obtain ⟨ad383,e383,hx383_0⟩:=Kd.at_int (Kd.R_reads' HO_6.out).2.2 x40_3 p383 q383
                      obtain rfl:(⟨go15,0,none⟩:Addr)=ad383:=(by injection e383)
                      (first|simp only [add_plain] at hx383_0|simp only [add_at] at hx383_0|simp only [Addr.add,Nat.zero_add] at hx383_0|skip)
                      replace p383:=eq_true p383
                      replace q383:=eq_true q383
                      have p32:0≤(x23_2:Int):=of_decide_eq_true za
                      have q32:(x23_2:Int)<((x6_3.length:Int):Int):=of_decide_eq_true za
                      obtain ⟨hx32_0,hf32_0⟩:=Kd.R_celln 0 HO_6.out (x23_2:Int) p32 q32
                      replace p32:=eq_true p32
                      replace q32:=eq_true q32
                      have HP35:=Kd.R_putn HO_6.out (x23_2:Int) ji31
                      rw [←Ny384.out] at HP35
                      have HQ35:=Aside0.mk HP35
                      clear HP35
                      refine start_ (n:=16) (S:=fun w'=>w'.cell? ⟨gb377,0,none⟩=some (.int .i64 ((rd_T47 l0 x23_2).f0))∧w'.cell? ⟨gb377,1,none⟩=some (.int .i64 ((rd_T47 l0 x23_2).f1))∧w'.cell? ⟨gb377,2,none⟩=some (.int .i64 ((rd_T47 l0 x23_2).f2))∧w'.cell? ⟨gb377,3,none⟩=some (.int .i64 ((rd_T47 l0 x23_2).f3))∧w'.cell? ⟨go15,(x23_2).toNat,none⟩=some (.int .i64 (rd x6_3 x23_2))∧w'.cell? ⟨go15,(x40_3).toNat,none⟩=some (.int .i64 (rd x6_3 x40_3))) (ds:=[15]) #[false,false,false,false,false,false,false,false,false,false,false,false,false,false,false,false] (by kernel_rfl) rfl rfl ⟨(blk_cell BK377.out 0).trans rfl,(blk_cell BK377.out 1).trans rfl,(blk_cell BK377.out 2).trans rfl,(blk_cell BK377.out 3).trans rfl,hx382_0,hx383_0⟩ (fun hHeld=>?_);refine with_tabW impl_tailsOf.tab13 impl_tailsOf.bits13 (fun HT_ HW_=>?_)
                      generalize wr.drew=w34 at HO_5 HO_6 HL380_0 BK377 HR380_0 HB HQ35 hf32_0 hx32_0 hx382_0 hx383_0 hHeld ⊢
                      refine pure_ (i:=0) (N:=some 50) (v:=?_) (a':=?_) #[true,false,false,false,false,false,false,false,false,false,false,false,false,false,false,false] rfl rfl (any_of HT_.out (by kernel_rfl)) (fun _ _ _ h=>h) (Or.inl ⟨by rfl,?_⟩) ?_ ?_
                      rotate_left
                      ·intro w'
                       go_simp
                       with_reducible rfl
                      rotate_left
                      ·simp only [Act.put,List.setIfInBounds_toArray,List.set_cons_zero,List.set_cons_succ,i64_w,i32_w]
                       rfl
                      refine pure_ (i:=1) (N:=some 51) (v:=?_) (a':=?_) #[true,true,false,false,false,false,false,false,false,false,false,false,false,false,false,false] rfl rfl (any_of HT_.out (by kernel_rfl)) (fun _ _ _ h=>h) (Or.inl ⟨by rfl,?_⟩) ?_ ?_
                      rotate_left
                      ·intro w'
                       go_simp
                       with_reducible rfl
                      rotate_left
                      ·simp only [Act.put,List.setIfInBounds_toArray,List.set_cons_zero,List.set_cons_succ,i64_w,i32_w]
                       rfl
                      refine pure_ (i:=2) (N:=some 52) (v:=?_) (a':=?_) #[true,true,true,false,false,false,false,false,false,false,false,false,false,false,false,false] rfl rfl (any_of HT_.out (by kernel_rfl)) (fun _ _ _ h=>h) (Or.inl ⟨by rfl,?_⟩) ?_ ?_
                      rotate_left
                      ·intro w'
                       go_simp
                       with_reducible rfl
                      rotate_left
                      ·simp only [Act.put,List.setIfInBounds_toArray,List.set_cons_zero,List.set_cons_succ,i64_w,i32_w]
                       rfl
                      refine pure_ (i:=3) (N:=some 53) (v:=?_) (a':=?_) #[true,true,true,true,false,false,false,false,false,false,false,false,false,false,false,false] rfl rfl (any_of HT_.out (by kernel_rfl)) (fun _ _ _ h=>h) (Or.inl ⟨by rfl,?_⟩) ?_ ?_
                      rotate_left
                      ·intro w'
                       go_simp
                       with_reducible rfl
                      rotate_left
                      ·simp only [Act.put,List.setIfInBounds_toArray,List.set_cons_zero,List.set_cons_succ,i64_w,i32_w]
                       rfl
                      refine pure_ (i:=4) (N:=some 54) (v:=?_) (a':=?_) #[true,true,true,true,true,false,false,false,false,false,false,false,false,false,false,false] rfl rfl (any_of HT_.out (by kernel_rfl)) (fun _ _ _ h=>h) (Or.inl ⟨by rfl,?_⟩) ?_ ?_
                      rotate_left
                      ·intro w'
                       go_simp
                       with_reducible rfl
                      rotate_left
                      ·simp only [Act.put,List.setIfInBounds_toArray,List.set_cons_zero,List.set_cons_succ,i64_w,i32_w]
                       rfl
                      refine pure_ (i:=6) (N:=some 56) (v:=?_) (a':=?_) #[true,true,true,true,true,false,true,false,false,false,false,false,false,false,false,false] rfl rfl (any_of HT_.out (by kernel_rfl)) (fun _ _ _ h=>h) (Or.inl ⟨by rfl,?_⟩) ?_ ?_
                      rotate_left
                      ·intro w'
                       go_simp
                       with_reducible rfl
                      rotate_left
                      ·simp only [Act.put,List.setIfInBounds_toArray,List.set_cons_zero,List.set_cons_succ,i64_w,i32_w]
                       rfl
                      refine pure_ (i:=8) (N:=some 58) (v:=?_) (a':=?_) #[true,true,true,true,true,false,true,false,true,false,false,false,false,false,false,false] rfl rfl (any_of HT_.out (by kernel_rfl)) (fun _ _ _ h=>h) (Or.inl ⟨by rfl,?_⟩) ?_ ?_
                      rotate_left
                      ·intro w'
                       go_simp
                       with_reducible rfl
                      rotate_left
                      ·simp only [Act.put,List.setIfInBounds_toArray,List.set_cons_zero,List.set_cons_succ,i64_w,i32_w]
                       rfl
                      refine pure_ (i:=9) (N:=some 59) (v:=?_) (a':=?_) #[true,true,true,true,true,false,true,false,true,true,false,false,false,false,false,false] rfl rfl (any_of HT_.out (by kernel_rfl)) (fun _ _ _ h=>h) (Or.inl ⟨by rfl,?_⟩) ?_ ?_
                      rotate_left
                      ·intro w'
                       go_simp
                       with_reducible rfl
                      rotate_left
                      ·simp only [Act.put,List.setIfInBounds_toArray,List.set_cons_zero,List.set_cons_succ,i64_w,i32_w]
                       rfl
                      refine pure_ (i:=10) (N:=some 60) (v:=?_) (a':=?_) #[true,true,true,true,true,false,true,false,true,true,true,false,false,false,false,false] rfl rfl (any_of HT_.out (by kernel_rfl)) (fun _ _ _ h=>h) (Or.inl ⟨by rfl,?_⟩) ?_ ?_
                      rotate_left
                      ·intro w'
                       go_simp
                       with_reducible rfl
                      rotate_left
                      ·simp only [Act.put,List.setIfInBounds_toArray,List.set_cons_zero,List.set_cons_succ,i64_w,i32_w]
                       rfl
                      refine take_ (i:=5) (N:=some 55) (v:=?_) (a':=?_) #[true,true,true,true,true,true,true,false,true,true,true,false,false,false,false,false] rfl rfl (take_ofW HT_.out HW_.out (by kernel_rfl)) (fun _ _ _ h=>h) (Or.inl ⟨by rfl,?_⟩) hHeld ?_ ?_
                      rotate_left
                      ·rintro w' ⟨s0,s1,s2,s3,s4,s5⟩
                       go_simp
                       with_reducible rfl
                      rotate_left
                      ·simp only [Act.put,List.setIfInBounds_toArray,List.set_cons_zero,List.set_cons_succ,i64_w,i32_w]
                       rfl
                      refine take_ (i:=7) (N:=some 57) (v:=?_) (a':=?_) #[true,true,true,true,true,true,true,true,true,true,true,false,false,false,false,false] rfl rfl (take_ofW HT_.out HW_.out (by kernel_rfl)) (fun _ _ _ h=>h) (Or.inl ⟨by rfl,?_⟩) hHeld ?_ ?_
                      rotate_left
                      ·rintro w' ⟨s0,s1,s2,s3,s4,s5⟩
                       go_simp
                       with_reducible rfl
                      rotate_left
                      ·simp only [Act.put,List.setIfInBounds_toArray,List.set_cons_zero,List.set_cons_succ,i64_w,i32_w]
                       rfl
                      refine take_ (i:=11) (N:=some 61) (v:=?_) (a':=?_) #[true,true,true,true,true,true,true,true,true,true,true,true,false,false,false,false] rfl rfl (take_ofW HT_.out HW_.out (by kernel_rfl)) (fun _ _ _ h=>h) (Or.inl ⟨by rfl,?_⟩) hHeld ?_ ?_
                      rotate_left
                      ·rintro w' ⟨s0,s1,s2,s3,s4,s5⟩
                       go_simp
                       with_reducible rfl
                      rotate_left
                      ·simp only [Act.put,List.setIfInBounds_toArray,List.set_cons_zero,List.set_cons_succ,i64_w,i32_w]
                       rfl
                      refine pure_ (i:=12) (N:=some 62) (v:=?_) (a':=?_) #[true,true,true,true,true,true,true,true,true,true,true,true,true,false,false,false] rfl rfl (any_of HT_.out (by kernel_rfl)) (fun _ _ _ h=>h) (Or.inl ⟨by rfl,?_⟩) ?_ ?_
                      rotate_left
                      ·intro w'
                       go_simp
                       with_reducible rfl
                      rotate_left
                      ·simp only [Act.put,List.setIfInBounds_toArray,List.set_cons_zero,List.set_cons_succ,i64_w,i32_w]
                       rfl
                      refine pure_ (i:=13) (N:=some 63) (v:=?_) (a':=?_) #[true,true,true,true,true,true,true,true,true,true,true,true,true,true,false,false] rfl rfl (any_of HT_.out (by kernel_rfl)) (fun _ _ _ h=>h) (Or.inl ⟨by rfl,?_⟩) ?_ ?_
                      rotate_left
                      ·intro w'
                       go_simp
                       with_reducible rfl
                      rotate_left
                      ·simp only [Act.put,List.setIfInBounds_toArray,List.set_cons_zero,List.set_cons_succ,i64_w,i32_w]
                       rfl
                      refine pure_ (i:=14) (N:=some 64) (v:=?_) (a':=?_) #[true,true,true,true,true,true,true,true,true,true,true,true,true,true,true,false] rfl rfl (any_of HT_.out (by kernel_rfl)) (fun _ _ _ h=>h) (Or.inl ⟨by rfl,?_⟩) ?_ ?_
                      rotate_left
                      ·intro w'
                       go_simp
                       with_reducible rfl
                      rotate_left
                      ·simp only [Act.put,List.setIfInBounds_toArray,List.set_cons_zero,List.set_cons_succ,i64_w,i32_w]
                       rfl
                      refine last_ (i:=15) (N:=none) #[true,true,true,true,true,true,true,true,true,true,true,true,true,true,true,true] rfl rfl (one_of HT_.out (by kernel_rfl)) (by decide) (fun K hK=>?_)
                      refine skip_ (w1:=?_) (by rfl) rfl ?_ ?_
                      rotate_left
                      ·go_simp
                       rfl
                      refine hK.out _ _ ?_
                      clear hK K
                      refine done_ (done_of HT_.out (by kernel_rfl)) ?_
                      try go_wp2
                      (try simp only [←hl6_3])
                      go_roundg k3
                      case measure=>have:=HK1.out;have:=HK2.out;have:=HK3.out;omega
                      case rel=>exact ⟨(y384),(wrap64 (x40_3 + 1)),zo,H',⟨by have:=HK1.out;have:=HK2.out;have:=HK3.out;omega⟩,⟨by (try simp only [hl6_3]);(with_reducible repeat (first|apply Kd.S_alloc|apply Kd.S_drewN|apply Kd.S_drew));exact Kd.S_mono (Kd.S_far (p:=⟨go15,(x23_2:Int).toNat,none⟩) (Kd.S_types HO_5.out (Kd.R_typed HO_6.out _ rfl).choose_spec (by decide)) (fun _ hk=>hk.2) (.int .i64 ji31)) (fun _ hk=>trivial)⟩,⟨by (try simp only [hl6_3]);(with_reducible repeat (first|apply Kd.R_alloc|apply Kd.R_drewN|apply Kd.R_drew));exact HQ35.out⟩,⟨by (try simp only [hl6_3]);(with_reducible repeat (first|refine blk_drewN ?_ _|refine blk_drew ?_|refine blk_alloc ?_ _));refine blk_far ?_ (by have h_:=Kd.R_ne HO_6.out BK377.out (by decide);intro e_;exact h_ (by rw [e_];rfl)) _;(with_reducible repeat (first|refine blk_drewN ?_ _|refine blk_drew ?_|refine blk_alloc ?_ _));exact BK377.out⟩,⟨by repeat (first|(with_reducible first|exact HB.out|apply below_alloc|apply pw_below_drewN|apply below_drew1|refine below_set ?_ GB15.out|refine below_set ?_ GE377.out)|exact HB.out)⟩⟩
                     ·rw [if_neg c30] at H
                      exact absurd H (by simp)
                    ·rw [if_neg c29] at H
                     exact absurd H (by simp)
                   ·replace c28:=Bool.eq_false_iff.mpr c28
                    subst c28
                    rw [if_neg (show ¬ (false=true) by decide)] at H
                    have H':=Aside0.mk H
                    clear H
                    obtain ⟨Ao36,co36,eo36⟩:=Kd.S_slice HO_5.out
                    subst eo36
                    have p380:0≤(x23_2:Int):=of_decide_eq_true za
                    have q380:x23_2<(t370.length:Int):=of_decide_eq_true za
                    obtain ⟨ad380,A380_0,c380_0,e380,hx380_0,hl380_0,hi380_0⟩:=at_L5 (Kd.S_reads' HO_5.out).2.2 x23_2 p380 q380
                    cases e380
                    obtain ⟨ce380,hce380,hMe380,hcc380⟩:=Kd.S_get HO_5.out [] x23_2 p380 (by first|exact q380|exact of_decide_eq_true za|(have e_:=(Kd.S_reads' HO_5.out).1;omega))
                    obtain ⟨ve380_0,rfl,ge380_0⟩:=hMe380
                    have hv380_0:=hcc380 0 _ rfl
                    rw [Nat.add_zero,show ((Kd.slice 4 Kd.bool)).sz=1 from rfl,Nat.mul_one] at hv380_0
                    replace hv380_0:=Option.some.inj (hv380_0.symm.trans hx380_0)
                    rw [hv380_0] at ge380_0
                    have HL380_0:=Aside0.mk (show Kd.R Kd.bool 4 _ _ _ _ (rd_L5 t370 x23_2) from ge380_0)
                    clear hv380_0 ge380_0
                    clear hcc380 hce380
                    have HR380_0:=Aside0.mk hi380_0
                    have HC380_0:=Aside0.mk hl380_0
                    clear hi380_0 hl380_0
                    replace p380:=eq_true p380
                    replace q380:=eq_true q380
                    have p381:0≤(x40_3:Int):=of_decide_eq_true za
                    have q381:x40_3<((rd_L5 t370 x23_2).length:Int):=of_decide_eq_true za
                    obtain ⟨ad381,e381,hx381_0⟩:=Kd.at_bool (by repeat (first|(with_reducible exact HR380_0.out)|(with_reducible refine Kd.C_alloc ?_ _)|(with_reducible refine Kd.C_drewN ?_ _)|(with_reducible refine Kd.C_drew ?_)|exact HR380_0.out)) x40_3 p381 q381
                    (try rw [←Nbq27.out] at hx381_0)
                    cases e381
                    replace p381:=eq_true p381
                    replace q381:=eq_true q381
                    go_wp2
                    (try simp only [←hl6_3])
                    go_roundg k3
                    case measure=>have:=HK1.out;have:=HK2.out;have:=HK3.out;omega
                    case rel=>exact ⟨(x6_3),(wrap64 (x40_3 + 1)),zo,H',⟨by have:=HK1.out;have:=HK2.out;have:=HK3.out;omega⟩,⟨by (try simp only [hl6_3]);(with_reducible repeat (first|apply Kd.S_alloc|apply Kd.S_drewN|apply Kd.S_drew));exact HO_5.out⟩,⟨by (try simp only [hl6_3]);(with_reducible repeat (first|apply Kd.R_alloc|apply Kd.R_drewN|apply Kd.R_drew));exact HO_6.out⟩,⟨by (try simp only [hl6_3]);(with_reducible repeat (first|refine blk_drewN ?_ _|refine blk_drew ?_|refine blk_alloc ?_ _));exact BK377.out⟩,⟨by repeat (first|(with_reducible first|exact HB.out|apply below_alloc|apply pw_below_drewN|apply below_drew1|refine below_set ?_ GE377.out)|exact HB.out)⟩⟩
                  ·rw [if_neg c26] at H
                   exact absurd H (by simp)
                 ·rw [if_neg c25] at H
                  exact absurd H (by simp)
                ·rw [if_neg c24] at H
                 exact absurd H (by simp)
               ·rw [if_neg c23] at H
                exact absurd H (by simp)
              ·rw [if_neg c22] at H
               have c22b0:decide (x40_3<(l0.length:Int))=false:=decide_eq_false c22
               clear c22
               have H':=Aside0.mk H
               clear H
               go_wp2
               (try simp only [←hl6_3])
               go_roundg k3
               case measure=>have:=HK1.out;have:=HK2.out;have:=HK3.out;omega
               case rel=>exact ⟨(x6_3),(wrap64 (x23_2 + 1)),zo,H',⟨by have:=HK1.out;have:=HK2.out;have:=HK3.out;omega⟩,⟨by (try simp only [hl6_3]);(with_reducible repeat (first|apply Kd.S_alloc|apply Kd.S_drewN|apply Kd.S_drew));exact HO_5.out⟩,⟨by (try simp only [hl6_3]);(with_reducible repeat (first|apply Kd.R_alloc|apply Kd.R_drewN|apply Kd.R_drew));exact HO_6.out⟩,⟨by repeat (first|(with_reducible first|exact HB.out|apply below_alloc|apply pw_below_drewN|apply below_drew1|refine below_set ?_ GE377.out)|exact HB.out)⟩⟩
           ·rw [if_neg c13] at H
            exact absurd H (by simp)
          ·rw [if_neg c12] at H
           exact absurd H (by simp)
         ·rw [if_neg c11] at H
          exact absurd H (by simp)
        ·rw [if_neg c10] at H
         have c10b0:decide (x23_2<(l0.length:Int))=false:=decide_eq_false c10
         clear c10
         have H':=Aside0.mk H
         clear H
         go_wp2
         go_roundg k2
         case measure=>have:=HK1.out;have:=HK2.out;omega
         case rel=>exact ⟨(x6_2),(wrap64 (x19_1 + 1)),zo,H',⟨by have:=HK1.out;have:=HK2.out;omega⟩,⟨zS HO_5.out⟩,⟨zR HO_6.out⟩,⟨zb⟩⟩
     ·rw [if_neg c9] at H
      have c9b0:decide (x19_1<(l0.length:Int))=false:=decide_eq_false c9
      clear c9
      obtain rfl:=Option.some.inj H
      go_wp2
      go_ret
      exact ⟨_,by first|rfl|(simp [errW_none,errW_some] <;> rfl)|(simp [*,errW_none,errW_some] <;> rfl),zR HO_6.out,zb⟩
  ·rw [if_neg c5] at H
   exact absurd H (by simp)
 ·rw [if_neg c4] at H
  exact absurd H (by simp)

/-! ### impl_TailsOf: function 20 -/
def impl_TailsOf.f (k:Nat) (l0:List (S47)) (l1:List (S45)):Option (List Int × Bool):=(impl_isParallel.f k l0 1 l1).bind fun t385=>(if t385=true then ((impl_tailsOf.f k l0 l1).bind fun t386=>(some (t386,true))) else (some (([]:List Int),false)))
theorem impl_TailsOf.mono:∀ a0 a1 k,LeO (impl_TailsOf.f k a0 a1) (impl_TailsOf.f (k + 1) a0 a1):=by
 intro a0 a1 k
 unfold impl_TailsOf.f
 repeat' first
   | (with_reducible exact impl_isParallel.mono _ _ _ _)
   | (with_reducible exact impl_tailsOf.mono _ _ _)
   | (with_reducible exact LeO.refl _)
   | (with_reducible exact LeO.none _)
   | (with_reducible refine LeO.ite ?_ ?_)
   | (with_reducible refine LeO.bind ?_ (fun _=>?_))
   | exact impl_isParallel.mono _ _ _ _
   | exact impl_tailsOf.mono _ _ _
   | exact LeO.none _
   | refine LeO.ite ?_ ?_
   | refine LeO.bind ?_ (fun _=>?_)
set_option maxHeartbeats 8000000 in
set_option maxRecDepth 100000 in
theorem impl_TailsOf.calls (k:Nat) (A0:Option Addr) (c0:Nat) (l0:List (S47)) (A1:Option Addr) (c1:Nat) (l1:List (S45)) (r1:List Int) (r2:Bool) (w:World) (hr0:Kd.C k47 w A0 l0.length l0) (hc0:l0.length≤c0) (hr1:Kd.C k45 w A1 l1.length l1) (hc1:l1.length≤c1) (h:impl_TailsOf.f k l0 l1=some (r1,r2)) :
  Calls Try.prog 20 #[.slice A0 l0.length c0,.slice A1 l1.length c1] w fun e w'=>∃ v0_:Value,e=.returned (.tuple #[v0_,.bool r2])∧Kd.R (Kd.int .i64) 3 w' w.heap.size (fun _=>True) v0_ r1∧Below w.heap.size w w':=by
 have HR0:=Aside0.mk hr0
 have HC0:=Aside0.mk hc0
 clear hr0 hc0
 have HR1:=Aside0.mk hr1
 have HC1:=Aside0.mk hc1
 clear hr1 hc1
 have HB:=Aside0.mk (Below.refl w.heap.size w)
 have H:((impl_isParallel.f k l0 1 l1).bind fun t385=>(if t385=true then ((impl_tailsOf.f k l0 l1).bind fun t386=>(some (t386,true))) else (some (([]:List Int),false))))=some (r1,r2):=h
 clear h
 replace H:=Option.bind_eq_some_iff.mp H
 obtain ⟨t385,A30,H⟩:=H
 try dsimp only at H
 have A3:=Aside0.mk A30
 clear A30
 by_cases c4:t385=true
 ·subst c4
  rw [if_pos rfl] at H
  replace H:=Option.bind_eq_some_iff.mp H
  obtain ⟨t386,A50,H⟩:=H
  try dsimp only at H
  have A5:=Aside0.mk A50
  clear A50
  simp only [Option.some.injEq,Prod.mk.injEq] at H
  obtain ⟨rfl,rfl⟩:=H
  go_enter Try.func20,Try.ntmps20
  go_wp2_with (first|((with_reducible refine gate_callee (f:=60) rfl ?_);refine goesL_ (some 8) rfl rfl Try.func60 (by kernel_rfl) rfl #[.slice A0 l0.length c0,.int .i64 1,.slice A1 l1.length c1] rfl zl ?_;(with_reducible refine (impl_isParallel.calls k _ _ l0 1 _ _ l1 true _ ?side1 ?side2 ?side3 ?side4 A3.out).mono ?_);(case side1=>exact zC HR0.out);(case side2=>exact HC0.out);(case side3=>exact zC HR1.out);(case side4=>exact HC1.out);rintro e w6 ⟨rfl,hb⟩;refine ⟨_,rfl,?_⟩;replace HB:=Aside0.mk (below_step zb hb);(try clear hb))|((with_reducible refine gate_callee (f:=69) rfl ?_);refine goesL_ (some 12) rfl rfl Try.func69 (by kernel_rfl) rfl #[.slice A0 l0.length c0,.slice A1 l1.length c1] rfl zl ?_;(with_reducible refine (impl_tailsOf.calls k _ _ l0 _ _ l1 t386 _ ?side1 ?side2 ?side3 ?side4 A5.out).mono ?_);(case side1=>exact zC (Kd.C_below HR0.out HB.out));(case side2=>exact HC0.out);(case side3=>exact zC (Kd.C_below HR1.out HB.out));(case side4=>exact HC1.out);rintro e w7 ⟨v387,rfl,ho0,hb⟩;refine ⟨_,rfl,?_⟩;have HO388:=Aside0.mk (Kd.R_lower ho0 (below_size zb));replace HB:=Aside0.mk (below_step zb hb);(try clear hb);(try clear ho0)))
  go_ret2
  exact ⟨_,by first|rfl|(simp [errW_none,errW_some] <;> rfl)|(simp [*,errW_none,errW_some] <;> rfl),zR HO388.out,zb⟩
 ·replace c4:=Bool.eq_false_iff.mpr c4
  subst c4
  rw [if_neg (show ¬ (false=true) by decide)] at H
  simp only [Option.some.injEq,Prod.mk.injEq] at H
  obtain ⟨rfl,rfl⟩:=H
  go_enter Try.func20,Try.ntmps20
  go_wp2_with (first|((with_reducible refine gate_callee (f:=60) rfl ?_);refine goesL_ (some 8) rfl rfl Try.func60 (by kernel_rfl) rfl #[.slice A0 l0.length c0,.int .i64 1,.slice A1 l1.length c1] rfl zl ?_;(with_reducible refine (impl_isParallel.calls k _ _ l0 1 _ _ l1 false _ ?side1 ?side2 ?side3 ?side4 A3.out).mono ?_);(case side1=>exact zC HR0.out);(case side2=>exact HC0.out);(case side3=>exact zC HR1.out);(case side4=>exact HC1.out);rintro e w8 ⟨rfl,hb⟩;refine ⟨_,rfl,?_⟩;replace HB:=Aside0.mk (below_step zb hb);(try clear hb)))
  go_ret2
  exact ⟨_,by first|rfl|(simp [errW_none,errW_some] <;> rfl)|(simp [*,errW_none,errW_some] <;> rfl),by first|exact Kd.R_nil _ _ _ _ _|exact Kd.N_nil _ _ _ _ _|exact Kd.V_nil _ _ _ _ _|exact Kd.Q_nil _ _ _ _ _|exact Kd.S_nil _ _ _ _ _,zb⟩

/-! ### spec_l1In: function 107 -/
def spec_l1In.f (a0:Int) (a1:Int) (a2:Int):Option (Bool):=if a0≥a1 then (some (decide (a0≤a2))) else (some false)
set_option maxHeartbeats 8000000 in
set_option maxRecDepth 100000 in
theorem spec_l1In.calls (a0:Int) (a1:Int) (a2:Int) (r:Bool) (w:World) (h:spec_l1In.f a0 a1 a2=some r) :
  Calls Try.prog 107 #[.int .i64 a0,.int .i64 a1,.int .i64 a2] w fun e w'=>e=.returned (.bool r)∧Drawn0 w w':=by
 have H:(if a0≥a1 then (some (decide (a0≤a2))) else (some false))=some r:=h
 clear h
 by_cases c4:a0≥a1
 ·rw [if_pos c4] at H
  have c4b0:decide (a1≤a0)=true:=decide_eq_true c4
  clear c4
  obtain rfl:=Option.some.inj H
  go_enter Try.func107,Try.ntmps107
  go_wp2
  go_ret
  exact ⟨by first|rfl|(simp;done)|(simp [*];done),by repeat (first|exact Drawn0.refl _|apply Drawn0.step)⟩
 ·rw [if_neg c4] at H
  have c4b0:decide (a1≤a0)=false:=decide_eq_false c4
  clear c4
  obtain rfl:=Option.some.inj H
  go_enter Try.func107,Try.ntmps107
  go_wp2
  go_ret
  exact ⟨by first|rfl|(simp;done)|(simp [*];done),by repeat (first|exact Drawn0.refl _|apply Drawn0.step)⟩

end Go.Proofs.Ytplbabjigikgjaa.XFnTails
-- minified
