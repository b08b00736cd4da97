-- Written by a program of this session (the kit's print, widened). Proved here: what each function answers, for the arguments that its contract names.
import Derived.Test.YtbcfmegepkhlpaaXFnExactLabelPlanx0
import Derived.Test.YtbcfmegepkhlpaaXFnExactLabelPlanx9
namespace Go.Proofs.Ytbcfmegepkhlpaa.XFnExactLabelPlan
open Go.RowKit Go.Proofs.YtbcfmegepkhlpaaW.PrintWords Go.Proofs.YtbcfmegepkhlpaaW.PrintLast Go.Proofs.YtbcfmegepkhlpaaW.PrintMore
attribute [local go_sem] max2_int min2_int max_two min_two max_three min_three max_four min_four   -- for this text's walks alone
attribute [local go_sem] idxA_72_0 idxA_72_1 fldS_96_0 fldS_96_1 fldS_96_2 fldS_111_0 fldS_111_1 fldS_111_2
set_option linter.unusedVariables false
set_option linter.unusedSimpArgs false

/-! ### spec_l7Falling: function 59 -/
mutual
def spec_l7Falling.l0:Nat→List Int→List Int→Int→Option (List Int)
 | 0,_,_,_=>none
 | k + 1,x0,x3,x4=>if x4<(x0.length:Int) then (spec_l7Falling.l1 k x0 x3 x4 0) else (some x3)
def spec_l7Falling.l1:Nat→List Int→List Int→Int→Int→Option (List Int)
 | 0,_,_,_,_=>none
 | k + 1,x0,x3,x4,x5=>if x5<(x3.length:Int) then (if 0≤x5 then (if 0≤(rd x3 x5) then (if (rd x3 x5)<(x0.length:Int) then (if 0≤x4 then (if x4<(x0.length:Int) then (if (rd x0 (rd x3 x5))≥(rd x0 x4) then (spec_l7Falling.l1 k x0 x3 x4 (wrap64 (x5 + 1))) else (if x5≤(x3.length:Int) then ((spec_l1Own.f (x3.take (x5:Int).toNat)).bind fun t206=>((some (([x4]:List Int):List Int)).bind fun y209=>(if t206.length + y209.length<17592186044416 then ((some (t206++y209:List Int)).bind fun y212=>((some (x3.drop (x5:Int).toNat:List Int)).bind fun y215=>(if y212.length + y215.length<17592186044416 then (spec_l7Falling.l0 k x0 (y212++y215) (wrap64 (x4 + 1))) else (none)))) else (none)))) else (none))) else (none)) else (none)) else (none)) else (none)) else (none)) else (if 0≤x5 then (if x5≤(x3.length:Int) then ((spec_l1Own.f (x3.take (x5:Int).toNat)).bind fun t226=>((some (([x4]:List Int):List Int)).bind fun y229=>(if t226.length + y229.length<17592186044416 then ((some (t226++y229:List Int)).bind fun y232=>((some (x3.drop (x5:Int).toNat:List Int)).bind fun y235=>(if y232.length + y235.length<17592186044416 then (spec_l7Falling.l0 k x0 (y232++y235) (wrap64 (x4 + 1))) else (none)))) else (none)))) else (none)) else (none))
end
def spec_l7Falling.f (k:Nat) (l0:List Int):Option (List Int):=spec_l7Falling.l0 k l0 (([]:List Int)) 0
theorem spec_l7Falling.mono_l:∀ k,(∀ y0 y1 y2,LeO (spec_l7Falling.l0 k y0 y1 y2) (spec_l7Falling.l0 (k + 1) y0 y1 y2))∧(∀ y0 y1 y2 y3,LeO (spec_l7Falling.l1 k y0 y1 y2 y3) (spec_l7Falling.l1 (k + 1) y0 y1 y2 y3))
 | 0=>⟨fun _ _ _ r h=>by simp [spec_l7Falling.l0] at h,fun _ _ _ _ r h=>by simp [spec_l7Falling.l1] at h⟩
 | k + 1=>by
  obtain ⟨ih0,ih1⟩:=spec_l7Falling.mono_l k
  refine ⟨?_,?_⟩
  ·intro y0 y1 y2
   unfold spec_l7Falling.l0
   repeat' first
   | (with_reducible exact ih0 _ _ _)
   | (with_reducible exact ih1 _ _ _ _)
   | (with_reducible exact LeO.refl _)
   | (with_reducible exact LeO.none _)
   | (with_reducible refine LeO.ite ?_ ?_)
   | (with_reducible refine LeO.bind ?_ (fun _=>?_))
   | exact ih0 _ _ _
   | exact ih1 _ _ _ _
   | exact LeO.none _
   | refine LeO.ite ?_ ?_
   | refine LeO.bind ?_ (fun _=>?_)
  ·intro y0 y1 y2 y3
   unfold spec_l7Falling.l1
   repeat' first
   | (with_reducible exact ih0 _ _ _)
   | (with_reducible exact ih1 _ _ _ _)
   | (with_reducible exact LeO.refl _)
   | (with_reducible exact LeO.none _)
   | (with_reducible refine LeO.ite ?_ ?_)
   | (with_reducible refine LeO.bind ?_ (fun _=>?_))
   | exact ih0 _ _ _
   | exact ih1 _ _ _ _
   | exact LeO.none _
   | refine LeO.ite ?_ ?_
   | refine LeO.bind ?_ (fun _=>?_)
theorem spec_l7Falling.mono:∀ a0 k,LeO (spec_l7Falling.f k a0) (spec_l7Falling.f (k + 1) a0):=by
 intro a0 k
 obtain ⟨ih0,ih1⟩:=spec_l7Falling.mono_l k
 unfold spec_l7Falling.f
 repeat' first
   | (with_reducible exact ih0 _ _ _)
   | (with_reducible exact ih1 _ _ _ _)
   | (with_reducible exact LeO.refl _)
   | (with_reducible exact LeO.none _)
   | (with_reducible refine LeO.ite ?_ ?_)
   | (with_reducible refine LeO.bind ?_ (fun _=>?_))
   | exact ih0 _ _ _
   | exact ih1 _ _ _ _
   | exact LeO.none _
   | refine LeO.ite ?_ ?_
   | refine LeO.bind ?_ (fun _=>?_)
def spec_l7Falling.T6:Bool × List (List Nat × List Nat):=(true,[([],[]),([],[]),([1],[1]),([0,2],[0,2]),([3],[3]),([4],[4]),([4],[4]),([4],[4]),([6,7,4],[4,6,7]),([8,4],[4,8]),([5,9,4],[4,5,9]),([10,4],[4,10]),([4],[4]),([4],[4]),([12,13,4],[4,12,13]),([14,4],[4,14]),([11,15,4],[4,11,15]),([4,16],[4,16])])
def spec_l7Falling.B6:List Nat:=[0,0,2,7,15,31,31,31,223,479,1023,2047,31,31,12319,28703,65535,131071]
theorem spec_l7Falling.tab6:rtab .any (opsOf Try.f59 6)=spec_l7Falling.T6:=by kernel_rfl
theorem spec_l7Falling.bits6:waitsOk spec_l7Falling.T6.2 spec_l7Falling.B6=true:=by kernel_rfl
def spec_l7Falling.T8:Bool × List (List Nat × List Nat):=(true,[([],[]),([],[]),([0,1],[0,1]),([2],[2]),([],[]),([4],[4]),([3,5,3],[3,5]),([],[]),([],[]),([7,8],[7,8]),([6,9,6],[6,9]),([10,10,0,1,2,3,4,5,6,7,8,9,10],[0,7,10])])
def spec_l7Falling.B8:List Nat:=[0,0,3,7,0,16,63,0,0,384,1023,2047]
theorem spec_l7Falling.tab8:rtab .any (opsOf Try.f59 8)=spec_l7Falling.T8:=by kernel_rfl
theorem spec_l7Falling.bits8:waitsOk spec_l7Falling.T8.2 spec_l7Falling.B8=true:=by kernel_rfl
set_option maxHeartbeats 8000000 in
set_option maxRecDepth 100000 in
theorem spec_l7Falling.calls (k:Nat) (A0:Option Addr) (c0:Nat) (l0:List Int) (r:List Int) (w:World) (hr0:Kd.C (Kd.int .i64) w A0 l0.length l0) (hc0:l0.length≤c0) (h:spec_l7Falling.f k l0=some r) :
  Calls Try.prog 59 #[.slice A0 l0.length c0] w fun e w'=>∃ v0_:Value,e=.returned (v0_)∧Kd.R (Kd.int .i64) 3 w' w.heap.size (fun _=>True) v0_ r∧Below w.heap.size w w':=by
 have HR0:=Aside0.mk hr0
 have HC0:=Aside0.mk hc0
 clear hr0 hc0
 have HB:=Aside0.mk (Below.refl w.heap.size w)
 have H:(spec_l7Falling.l0 k l0 (([]:List Int)) 0)=some r:=h
 clear h
 obtain ⟨y196,hy196⟩:∃ y_:List Int,y_=(([]:List Int)):=⟨_,rfl⟩
 replace H:(spec_l7Falling.l0 k l0 y196 0)=some r:=by first|(rw [hy196];with_reducible exact H)|(have H2_:=(Option.bind_some _ _).symm.trans H;rw [hy196];with_reducible exact H2_)|(have H2_:=(Option.bind_some _ _).symm.trans H;with_reducible exact H2_)|with_reducible exact H|(rw [hy196];exact H)|exact H
 have Ny196:=Aside0.mk hy196
 clear hy196
 have H':=Aside0.mk H
 clear H
 go_enter Try.func59,Try.ntmps59
 go_wp2_with (first|((with_reducible refine gate_dst (N:=6) rfl ?_);refine Kd.R_lit (Kd.int .i64) _ 3 ?hg (N:=6) ?hd (xs:=([]:List Int)) (inner:=[]) (ok:=fun _=>True) (okp:=fun _=>True) ?hr ?hp (fun _ hk=>hk) trivial (Below.refl _ _) (Nat.le_refl _) (by simp) ?_;(case hd=>rfl);(case hg=>rfl);(case hr=>first|(go_simp;done)|(go_simp;rfl));(case hp=>exact (Reps.none _ _));intro v197 w2 ho3 hb hg_ hnew_;clear hg_ hnew_;(first|rw [←Ny196.out] at ho3|(simp only [Int.reduceToNat] at ho3;rw [←Ny196.out] at ho3));have HO198:=Aside0.mk (Kd.R_lower ho3 (below_size zb));replace HB:=Aside0.mk (below_step zb hb);clear hb ho3))
 go_loopg [3,4] k (fun kq v3 v4 w'=>∃ (x3_1:List Int) (x4_1:Int),v4=.int .i64 x4_1∧Aside0 (spec_l7Falling.l0 kq l0 x3_1 x4_1=some r)∧Aside0 (kq≤k)∧Aside0 (Kd.R (Kd.int .i64) 3 w' w.heap.size (fun _=>True) v3 x3_1)∧Aside0 (Below w.heap.size w w'))
 case atStart=>exact ⟨(y196),(0),zo,H',⟨Nat.le_refl _⟩,⟨zR HO198.out⟩,⟨zb⟩⟩
 case round=>
  clear H'
  try clear p2
  obtain ⟨x3_1,x4_1,rfl,HA,HK1,HO_3,HB⟩:=hrel
  cases gk with
  | zero=>exact absurd HA.out (by simp [spec_l7Falling.l0])
  | succ k1=>
   have H:=HA.out
   clear HA
   simp only [spec_l7Falling.l0] at H
   by_cases c4:x4_1<(l0.length:Int)
   ·rw [if_pos c4] at H
    have c4b0:decide (x4_1<(l0.length:Int))=true:=decide_eq_true c4
    clear c4
    have H':=Aside0.mk H
    clear H
    go_wp2
    go_loopg [5] k1 (fun kq v5 w'=>∃ (x5_2:Int),v5=.int .i64 x5_2∧Aside0 (spec_l7Falling.l1 kq l0 x3_1 x4_1 x5_2=some r)∧Aside0 (kq≤k1)∧Aside0 (Kd.R (Kd.int .i64) 3 w' w.heap.size (fun _=>True) u3 x3_1)∧Aside0 (Below w.heap.size w w'))
    case atStart=>exact ⟨(0),zo,H',⟨Nat.le_refl _⟩,⟨zR HO_3.out⟩,⟨zb⟩⟩
    case round=>
     clear H'
     (try clear p2);(try clear c4);(try clear c4b0)
     obtain ⟨x5_2,rfl,HA,HK2,HO_3,HB⟩:=hrel
     cases gk with
     | zero=>exact absurd HA.out (by simp [spec_l7Falling.l1])
     | succ k2=>
      have H:=HA.out
      clear HA
      simp only [spec_l7Falling.l1] at H
      by_cases c5:x5_2<(x3_1.length:Int)
      ·rw [if_pos c5] at H
       have c5b0:decide (x5_2<(x3_1.length:Int))=true:=decide_eq_true c5
       clear c5
       by_cases c6:0≤x5_2
       ·rw [if_pos c6] at H
        have c6b0:decide (0≤x5_2)=true:=decide_eq_true c6
        clear c6
        by_cases c7:0≤(rd x3_1 x5_2)
        ·rw [if_pos c7] at H
         have c7b0:decide (0≤(rd x3_1 x5_2))=true:=decide_eq_true c7
         clear c7
         by_cases c8:(rd x3_1 x5_2)<(l0.length:Int)
         ·rw [if_pos c8] at H
          have c8b0:decide ((rd x3_1 x5_2)<(l0.length:Int))=true:=decide_eq_true c8
          clear c8
          by_cases c9:0≤x4_1
          ·rw [if_pos c9] at H
           have c9b0:decide (0≤x4_1)=true:=decide_eq_true c9
           clear c9
           by_cases c10:x4_1<(l0.length:Int)
           ·rw [if_pos c10] at H
            have c10b0:decide (x4_1<(l0.length:Int))=true:=decide_eq_true c10
            clear c10
            by_cases c11:(rd l0 (rd x3_1 x5_2))≥(rd l0 x4_1)
            ·rw [if_pos c11] at H
             have c11b0:decide ((rd l0 x4_1)≤(rd l0 (rd x3_1 x5_2)))=true:=decide_eq_true c11
             clear c11
             have H':=Aside0.mk H
             clear H
             try go_wp2
             replace HO_3:=Aside0.mk (Kd.R_drew HO_3.out)
             replace HB:=Aside0.mk (below_drew1 HB.out)
             obtain ⟨Ao13,co13,eo13⟩:=Kd.R_slice HO_3.out
             (first|subst eo13|(injection eo13 with f1_ f2_ f3_;have f4_:=f1_.symm;have f5_:=f3_.symm;clear f1_ f2_ f3_;subst f4_;subst f5_))
             have p199:0≤(x5_2:Int):=of_decide_eq_true za
             have q199:x5_2<(x3_1.length:Int):=of_decide_eq_true za
             obtain ⟨ad199,e199,hx199_0⟩:=Kd.at_int (Kd.R_reads' HO_3.out).2.2 x5_2 p199 q199
             cases e199
             replace p199:=eq_true p199
             replace q199:=eq_true q199
             have p200:0≤((rd x3_1 x5_2):Int):=of_decide_eq_true za
             have q200:(rd x3_1 x5_2)<(l0.length:Int):=of_decide_eq_true za
             obtain ⟨ad200,e200,hx200_0⟩:=Kd.at_int HR0.out (rd x3_1 x5_2) p200 q200
             have hw200_0:=hx200_0
             cases e200
             replace hx200_0:=(HB.out.cell (World.block_lt_of_cell? w _ hx200_0)).trans hx200_0
             replace p200:=eq_true p200
             replace q200:=eq_true q200
             have p201:0≤(x4_1:Int):=of_decide_eq_true za
             have q201:x4_1<(l0.length:Int):=of_decide_eq_true za
             obtain ⟨ad201,e201,hx201_0⟩:=Kd.at_int HR0.out x4_1 p201 q201
             have hw201_0:=hx201_0
             obtain rfl:ad200=ad201:=(by injection e201)
             replace hx201_0:=(HB.out.cell (World.block_lt_of_cell? w _ hx201_0)).trans hx201_0
             replace p201:=eq_true p201
             replace q201:=eq_true q201
             refine start_ (n:=18) (S:=fun w'=>w'.cell? (ad199.add (x5_2).toNat)=some (.int .i64 (rd x3_1 x5_2))∧w'.cell? (ad200.add ((rd x3_1 x5_2)).toNat)=some (.int .i64 (rd l0 (rd x3_1 x5_2)))∧w'.cell? (ad200.add (x4_1).toNat)=some (.int .i64 (rd l0 x4_1))) (ds:=[]) #[false,false,false,false,false,false,false,false,false,false,false,false,false,false,false,false,false,false] (by kernel_rfl) rfl rfl ⟨hx199_0,((HB.out.cell (World.block_lt_of_cell? w _ hw200_0)).trans hw200_0),((HB.out.cell (World.block_lt_of_cell? w _ hw201_0)).trans hw201_0)⟩ (fun hHeld=>?_);refine with_tabW spec_l7Falling.tab6 spec_l7Falling.bits6 (fun HT_ HW_=>?_)
             generalize wr.drew=w12 at HO_3 HB hx199_0 hx200_0 hx201_0 hHeld ⊢
             refine pure_ (i:=0) (N:=some 13) (v:=?_) (a':=?_) #[true,false,false,false,false,false,false,false,false,false,false,false,false,false,false,false,false,false] rfl rfl (any_of HT_.out (by kernel_rfl)) (fun _ _ _ h=>h) (Or.inl ⟨by rfl,?_⟩) ?_ ?_
             rotate_left
             ·intro w'
              go_simp
              with_reducible rfl
             rotate_left
             ·simp only [Act.put,List.setIfInBounds_toArray,List.set_cons_zero,List.set_cons_succ,i64_w,i32_w]
              rfl
             refine pure_ (i:=1) (N:=some 14) (v:=?_) (a':=?_) #[true,true,false,false,false,false,false,false,false,false,false,false,false,false,false,false,false,false] rfl rfl (any_of HT_.out (by kernel_rfl)) (fun _ _ _ h=>h) (Or.inl ⟨by rfl,?_⟩) ?_ ?_
             rotate_left
             ·intro w'
              go_simp
              with_reducible rfl
             rotate_left
             ·simp only [Act.put,List.setIfInBounds_toArray,List.set_cons_zero,List.set_cons_succ,i64_w,i32_w]
              rfl
             refine pure_ (i:=2) (N:=some 15) (v:=?_) (a':=?_) #[true,true,true,false,false,false,false,false,false,false,false,false,false,false,false,false,false,false] rfl rfl (any_of HT_.out (by kernel_rfl)) (fun _ _ _ h=>h) (Or.inl ⟨by rfl,?_⟩) ?_ ?_
             rotate_left
             ·intro w'
              go_simp
              with_reducible rfl
             rotate_left
             ·simp only [Act.put,List.setIfInBounds_toArray,List.set_cons_zero,List.set_cons_succ,i64_w,i32_w]
              rfl
             refine pure_ (i:=3) (N:=some 16) (v:=?_) (a':=?_) #[true,true,true,true,false,false,false,false,false,false,false,false,false,false,false,false,false,false] rfl rfl (any_of HT_.out (by kernel_rfl)) (fun _ _ _ h=>h) (Or.inl ⟨by rfl,?_⟩) ?_ ?_
             rotate_left
             ·intro w'
              go_simp
              with_reducible rfl
             rotate_left
             ·simp only [Act.put,List.setIfInBounds_toArray,List.set_cons_zero,List.set_cons_succ,i64_w,i32_w]
              rfl
             refine pure_ (i:=4) (N:=some 17) (v:=?_) (a':=?_) #[true,true,true,true,true,false,false,false,false,false,false,false,false,false,false,false,false,false] rfl rfl (any_of HT_.out (by kernel_rfl)) (fun _ _ _ h=>h) (Or.inl ⟨by rfl,?_⟩) ?_ ?_
             rotate_left
             ·intro w'
              go_simp
              with_reducible rfl
             rotate_left
             ·simp only [Act.put,List.setIfInBounds_toArray,List.set_cons_zero,List.set_cons_succ,i64_w,i32_w]
              rfl
             refine pure_ (i:=5) (N:=some 18) (v:=?_) (a':=?_) #[true,true,true,true,true,true,false,false,false,false,false,false,false,false,false,false,false,false] rfl rfl (any_of HT_.out (by kernel_rfl)) (fun _ _ _ h=>h) (Or.inl ⟨by rfl,?_⟩) ?_ ?_
             rotate_left
             ·intro w'
              go_simp
              with_reducible rfl
             rotate_left
             ·simp only [Act.put,List.setIfInBounds_toArray,List.set_cons_zero,List.set_cons_succ,i64_w,i32_w]
              rfl
             refine pure_ (i:=6) (N:=some 19) (v:=?_) (a':=?_) #[true,true,true,true,true,true,true,false,false,false,false,false,false,false,false,false,false,false] rfl rfl (any_of HT_.out (by kernel_rfl)) (fun _ _ _ h=>h) (Or.inl ⟨by rfl,?_⟩) ?_ ?_
             rotate_left
             ·intro w'
              go_simp
              with_reducible rfl
             rotate_left
             ·simp only [Act.put,List.setIfInBounds_toArray,List.set_cons_zero,List.set_cons_succ,i64_w,i32_w]
              rfl
             refine pure_ (i:=7) (N:=some 20) (v:=?_) (a':=?_) #[true,true,true,true,true,true,true,true,false,false,false,false,false,false,false,false,false,false] rfl rfl (any_of HT_.out (by kernel_rfl)) (fun _ _ _ h=>h) (Or.inl ⟨by rfl,?_⟩) ?_ ?_
             rotate_left
             ·intro w'
              go_simp
              with_reducible rfl
             rotate_left
             ·simp only [Act.put,List.setIfInBounds_toArray,List.set_cons_zero,List.set_cons_succ,i64_w,i32_w]
              rfl
             refine pure_ (i:=8) (N:=some 21) (v:=?_) (a':=?_) #[true,true,true,true,true,true,true,true,true,false,false,false,false,false,false,false,false,false] rfl rfl (any_of HT_.out (by kernel_rfl)) (fun _ _ _ h=>h) (Or.inl ⟨by rfl,?_⟩) ?_ ?_
             rotate_left
             ·intro w'
              go_simp
              with_reducible rfl
             rotate_left
             ·simp only [Act.put,List.setIfInBounds_toArray,List.set_cons_zero,List.set_cons_succ,i64_w,i32_w]
              rfl
             refine pure_ (i:=12) (N:=some 25) (v:=?_) (a':=?_) #[true,true,true,true,true,true,true,true,true,false,false,false,true,false,false,false,false,false] rfl rfl (any_of HT_.out (by kernel_rfl)) (fun _ _ _ h=>h) (Or.inl ⟨by rfl,?_⟩) ?_ ?_
             rotate_left
             ·intro w'
              go_simp
              with_reducible rfl
             rotate_left
             ·simp only [Act.put,List.setIfInBounds_toArray,List.set_cons_zero,List.set_cons_succ,i64_w,i32_w]
              rfl
             refine pure_ (i:=13) (N:=some 26) (v:=?_) (a':=?_) #[true,true,true,true,true,true,true,true,true,false,false,false,true,true,false,false,false,false] rfl rfl (any_of HT_.out (by kernel_rfl)) (fun _ _ _ h=>h) (Or.inl ⟨by rfl,?_⟩) ?_ ?_
             rotate_left
             ·intro w'
              go_simp
              with_reducible rfl
             rotate_left
             ·simp only [Act.put,List.setIfInBounds_toArray,List.set_cons_zero,List.set_cons_succ,i64_w,i32_w]
              rfl
             refine pure_ (i:=14) (N:=some 27) (v:=?_) (a':=?_) #[true,true,true,true,true,true,true,true,true,false,false,false,true,true,true,false,false,false] rfl rfl (any_of HT_.out (by kernel_rfl)) (fun _ _ _ h=>h) (Or.inl ⟨by rfl,?_⟩) ?_ ?_
             rotate_left
             ·intro w'
              go_simp
              with_reducible rfl
             rotate_left
             ·simp only [Act.put,List.setIfInBounds_toArray,List.set_cons_zero,List.set_cons_succ,i64_w,i32_w]
              rfl
             refine take_ (i:=9) (N:=some 22) (v:=?_) (a':=?_) #[true,true,true,true,true,true,true,true,true,true,false,false,true,true,true,false,false,false] rfl rfl (take_ofW HT_.out HW_.out (by kernel_rfl)) (fun _ _ _ h=>h) (Or.inl ⟨by rfl,?_⟩) hHeld ?_ ?_
             rotate_left
             ·rintro w' ⟨s0,s1,s2⟩
              go_simp
              with_reducible rfl
             rotate_left
             ·simp only [Act.put,List.setIfInBounds_toArray,List.set_cons_zero,List.set_cons_succ,i64_w,i32_w]
              rfl
             refine pure_ (i:=10) (N:=some 23) (v:=?_) (a':=?_) #[true,true,true,true,true,true,true,true,true,true,true,false,true,true,true,false,false,false] rfl rfl (any_of HT_.out (by kernel_rfl)) (fun _ _ _ h=>h) (Or.inl ⟨by rfl,?_⟩) ?_ ?_
             rotate_left
             ·intro w'
              go_simp
              with_reducible rfl
             rotate_left
             ·simp only [Act.put,List.setIfInBounds_toArray,List.set_cons_zero,List.set_cons_succ,i64_w,i32_w]
              rfl
             refine take_ (i:=11) (N:=some 24) (v:=?_) (a':=?_) #[true,true,true,true,true,true,true,true,true,true,true,true,true,true,true,false,false,false] rfl rfl (take_ofW HT_.out HW_.out (by kernel_rfl)) (fun _ _ _ h=>h) (Or.inl ⟨by rfl,?_⟩) hHeld ?_ ?_
             rotate_left
             ·rintro w' ⟨s0,s1,s2⟩
              go_simp
              with_reducible rfl
             rotate_left
             ·simp only [Act.put,List.setIfInBounds_toArray,List.set_cons_zero,List.set_cons_succ,i64_w,i32_w]
              rfl
             refine take_ (i:=15) (N:=some 28) (v:=?_) (a':=?_) #[true,true,true,true,true,true,true,true,true,true,true,true,true,true,true,true,false,false] rfl rfl (take_ofW HT_.out HW_.out (by kernel_rfl)) (fun _ _ _ h=>h) (Or.inl ⟨by rfl,?_⟩) hHeld ?_ ?_
             rotate_left
             ·rintro w' ⟨s0,s1,s2⟩
              go_simp
              with_reducible rfl
             rotate_left
             ·simp only [Act.put,List.setIfInBounds_toArray,List.set_cons_zero,List.set_cons_succ,i64_w,i32_w]
              rfl
             refine pure_ (i:=16) (N:=some 29) (v:=?_) (a':=?_) #[true,true,true,true,true,true,true,true,true,true,true,true,true,true,true,true,true,false] rfl rfl (any_of HT_.out (by kernel_rfl)) (fun _ _ _ h=>h) (Or.inl ⟨by rfl,?_⟩) ?_ ?_
             rotate_left
             ·intro w'
              go_simp
              with_reducible rfl
             rotate_left
             ·simp only [Act.put,List.setIfInBounds_toArray,List.set_cons_zero,List.set_cons_succ,i64_w,i32_w]
              rfl
             refine pure_ (i:=17) (N:=some 30) (v:=?_) (a':=?_) #[true,true,true,true,true,true,true,true,true,true,true,true,true,true,true,true,true,true] rfl rfl (any_of HT_.out (by kernel_rfl)) (fun _ _ _ h=>h) (Or.inl ⟨by rfl,?_⟩) ?_ ?_
             rotate_left
             ·intro w'
              go_simp
              with_reducible rfl
             rotate_left
             ·simp only [Act.put,List.setIfInBounds_toArray,List.set_cons_zero,List.set_cons_succ,i64_w,i32_w]
              rfl
             refine done_ (done_of HT_.out (by kernel_rfl)) ?_
             try go_wp2
             go_roundg k2
             case measure=>have:=HK1.out;have:=HK2.out;omega
             case rel=>exact ⟨(wrap64 (x5_2 + 1)),zo,H',⟨by have:=HK1.out;have:=HK2.out;omega⟩,⟨zR HO_3.out⟩,⟨zb⟩⟩
            ·rw [if_neg c11] at H
             have c11b0:decide ((rd l0 x4_1)≤(rd l0 (rd x3_1 x5_2)))=false:=decide_eq_false c11
             clear c11
             have c14b0:=eq_true (of_decide_eq_true za:0≤x5_2)
             by_cases c15:x5_2≤(x3_1.length:Int)
             ·rw [if_pos c15] at H
              have c15b0:=eq_true c15
              have c15b1:decide (x5_2≤(x3_1.length:Int))=true:=decide_eq_true c15
              clear c15
              obtain ⟨y202,hy202⟩:∃ y_:List Int,y_=(x3_1.take (x5_2:Int).toNat):=⟨_,rfl⟩
              replace H:((spec_l1Own.f y202).bind fun t206=>((some (([x4_1]:List Int):List Int)).bind fun y209=>(if t206.length + y209.length<17592186044416 then ((some (t206++y209:List Int)).bind fun y212=>((some (x3_1.drop (x5_2:Int).toNat:List Int)).bind fun y215=>(if y212.length + y215.length<17592186044416 then (spec_l7Falling.l0 k2 l0 (y212++y215) (wrap64 (x4_1 + 1))) else (none)))) else (none))))=some r:=by first|(rw [hy202];with_reducible exact H)|(have H2_:=(Option.bind_some _ _).symm.trans H;rw [hy202];with_reducible exact H2_)|(have H2_:=(Option.bind_some _ _).symm.trans H;with_reducible exact H2_)|with_reducible exact H|(rw [hy202];exact H)|exact H
              have Ny202:=Aside0.mk hy202
              clear hy202
              replace H:=Option.bind_eq_some_iff.mp H
              obtain ⟨t206,A160,H⟩:=H
              replace H:((some (([x4_1]:List Int):List Int)).bind fun y209=>(if t206.length + y209.length<17592186044416 then ((some (t206++y209:List Int)).bind fun y212=>((some (x3_1.drop (x5_2:Int).toNat:List Int)).bind fun y215=>(if y212.length + y215.length<17592186044416 then (spec_l7Falling.l0 k2 l0 (y212++y215) (wrap64 (x4_1 + 1))) else (none)))) else (none)))=some r:=H
              have A16:=Aside0.mk A160
              clear A160
              obtain ⟨y209,hy209⟩:∃ y_:List Int,y_=(([x4_1]:List Int)):=⟨_,rfl⟩
              replace H:(if t206.length + y209.length<17592186044416 then ((some (t206++y209:List Int)).bind fun y212=>((some (x3_1.drop (x5_2:Int).toNat:List Int)).bind fun y215=>(if y212.length + y215.length<17592186044416 then (spec_l7Falling.l0 k2 l0 (y212++y215) (wrap64 (x4_1 + 1))) else (none)))) else (none))=some r:=by first|(rw [hy209];with_reducible exact H)|(have H2_:=(Option.bind_some _ _).symm.trans H;rw [hy209];with_reducible exact H2_)|(have H2_:=(Option.bind_some _ _).symm.trans H;with_reducible exact H2_)|with_reducible exact H|(rw [hy209];exact H)|exact H
              have Ny209:=Aside0.mk hy209
              clear hy209
              by_cases c17:t206.length + y209.length<17592186044416
              ·rw [if_pos c17] at H
               have LMc17:=Aside0.mk c17
               clear c17
               obtain ⟨y212,hy212⟩:∃ y_:List Int,y_=(t206++y209):=⟨_,rfl⟩
               replace H:((some (x3_1.drop (x5_2:Int).toNat:List Int)).bind fun y215=>(if y212.length + y215.length<17592186044416 then (spec_l7Falling.l0 k2 l0 (y212++y215) (wrap64 (x4_1 + 1))) else (none)))=some r:=by first|(rw [hy212];with_reducible exact H)|(have H2_:=(Option.bind_some _ _).symm.trans H;rw [hy212];with_reducible exact H2_)|(have H2_:=(Option.bind_some _ _).symm.trans H;with_reducible exact H2_)|with_reducible exact H|(rw [hy212];exact H)|exact H
               have Ny212:=Aside0.mk hy212
               clear hy212
               have c18b0:=eq_true (of_decide_eq_true za:0≤x5_2)
               have c19b0:=eq_true (of_decide_eq_true za:x5_2≤(x3_1.length:Int))
               obtain ⟨y215,hy215⟩:∃ y_:List Int,y_=(x3_1.drop (x5_2:Int).toNat):=⟨_,rfl⟩
               replace H:(if y212.length + y215.length<17592186044416 then (spec_l7Falling.l0 k2 l0 (y212++y215) (wrap64 (x4_1 + 1))) else (none))=some r:=by first|(rw [hy215];with_reducible exact H)|(have H2_:=(Option.bind_some _ _).symm.trans H;rw [hy215];with_reducible exact H2_)|(have H2_:=(Option.bind_some _ _).symm.trans H;with_reducible exact H2_)|with_reducible exact H|(rw [hy215];exact H)|exact H
               have Ny215:=Aside0.mk hy215
               clear hy215
               by_cases c20:y212.length + y215.length<17592186044416
               ·rw [if_pos c20] at H
                have LMc20:=Aside0.mk c20
                clear c20
                obtain ⟨y219,hy219⟩:∃ y_:List Int,y_=(y212++y215):=⟨_,rfl⟩
                replace H:(spec_l7Falling.l0 k2 l0 y219 (wrap64 (x4_1 + 1)))=some r:=by first|(rw [hy219];with_reducible exact H)|(have H2_:=(Option.bind_some _ _).symm.trans H;rw [hy219];with_reducible exact H2_)|(have H2_:=(Option.bind_some _ _).symm.trans H;with_reducible exact H2_)|with_reducible exact H|(rw [hy219];exact H)|exact H
                have Ny219:=Aside0.mk hy219
                clear hy219
                have H':=Aside0.mk H
                clear H
                try go_wp2
                replace HO_3:=Aside0.mk (Kd.R_drew HO_3.out)
                replace HB:=Aside0.mk (below_drew1 HB.out)
                obtain ⟨Ao22,co22,eo22⟩:=Kd.R_slice HO_3.out
                (first|subst eo22|(injection eo22 with f1_ f2_ f3_;have f4_:=f1_.symm;have f5_:=f3_.symm;clear f1_ f2_ f3_;subst f4_;subst f5_))
                have p199:0≤(x5_2:Int):=of_decide_eq_true za
                have q199:x5_2<(x3_1.length:Int):=of_decide_eq_true za
                obtain ⟨ad199,e199,hx199_0⟩:=Kd.at_int (Kd.R_reads' HO_3.out).2.2 x5_2 p199 q199
                cases e199
                replace p199:=eq_true p199
                replace q199:=eq_true q199
                have p200:0≤((rd x3_1 x5_2):Int):=of_decide_eq_true za
                have q200:(rd x3_1 x5_2)<(l0.length:Int):=of_decide_eq_true za
                obtain ⟨ad200,e200,hx200_0⟩:=Kd.at_int HR0.out (rd x3_1 x5_2) p200 q200
                have hw200_0:=hx200_0
                cases e200
                replace hx200_0:=(HB.out.cell (World.block_lt_of_cell? w _ hx200_0)).trans hx200_0
                replace p200:=eq_true p200
                replace q200:=eq_true q200
                have p201:0≤(x4_1:Int):=of_decide_eq_true za
                have q201:x4_1<(l0.length:Int):=of_decide_eq_true za
                obtain ⟨ad201,e201,hx201_0⟩:=Kd.at_int HR0.out x4_1 p201 q201
                have hw201_0:=hx201_0
                obtain rfl:ad200=ad201:=(by injection e201)
                replace hx201_0:=(HB.out.cell (World.block_lt_of_cell? w _ hx201_0)).trans hx201_0
                replace p201:=eq_true p201
                replace q201:=eq_true q201
                refine start_ (n:=18) (S:=fun w'=>w'.cell? (ad199.add (x5_2).toNat)=some (.int .i64 (rd x3_1 x5_2))∧w'.cell? (ad200.add ((rd x3_1 x5_2)).toNat)=some (.int .i64 (rd l0 (rd x3_1 x5_2)))∧w'.cell? (ad200.add (x4_1).toNat)=some (.int .i64 (rd l0 x4_1))) (ds:=[]) #[false,false,false,false,false,false,false,false,false,false,false,false,false,false,false,false,false,false] (by kernel_rfl) rfl rfl ⟨hx199_0,((HB.out.cell (World.block_lt_of_cell? w _ hw200_0)).trans hw200_0),((HB.out.cell (World.block_lt_of_cell? w _ hw201_0)).trans hw201_0)⟩ (fun hHeld=>?_);refine with_tabW spec_l7Falling.tab6 spec_l7Falling.bits6 (fun HT_ HW_=>?_)
                generalize wr.drew=w21 at HO_3 HB hx199_0 hx200_0 hx201_0 hHeld ⊢
                refine pure_ (i:=0) (N:=some 13) (v:=?_) (a':=?_) #[true,false,false,false,false,false,false,false,false,false,false,false,false,false,false,false,false,false] rfl rfl (any_of HT_.out (by kernel_rfl)) (fun _ _ _ h=>h) (Or.inl ⟨by rfl,?_⟩) ?_ ?_
                rotate_left
                ·intro w'
                 go_simp
                 with_reducible rfl
                rotate_left
                ·simp only [Act.put,List.setIfInBounds_toArray,List.set_cons_zero,List.set_cons_succ,i64_w,i32_w]
                 rfl
                refine pure_ (i:=1) (N:=some 14) (v:=?_) (a':=?_) #[true,true,false,false,false,false,false,false,false,false,false,false,false,false,false,false,false,false] rfl rfl (any_of HT_.out (by kernel_rfl)) (fun _ _ _ h=>h) (Or.inl ⟨by rfl,?_⟩) ?_ ?_
                rotate_left
                ·intro w'
                 go_simp
                 with_reducible rfl
                rotate_left
                ·simp only [Act.put,List.setIfInBounds_toArray,List.set_cons_zero,List.set_cons_succ,i64_w,i32_w]
                 rfl
                refine pure_ (i:=2) (N:=some 15) (v:=?_) (a':=?_) #[true,true,true,false,false,false,false,false,false,false,false,false,false,false,false,false,false,false] rfl rfl (any_of HT_.out (by kernel_rfl)) (fun _ _ _ h=>h) (Or.inl ⟨by rfl,?_⟩) ?_ ?_
                rotate_left
                ·intro w'
                 go_simp
                 with_reducible rfl
                rotate_left
                ·simp only [Act.put,List.setIfInBounds_toArray,List.set_cons_zero,List.set_cons_succ,i64_w,i32_w]
                 rfl
                refine pure_ (i:=3) (N:=some 16) (v:=?_) (a':=?_) #[true,true,true,true,false,false,false,false,false,false,false,false,false,false,false,false,false,false] rfl rfl (any_of HT_.out (by kernel_rfl)) (fun _ _ _ h=>h) (Or.inl ⟨by rfl,?_⟩) ?_ ?_
                rotate_left
                ·intro w'
                 go_simp
                 with_reducible rfl
                rotate_left
                ·simp only [Act.put,List.setIfInBounds_toArray,List.set_cons_zero,List.set_cons_succ,i64_w,i32_w]
                 rfl
                refine pure_ (i:=4) (N:=some 17) (v:=?_) (a':=?_) #[true,true,true,true,true,false,false,false,false,false,false,false,false,false,false,false,false,false] rfl rfl (any_of HT_.out (by kernel_rfl)) (fun _ _ _ h=>h) (Or.inl ⟨by rfl,?_⟩) ?_ ?_
                rotate_left
                ·intro w'
                 go_simp
                 with_reducible rfl
                rotate_left
                ·simp only [Act.put,List.setIfInBounds_toArray,List.set_cons_zero,List.set_cons_succ,i64_w,i32_w]
                 rfl
                refine pure_ (i:=5) (N:=some 18) (v:=?_) (a':=?_) #[true,true,true,true,true,true,false,false,false,false,false,false,false,false,false,false,false,false] rfl rfl (any_of HT_.out (by kernel_rfl)) (fun _ _ _ h=>h) (Or.inl ⟨by rfl,?_⟩) ?_ ?_
                rotate_left
                ·intro w'
                 go_simp
                 with_reducible rfl
                rotate_left
                ·simp only [Act.put,List.setIfInBounds_toArray,List.set_cons_zero,List.set_cons_succ,i64_w,i32_w]
                 rfl
                refine pure_ (i:=6) (N:=some 19) (v:=?_) (a':=?_) #[true,true,true,true,true,true,true,false,false,false,false,false,false,false,false,false,false,false] rfl rfl (any_of HT_.out (by kernel_rfl)) (fun _ _ _ h=>h) (Or.inl ⟨by rfl,?_⟩) ?_ ?_
                rotate_left
                ·intro w'
                 go_simp
                 with_reducible rfl
                rotate_left
                ·simp only [Act.put,List.setIfInBounds_toArray,List.set_cons_zero,List.set_cons_succ,i64_w,i32_w]
                 rfl
                refine pure_ (i:=7) (N:=some 20) (v:=?_) (a':=?_) #[true,true,true,true,true,true,true,true,false,false,false,false,false,false,false,false,false,false] rfl rfl (any_of HT_.out (by kernel_rfl)) (fun _ _ _ h=>h) (Or.inl ⟨by rfl,?_⟩) ?_ ?_
                rotate_left
                ·intro w'
                 go_simp
                 with_reducible rfl
                rotate_left
                ·simp only [Act.put,List.setIfInBounds_toArray,List.set_cons_zero,List.set_cons_succ,i64_w,i32_w]
                 rfl
                refine pure_ (i:=8) (N:=some 21) (v:=?_) (a':=?_) #[true,true,true,true,true,true,true,true,true,false,false,false,false,false,false,false,false,false] rfl rfl (any_of HT_.out (by kernel_rfl)) (fun _ _ _ h=>h) (Or.inl ⟨by rfl,?_⟩) ?_ ?_
                rotate_left
                ·intro w'
                 go_simp
                 with_reducible rfl
                rotate_left
                ·simp only [Act.put,List.setIfInBounds_toArray,List.set_cons_zero,List.set_cons_succ,i64_w,i32_w]
                 rfl
                refine pure_ (i:=12) (N:=some 25) (v:=?_) (a':=?_) #[true,true,true,true,true,true,true,true,true,false,false,false,true,false,false,false,false,false] rfl rfl (any_of HT_.out (by kernel_rfl)) (fun _ _ _ h=>h) (Or.inl ⟨by rfl,?_⟩) ?_ ?_
                rotate_left
                ·intro w'
                 go_simp
                 with_reducible rfl
                rotate_left
                ·simp only [Act.put,List.setIfInBounds_toArray,List.set_cons_zero,List.set_cons_succ,i64_w,i32_w]
                 rfl
                refine pure_ (i:=13) (N:=some 26) (v:=?_) (a':=?_) #[true,true,true,true,true,true,true,true,true,false,false,false,true,true,false,false,false,false] rfl rfl (any_of HT_.out (by kernel_rfl)) (fun _ _ _ h=>h) (Or.inl ⟨by rfl,?_⟩) ?_ ?_
                rotate_left
                ·intro w'
                 go_simp
                 with_reducible rfl
                rotate_left
                ·simp only [Act.put,List.setIfInBounds_toArray,List.set_cons_zero,List.set_cons_succ,i64_w,i32_w]
                 rfl
                refine pure_ (i:=14) (N:=some 27) (v:=?_) (a':=?_) #[true,true,true,true,true,true,true,true,true,false,false,false,true,true,true,false,false,false] rfl rfl (any_of HT_.out (by kernel_rfl)) (fun _ _ _ h=>h) (Or.inl ⟨by rfl,?_⟩) ?_ ?_
                rotate_left
                ·intro w'
                 go_simp
                 with_reducible rfl
                rotate_left
                ·simp only [Act.put,List.setIfInBounds_toArray,List.set_cons_zero,List.set_cons_succ,i64_w,i32_w]
                 rfl
                refine take_ (i:=9) (N:=some 22) (v:=?_) (a':=?_) #[true,true,true,true,true,true,true,true,true,true,false,false,true,true,true,false,false,false] rfl rfl (take_ofW HT_.out HW_.out (by kernel_rfl)) (fun _ _ _ h=>h) (Or.inl ⟨by rfl,?_⟩) hHeld ?_ ?_
                rotate_left
                ·rintro w' ⟨s0,s1,s2⟩
                 go_simp
                 with_reducible rfl
                rotate_left
                ·simp only [Act.put,List.setIfInBounds_toArray,List.set_cons_zero,List.set_cons_succ,i64_w,i32_w]
                 rfl
                refine pure_ (i:=10) (N:=some 23) (v:=?_) (a':=?_) #[true,true,true,true,true,true,true,true,true,true,true,false,true,true,true,false,false,false] rfl rfl (any_of HT_.out (by kernel_rfl)) (fun _ _ _ h=>h) (Or.inl ⟨by rfl,?_⟩) ?_ ?_
                rotate_left
                ·intro w'
                 go_simp
                 with_reducible rfl
                rotate_left
                ·simp only [Act.put,List.setIfInBounds_toArray,List.set_cons_zero,List.set_cons_succ,i64_w,i32_w]
                 rfl
                refine take_ (i:=11) (N:=some 24) (v:=?_) (a':=?_) #[true,true,true,true,true,true,true,true,true,true,true,true,true,true,true,false,false,false] rfl rfl (take_ofW HT_.out HW_.out (by kernel_rfl)) (fun _ _ _ h=>h) (Or.inl ⟨by rfl,?_⟩) hHeld ?_ ?_
                rotate_left
                ·rintro w' ⟨s0,s1,s2⟩
                 go_simp
                 with_reducible rfl
                rotate_left
                ·simp only [Act.put,List.setIfInBounds_toArray,List.set_cons_zero,List.set_cons_succ,i64_w,i32_w]
                 rfl
                refine take_ (i:=15) (N:=some 28) (v:=?_) (a':=?_) #[true,true,true,true,true,true,true,true,true,true,true,true,true,true,true,true,false,false] rfl rfl (take_ofW HT_.out HW_.out (by kernel_rfl)) (fun _ _ _ h=>h) (Or.inl ⟨by rfl,?_⟩) hHeld ?_ ?_
                rotate_left
                ·rintro w' ⟨s0,s1,s2⟩
                 go_simp
                 with_reducible rfl
                rotate_left
                ·simp only [Act.put,List.setIfInBounds_toArray,List.set_cons_zero,List.set_cons_succ,i64_w,i32_w]
                 rfl
                refine pure_ (i:=16) (N:=some 29) (v:=?_) (a':=?_) #[true,true,true,true,true,true,true,true,true,true,true,true,true,true,true,true,true,false] rfl rfl (any_of HT_.out (by kernel_rfl)) (fun _ _ _ h=>h) (Or.inl ⟨by rfl,?_⟩) ?_ ?_
                rotate_left
                ·intro w'
                 go_simp
                 with_reducible rfl
                rotate_left
                ·simp only [Act.put,List.setIfInBounds_toArray,List.set_cons_zero,List.set_cons_succ,i64_w,i32_w]
                 rfl
                refine pure_ (i:=17) (N:=some 30) (v:=?_) (a':=?_) #[true,true,true,true,true,true,true,true,true,true,true,true,true,true,true,true,true,true] rfl rfl (any_of HT_.out (by kernel_rfl)) (fun _ _ _ h=>h) (Or.inl ⟨by rfl,?_⟩) ?_ ?_
                rotate_left
                ·intro w'
                 go_simp
                 with_reducible rfl
                rotate_left
                ·simp only [Act.put,List.setIfInBounds_toArray,List.set_cons_zero,List.set_cons_succ,i64_w,i32_w]
                 rfl
                refine done_ (done_of HT_.out (by kernel_rfl)) ?_
                try go_wp2
                replace HO_3:=Aside0.mk (Kd.R_drew HO_3.out)
                replace HB:=Aside0.mk (below_drew1 HB.out)
                have q24:(x5_2:Int)≤((x3_1.length:Int):Int):=of_decide_eq_true za
                obtain ⟨i024,hi024,_,hsz24,_⟩:=info_parts info3
                have hroom24:x3_1.length≤co22:=(Kd.R_reads' HO_3.out).2.1
                have hC24:Kd.C (Kd.int .i64) _ (some ad199) x3_1.length x3_1:=(Kd.R_reads' HO_3.out).2.2
                have hcut24:=cut_to (P:=Try.prog) 43 3 .i64 Try.underlying43 hi024 (some ad199) x3_1.length co22 x5_2 (of_decide_eq_true za) q24 hroom24
                have hr24:=Kd.C_take (m:=(x5_2:Int).toNat) hC24 (by omega)
                have hy24:y202.length=(x5_2:Int).toNat:=(by rw [Ny202.out,List.length_take];omega)
                rw [←Ny202.out] at hr24
                rw [←hy24] at hcut24
                have HR205:=Aside0.mk hr24
                have HC205:=Aside0.mk (show y202.length≤co22 from by omega)
                clear hr24 hC24 hroom24 hi024 hsz24
                have KY24:=Aside0.mk hy24
                clear hy24
                have KL24:=Aside0.mk (show (x5_2:Int).toNat≤x3_1.length from by omega)
                replace q24:=eq_true q24
                have q25:(x5_2:Int)≤((x3_1.length:Int):Int):=of_decide_eq_true za
                obtain ⟨i025,hi025,_,hsz25,_⟩:=info_parts info3
                have hroom25:x3_1.length≤co22:=(Kd.R_reads' HO_3.out).2.1
                have hC25:Kd.C (Kd.int .i64) _ (some ad199) x3_1.length x3_1:=(Kd.R_reads' HO_3.out).2.2
                have q025:(0:Int)≤(x5_2:Int):=of_decide_eq_true za
                have hcut25:=cut_from (P:=Try.prog) 43 3 .i64 Try.underlying43 hi025 1 hsz25 (some ad199) x3_1.length co22 x5_2 q025 q25
                have hr25:=Kd.C_drop (m:=(x5_2:Int).toNat) (c:=co22) hC25 (by omega) hroom25
                obtain ⟨A25,hA25⟩:∃ Az_,Az_=(if co22=(x5_2:Int).toNat then (some ad199) else ((some ad199):Option Addr).map (·.add ((x5_2:Int).toNat * 1))):=⟨_,rfl⟩
                obtain ⟨c25,hc25⟩:∃ cz_,cz_=co22 - (x5_2:Int).toNat:=⟨_,rfl⟩
                have hy25:y215.length=x3_1.length - (x5_2:Int).toNat:=(by rw [Ny215.out,List.length_drop] <;> omega)
                rw [show (x3_1).drop (x5_2:Int).toNat=y215 from Ny215.out.symm] at hr25
                replace hr25:Kd.C (Kd.int .i64) _ A25 y215.length y215:=(by rw [hA25];exact hr25)
                rw [←hy25,←hA25,←hc25] at hcut25
                have HR218:=Aside0.mk hr25
                have HC218:=Aside0.mk (show y215.length≤c25 from by rw [hy25,hc25];exact Nat.sub_le_sub_right hroom25 _)
                clear hr25 hC25 hroom25 hi025 hsz25 hc25
                have KY25:=Aside0.mk hy25
                have KA25:=Aside0.mk hA25
                clear hy25 hA25
                have KL25:=Aside0.mk (show (x5_2:Int).toNat≤x3_1.length from by omega)
                replace q25:=eq_true q25
                refine start_ (n:=12) (S:=fun w'=>True) (ds:=[]) #[false,false,false,false,false,false,false,false,false,false,false,false] (by kernel_rfl) rfl rfl trivial (fun hHeld=>?_);refine with_tabW spec_l7Falling.tab8 spec_l7Falling.bits8 (fun HT_ HW_=>?_)
                generalize w21.drew=w23 at HO_3 HB HR205 HR218 hHeld ⊢
                refine pure_ (i:=0) (N:=some 33) (v:=?_) (a':=?_) #[true,false,false,false,false,false,false,false,false,false,false,false] rfl rfl (any_of HT_.out (by kernel_rfl)) (fun _ _ _ h=>h) (Or.inl ⟨by rfl,?_⟩) ?_ ?_
                rotate_left
                ·intro w'
                 go_simp
                 with_reducible rfl
                rotate_left
                ·simp only [Act.put,List.setIfInBounds_toArray,List.set_cons_zero,List.set_cons_succ,i64_w,i32_w]
                 rfl
                refine pure_ (i:=1) (N:=some 34) (v:=?_) (a':=?_) #[true,true,false,false,false,false,false,false,false,false,false,false] rfl rfl (any_of HT_.out (by kernel_rfl)) (fun _ _ _ h=>h) (Or.inl ⟨by rfl,?_⟩) ?_ ?_
                rotate_left
                ·intro w'
                 go_simp
                 with_reducible rfl
                rotate_left
                ·simp only [Act.put,List.setIfInBounds_toArray,List.set_cons_zero,List.set_cons_succ,i64_w,i32_w]
                 rfl
                refine pure_ (i:=2) (N:=some 35) (v:=?_) (a':=?_) #[true,true,true,false,false,false,false,false,false,false,false,false] rfl rfl (any_of HT_.out (by kernel_rfl)) (fun _ _ _ h=>h) (Or.inl ⟨by rfl,?_⟩) ?_ ?_
                rotate_left
                ·intro w'
                 go_simp
                 with_reducible rfl
                rotate_left
                ·simp only [Act.put,List.setIfInBounds_toArray,List.set_cons_zero,List.set_cons_succ,i64_w,i32_w]
                 rfl
                refine pure_ (i:=4) (N:=some 37) (v:=?_) (a':=?_) #[true,true,true,false,true,false,false,false,false,false,false,false] rfl rfl (any_of HT_.out (by kernel_rfl)) (fun _ _ _ h=>h) (Or.inl ⟨by rfl,?_⟩) ?_ ?_
                rotate_left
                ·intro w'
                 go_simp
                 with_reducible rfl
                rotate_left
                ·simp only [Act.put,List.setIfInBounds_toArray,List.set_cons_zero,List.set_cons_succ,i64_w,i32_w]
                 rfl
                refine pure_ (i:=7) (N:=some 40) (v:=?_) (a':=?_) #[true,true,true,false,true,false,false,true,false,false,false,false] rfl rfl (any_of HT_.out (by kernel_rfl)) (fun _ _ _ h=>h) (Or.inl ⟨by rfl,?_⟩) ?_ ?_
                rotate_left
                ·intro w'
                 go_simp
                 with_reducible rfl
                rotate_left
                ·simp only [Act.put,List.setIfInBounds_toArray,List.set_cons_zero,List.set_cons_succ,i64_w,i32_w]
                 rfl
                refine pure_ (i:=8) (N:=some 41) (v:=?_) (a':=?_) #[true,true,true,false,true,false,false,true,true,false,false,false] rfl rfl (any_of HT_.out (by kernel_rfl)) (fun _ _ _ h=>h) (Or.inl ⟨by rfl,?_⟩) ?_ ?_
                rotate_left
                ·intro w'
                 go_simp
                 with_reducible rfl
                rotate_left
                ·simp only [Act.put,List.setIfInBounds_toArray,List.set_cons_zero,List.set_cons_succ,i64_w,i32_w]
                 rfl
                refine pure_ (i:=9) (N:=some 42) (v:=?_) (a':=?_) #[true,true,true,false,true,false,false,true,true,true,false,false] rfl rfl (any_of HT_.out (by kernel_rfl)) (fun _ _ _ h=>h) (Or.inl ⟨by rfl,?_⟩) ?_ ?_
                rotate_left
                ·intro w'
                 go_simp
                 with_reducible rfl
                rotate_left
                ·simp only [Act.put,List.setIfInBounds_toArray,List.set_cons_zero,List.set_cons_succ,i64_w,i32_w]
                 rfl
                refine join_ (σ:=Value × Value) 3 #[true,true,true,true,true,true,false,true,true,true,false,false] (fun s_=>[(36,s_.1),(38,s_.2)]) (fun s_ w'=>(Kd.R (Kd.int .i64) 3 w' w.heap.size (fun k_=>some k_≠(s_.2:Value).ownBlock∧some k_≠(.slice (some ad199) x3_1.length co22:Value).ownBlock) s_.1 t206)∧(Kd.R (Kd.int .i64) 3 w' w.heap.size (fun k_=>some k_≠(s_.1:Value).ownBlock∧some k_≠(.slice (some ad199) x3_1.length co22:Value).ownBlock) s_.2 y209)∧(Kd.R (Kd.int .i64) 3 w' w.heap.size (fun k_=>some k_≠(s_.1:Value).ownBlock∧some k_≠(s_.2:Value).ownBlock) (.slice (some ad199) x3_1.length co22) x3_1)∧(Below w.heap.size w w')) ?_ ?_
                rotate_left
                ·intro hCont
                 refine two_ (i:=3) (j:=5) (Ni:=some 36) (Nj:=some 38) #[true,true,true,true,true,false,false,true,true,true,false,false] #[true,true,true,false,true,true,false,true,true,true,false,false] rfl rfl rfl rfl (two_of HT_.out (by kernel_rfl)) (by decide) (by decide) (fun K hK=>?_) (fun K hK=>?_)
                 ·skip
                  refine goes_ Try.func110 (by kernel_rfl) rfl #[.slice (some ad199) y202.length co22] (by rfl) rfl rfl zl ?_
                  with_reducible refine (spec_l1Own.calls _ _ y202 t206 _ ?side1 ?side2 A16.out).mono ?_
                  (case side1=>repeat (first|exact (by repeat (first|(with_reducible exact HR205.out)|(with_reducible refine Kd.C_alloc ?_ _)|(with_reducible refine Kd.C_drewN ?_ _)|(with_reducible refine Kd.C_drew ?_)|exact HR205.out))|(with_reducible refine Kd.C_alloc ?_ _)|(with_reducible refine Kd.C_drewN ?_ _)|(with_reducible refine Kd.C_drew ?_)))
                  (case side2=>exact HC205.out)
                  rintro e w26 ⟨v207,rfl,ho0,hb⟩
                  refine ⟨_,rfl,?_⟩
                  have n0_:=Aside0.mk (Kd.R_elder' (zR HO_3.out) (Kd.R_base ho0) hb)
                  have n1_:=Aside0.mk (Kd.R_lower (Kd.R_new' ho0 (Kd.R_lt (zR HO_3.out))) (below_size zb))
                  have n2_:=Aside0.mk (Kd.C_below (by repeat (first|(with_reducible exact HR205.out)|(with_reducible refine Kd.C_alloc ?_ _)|(with_reducible refine Kd.C_drewN ?_ _)|(with_reducible refine Kd.C_drew ?_)|exact HR205.out)) hb)
                  have n3_:=Aside0.mk (Kd.C_below (by repeat (first|(with_reducible exact HR218.out)|(with_reducible refine Kd.C_alloc ?_ _)|(with_reducible refine Kd.C_drewN ?_ _)|(with_reducible refine Kd.C_drew ?_)|exact HR218.out)) hb)
                  have n4_:=Aside0.mk (below_step zb hb)
                  clear HO_3
                  clear HR205
                  clear HR218
                  clear HB
                  have HO_3:=n0_
                  have HO208:=n1_
                  have HR205:=n2_
                  have HR218:=n3_
                  have HB:=n4_
                  clear n0_ n1_ n2_ n3_ n4_
                  (try clear hb)
                  (try clear hb2)
                  (try clear hk)
                  (try clear hi)
                  (try clear ho0)
                  refine hK.out _ _ trivial (fun hHeld=>?_)
                  clear hK K
                  refine norm_ (a':=?_) ?_ ?_
                  rotate_left
                  ·show Act.put _ (some 36) _=_
                   simp only [Act.put,List.setIfInBounds_toArray,List.set_cons_zero,List.set_cons_succ,i64_w,i32_w]
                   rfl
                  refine one_ (i:=5) (N:=some 38) #[true,true,true,true,true,true,false,true,true,true,false,false] rfl rfl (one_of HT_.out (by kernel_rfl)) (by decide) (fun K hK=>?_)
                  refine Kd.R_lit_step (Kd.int .i64) _ 3 ?hg (N:=38) ?hd (xs:=([x4_1]:List Int)) (inner:=[.int .i64 x4_1]) (ok:=fun _=>True) (okp:=fun _=>True) ?hr ?hp (fun _ hk=>hk) trivial (Below.refl _ _) (Nat.le_refl _) (by simp) ?_;(case hd=>rfl);(case hg=>rfl);(case hr=>first|(go_simp;done)|(go_simp;rfl));(case hp=>exact (Reps.one (show Kd.M (Kd.int .i64) _ _ _ x4_1 [.int .i64 x4_1] from rfl) (Reps.none _ _)))
                  intro v210 w27 ho28 hb hg_ hnew_
                  clear hg_ hnew_
                  (first|rw [←Ny209.out] at ho28|(simp only [Int.reduceToNat] at ho28;rw [←Ny209.out] at ho28))
                  have n0_:=Aside0.mk (Kd.R_elder' (zR HO_3.out) (Kd.R_base ho28) hb)
                  have n1_:=Aside0.mk (Kd.R_elder' (zR HO208.out) (Kd.R_base ho28) hb)
                  have n2_:=Aside0.mk (Kd.R_lower (Kd.R_new' (Kd.R_new' ho28 (Kd.R_lt (zR HO_3.out))) (Kd.R_lt (zR HO208.out))) (below_size zb))
                  have n3_:=Aside0.mk (Kd.C_below (by repeat (first|(with_reducible exact HR205.out)|(with_reducible refine Kd.C_alloc ?_ _)|(with_reducible refine Kd.C_drewN ?_ _)|(with_reducible refine Kd.C_drew ?_)|exact HR205.out)) hb)
                  have n4_:=Aside0.mk (Kd.C_below (by repeat (first|(with_reducible exact HR218.out)|(with_reducible refine Kd.C_alloc ?_ _)|(with_reducible refine Kd.C_drewN ?_ _)|(with_reducible refine Kd.C_drew ?_)|exact HR218.out)) hb)
                  have n5_:=Aside0.mk (below_step zb hb)
                  clear HO_3
                  clear HO208
                  clear HR205
                  clear HR218
                  clear HB
                  have HO_3:=n0_
                  have HO208:=n1_
                  have HO211:=n2_
                  have HR205:=n3_
                  have HR218:=n4_
                  have HB:=n5_
                  clear n0_ n1_ n2_ n3_ n4_ n5_
                  clear hb ho28
                  refine hK.out _ _ trivial (fun hHeld=>?_)
                  clear hK K
                  refine norm_ (a':=?_) ?_ ?_
                  rotate_left
                  ·show Act.put _ (some 38) _=_
                   simp only [Act.put,List.setIfInBounds_toArray,List.set_cons_zero,List.set_cons_succ,i64_w,i32_w]
                   rfl
                  exact norm_ (by simp only [putAll,Act.put,List.setIfInBounds_toArray,List.set_cons_zero,List.set_cons_succ]) (hCont (v207,v210) _ ⟨(zR (Kd.R_mono HO208.out (fun _ hk=>⟨hk.2,hk.1.2⟩))),(zR (Kd.R_mono HO211.out (fun _ hk=>⟨hk.2,hk.1.2⟩))),(zR (Kd.R_mono HO_3.out (fun _ hk=>⟨hk.1.2,hk.2⟩))),zb⟩)
                 ·skip
                  refine Kd.R_lit_step (Kd.int .i64) _ 3 ?hg (N:=38) ?hd (xs:=([x4_1]:List Int)) (inner:=[.int .i64 x4_1]) (ok:=fun _=>True) (okp:=fun _=>True) ?hr ?hp (fun _ hk=>hk) trivial (Below.refl _ _) (Nat.le_refl _) (by simp) ?_;(case hd=>rfl);(case hg=>rfl);(case hr=>first|(go_simp;done)|(go_simp;rfl));(case hp=>exact (Reps.one (show Kd.M (Kd.int .i64) _ _ _ x4_1 [.int .i64 x4_1] from rfl) (Reps.none _ _)))
                  intro v210 w26 ho27 hb hg_ hnew_
                  clear hg_ hnew_
                  (first|rw [←Ny209.out] at ho27|(simp only [Int.reduceToNat] at ho27;rw [←Ny209.out] at ho27))
                  have n0_:=Aside0.mk (Kd.R_elder' (zR HO_3.out) (Kd.R_base ho27) hb)
                  have n1_:=Aside0.mk (Kd.R_lower (Kd.R_new' ho27 (Kd.R_lt (zR HO_3.out))) (below_size zb))
                  have n2_:=Aside0.mk (Kd.C_below (by repeat (first|(with_reducible exact HR205.out)|(with_reducible refine Kd.C_alloc ?_ _)|(with_reducible refine Kd.C_drewN ?_ _)|(with_reducible refine Kd.C_drew ?_)|exact HR205.out)) hb)
                  have n3_:=Aside0.mk (Kd.C_below (by repeat (first|(with_reducible exact HR218.out)|(with_reducible refine Kd.C_alloc ?_ _)|(with_reducible refine Kd.C_drewN ?_ _)|(with_reducible refine Kd.C_drew ?_)|exact HR218.out)) hb)
                  have n4_:=Aside0.mk (below_step zb hb)
                  clear HO_3
                  clear HR205
                  clear HR218
                  clear HB
                  have HO_3:=n0_
                  have HO211:=n1_
                  have HR205:=n2_
                  have HR218:=n3_
                  have HB:=n4_
                  clear n0_ n1_ n2_ n3_ n4_
                  clear hb ho27
                  refine hK.out _ _ trivial (fun hHeld=>?_)
                  clear hK K
                  refine norm_ (a':=?_) ?_ ?_
                  rotate_left
                  ·show Act.put _ (some 38) _=_
                   simp only [Act.put,List.setIfInBounds_toArray,List.set_cons_zero,List.set_cons_succ,i64_w,i32_w]
                   rfl
                  refine one_ (i:=3) (N:=some 36) #[true,true,true,true,true,true,false,true,true,true,false,false] rfl rfl (one_of HT_.out (by kernel_rfl)) (by decide) (fun K hK=>?_)
                  refine goes_ Try.func110 (by kernel_rfl) rfl #[.slice (some ad199) y202.length co22] (by rfl) rfl rfl zl ?_
                  with_reducible refine (spec_l1Own.calls _ _ y202 t206 _ ?side1 ?side2 A16.out).mono ?_
                  (case side1=>repeat (first|exact (by repeat (first|(with_reducible exact HR205.out)|(with_reducible refine Kd.C_alloc ?_ _)|(with_reducible refine Kd.C_drewN ?_ _)|(with_reducible refine Kd.C_drew ?_)|exact HR205.out))|(with_reducible refine Kd.C_alloc ?_ _)|(with_reducible refine Kd.C_drewN ?_ _)|(with_reducible refine Kd.C_drew ?_)))
                  (case side2=>exact HC205.out)
                  rintro e w28 ⟨v207,rfl,ho0,hb⟩
                  refine ⟨_,rfl,?_⟩
                  have n0_:=Aside0.mk (Kd.R_elder' (zR HO_3.out) (Kd.R_base ho0) hb)
                  have n1_:=Aside0.mk (Kd.R_elder' (zR HO211.out) (Kd.R_base ho0) hb)
                  have n2_:=Aside0.mk (Kd.R_lower (Kd.R_new' (Kd.R_new' ho0 (Kd.R_lt (zR HO_3.out))) (Kd.R_lt (zR HO211.out))) (below_size zb))
                  have n3_:=Aside0.mk (Kd.C_below (by repeat (first|(with_reducible exact HR205.out)|(with_reducible refine Kd.C_alloc ?_ _)|(with_reducible refine Kd.C_drewN ?_ _)|(with_reducible refine Kd.C_drew ?_)|exact HR205.out)) hb)
                  have n4_:=Aside0.mk (Kd.C_below (by repeat (first|(with_reducible exact HR218.out)|(with_reducible refine Kd.C_alloc ?_ _)|(with_reducible refine Kd.C_drewN ?_ _)|(with_reducible refine Kd.C_drew ?_)|exact HR218.out)) hb)
                  have n5_:=Aside0.mk (below_step zb hb)
                  clear HO_3
                  clear HO211
                  clear HR205
                  clear HR218
                  clear HB
                  have HO_3:=n0_
                  have HO211:=n1_
                  have HO208:=n2_
                  have HR205:=n3_
                  have HR218:=n4_
                  have HB:=n5_
                  clear n0_ n1_ n2_ n3_ n4_ n5_
                  (try clear hb)
                  (try clear hb2)
                  (try clear hk)
                  (try clear hi)
                  (try clear ho0)
                  refine hK.out _ _ trivial (fun hHeld=>?_)
                  clear hK K
                  refine norm_ (a':=?_) ?_ ?_
                  rotate_left
                  ·show Act.put _ (some 36) _=_
                   simp only [Act.put,List.setIfInBounds_toArray,List.set_cons_zero,List.set_cons_succ,i64_w,i32_w]
                   rfl
                  exact norm_ (by simp only [putAll,Act.put,List.setIfInBounds_toArray,List.set_cons_zero,List.set_cons_succ]) (hCont (v207,v210) _ ⟨(zR (Kd.R_mono HO208.out (fun _ hk=>⟨hk.2,hk.1.2⟩))),(zR (Kd.R_mono HO211.out (fun _ hk=>⟨hk.2,hk.1.2⟩))),(zR (Kd.R_mono HO_3.out (fun _ hk=>⟨hk.2,hk.1.2⟩))),zb⟩)
                rintro ⟨v207,v210⟩ w29 ⟨h0_,h1_,h2_,h3_⟩
                have n0_:Aside0 (Kd.R (Kd.int .i64) 3 w29 w.heap.size (fun k_=>some k_≠(v210:Value).ownBlock∧some k_≠(.slice (some ad199) x3_1.length co22:Value).ownBlock) v207 t206):=⟨h0_⟩
                have n1_:Aside0 (Kd.R (Kd.int .i64) 3 w29 w.heap.size (fun k_=>some k_≠(v207:Value).ownBlock∧some k_≠(.slice (some ad199) x3_1.length co22:Value).ownBlock) v210 y209):=⟨h1_⟩
                have n2_:Aside0 (Kd.R (Kd.int .i64) 3 w29 w.heap.size (fun k_=>some k_≠(v207:Value).ownBlock∧some k_≠(v210:Value).ownBlock) (.slice (some ad199) x3_1.length co22) x3_1):=⟨h2_⟩
                have n3_:Aside0 (Below w.heap.size w w29):=⟨h3_⟩
                clear HO_3
                clear HB
                clear h0_ h1_ h2_ h3_
                have HO208:=n0_
                have HO211:=n1_
                have HO_3:=n2_
                have HB:=n3_
                clear n0_ n1_ n2_ n3_
                have hHeld:=trivial
                obtain ⟨Ao31,co31,eo31⟩:=Kd.R_slice HO211.out
                (first|subst eo31|(injection eo31 with f1_ f2_ f3_;have f4_:=f1_.symm;have f5_:=f3_.symm;clear f1_ f2_ f3_;subst f4_;subst f5_))
                refine norm_ (a':=?_) ?_ ?_
                rotate_left
                ·simp only [putAll,Act.put,List.setIfInBounds_toArray,List.set_cons_zero,List.set_cons_succ]
                 rfl
                refine one_ (i:=6) (N:=some 39) #[true,true,true,true,true,true,true,true,true,true,false,false] rfl rfl (one_of HT_.out (by kernel_rfl)) (by decide) (fun K hK=>?_)
                refine Kd.R_append_rows_step (Kd.int .i64) (w0:=w) w.heap.size (by rfl) (.tmp 36) (.tmp 38) 43 3 (.int .i64 0) 8 rfl Try.underlying43 info3 rfl (by decide) (by omega) v207 t206 y209 _ _ _ (fun k_=>some k_≠(.slice (some ad199) x3_1.length co22:Value).ownBlock∧some k_≠(.slice Ao31 y209.length co31:Value).ownBlock) (fun _=>False) rfl rfl ?aO ?aR (fun _ _ h=>h) (fun _ h=>h.elim) ?aF ?aB ?aS ?aL ?_
                (case aR=>exact zC ((Kd.R_reads' HO211.out).2.2))
                (case aB=>exact zb)
                (case aF=>exact (fun k_ hk=>⟨Kd.fresh' (Kd.R_lt (zR HO_3.out)) k_ hk,Kd.fresh' (Kd.R_lt (zR HO211.out)) k_ hk⟩))
                (case aO=>exact (zR (Kd.R_mono HO208.out (fun _ hk=>⟨hk.2,hk.1⟩))))
                (case aS=>exact (below_size zb))
                (case aL=>have:=LMc17.out;omega)
                intro v213 w30 ho hb hg hat
                rw [←Ny212.out] at ho
                replace HO_3:=Aside0.mk (Kd.R_after (ok:=(fun k_=>some k_≠(.slice Ao31 y209.length co31:Value).ownBlock)) (zR (Kd.R_mono HO_3.out (fun _ hk=>⟨hk.2,hk.1⟩))) hg hat)
                replace HO211:=Aside0.mk (Kd.R_after (ok:=(fun k_=>some k_≠(.slice (some ad199) x3_1.length co22:Value).ownBlock)) (zR (Kd.R_mono HO211.out (fun _ hk=>⟨hk.2,hk.1⟩))) hg hat)
                replace HB:=Aside0.mk (hb)
                have HO214:=Aside0.mk (ho)
                clear HO208
                clear ho hb hg hat
                refine hK.out _ _ trivial (fun hHeld=>?_)
                clear hK K
                refine norm_ (a':=?_) ?_ ?_
                rotate_left
                ·show Act.put _ (some 39) _=_
                 simp only [Act.put,List.setIfInBounds_toArray,List.set_cons_zero,List.set_cons_succ,i64_w,i32_w]
                 rfl
                refine one_ (i:=10) (N:=some 43) #[true,true,true,true,true,true,true,true,true,true,true,false] rfl rfl (one_of HT_.out (by kernel_rfl)) (by decide) (fun K hK=>?_)
                refine Kd.R_append_rows_step (Kd.int .i64) (w0:=w) w.heap.size (by rfl) (.tmp 39) (.tmp 42) 43 3 (.int .i64 0) 8 rfl Try.underlying43 info3 rfl (by decide) (by omega) v213 y212 y215 _ _ _ (fun k_=>some k_≠(.slice (some ad199) x3_1.length co22:Value).ownBlock∧some k_≠(.slice Ao31 y209.length co31:Value).ownBlock) (fun _=>False) rfl rfl ?aO ?aR (fun _ _ h=>h) (fun _ h=>h.elim) ?aF ?aB ?aS ?aL ?_
                (case aR=>exact (by rw [Ny215.out,KA25.out];first|exact Kd.C_drop (m:=(x5_2:Int).toNat) (c:=co22) ((Kd.R_reads' (HO_3.out)).2.2) KL25.out ((Kd.R_reads' (HO_3.out)).2.1)|exact Kd.C_drop (m:=(x5_2:Int).toNat) (c:=co22) ((Kd.R_reads' (zR HO_3.out)).2.2) KL25.out ((Kd.R_reads' (zR HO_3.out)).2.1)))
                (case aB=>exact zb)
                (case aF=>exact (fun k_ hk=>⟨Kd.fresh' (Kd.R_lt (zR HO_3.out)) k_ hk,Kd.fresh' (Kd.R_lt (zR HO211.out)) k_ hk⟩))
                (case aO=>exact (zR HO214.out))
                (case aS=>exact (below_size zb))
                (case aL=>have:=LMc20.out;omega)
                intro v220 w32 ho hb hg hat
                rw [←Ny219.out] at ho
                replace HO_3:=Aside0.mk (Kd.R_after (ok:=(fun k_=>some k_≠(.slice Ao31 y209.length co31:Value).ownBlock)) (zR HO_3.out) hg hat)
                replace HO211:=Aside0.mk (Kd.R_after (ok:=(fun k_=>some k_≠(.slice (some ad199) x3_1.length co22:Value).ownBlock)) (zR HO211.out) hg hat)
                replace HB:=Aside0.mk (hb)
                have HO221:=Aside0.mk (ho)
                clear HO214
                clear ho hb hg hat
                refine hK.out _ _ trivial (fun hHeld=>?_)
                clear hK K
                refine norm_ (a':=?_) ?_ ?_
                rotate_left
                ·show Act.put _ (some 43) _=_
                 simp only [Act.put,List.setIfInBounds_toArray,List.set_cons_zero,List.set_cons_succ,i64_w,i32_w]
                 rfl
                refine pure_ (i:=11) (N:=some 3) (v:=?_) (a':=?_) #[true,true,true,true,true,true,true,true,true,true,true,true] rfl rfl (any_of HT_.out (by kernel_rfl)) (fun _ _ _ h=>h) (Or.inl ⟨by rfl,?_⟩) ?_ ?_
                rotate_left
                ·intro w'
                 go_simp
                 with_reducible rfl
                rotate_left
                ·simp only [Act.put,List.setIfInBounds_toArray,List.set_cons_zero,List.set_cons_succ,i64_w,i32_w]
                 rfl
                refine done_ (done_of HT_.out (by kernel_rfl)) ?_
                try go_wp2
                go_roundg k2
                case measure=>have:=HK1.out;have:=HK2.out;omega
                case rel=>exact ⟨(y219),(wrap64 (x4_1 + 1)),zo,H',⟨by have:=HK1.out;have:=HK2.out;omega⟩,⟨zR (Kd.R_mono HO221.out (fun _ hk=>trivial))⟩,⟨zb⟩⟩
               ·rw [if_neg c20] at H
                exact absurd H (by simp)
              ·rw [if_neg c17] at H
               exact absurd H (by simp)
             ·rw [if_neg c15] at H
              exact absurd H (by simp)
           ·rw [if_neg c10] at H
            exact absurd H (by simp)
          ·rw [if_neg c9] at H
           exact absurd H (by simp)
         ·rw [if_neg c8] at H
          exact absurd H (by simp)
        ·rw [if_neg c7] at H
         exact absurd H (by simp)
       ·rw [if_neg c6] at H
        exact absurd H (by simp)
      ·rw [if_neg c5] at H
       have c5b0:decide (x5_2<(x3_1.length:Int))=false:=decide_eq_false c5
       clear c5
       by_cases c33:0≤x5_2
       ·rw [if_pos c33] at H
        have c33b0:=eq_true c33
        have c33b1:decide (0≤x5_2)=true:=decide_eq_true c33
        clear c33
        by_cases c34:x5_2≤(x3_1.length:Int)
        ·rw [if_pos c34] at H
         have c34b0:=eq_true c34
         have c34b1:decide (x5_2≤(x3_1.length:Int))=true:=decide_eq_true c34
         clear c34
         obtain ⟨y222,hy222⟩:∃ y_:List Int,y_=(x3_1.take (x5_2:Int).toNat):=⟨_,rfl⟩
         replace H:((spec_l1Own.f y222).bind fun t226=>((some (([x4_1]:List Int):List Int)).bind fun y229=>(if t226.length + y229.length<17592186044416 then ((some (t226++y229:List Int)).bind fun y232=>((some (x3_1.drop (x5_2:Int).toNat:List Int)).bind fun y235=>(if y232.length + y235.length<17592186044416 then (spec_l7Falling.l0 k2 l0 (y232++y235) (wrap64 (x4_1 + 1))) else (none)))) else (none))))=some r:=by first|(rw [hy222];with_reducible exact H)|(have H2_:=(Option.bind_some _ _).symm.trans H;rw [hy222];with_reducible exact H2_)|(have H2_:=(Option.bind_some _ _).symm.trans H;with_reducible exact H2_)|with_reducible exact H|(rw [hy222];exact H)|exact H
         have Ny222:=Aside0.mk hy222
         clear hy222
         replace H:=Option.bind_eq_some_iff.mp H
         obtain ⟨t226,A350,H⟩:=H
         replace H:((some (([x4_1]:List Int):List Int)).bind fun y229=>(if t226.length + y229.length<17592186044416 then ((some (t226++y229:List Int)).bind fun y232=>((some (x3_1.drop (x5_2:Int).toNat:List Int)).bind fun y235=>(if y232.length + y235.length<17592186044416 then (spec_l7Falling.l0 k2 l0 (y232++y235) (wrap64 (x4_1 + 1))) else (none)))) else (none)))=some r:=H
         have A35:=Aside0.mk A350
         clear A350
         obtain ⟨y229,hy229⟩:∃ y_:List Int,y_=(([x4_1]:List Int)):=⟨_,rfl⟩
         replace H:(if t226.length + y229.length<17592186044416 then ((some (t226++y229:List Int)).bind fun y232=>((some (x3_1.drop (x5_2:Int).toNat:List Int)).bind fun y235=>(if y232.length + y235.length<17592186044416 then (spec_l7Falling.l0 k2 l0 (y232++y235) (wrap64 (x4_1 + 1))) else (none)))) else (none))=some r:=by first|(rw [hy229];with_reducible exact H)|(have H2_:=(Option.bind_some _ _).symm.trans H;rw [hy229];with_reducible exact H2_)|(have H2_:=(Option.bind_some _ _).symm.trans H;with_reducible exact H2_)|with_reducible exact H|(rw [hy229];exact H)|exact H
         have Ny229:=Aside0.mk hy229
         clear hy229
         by_cases c36:t226.length + y229.length<17592186044416
         ·rw [if_pos c36] at H
          have LMc36:=Aside0.mk c36
          clear c36
          obtain ⟨y232,hy232⟩:∃ y_:List Int,y_=(t226++y229):=⟨_,rfl⟩
          replace H:((some (x3_1.drop (x5_2:Int).toNat:List Int)).bind fun y235=>(if y232.length + y235.length<17592186044416 then (spec_l7Falling.l0 k2 l0 (y232++y235) (wrap64 (x4_1 + 1))) else (none)))=some r:=by first|(rw [hy232];with_reducible exact H)|(have H2_:=(Option.bind_some _ _).symm.trans H;rw [hy232];with_reducible exact H2_)|(have H2_:=(Option.bind_some _ _).symm.trans H;with_reducible exact H2_)|with_reducible exact H|(rw [hy232];exact H)|exact H
          have Ny232:=Aside0.mk hy232
          clear hy232
          have c37b0:=eq_true (of_decide_eq_true za:0≤x5_2)
          have c38b0:=eq_true (of_decide_eq_true za:x5_2≤(x3_1.length:Int))
          obtain ⟨y235,hy235⟩:∃ y_:List Int,y_=(x3_1.drop (x5_2:Int).toNat):=⟨_,rfl⟩
          replace H:(if y232.length + y235.length<17592186044416 then (spec_l7Falling.l0 k2 l0 (y232++y235) (wrap64 (x4_1 + 1))) else (none))=some r:=by first|(rw [hy235];with_reducible exact H)|(have H2_:=(Option.bind_some _ _).symm.trans H;rw [hy235];with_reducible exact H2_)|(have H2_:=(Option.bind_some _ _).symm.trans H;with_reducible exact H2_)|with_reducible exact H|(rw [hy235];exact H)|exact H
          have Ny235:=Aside0.mk hy235
          clear hy235
          by_cases c39:y232.length + y235.length<17592186044416
          ·rw [if_pos c39] at H
           have LMc39:=Aside0.mk c39
           clear c39
           obtain ⟨y239,hy239⟩:∃ y_:List Int,y_=(y232++y235):=⟨_,rfl⟩
           replace H:(spec_l7Falling.l0 k2 l0 y239 (wrap64 (x4_1 + 1)))=some r:=by first|(rw [hy239];with_reducible exact H)|(have H2_:=(Option.bind_some _ _).symm.trans H;rw [hy239];with_reducible exact H2_)|(have H2_:=(Option.bind_some _ _).symm.trans H;with_reducible exact H2_)|with_reducible exact H|(rw [hy239];exact H)|exact H
           have Ny239:=Aside0.mk hy239
           clear hy239
           have H':=Aside0.mk H
           clear H
           try go_wp2
           replace HO_3:=Aside0.mk (Kd.R_drew HO_3.out)
           replace HB:=Aside0.mk (below_drew1 HB.out)
           obtain ⟨Ao41,co41,eo41⟩:=Kd.R_slice HO_3.out
           (first|subst eo41|(injection eo41 with f1_ f2_ f3_;have f4_:=f1_.symm;have f5_:=f3_.symm;clear f1_ f2_ f3_;subst f4_;subst f5_))
           refine start_ (n:=18) (S:=fun w'=>True) (ds:=[]) #[false,false,false,false,false,false,false,false,false,false,false,false,false,false,false,false,false,false] (by kernel_rfl) rfl rfl trivial (fun hHeld=>?_);refine with_tabW spec_l7Falling.tab6 spec_l7Falling.bits6 (fun HT_ HW_=>?_)
           generalize wr.drew=w40 at HO_3 HB hHeld ⊢
           refine pure_ (i:=0) (N:=some 13) (v:=?_) (a':=?_) #[true,false,false,false,false,false,false,false,false,false,false,false,false,false,false,false,false,false] rfl rfl (any_of HT_.out (by kernel_rfl)) (fun _ _ _ h=>h) (Or.inl ⟨by rfl,?_⟩) ?_ ?_
           rotate_left
           ·intro w'
            go_simp
            with_reducible rfl
           rotate_left
           ·simp only [Act.put,List.setIfInBounds_toArray,List.set_cons_zero,List.set_cons_succ,i64_w,i32_w]
            rfl
           refine pure_ (i:=1) (N:=some 14) (v:=?_) (a':=?_) #[true,true,false,false,false,false,false,false,false,false,false,false,false,false,false,false,false,false] rfl rfl (any_of HT_.out (by kernel_rfl)) (fun _ _ _ h=>h) (Or.inl ⟨by rfl,?_⟩) ?_ ?_
           rotate_left
           ·intro w'
            go_simp
            with_reducible rfl
           rotate_left
           ·simp only [Act.put,List.setIfInBounds_toArray,List.set_cons_zero,List.set_cons_succ,i64_w,i32_w]
            rfl
           refine pure_ (i:=2) (N:=some 15) (v:=?_) (a':=?_) #[true,true,true,false,false,false,false,false,false,false,false,false,false,false,false,false,false,false] rfl rfl (any_of HT_.out (by kernel_rfl)) (fun _ _ _ h=>h) (Or.inl ⟨by rfl,?_⟩) ?_ ?_
           rotate_left
           ·intro w'
            go_simp
            with_reducible rfl
           rotate_left
           ·simp only [Act.put,List.setIfInBounds_toArray,List.set_cons_zero,List.set_cons_succ,i64_w,i32_w]
            rfl
           refine pure_ (i:=3) (N:=some 16) (v:=?_) (a':=?_) #[true,true,true,true,false,false,false,false,false,false,false,false,false,false,false,false,false,false] rfl rfl (any_of HT_.out (by kernel_rfl)) (fun _ _ _ h=>h) (Or.inl ⟨by rfl,?_⟩) ?_ ?_
           rotate_left
           ·intro w'
            go_simp
            with_reducible rfl
           rotate_left
           ·simp only [Act.put,List.setIfInBounds_toArray,List.set_cons_zero,List.set_cons_succ,i64_w,i32_w]
            rfl
           refine pure_ (i:=4) (N:=some 17) (v:=?_) (a':=?_) #[true,true,true,true,true,false,false,false,false,false,false,false,false,false,false,false,false,false] rfl rfl (any_of HT_.out (by kernel_rfl)) (fun _ _ _ h=>h) (Or.inl ⟨by rfl,?_⟩) ?_ ?_
           rotate_left
           ·intro w'
            go_simp
            with_reducible rfl
           rotate_left
           ·simp only [Act.put,List.setIfInBounds_toArray,List.set_cons_zero,List.set_cons_succ,i64_w,i32_w]
            rfl
           refine pure_ (i:=5) (N:=some 18) (v:=undef) (a':=?_) #[true,true,true,true,true,true,false,false,false,false,false,false,false,false,false,false,false,false] rfl rfl (any_of HT_.out (by kernel_rfl)) (fun _ _ _ h=>h) (Or.inr ⟨by rfl,rfl⟩) ?_ ?_
           rotate_left
           ·simp only [Act.put,List.setIfInBounds_toArray,List.set_cons_zero,List.set_cons_succ,i64_w,i32_w]
            rfl
           refine pure_ (i:=6) (N:=some 19) (v:=undef) (a':=?_) #[true,true,true,true,true,true,true,false,false,false,false,false,false,false,false,false,false,false] rfl rfl (any_of HT_.out (by kernel_rfl)) (fun _ _ _ h=>h) (Or.inr ⟨by rfl,rfl⟩) ?_ ?_
           rotate_left
           ·simp only [Act.put,List.setIfInBounds_toArray,List.set_cons_zero,List.set_cons_succ,i64_w,i32_w]
            rfl
           refine pure_ (i:=7) (N:=some 20) (v:=undef) (a':=?_) #[true,true,true,true,true,true,true,true,false,false,false,false,false,false,false,false,false,false] rfl rfl (any_of HT_.out (by kernel_rfl)) (fun _ _ _ h=>h) (Or.inr ⟨by rfl,rfl⟩) ?_ ?_
           rotate_left
           ·simp only [Act.put,List.setIfInBounds_toArray,List.set_cons_zero,List.set_cons_succ,i64_w,i32_w]
            rfl
           refine pure_ (i:=8) (N:=some 21) (v:=undef) (a':=?_) #[true,true,true,true,true,true,true,true,true,false,false,false,false,false,false,false,false,false] rfl rfl (any_of HT_.out (by kernel_rfl)) (fun _ _ _ h=>h) (Or.inr ⟨by rfl,rfl⟩) ?_ ?_
           rotate_left
           ·simp only [Act.put,List.setIfInBounds_toArray,List.set_cons_zero,List.set_cons_succ,i64_w,i32_w]
            rfl
           refine pure_ (i:=9) (N:=some 22) (v:=undef) (a':=?_) #[true,true,true,true,true,true,true,true,true,true,false,false,false,false,false,false,false,false] rfl rfl (any_of HT_.out (by kernel_rfl)) (fun _ _ _ h=>h) (Or.inr ⟨by rfl,rfl⟩) ?_ ?_
           rotate_left
           ·simp only [Act.put,List.setIfInBounds_toArray,List.set_cons_zero,List.set_cons_succ,i64_w,i32_w]
            rfl
           refine pure_ (i:=10) (N:=some 23) (v:=undef) (a':=?_) #[true,true,true,true,true,true,true,true,true,true,true,false,false,false,false,false,false,false] rfl rfl (any_of HT_.out (by kernel_rfl)) (fun _ _ _ h=>h) (Or.inr ⟨by rfl,rfl⟩) ?_ ?_
           rotate_left
           ·simp only [Act.put,List.setIfInBounds_toArray,List.set_cons_zero,List.set_cons_succ,i64_w,i32_w]
            rfl
           refine pure_ (i:=11) (N:=some 24) (v:=undef) (a':=?_) #[true,true,true,true,true,true,true,true,true,true,true,true,false,false,false,false,false,false] rfl rfl (any_of HT_.out (by kernel_rfl)) (fun _ _ _ h=>h) (Or.inr ⟨by rfl,rfl⟩) ?_ ?_
           rotate_left
           ·simp only [Act.put,List.setIfInBounds_toArray,List.set_cons_zero,List.set_cons_succ,i64_w,i32_w]
            rfl
           refine pure_ (i:=12) (N:=some 25) (v:=undef) (a':=?_) #[true,true,true,true,true,true,true,true,true,true,true,true,true,false,false,false,false,false] rfl rfl (any_of HT_.out (by kernel_rfl)) (fun _ _ _ h=>h) (Or.inr ⟨by rfl,rfl⟩) ?_ ?_
           rotate_left
           ·simp only [Act.put,List.setIfInBounds_toArray,List.set_cons_zero,List.set_cons_succ,i64_w,i32_w]
            rfl
           refine pure_ (i:=13) (N:=some 26) (v:=undef) (a':=?_) #[true,true,true,true,true,true,true,true,true,true,true,true,true,true,false,false,false,false] rfl rfl (any_of HT_.out (by kernel_rfl)) (fun _ _ _ h=>h) (Or.inr ⟨by rfl,rfl⟩) ?_ ?_
           rotate_left
           ·simp only [Act.put,List.setIfInBounds_toArray,List.set_cons_zero,List.set_cons_succ,i64_w,i32_w]
            rfl
           refine pure_ (i:=14) (N:=some 27) (v:=undef) (a':=?_) #[true,true,true,true,true,true,true,true,true,true,true,true,true,true,true,false,false,false] rfl rfl (any_of HT_.out (by kernel_rfl)) (fun _ _ _ h=>h) (Or.inr ⟨by rfl,rfl⟩) ?_ ?_
           rotate_left
           ·simp only [Act.put,List.setIfInBounds_toArray,List.set_cons_zero,List.set_cons_succ,i64_w,i32_w]
            rfl
           refine pure_ (i:=15) (N:=some 28) (v:=undef) (a':=?_) #[true,true,true,true,true,true,true,true,true,true,true,true,true,true,true,true,false,false] rfl rfl (any_of HT_.out (by kernel_rfl)) (fun _ _ _ h=>h) (Or.inr ⟨by rfl,rfl⟩) ?_ ?_
           rotate_left
           ·simp only [Act.put,List.setIfInBounds_toArray,List.set_cons_zero,List.set_cons_succ,i64_w,i32_w]
            rfl
           refine pure_ (i:=16) (N:=some 29) (v:=undef) (a':=?_) #[true,true,true,true,true,true,true,true,true,true,true,true,true,true,true,true,true,false] rfl rfl (any_of HT_.out (by kernel_rfl)) (fun _ _ _ h=>h) (Or.inr ⟨by rfl,rfl⟩) ?_ ?_
           rotate_left
           ·simp only [Act.put,List.setIfInBounds_toArray,List.set_cons_zero,List.set_cons_succ,i64_w,i32_w]
            rfl
           refine pure_ (i:=17) (N:=some 30) (v:=?_) (a':=?_) #[true,true,true,true,true,true,true,true,true,true,true,true,true,true,true,true,true,true] rfl rfl (any_of HT_.out (by kernel_rfl)) (fun _ _ _ h=>h) (Or.inl ⟨by rfl,?_⟩) ?_ ?_
           rotate_left
           ·intro w'
            go_simp
            with_reducible rfl
           rotate_left
           ·simp only [Act.put,List.setIfInBounds_toArray,List.set_cons_zero,List.set_cons_succ,i64_w,i32_w]
            rfl
           refine done_ (done_of HT_.out (by kernel_rfl)) ?_
           try go_wp2
           replace HO_3:=Aside0.mk (Kd.R_drew HO_3.out)
           replace HB:=Aside0.mk (below_drew1 HB.out)
           have q43:(x5_2:Int)≤((x3_1.length:Int):Int):=of_decide_eq_true za
           obtain ⟨i043,hi043,_,hsz43,_⟩:=info_parts info3
           have hroom43:x3_1.length≤co41:=(Kd.R_reads' HO_3.out).2.1
           have hC43:Kd.C (Kd.int .i64) _ Ao41 x3_1.length x3_1:=(Kd.R_reads' HO_3.out).2.2
           have hcut43:=cut_to (P:=Try.prog) 43 3 .i64 Try.underlying43 hi043 Ao41 x3_1.length co41 x5_2 (of_decide_eq_true za) q43 hroom43
           have hr43:=Kd.C_take (m:=(x5_2:Int).toNat) hC43 (by omega)
           have hy43:y222.length=(x5_2:Int).toNat:=(by rw [Ny222.out,List.length_take];omega)
           rw [←Ny222.out] at hr43
           rw [←hy43] at hcut43
           have HR225:=Aside0.mk hr43
           have HC225:=Aside0.mk (show y222.length≤co41 from by omega)
           clear hr43 hC43 hroom43 hi043 hsz43
           have KY43:=Aside0.mk hy43
           clear hy43
           have KL43:=Aside0.mk (show (x5_2:Int).toNat≤x3_1.length from by omega)
           replace q43:=eq_true q43
           have q44:(x5_2:Int)≤((x3_1.length:Int):Int):=of_decide_eq_true za
           obtain ⟨i044,hi044,_,hsz44,_⟩:=info_parts info3
           have hroom44:x3_1.length≤co41:=(Kd.R_reads' HO_3.out).2.1
           have hC44:Kd.C (Kd.int .i64) _ Ao41 x3_1.length x3_1:=(Kd.R_reads' HO_3.out).2.2
           have q044:(0:Int)≤(x5_2:Int):=of_decide_eq_true za
           have hcut44:=cut_from (P:=Try.prog) 43 3 .i64 Try.underlying43 hi044 1 hsz44 Ao41 x3_1.length co41 x5_2 q044 q44
           have hr44:=Kd.C_drop (m:=(x5_2:Int).toNat) (c:=co41) hC44 (by omega) hroom44
           obtain ⟨A44,hA44⟩:∃ Az_,Az_=(if co41=(x5_2:Int).toNat then Ao41 else (Ao41:Option Addr).map (·.add ((x5_2:Int).toNat * 1))):=⟨_,rfl⟩
           obtain ⟨c44,hc44⟩:∃ cz_,cz_=co41 - (x5_2:Int).toNat:=⟨_,rfl⟩
           have hy44:y235.length=x3_1.length - (x5_2:Int).toNat:=(by rw [Ny235.out,List.length_drop] <;> omega)
           rw [show (x3_1).drop (x5_2:Int).toNat=y235 from Ny235.out.symm] at hr44
           replace hr44:Kd.C (Kd.int .i64) _ A44 y235.length y235:=(by rw [hA44];exact hr44)
           rw [←hy44,←hA44,←hc44] at hcut44
           have HR238:=Aside0.mk hr44
           have HC238:=Aside0.mk (show y235.length≤c44 from by rw [hy44,hc44];exact Nat.sub_le_sub_right hroom44 _)
           clear hr44 hC44 hroom44 hi044 hsz44 hc44
           have KY44:=Aside0.mk hy44
           have KA44:=Aside0.mk hA44
           clear hy44 hA44
           have KL44:=Aside0.mk (show (x5_2:Int).toNat≤x3_1.length from by omega)
           replace q44:=eq_true q44
           refine start_ (n:=12) (S:=fun w'=>True) (ds:=[]) #[false,false,false,false,false,false,false,false,false,false,false,false] (by kernel_rfl) rfl rfl trivial (fun hHeld=>?_);refine with_tabW spec_l7Falling.tab8 spec_l7Falling.bits8 (fun HT_ HW_=>?_)
           generalize w40.drew=w42 at HO_3 HB HR225 HR238 hHeld ⊢
           refine pure_ (i:=0) (N:=some 33) (v:=?_) (a':=?_) #[true,false,false,false,false,false,false,false,false,false,false,false] rfl rfl (any_of HT_.out (by kernel_rfl)) (fun _ _ _ h=>h) (Or.inl ⟨by rfl,?_⟩) ?_ ?_
           rotate_left
           ·intro w'
            go_simp
            with_reducible rfl
           rotate_left
           ·simp only [Act.put,List.setIfInBounds_toArray,List.set_cons_zero,List.set_cons_succ,i64_w,i32_w]
            rfl
           refine pure_ (i:=1) (N:=some 34) (v:=?_) (a':=?_) #[true,true,false,false,false,false,false,false,false,false,false,false] rfl rfl (any_of HT_.out (by kernel_rfl)) (fun _ _ _ h=>h) (Or.inl ⟨by rfl,?_⟩) ?_ ?_
           rotate_left
           ·intro w'
            go_simp
            with_reducible rfl
           rotate_left
           ·simp only [Act.put,List.setIfInBounds_toArray,List.set_cons_zero,List.set_cons_succ,i64_w,i32_w]
            rfl
           refine pure_ (i:=2) (N:=some 35) (v:=?_) (a':=?_) #[true,true,true,false,false,false,false,false,false,false,false,false] rfl rfl (any_of HT_.out (by kernel_rfl)) (fun _ _ _ h=>h) (Or.inl ⟨by rfl,?_⟩) ?_ ?_
           rotate_left
           ·intro w'
            go_simp
            with_reducible rfl
           rotate_left
           ·simp only [Act.put,List.setIfInBounds_toArray,List.set_cons_zero,List.set_cons_succ,i64_w,i32_w]
            rfl
           refine pure_ (i:=4) (N:=some 37) (v:=?_) (a':=?_) #[true,true,true,false,true,false,false,false,false,false,false,false] rfl rfl (any_of HT_.out (by kernel_rfl)) (fun _ _ _ h=>h) (Or.inl ⟨by rfl,?_⟩) ?_ ?_
           rotate_left
           ·intro w'
            go_simp
            with_reducible rfl
           rotate_left
           ·simp only [Act.put,List.setIfInBounds_toArray,List.set_cons_zero,List.set_cons_succ,i64_w,i32_w]
            rfl
           refine pure_ (i:=7) (N:=some 40) (v:=?_) (a':=?_) #[true,true,true,false,true,false,false,true,false,false,false,false] rfl rfl (any_of HT_.out (by kernel_rfl)) (fun _ _ _ h=>h) (Or.inl ⟨by rfl,?_⟩) ?_ ?_
           rotate_left
           ·intro w'
            go_simp
            with_reducible rfl
           rotate_left
           ·simp only [Act.put,List.setIfInBounds_toArray,List.set_cons_zero,List.set_cons_succ,i64_w,i32_w]
            rfl
           refine pure_ (i:=8) (N:=some 41) (v:=?_) (a':=?_) #[true,true,true,false,true,false,false,true,true,false,false,false] rfl rfl (any_of HT_.out (by kernel_rfl)) (fun _ _ _ h=>h) (Or.inl ⟨by rfl,?_⟩) ?_ ?_
           rotate_left
           ·intro w'
            go_simp
            with_reducible rfl
           rotate_left
           ·simp only [Act.put,List.setIfInBounds_toArray,List.set_cons_zero,List.set_cons_succ,i64_w,i32_w]
            rfl
           refine pure_ (i:=9) (N:=some 42) (v:=?_) (a':=?_) #[true,true,true,false,true,false,false,true,true,true,false,false] rfl rfl (any_of HT_.out (by kernel_rfl)) (fun _ _ _ h=>h) (Or.inl ⟨by rfl,?_⟩) ?_ ?_
           rotate_left
           ·intro w'
            go_simp
            with_reducible rfl
           rotate_left
           ·simp only [Act.put,List.setIfInBounds_toArray,List.set_cons_zero,List.set_cons_succ,i64_w,i32_w]
            rfl
           refine join_ (σ:=Value × Value) 3 #[true,true,true,true,true,true,false,true,true,true,false,false] (fun s_=>[(36,s_.1),(38,s_.2)]) (fun s_ w'=>(Kd.R (Kd.int .i64) 3 w' w.heap.size (fun k_=>some k_≠(s_.2:Value).ownBlock∧some k_≠(.slice Ao41 x3_1.length co41:Value).ownBlock) s_.1 t226)∧(Kd.R (Kd.int .i64) 3 w' w.heap.size (fun k_=>some k_≠(s_.1:Value).ownBlock∧some k_≠(.slice Ao41 x3_1.length co41:Value).ownBlock) s_.2 y229)∧(Kd.R (Kd.int .i64) 3 w' w.heap.size (fun k_=>some k_≠(s_.1:Value).ownBlock∧some k_≠(s_.2:Value).ownBlock) (.slice Ao41 x3_1.length co41) x3_1)∧(Below w.heap.size w w')) ?_ ?_
           rotate_left
           ·intro hCont
            refine two_ (i:=3) (j:=5) (Ni:=some 36) (Nj:=some 38) #[true,true,true,true,true,false,false,true,true,true,false,false] #[true,true,true,false,true,true,false,true,true,true,false,false] rfl rfl rfl rfl (two_of HT_.out (by kernel_rfl)) (by decide) (by decide) (fun K hK=>?_) (fun K hK=>?_)
            ·skip
             refine goes_ Try.func110 (by kernel_rfl) rfl #[.slice Ao41 y222.length co41] (by rfl) rfl rfl zl ?_
             with_reducible refine (spec_l1Own.calls _ _ y222 t226 _ ?side1 ?side2 A35.out).mono ?_
             (case side1=>repeat (first|exact (by repeat (first|(with_reducible exact HR225.out)|(with_reducible refine Kd.C_alloc ?_ _)|(with_reducible refine Kd.C_drewN ?_ _)|(with_reducible refine Kd.C_drew ?_)|exact HR225.out))|(with_reducible refine Kd.C_alloc ?_ _)|(with_reducible refine Kd.C_drewN ?_ _)|(with_reducible refine Kd.C_drew ?_)))
             (case side2=>exact HC225.out)
             rintro e w45 ⟨v227,rfl,ho0,hb⟩
             refine ⟨_,rfl,?_⟩
             have n0_:=Aside0.mk (Kd.R_elder' (zR HO_3.out) (Kd.R_base ho0) hb)
             have n1_:=Aside0.mk (Kd.R_lower (Kd.R_new' ho0 (Kd.R_lt (zR HO_3.out))) (below_size zb))
             have n2_:=Aside0.mk (Kd.C_below (by repeat (first|(with_reducible exact HR225.out)|(with_reducible refine Kd.C_alloc ?_ _)|(with_reducible refine Kd.C_drewN ?_ _)|(with_reducible refine Kd.C_drew ?_)|exact HR225.out)) hb)
             have n3_:=Aside0.mk (Kd.C_below (by repeat (first|(with_reducible exact HR238.out)|(with_reducible refine Kd.C_alloc ?_ _)|(with_reducible refine Kd.C_drewN ?_ _)|(with_reducible refine Kd.C_drew ?_)|exact HR238.out)) hb)
             have n4_:=Aside0.mk (below_step zb hb)
             clear HO_3
             clear HR225
             clear HR238
             clear HB
             have HO_3:=n0_
             have HO228:=n1_
             have HR225:=n2_
             have HR238:=n3_
             have HB:=n4_
             clear n0_ n1_ n2_ n3_ n4_
             (try clear hb)
             (try clear hb2)
             (try clear hk)
             (try clear hi)
             (try clear ho0)
             refine hK.out _ _ trivial (fun hHeld=>?_)
             clear hK K
             refine norm_ (a':=?_) ?_ ?_
             rotate_left
             ·show Act.put _ (some 36) _=_
              simp only [Act.put,List.setIfInBounds_toArray,List.set_cons_zero,List.set_cons_succ,i64_w,i32_w]
              rfl
             refine one_ (i:=5) (N:=some 38) #[true,true,true,true,true,true,false,true,true,true,false,false] rfl rfl (one_of HT_.out (by kernel_rfl)) (by decide) (fun K hK=>?_)
             refine Kd.R_lit_step (Kd.int .i64) _ 3 ?hg (N:=38) ?hd (xs:=([x4_1]:List Int)) (inner:=[.int .i64 x4_1]) (ok:=fun _=>True) (okp:=fun _=>True) ?hr ?hp (fun _ hk=>hk) trivial (Below.refl _ _) (Nat.le_refl _) (by simp) ?_;(case hd=>rfl);(case hg=>rfl);(case hr=>first|(go_simp;done)|(go_simp;rfl));(case hp=>exact (Reps.one (show Kd.M (Kd.int .i64) _ _ _ x4_1 [.int .i64 x4_1] from rfl) (Reps.none _ _)))
             intro v230 w46 ho47 hb hg_ hnew_
             clear hg_ hnew_
             (first|rw [←Ny229.out] at ho47|(simp only [Int.reduceToNat] at ho47;rw [←Ny229.out] at ho47))
             have n0_:=Aside0.mk (Kd.R_elder' (zR HO_3.out) (Kd.R_base ho47) hb)
             have n1_:=Aside0.mk (Kd.R_elder' (zR HO228.out) (Kd.R_base ho47) hb)
             have n2_:=Aside0.mk (Kd.R_lower (Kd.R_new' (Kd.R_new' ho47 (Kd.R_lt (zR HO_3.out))) (Kd.R_lt (zR HO228.out))) (below_size zb))
             have n3_:=Aside0.mk (Kd.C_below (by repeat (first|(with_reducible exact HR225.out)|(with_reducible refine Kd.C_alloc ?_ _)|(with_reducible refine Kd.C_drewN ?_ _)|(with_reducible refine Kd.C_drew ?_)|exact HR225.out)) hb)
             have n4_:=Aside0.mk (Kd.C_below (by repeat (first|(with_reducible exact HR238.out)|(with_reducible refine Kd.C_alloc ?_ _)|(with_reducible refine Kd.C_drewN ?_ _)|(with_reducible refine Kd.C_drew ?_)|exact HR238.out)) hb)
             have n5_:=Aside0.mk (below_step zb hb)
             clear HO_3
             clear HO228
             clear HR225
             clear HR238
             clear HB
             have HO_3:=n0_
             have HO228:=n1_
             have HO231:=n2_
             have HR225:=n3_
             have HR238:=n4_
             have HB:=n5_
             clear n0_ n1_ n2_ n3_ n4_ n5_
             clear hb ho47
             refine hK.out _ _ trivial (fun hHeld=>?_)
             clear hK K
             refine norm_ (a':=?_) ?_ ?_
             rotate_left
             ·show Act.put _ (some 38) _=_
              simp only [Act.put,List.setIfInBounds_toArray,List.set_cons_zero,List.set_cons_succ,i64_w,i32_w]
              rfl
             exact norm_ (by simp only [putAll,Act.put,List.setIfInBounds_toArray,List.set_cons_zero,List.set_cons_succ]) (hCont (v227,v230) _ ⟨(zR (Kd.R_mono HO228.out (fun _ hk=>⟨hk.2,hk.1.2⟩))),(zR (Kd.R_mono HO231.out (fun _ hk=>⟨hk.2,hk.1.2⟩))),(zR (Kd.R_mono HO_3.out (fun _ hk=>⟨hk.1.2,hk.2⟩))),zb⟩)
            ·skip
             refine Kd.R_lit_step (Kd.int .i64) _ 3 ?hg (N:=38) ?hd (xs:=([x4_1]:List Int)) (inner:=[.int .i64 x4_1]) (ok:=fun _=>True) (okp:=fun _=>True) ?hr ?hp (fun _ hk=>hk) trivial (Below.refl _ _) (Nat.le_refl _) (by simp) ?_;(case hd=>rfl);(case hg=>rfl);(case hr=>first|(go_simp;done)|(go_simp;rfl));(case hp=>exact (Reps.one (show Kd.M (Kd.int .i64) _ _ _ x4_1 [.int .i64 x4_1] from rfl) (Reps.none _ _)))
             intro v230 w45 ho46 hb hg_ hnew_
             clear hg_ hnew_
             (first|rw [←Ny229.out] at ho46|(simp only [Int.reduceToNat] at ho46;rw [←Ny229.out] at ho46))
             have n0_:=Aside0.mk (Kd.R_elder' (zR HO_3.out) (Kd.R_base ho46) hb)
             have n1_:=Aside0.mk (Kd.R_lower (Kd.R_new' ho46 (Kd.R_lt (zR HO_3.out))) (below_size zb))
             have n2_:=Aside0.mk (Kd.C_below (by repeat (first|(with_reducible exact HR225.out)|(with_reducible refine Kd.C_alloc ?_ _)|(with_reducible refine Kd.C_drewN ?_ _)|(with_reducible refine Kd.C_drew ?_)|exact HR225.out)) hb)
             have n3_:=Aside0.mk (Kd.C_below (by repeat (first|(with_reducible exact HR238.out)|(with_reducible refine Kd.C_alloc ?_ _)|(with_reducible refine Kd.C_drewN ?_ _)|(with_reducible refine Kd.C_drew ?_)|exact HR238.out)) hb)
             have n4_:=Aside0.mk (below_step zb hb)
             clear HO_3
             clear HR225
             clear HR238
             clear HB
             have HO_3:=n0_
             have HO231:=n1_
             have HR225:=n2_
             have HR238:=n3_
             have HB:=n4_
             clear n0_ n1_ n2_ n3_ n4_
             clear hb ho46
             refine hK.out _ _ trivial (fun hHeld=>?_)
             clear hK K
             refine norm_ (a':=?_) ?_ ?_
             rotate_left
             ·show Act.put _ (some 38) _=_
              simp only [Act.put,List.setIfInBounds_toArray,List.set_cons_zero,List.set_cons_succ,i64_w,i32_w]
              rfl
             refine one_ (i:=3) (N:=some 36) #[true,true,true,true,true,true,false,true,true,true,false,false] rfl rfl (one_of HT_.out (by kernel_rfl)) (by decide) (fun K hK=>?_)
             refine goes_ Try.func110 (by kernel_rfl) rfl #[.slice Ao41 y222.length co41] (by rfl) rfl rfl zl ?_
             with_reducible refine (spec_l1Own.calls _ _ y222 t226 _ ?side1 ?side2 A35.out).mono ?_
             (case side1=>repeat (first|exact (by repeat (first|(with_reducible exact HR225.out)|(with_reducible refine Kd.C_alloc ?_ _)|(with_reducible refine Kd.C_drewN ?_ _)|(with_reducible refine Kd.C_drew ?_)|exact HR225.out))|(with_reducible refine Kd.C_alloc ?_ _)|(with_reducible refine Kd.C_drewN ?_ _)|(with_reducible refine Kd.C_drew ?_)))
             (case side2=>exact HC225.out)
             rintro e w47 ⟨v227,rfl,ho0,hb⟩
             refine ⟨_,rfl,?_⟩
             have n0_:=Aside0.mk (Kd.R_elder' (zR HO_3.out) (Kd.R_base ho0) hb)
             have n1_:=Aside0.mk (Kd.R_elder' (zR HO231.out) (Kd.R_base ho0) hb)
             have n2_:=Aside0.mk (Kd.R_lower (Kd.R_new' (Kd.R_new' ho0 (Kd.R_lt (zR HO_3.out))) (Kd.R_lt (zR HO231.out))) (below_size zb))
             have n3_:=Aside0.mk (Kd.C_below (by repeat (first|(with_reducible exact HR225.out)|(with_reducible refine Kd.C_alloc ?_ _)|(with_reducible refine Kd.C_drewN ?_ _)|(with_reducible refine Kd.C_drew ?_)|exact HR225.out)) hb)
             have n4_:=Aside0.mk (Kd.C_below (by repeat (first|(with_reducible exact HR238.out)|(with_reducible refine Kd.C_alloc ?_ _)|(with_reducible refine Kd.C_drewN ?_ _)|(with_reducible refine Kd.C_drew ?_)|exact HR238.out)) hb)
             have n5_:=Aside0.mk (below_step zb hb)
             clear HO_3
             clear HO231
             clear HR225
             clear HR238
             clear HB
             have HO_3:=n0_
             have HO231:=n1_
             have HO228:=n2_
             have HR225:=n3_
             have HR238:=n4_
             have HB:=n5_
             clear n0_ n1_ n2_ n3_ n4_ n5_
             (try clear hb)
             (try clear hb2)
             (try clear hk)
             (try clear hi)
             (try clear ho0)
             refine hK.out _ _ trivial (fun hHeld=>?_)
             clear hK K
             refine norm_ (a':=?_) ?_ ?_
             rotate_left
             ·show Act.put _ (some 36) _=_
              simp only [Act.put,List.setIfInBounds_toArray,List.set_cons_zero,List.set_cons_succ,i64_w,i32_w]
              rfl
             exact norm_ (by simp only [putAll,Act.put,List.setIfInBounds_toArray,List.set_cons_zero,List.set_cons_succ]) (hCont (v227,v230) _ ⟨(zR (Kd.R_mono HO228.out (fun _ hk=>⟨hk.2,hk.1.2⟩))),(zR (Kd.R_mono HO231.out (fun _ hk=>⟨hk.2,hk.1.2⟩))),(zR (Kd.R_mono HO_3.out (fun _ hk=>⟨hk.2,hk.1.2⟩))),zb⟩)
           rintro ⟨v227,v230⟩ w48 ⟨h0_,h1_,h2_,h3_⟩
           have n0_:Aside0 (Kd.R (Kd.int .i64) 3 w48 w.heap.size (fun k_=>some k_≠(v230:Value).ownBlock∧some k_≠(.slice Ao41 x3_1.length co41:Value).ownBlock) v227 t226):=⟨h0_⟩
           have n1_:Aside0 (Kd.R (Kd.int .i64) 3 w48 w.heap.size (fun k_=>some k_≠(v227:Value).ownBlock∧some k_≠(.slice Ao41 x3_1.length co41:Value).ownBlock) v230 y229):=⟨h1_⟩
           have n2_:Aside0 (Kd.R (Kd.int .i64) 3 w48 w.heap.size (fun k_=>some k_≠(v227:Value).ownBlock∧some k_≠(v230:Value).ownBlock) (.slice Ao41 x3_1.length co41) x3_1):=⟨h2_⟩
           have n3_:Aside0 (Below w.heap.size w w48):=⟨h3_⟩
           clear HO_3
           clear HB
           clear h0_ h1_ h2_ h3_
           have HO228:=n0_
           have HO231:=n1_
           have HO_3:=n2_
           have HB:=n3_
           clear n0_ n1_ n2_ n3_
           have hHeld:=trivial
           obtain ⟨Ao50,co50,eo50⟩:=Kd.R_slice HO231.out
           (first|subst eo50|(injection eo50 with f1_ f2_ f3_;have f4_:=f1_.symm;have f5_:=f3_.symm;clear f1_ f2_ f3_;subst f4_;subst f5_))
           refine norm_ (a':=?_) ?_ ?_
           rotate_left
           ·simp only [putAll,Act.put,List.setIfInBounds_toArray,List.set_cons_zero,List.set_cons_succ]
            rfl
           refine one_ (i:=6) (N:=some 39) #[true,true,true,true,true,true,true,true,true,true,false,false] rfl rfl (one_of HT_.out (by kernel_rfl)) (by decide) (fun K hK=>?_)
           refine Kd.R_append_rows_step (Kd.int .i64) (w0:=w) w.heap.size (by rfl) (.tmp 36) (.tmp 38) 43 3 (.int .i64 0) 8 rfl Try.underlying43 info3 rfl (by decide) (by omega) v227 t226 y229 _ _ _ (fun k_=>some k_≠(.slice Ao41 x3_1.length co41:Value).ownBlock∧some k_≠(.slice Ao50 y229.length co50:Value).ownBlock) (fun _=>False) rfl rfl ?aO ?aR (fun _ _ h=>h) (fun _ h=>h.elim) ?aF ?aB ?aS ?aL ?_
           (case aR=>exact zC ((Kd.R_reads' HO231.out).2.2))
           (case aB=>exact zb)
           (case aF=>exact (fun k_ hk=>⟨Kd.fresh' (Kd.R_lt (zR HO_3.out)) k_ hk,Kd.fresh' (Kd.R_lt (zR HO231.out)) k_ hk⟩))
           (case aO=>exact (zR (Kd.R_mono HO228.out (fun _ hk=>⟨hk.2,hk.1⟩))))
           (case aS=>exact (below_size zb))
           (case aL=>have:=LMc36.out;omega)
           intro v233 w49 ho hb hg hat
           rw [←Ny232.out] at ho
           replace HO_3:=Aside0.mk (Kd.R_after (ok:=(fun k_=>some k_≠(.slice Ao50 y229.length co50:Value).ownBlock)) (zR (Kd.R_mono HO_3.out (fun _ hk=>⟨hk.2,hk.1⟩))) hg hat)
           replace HO231:=Aside0.mk (Kd.R_after (ok:=(fun k_=>some k_≠(.slice Ao41 x3_1.length co41:Value).ownBlock)) (zR (Kd.R_mono HO231.out (fun _ hk=>⟨hk.2,hk.1⟩))) hg hat)
           replace HB:=Aside0.mk (hb)
           have HO234:=Aside0.mk (ho)
           clear HO228
           clear ho hb hg hat
           refine hK.out _ _ trivial (fun hHeld=>?_)
           clear hK K
           refine norm_ (a':=?_) ?_ ?_
           rotate_left
           ·show Act.put _ (some 39) _=_
            simp only [Act.put,List.setIfInBounds_toArray,List.set_cons_zero,List.set_cons_succ,i64_w,i32_w]
            rfl
           refine one_ (i:=10) (N:=some 43) #[true,true,true,true,true,true,true,true,true,true,true,false] rfl rfl (one_of HT_.out (by kernel_rfl)) (by decide) (fun K hK=>?_)
           refine Kd.R_append_rows_step (Kd.int .i64) (w0:=w) w.heap.size (by rfl) (.tmp 39) (.tmp 42) 43 3 (.int .i64 0) 8 rfl Try.underlying43 info3 rfl (by decide) (by omega) v233 y232 y235 _ _ _ (fun k_=>some k_≠(.slice Ao41 x3_1.length co41:Value).ownBlock∧some k_≠(.slice Ao50 y229.length co50:Value).ownBlock) (fun _=>False) rfl rfl ?aO ?aR (fun _ _ h=>h) (fun _ h=>h.elim) ?aF ?aB ?aS ?aL ?_
           (case aR=>exact (by rw [Ny235.out,KA44.out];first|exact Kd.C_drop (m:=(x5_2:Int).toNat) (c:=co41) ((Kd.R_reads' (HO_3.out)).2.2) KL44.out ((Kd.R_reads' (HO_3.out)).2.1)|exact Kd.C_drop (m:=(x5_2:Int).toNat) (c:=co41) ((Kd.R_reads' (zR HO_3.out)).2.2) KL44.out ((Kd.R_reads' (zR HO_3.out)).2.1)))
           (case aB=>exact zb)
           (case aF=>exact (fun k_ hk=>⟨Kd.fresh' (Kd.R_lt (zR HO_3.out)) k_ hk,Kd.fresh' (Kd.R_lt (zR HO231.out)) k_ hk⟩))
           (case aO=>exact (zR HO234.out))
           (case aS=>exact (below_size zb))
           (case aL=>have:=LMc39.out;omega)
           intro v240 w51 ho hb hg hat
           rw [←Ny239.out] at ho
           replace HO_3:=Aside0.mk (Kd.R_after (ok:=(fun k_=>some k_≠(.slice Ao50 y229.length co50:Value).ownBlock)) (zR HO_3.out) hg hat)
           replace HO231:=Aside0.mk (Kd.R_after (ok:=(fun k_=>some k_≠(.slice Ao41 x3_1.length co41:Value).ownBlock)) (zR HO231.out) hg hat)
           replace HB:=Aside0.mk (hb)
           have HO241:=Aside0.mk (ho)
           clear HO234
           clear ho hb hg hat
           refine hK.out _ _ trivial (fun hHeld=>?_)
           clear hK K
           refine norm_ (a':=?_) ?_ ?_
           rotate_left
           ·show Act.put _ (some 43) _=_
            simp only [Act.put,List.setIfInBounds_toArray,List.set_cons_zero,List.set_cons_succ,i64_w,i32_w]
            rfl
           refine pure_ (i:=11) (N:=some 3) (v:=?_) (a':=?_) #[true,true,true,true,true,true,true,true,true,true,true,true] rfl rfl (any_of HT_.out (by kernel_rfl)) (fun _ _ _ h=>h) (Or.inl ⟨by rfl,?_⟩) ?_ ?_
           rotate_left
           ·intro w'
            go_simp
            with_reducible rfl
           rotate_left
           ·simp only [Act.put,List.setIfInBounds_toArray,List.set_cons_zero,List.set_cons_succ,i64_w,i32_w]
            rfl
           refine done_ (done_of HT_.out (by kernel_rfl)) ?_
           try go_wp2
           go_roundg k2
           case measure=>have:=HK1.out;have:=HK2.out;omega
           case rel=>exact ⟨(y239),(wrap64 (x4_1 + 1)),zo,H',⟨by have:=HK1.out;have:=HK2.out;omega⟩,⟨zR (Kd.R_mono HO241.out (fun _ hk=>trivial))⟩,⟨zb⟩⟩
          ·rw [if_neg c39] at H
           exact absurd H (by simp)
         ·rw [if_neg c36] at H
          exact absurd H (by simp)
        ·rw [if_neg c34] at H
         exact absurd H (by simp)
       ·rw [if_neg c33] at H
        exact absurd H (by simp)
   ·rw [if_neg c4] at H
    have c4b0:decide (x4_1<(l0.length:Int))=false:=decide_eq_false c4
    clear c4
    obtain rfl:=Option.some.inj H
    go_wp2
    go_ret
    exact ⟨_,by first|rfl|(simp [errW_none,errW_some] <;> rfl)|(simp [*,errW_none,errW_some] <;> rfl),zR HO_3.out,zb⟩

end Go.Proofs.Ytbcfmegepkhlpaa.XFnExactLabelPlan
-- minified
