-- Written by a program of this session (the kit's print, widened). Proved here: what each function answers, for the arguments that its contract names.
import Derived.Test.YtplbabjigikgjaaXFnExactLongestFirstx0
import Derived.Test.YtplbabjigikgjaaXFnExactLongestFirstx17
namespace Go.Proofs.Ytplbabjigikgjaa.XFnExactLongestFirst
open Go.RowKit Go.Proofs.YtplbabjigikgjaaW.PrintWords Go.Proofs.YtplbabjigikgjaaW.PrintLast Go.Proofs.YtplbabjigikgjaaW.PrintMore
attribute [local go_sem] max2_int min2_int max_two min_two max_three min_three max_four min_four   -- for this text's walks alone
attribute [local go_sem] idxA_45_0 idxA_45_1 fldS_94_0 fldS_94_1 fldS_94_2 fldS_125_0 fldS_125_1 fldS_125_2
set_option linter.unusedVariables false
set_option linter.unusedSimpArgs false

/-! ### laws_eqJobS: function 14 -/
def laws_eqJobS.l0:Nat→List (S47)→List (S47)→Int→Option (Bool)
 | 0,_,_,_=>none
 | k + 1,x0,x1,x5=>if x5<(x0.length:Int) then (if 0≤x5 then (if x5<(x1.length:Int) then ((laws_eqJob.f ((rd_T47 x0 x5).f0) ((rd_T47 x0 x5).f1) ((rd_T47 x0 x5).f2) ((rd_T47 x0 x5).f3) ((rd_T47 x1 x5).f0) ((rd_T47 x1 x5).f1) ((rd_T47 x1 x5).f2) ((rd_T47 x1 x5).f3)).bind fun t349=>(if t349=true then (laws_eqJobS.l0 k x0 x1 (wrap64 (x5 + 1))) else (some false))) else (none)) else (none)) else (some true)
def laws_eqJobS.f (k:Nat) (l0:List (S47)) (l1:List (S47)):Option (Bool):=if (l0.length:Int)=(l1.length:Int) then (laws_eqJobS.l0 k l0 l1 0) else (some false)
theorem laws_eqJobS.mono_l:∀ k,(∀ y0 y1 y2,LeO (laws_eqJobS.l0 k y0 y1 y2) (laws_eqJobS.l0 (k + 1) y0 y1 y2))
 | 0=>fun _ _ _ r h=>by simp [laws_eqJobS.l0] at h
 | k + 1=>by
  have ih0:=laws_eqJobS.mono_l k
  ·intro y0 y1 y2
   unfold laws_eqJobS.l0
   repeat' first
   | (with_reducible exact ih0 _ _ _)
   | (with_reducible exact LeO.refl _)
   | (with_reducible exact LeO.none _)
   | (with_reducible refine LeO.ite ?_ ?_)
   | (with_reducible refine LeO.bind ?_ (fun _=>?_))
   | exact ih0 _ _ _
   | exact LeO.none _
   | refine LeO.ite ?_ ?_
   | refine LeO.bind ?_ (fun _=>?_)
theorem laws_eqJobS.mono:∀ a0 a1 k,LeO (laws_eqJobS.f k a0 a1) (laws_eqJobS.f (k + 1) a0 a1):=by
 intro a0 a1 k
 have ih0:=laws_eqJobS.mono_l k
 unfold laws_eqJobS.f
 repeat' first
   | (with_reducible exact ih0 _ _ _)
   | (with_reducible exact LeO.refl _)
   | (with_reducible exact LeO.none _)
   | (with_reducible refine LeO.ite ?_ ?_)
   | (with_reducible refine LeO.bind ?_ (fun _=>?_))
   | exact ih0 _ _ _
   | exact LeO.none _
   | refine LeO.ite ?_ ?_
   | refine LeO.bind ?_ (fun _=>?_)
def laws_eqJobS.T6:Bool × List (List Nat × List Nat):=(true,[([],[]),([],[]),([0,1],[0,1]),([2],[2]),([],[]),([],[]),([4,5],[4,5]),([6],[6]),([3,7],[3,7]),([8],[8])])
def laws_eqJobS.B6:List Nat:=[0,0,3,7,0,0,48,112,255,511]
theorem laws_eqJobS.tab6:rtab .any (opsOf Try.f14 6)=laws_eqJobS.T6:=by kernel_rfl
theorem laws_eqJobS.bits6:waitsOk laws_eqJobS.T6.2 laws_eqJobS.B6=true:=by kernel_rfl
set_option maxHeartbeats 8000000 in
set_option maxRecDepth 100000 in
theorem laws_eqJobS.calls (k:Nat) (A0:Option Addr) (c0:Nat) (l0:List (S47)) (A1:Option Addr) (c1:Nat) (l1:List (S47)) (r:Bool) (w:World) (hr0:Kd.C k47 w A0 l0.length l0) (hc0:l0.length≤c0) (hr1:Kd.C k47 w A1 l1.length l1) (hc1:l1.length≤c1) (h:laws_eqJobS.f k l0 l1=some r) :
  Calls Try.prog 14 #[.slice A0 l0.length c0,.slice A1 l1.length c1] w fun e w'=>e=.returned (.bool r)∧Below w.heap.size w w':=by
 have hu47:=Try.underlying47
 have HR0:=Aside0.mk hr0
 have HC0:=Aside0.mk hc0
 clear hr0 hc0
 have HR1:=Aside0.mk hr1
 have HC1:=Aside0.mk hc1
 clear hr1 hc1
 have HB:=Aside0.mk (Below.refl w.heap.size w)
 have H:(if (l0.length:Int)=(l1.length:Int) then (laws_eqJobS.l0 k l0 l1 0) else (some false))=some r:=h
 clear h
 by_cases c3:(l0.length:Int)=(l1.length:Int)
 ·rw [if_pos c3] at H
  have c3b0:((l0.length:Int) == (l1.length:Int))=true:=beq_iff_eq.mpr c3
  have c3b1:((l0.length:Int) != (l1.length:Int))=false:=bne_eq_false_iff_eq.mpr c3
  have c3b2:(l0.length == l1.length)=true:=by first|simpa using c3|(simp at c3 ⊢;omega)
  clear c3
  have H':=Aside0.mk H
  clear H
  go_enter Try.func14,Try.ntmps14
  go_wp2
  go_loopg [5] k (fun kq v5 w'=>∃ (x5_1:Int),v5=.int .i64 x5_1∧Aside0 (laws_eqJobS.l0 kq l0 l1 x5_1=some r)∧Aside0 (kq≤k)∧Aside0 (Below w.heap.size w w'))
  case atStart=>exact ⟨(0),zo,H',⟨Nat.le_refl _⟩,⟨zb⟩⟩
  case round=>
   clear H'
   (try clear c1);(try clear p2);(try clear c3);(try clear c3b0);(try clear c3b1);(try clear c3b2)
   obtain ⟨x5_1,rfl,HA,HK1,HB⟩:=hrel
   cases gk with
   | zero=>exact absurd HA.out (by simp [laws_eqJobS.l0])
   | succ k1=>
    have H:=HA.out
    clear HA
    simp only [laws_eqJobS.l0] at H
    by_cases c4:x5_1<(l0.length:Int)
    ·rw [if_pos c4] at H
     have c4b0:decide (x5_1<(l0.length:Int))=true:=decide_eq_true c4
     clear c4
     by_cases c5:0≤x5_1
     ·rw [if_pos c5] at H
      have c5b0:decide (0≤x5_1)=true:=decide_eq_true c5
      clear c5
      by_cases c6:x5_1<(l1.length:Int)
      ·rw [if_pos c6] at H
       have c6b0:decide (x5_1<(l1.length:Int))=true:=decide_eq_true c6
       clear c6
       replace H:=Option.bind_eq_some_iff.mp H
       obtain ⟨t349,A70,H⟩:=H
       replace H:(if t349=true then (laws_eqJobS.l0 k1 l0 l1 (wrap64 (x5_1 + 1))) else (some false))=some r:=H
       have A7:=Aside0.mk A70
       clear A70
       by_cases c8:t349=true
       ·subst c8
        have H1:(laws_eqJobS.l0 k1 l0 l1 (wrap64 (x5_1 + 1)))=some r:=by rw [if_pos rfl] at H;exact H
        clear H
        have H:=H1
        clear H1
        have H':=Aside0.mk H
        clear H
        try go_wp2
        have n0_:=Aside0.mk (below_drew1 HB.out)
        clear HB
        have HB:=n0_
        clear n0_
        have p347:0≤(x5_1:Int):=of_decide_eq_true za
        have q347:x5_1<(l0.length:Int):=of_decide_eq_true za
        obtain ⟨ad347,e347,hx347_0,hx347_1,hx347_2,hx347_3⟩:=at_T47 HR0.out x5_1 p347 q347
        have hw347_3:=hx347_3
        have hw347_2:=hx347_2
        have hw347_1:=hx347_1
        have hw347_0:=hx347_0
        cases e347
        replace hx347_0:=(HB.out.cell (World.block_lt_of_cell? w _ hx347_0)).trans hx347_0
        replace hx347_1:=(HB.out.cell (World.block_lt_of_cell? w _ hx347_1)).trans hx347_1
        replace hx347_2:=(HB.out.cell (World.block_lt_of_cell? w _ hx347_2)).trans hx347_2
        replace hx347_3:=(HB.out.cell (World.block_lt_of_cell? w _ hx347_3)).trans hx347_3
        replace p347:=eq_true p347
        replace q347:=eq_true q347
        have p348:0≤(x5_1:Int):=of_decide_eq_true za
        have q348:x5_1<(l1.length:Int):=of_decide_eq_true za
        obtain ⟨ad348,e348,hx348_0,hx348_1,hx348_2,hx348_3⟩:=at_T47 HR1.out x5_1 p348 q348
        have hw348_3:=hx348_3
        have hw348_2:=hx348_2
        have hw348_1:=hx348_1
        have hw348_0:=hx348_0
        cases e348
        replace hx348_0:=(HB.out.cell (World.block_lt_of_cell? w _ hx348_0)).trans hx348_0
        replace hx348_1:=(HB.out.cell (World.block_lt_of_cell? w _ hx348_1)).trans hx348_1
        replace hx348_2:=(HB.out.cell (World.block_lt_of_cell? w _ hx348_2)).trans hx348_2
        replace hx348_3:=(HB.out.cell (World.block_lt_of_cell? w _ hx348_3)).trans hx348_3
        replace p348:=eq_true p348
        replace q348:=eq_true q348
        refine start_ (n:=10) (S:=fun w'=>w'.cell? (ad347.add ((x5_1).toNat * 4))=some (.int .i64 ((rd_T47 l0 x5_1).f0))∧w'.cell? ⟨(ad347.add ((x5_1).toNat * 4)).block,(ad347.add ((x5_1).toNat * 4)).off + 1,none⟩=some (.int .i64 ((rd_T47 l0 x5_1).f1))∧w'.cell? ⟨(ad347.add ((x5_1).toNat * 4)).block,(ad347.add ((x5_1).toNat * 4)).off + 2,none⟩=some (.int .i64 ((rd_T47 l0 x5_1).f2))∧w'.cell? ⟨(ad347.add ((x5_1).toNat * 4)).block,(ad347.add ((x5_1).toNat * 4)).off + 3,none⟩=some (.int .i64 ((rd_T47 l0 x5_1).f3))∧w'.cell? (ad348.add ((x5_1).toNat * 4))=some (.int .i64 ((rd_T47 l1 x5_1).f0))∧w'.cell? ⟨(ad348.add ((x5_1).toNat * 4)).block,(ad348.add ((x5_1).toNat * 4)).off + 1,none⟩=some (.int .i64 ((rd_T47 l1 x5_1).f1))∧w'.cell? ⟨(ad348.add ((x5_1).toNat * 4)).block,(ad348.add ((x5_1).toNat * 4)).off + 2,none⟩=some (.int .i64 ((rd_T47 l1 x5_1).f2))∧w'.cell? ⟨(ad348.add ((x5_1).toNat * 4)).block,(ad348.add ((x5_1).toNat * 4)).off + 3,none⟩=some (.int .i64 ((rd_T47 l1 x5_1).f3))) (ds:=[]) #[false,false,false,false,false,false,false,false,false,false] (by kernel_rfl) rfl rfl ⟨((HB.out.cell (World.block_lt_of_cell? w _ hw347_0)).trans hw347_0),((HB.out.cell (World.block_lt_of_cell? w _ hw347_1)).trans hw347_1),((HB.out.cell (World.block_lt_of_cell? w _ hw347_2)).trans hw347_2),((HB.out.cell (World.block_lt_of_cell? w _ hw347_3)).trans hw347_3),((HB.out.cell (World.block_lt_of_cell? w _ hw348_0)).trans hw348_0),((HB.out.cell (World.block_lt_of_cell? w _ hw348_1)).trans hw348_1),((HB.out.cell (World.block_lt_of_cell? w _ hw348_2)).trans hw348_2),((HB.out.cell (World.block_lt_of_cell? w _ hw348_3)).trans hw348_3)⟩ (fun hHeld=>?_);refine with_tabW laws_eqJobS.tab6 laws_eqJobS.bits6 (fun HT_ HW_=>?_)
        generalize wr.drew=w9 at HB hx347_0 hx347_1 hx347_2 hx347_3 hx348_0 hx348_1 hx348_2 hx348_3 hHeld ⊢
        refine pure_ (i:=0) (N:=some 17) (v:=?_) (a':=?_) #[true,false,false,false,false,false,false,false,false,false] rfl rfl (any_of HT_.out (by kernel_rfl)) (fun _ _ _ h=>h) (Or.inl ⟨by rfl,?_⟩) ?_ ?_
        rotate_left
        ·intro w'
         go_simp
         with_reducible rfl
        rotate_left
        ·simp only [Act.put,List.setIfInBounds_toArray,List.set_cons_zero,List.set_cons_succ,i64_w,i32_w]
         rfl
        refine pure_ (i:=1) (N:=some 18) (v:=?_) (a':=?_) #[true,true,false,false,false,false,false,false,false,false] rfl rfl (any_of HT_.out (by kernel_rfl)) (fun _ _ _ h=>h) (Or.inl ⟨by rfl,?_⟩) ?_ ?_
        rotate_left
        ·intro w'
         go_simp
         with_reducible rfl
        rotate_left
        ·simp only [Act.put,List.setIfInBounds_toArray,List.set_cons_zero,List.set_cons_succ,i64_w,i32_w]
         rfl
        refine pure_ (i:=2) (N:=some 19) (v:=?_) (a':=?_) #[true,true,true,false,false,false,false,false,false,false] rfl rfl (any_of HT_.out (by kernel_rfl)) (fun _ _ _ h=>h) (Or.inl ⟨by rfl,?_⟩) ?_ ?_
        rotate_left
        ·intro w'
         go_simp
         with_reducible rfl
        rotate_left
        ·simp only [Act.put,List.setIfInBounds_toArray,List.set_cons_zero,List.set_cons_succ,i64_w,i32_w]
         rfl
        refine pure_ (i:=4) (N:=some 21) (v:=?_) (a':=?_) #[true,true,true,false,true,false,false,false,false,false] rfl rfl (any_of HT_.out (by kernel_rfl)) (fun _ _ _ h=>h) (Or.inl ⟨by rfl,?_⟩) ?_ ?_
        rotate_left
        ·intro w'
         go_simp
         with_reducible rfl
        rotate_left
        ·simp only [Act.put,List.setIfInBounds_toArray,List.set_cons_zero,List.set_cons_succ,i64_w,i32_w]
         rfl
        refine pure_ (i:=5) (N:=some 22) (v:=?_) (a':=?_) #[true,true,true,false,true,true,false,false,false,false] rfl rfl (any_of HT_.out (by kernel_rfl)) (fun _ _ _ h=>h) (Or.inl ⟨by rfl,?_⟩) ?_ ?_
        rotate_left
        ·intro w'
         go_simp
         with_reducible rfl
        rotate_left
        ·simp only [Act.put,List.setIfInBounds_toArray,List.set_cons_zero,List.set_cons_succ,i64_w,i32_w]
         rfl
        refine pure_ (i:=6) (N:=some 23) (v:=?_) (a':=?_) #[true,true,true,false,true,true,true,false,false,false] rfl rfl (any_of HT_.out (by kernel_rfl)) (fun _ _ _ h=>h) (Or.inl ⟨by rfl,?_⟩) ?_ ?_
        rotate_left
        ·intro w'
         go_simp
         with_reducible rfl
        rotate_left
        ·simp only [Act.put,List.setIfInBounds_toArray,List.set_cons_zero,List.set_cons_succ,i64_w,i32_w]
         rfl
        refine take_ (i:=3) (N:=some 20) (v:=?_) (a':=?_) #[true,true,true,true,true,true,true,false,false,false] rfl rfl (take_ofW HT_.out HW_.out (by kernel_rfl)) (fun _ _ _ h=>h) (Or.inl ⟨by rfl,?_⟩) hHeld ?_ ?_
        rotate_left
        ·rintro w' ⟨s0,s1,s2,s3,s4,s5,s6,s7⟩
         go_simp
         with_reducible rfl
        rotate_left
        ·simp only [Act.put,List.setIfInBounds_toArray,List.set_cons_zero,List.set_cons_succ,i64_w,i32_w]
         rfl
        refine take_ (i:=7) (N:=some 24) (v:=?_) (a':=?_) #[true,true,true,true,true,true,true,true,false,false] rfl rfl (take_ofW HT_.out HW_.out (by kernel_rfl)) (fun _ _ _ h=>h) (Or.inl ⟨by rfl,?_⟩) hHeld ?_ ?_
        rotate_left
        ·rintro w' ⟨s0,s1,s2,s3,s4,s5,s6,s7⟩
         go_simp
         with_reducible rfl
        rotate_left
        ·simp only [Act.put,List.setIfInBounds_toArray,List.set_cons_zero,List.set_cons_succ,i64_w,i32_w]
         rfl
        refine one_ (i:=8) (N:=some 25) #[true,true,true,true,true,true,true,true,true,false] rfl rfl (one_of HT_.out (by kernel_rfl)) (by decide) (fun K hK=>?_)
        refine goes_ Try.func66 (by kernel_rfl) rfl #[.agg #[.int .i64 ((rd_T47 l0 x5_1).f0),.int .i64 ((rd_T47 l0 x5_1).f1),.int .i64 ((rd_T47 l0 x5_1).f2),.int .i64 ((rd_T47 l0 x5_1).f3)],.agg #[.int .i64 ((rd_T47 l1 x5_1).f0),.int .i64 ((rd_T47 l1 x5_1).f1),.int .i64 ((rd_T47 l1 x5_1).f2),.int .i64 ((rd_T47 l1 x5_1).f3)]] (by rfl) rfl rfl zl ?_
        with_reducible refine (laws_eqJob.calls ((rd_T47 l0 x5_1).f0) ((rd_T47 l0 x5_1).f1) ((rd_T47 l0 x5_1).f2) ((rd_T47 l0 x5_1).f3) ((rd_T47 l1 x5_1).f0) ((rd_T47 l1 x5_1).f1) ((rd_T47 l1 x5_1).f2) ((rd_T47 l1 x5_1).f3) true _ A7.out).mono ?_
        rintro e w10 ⟨rfl,hb⟩
        refine ⟨_,rfl,?_⟩
        have n0_:=Aside0.mk (below_step zb hb)
        clear HB
        have HB:=n0_
        clear n0_
        (try clear hb)
        (try clear hb2)
        (try clear hk)
        (try clear hi)
        refine hK.out _ _ ⟨((HB.out.cell (World.block_lt_of_cell? w _ hw347_0)).trans hw347_0),((HB.out.cell (World.block_lt_of_cell? w _ hw347_1)).trans hw347_1),((HB.out.cell (World.block_lt_of_cell? w _ hw347_2)).trans hw347_2),((HB.out.cell (World.block_lt_of_cell? w _ hw347_3)).trans hw347_3),((HB.out.cell (World.block_lt_of_cell? w _ hw348_0)).trans hw348_0),((HB.out.cell (World.block_lt_of_cell? w _ hw348_1)).trans hw348_1),((HB.out.cell (World.block_lt_of_cell? w _ hw348_2)).trans hw348_2),((HB.out.cell (World.block_lt_of_cell? w _ hw348_3)).trans hw348_3)⟩ (fun hHeld=>?_)
        clear hK K
        refine norm_ (a':=?_) ?_ ?_
        rotate_left
        ·show Act.put _ (some 25) _=_
         simp only [Act.put,List.setIfInBounds_toArray,List.set_cons_zero,List.set_cons_succ,i64_w,i32_w]
         rfl
        refine pure_ (i:=9) (N:=some 26) (v:=?_) (a':=?_) #[true,true,true,true,true,true,true,true,true,true] rfl rfl (any_of HT_.out (by kernel_rfl)) (fun _ _ _ h=>h) (Or.inl ⟨by rfl,?_⟩) ?_ ?_
        rotate_left
        ·intro w'
         go_simp
         with_reducible rfl
        rotate_left
        ·simp only [Act.put,List.setIfInBounds_toArray,List.set_cons_zero,List.set_cons_succ,i64_w,i32_w]
         rfl
        refine done_ (done_of HT_.out (by kernel_rfl)) ?_
        try go_wp2
        go_roundg k1
        case measure=>have:=HK1.out;omega
        case rel=>exact ⟨(wrap64 (x5_1 + 1)),zo,H',⟨by have:=HK1.out;omega⟩,⟨zb⟩⟩
       ·replace c8:=Bool.eq_false_iff.mpr c8
        subst c8
        have H1:(some false)=some r:=by rw [if_neg (show ¬ (false=true) by decide)] at H;exact H
        clear H
        have H:=H1
        clear H1
        obtain rfl:=Option.some.inj H
        try go_wp2
        have n0_:=Aside0.mk (below_drew1 HB.out)
        clear HB
        have HB:=n0_
        clear n0_
        have p347:0≤(x5_1:Int):=of_decide_eq_true za
        have q347:x5_1<(l0.length:Int):=of_decide_eq_true za
        obtain ⟨ad347,e347,hx347_0,hx347_1,hx347_2,hx347_3⟩:=at_T47 HR0.out x5_1 p347 q347
        have hw347_3:=hx347_3
        have hw347_2:=hx347_2
        have hw347_1:=hx347_1
        have hw347_0:=hx347_0
        cases e347
        replace hx347_0:=(HB.out.cell (World.block_lt_of_cell? w _ hx347_0)).trans hx347_0
        replace hx347_1:=(HB.out.cell (World.block_lt_of_cell? w _ hx347_1)).trans hx347_1
        replace hx347_2:=(HB.out.cell (World.block_lt_of_cell? w _ hx347_2)).trans hx347_2
        replace hx347_3:=(HB.out.cell (World.block_lt_of_cell? w _ hx347_3)).trans hx347_3
        replace p347:=eq_true p347
        replace q347:=eq_true q347
        have p348:0≤(x5_1:Int):=of_decide_eq_true za
        have q348:x5_1<(l1.length:Int):=of_decide_eq_true za
        obtain ⟨ad348,e348,hx348_0,hx348_1,hx348_2,hx348_3⟩:=at_T47 HR1.out x5_1 p348 q348
        have hw348_3:=hx348_3
        have hw348_2:=hx348_2
        have hw348_1:=hx348_1
        have hw348_0:=hx348_0
        cases e348
        replace hx348_0:=(HB.out.cell (World.block_lt_of_cell? w _ hx348_0)).trans hx348_0
        replace hx348_1:=(HB.out.cell (World.block_lt_of_cell? w _ hx348_1)).trans hx348_1
        replace hx348_2:=(HB.out.cell (World.block_lt_of_cell? w _ hx348_2)).trans hx348_2
        replace hx348_3:=(HB.out.cell (World.block_lt_of_cell? w _ hx348_3)).trans hx348_3
        replace p348:=eq_true p348
        replace q348:=eq_true q348
        refine start_ (n:=10) (S:=fun w'=>w'.cell? (ad347.add ((x5_1).toNat * 4))=some (.int .i64 ((rd_T47 l0 x5_1).f0))∧w'.cell? ⟨(ad347.add ((x5_1).toNat * 4)).block,(ad347.add ((x5_1).toNat * 4)).off + 1,none⟩=some (.int .i64 ((rd_T47 l0 x5_1).f1))∧w'.cell? ⟨(ad347.add ((x5_1).toNat * 4)).block,(ad347.add ((x5_1).toNat * 4)).off + 2,none⟩=some (.int .i64 ((rd_T47 l0 x5_1).f2))∧w'.cell? ⟨(ad347.add ((x5_1).toNat * 4)).block,(ad347.add ((x5_1).toNat * 4)).off + 3,none⟩=some (.int .i64 ((rd_T47 l0 x5_1).f3))∧w'.cell? (ad348.add ((x5_1).toNat * 4))=some (.int .i64 ((rd_T47 l1 x5_1).f0))∧w'.cell? ⟨(ad348.add ((x5_1).toNat * 4)).block,(ad348.add ((x5_1).toNat * 4)).off + 1,none⟩=some (.int .i64 ((rd_T47 l1 x5_1).f1))∧w'.cell? ⟨(ad348.add ((x5_1).toNat * 4)).block,(ad348.add ((x5_1).toNat * 4)).off + 2,none⟩=some (.int .i64 ((rd_T47 l1 x5_1).f2))∧w'.cell? ⟨(ad348.add ((x5_1).toNat * 4)).block,(ad348.add ((x5_1).toNat * 4)).off + 3,none⟩=some (.int .i64 ((rd_T47 l1 x5_1).f3))) (ds:=[]) #[false,false,false,false,false,false,false,false,false,false] (by kernel_rfl) rfl rfl ⟨((HB.out.cell (World.block_lt_of_cell? w _ hw347_0)).trans hw347_0),((HB.out.cell (World.block_lt_of_cell? w _ hw347_1)).trans hw347_1),((HB.out.cell (World.block_lt_of_cell? w _ hw347_2)).trans hw347_2),((HB.out.cell (World.block_lt_of_cell? w _ hw347_3)).trans hw347_3),((HB.out.cell (World.block_lt_of_cell? w _ hw348_0)).trans hw348_0),((HB.out.cell (World.block_lt_of_cell? w _ hw348_1)).trans hw348_1),((HB.out.cell (World.block_lt_of_cell? w _ hw348_2)).trans hw348_2),((HB.out.cell (World.block_lt_of_cell? w _ hw348_3)).trans hw348_3)⟩ (fun hHeld=>?_);refine with_tabW laws_eqJobS.tab6 laws_eqJobS.bits6 (fun HT_ HW_=>?_)
        generalize wr.drew=w11 at HB hx347_0 hx347_1 hx347_2 hx347_3 hx348_0 hx348_1 hx348_2 hx348_3 hHeld ⊢
        refine pure_ (i:=0) (N:=some 17) (v:=?_) (a':=?_) #[true,false,false,false,false,false,false,false,false,false] rfl rfl (any_of HT_.out (by kernel_rfl)) (fun _ _ _ h=>h) (Or.inl ⟨by rfl,?_⟩) ?_ ?_
        rotate_left
        ·intro w'
         go_simp
         with_reducible rfl
        rotate_left
        ·simp only [Act.put,List.setIfInBounds_toArray,List.set_cons_zero,List.set_cons_succ,i64_w,i32_w]
         rfl
        refine pure_ (i:=1) (N:=some 18) (v:=?_) (a':=?_) #[true,true,false,false,false,false,false,false,false,false] rfl rfl (any_of HT_.out (by kernel_rfl)) (fun _ _ _ h=>h) (Or.inl ⟨by rfl,?_⟩) ?_ ?_
        rotate_left
        ·intro w'
         go_simp
         with_reducible rfl
        rotate_left
        ·simp only [Act.put,List.setIfInBounds_toArray,List.set_cons_zero,List.set_cons_succ,i64_w,i32_w]
         rfl
        refine pure_ (i:=2) (N:=some 19) (v:=?_) (a':=?_) #[true,true,true,false,false,false,false,false,false,false] rfl rfl (any_of HT_.out (by kernel_rfl)) (fun _ _ _ h=>h) (Or.inl ⟨by rfl,?_⟩) ?_ ?_
        rotate_left
        ·intro w'
         go_simp
         with_reducible rfl
        rotate_left
        ·simp only [Act.put,List.setIfInBounds_toArray,List.set_cons_zero,List.set_cons_succ,i64_w,i32_w]
         rfl
        refine pure_ (i:=4) (N:=some 21) (v:=?_) (a':=?_) #[true,true,true,false,true,false,false,false,false,false] rfl rfl (any_of HT_.out (by kernel_rfl)) (fun _ _ _ h=>h) (Or.inl ⟨by rfl,?_⟩) ?_ ?_
        rotate_left
        ·intro w'
         go_simp
         with_reducible rfl
        rotate_left
        ·simp only [Act.put,List.setIfInBounds_toArray,List.set_cons_zero,List.set_cons_succ,i64_w,i32_w]
         rfl
        refine pure_ (i:=5) (N:=some 22) (v:=?_) (a':=?_) #[true,true,true,false,true,true,false,false,false,false] rfl rfl (any_of HT_.out (by kernel_rfl)) (fun _ _ _ h=>h) (Or.inl ⟨by rfl,?_⟩) ?_ ?_
        rotate_left
        ·intro w'
         go_simp
         with_reducible rfl
        rotate_left
        ·simp only [Act.put,List.setIfInBounds_toArray,List.set_cons_zero,List.set_cons_succ,i64_w,i32_w]
         rfl
        refine pure_ (i:=6) (N:=some 23) (v:=?_) (a':=?_) #[true,true,true,false,true,true,true,false,false,false] rfl rfl (any_of HT_.out (by kernel_rfl)) (fun _ _ _ h=>h) (Or.inl ⟨by rfl,?_⟩) ?_ ?_
        rotate_left
        ·intro w'
         go_simp
         with_reducible rfl
        rotate_left
        ·simp only [Act.put,List.setIfInBounds_toArray,List.set_cons_zero,List.set_cons_succ,i64_w,i32_w]
         rfl
        refine take_ (i:=3) (N:=some 20) (v:=?_) (a':=?_) #[true,true,true,true,true,true,true,false,false,false] rfl rfl (take_ofW HT_.out HW_.out (by kernel_rfl)) (fun _ _ _ h=>h) (Or.inl ⟨by rfl,?_⟩) hHeld ?_ ?_
        rotate_left
        ·rintro w' ⟨s0,s1,s2,s3,s4,s5,s6,s7⟩
         go_simp
         with_reducible rfl
        rotate_left
        ·simp only [Act.put,List.setIfInBounds_toArray,List.set_cons_zero,List.set_cons_succ,i64_w,i32_w]
         rfl
        refine take_ (i:=7) (N:=some 24) (v:=?_) (a':=?_) #[true,true,true,true,true,true,true,true,false,false] rfl rfl (take_ofW HT_.out HW_.out (by kernel_rfl)) (fun _ _ _ h=>h) (Or.inl ⟨by rfl,?_⟩) hHeld ?_ ?_
        rotate_left
        ·rintro w' ⟨s0,s1,s2,s3,s4,s5,s6,s7⟩
         go_simp
         with_reducible rfl
        rotate_left
        ·simp only [Act.put,List.setIfInBounds_toArray,List.set_cons_zero,List.set_cons_succ,i64_w,i32_w]
         rfl
        refine one_ (i:=8) (N:=some 25) #[true,true,true,true,true,true,true,true,true,false] rfl rfl (one_of HT_.out (by kernel_rfl)) (by decide) (fun K hK=>?_)
        refine goes_ Try.func66 (by kernel_rfl) rfl #[.agg #[.int .i64 ((rd_T47 l0 x5_1).f0),.int .i64 ((rd_T47 l0 x5_1).f1),.int .i64 ((rd_T47 l0 x5_1).f2),.int .i64 ((rd_T47 l0 x5_1).f3)],.agg #[.int .i64 ((rd_T47 l1 x5_1).f0),.int .i64 ((rd_T47 l1 x5_1).f1),.int .i64 ((rd_T47 l1 x5_1).f2),.int .i64 ((rd_T47 l1 x5_1).f3)]] (by rfl) rfl rfl zl ?_
        with_reducible refine (laws_eqJob.calls ((rd_T47 l0 x5_1).f0) ((rd_T47 l0 x5_1).f1) ((rd_T47 l0 x5_1).f2) ((rd_T47 l0 x5_1).f3) ((rd_T47 l1 x5_1).f0) ((rd_T47 l1 x5_1).f1) ((rd_T47 l1 x5_1).f2) ((rd_T47 l1 x5_1).f3) false _ A7.out).mono ?_
        rintro e w12 ⟨rfl,hb⟩
        refine ⟨_,rfl,?_⟩
        have n0_:=Aside0.mk (below_step zb hb)
        clear HB
        have HB:=n0_
        clear n0_
        (try clear hb)
        (try clear hb2)
        (try clear hk)
        (try clear hi)
        refine hK.out _ _ ⟨((HB.out.cell (World.block_lt_of_cell? w _ hw347_0)).trans hw347_0),((HB.out.cell (World.block_lt_of_cell? w _ hw347_1)).trans hw347_1),((HB.out.cell (World.block_lt_of_cell? w _ hw347_2)).trans hw347_2),((HB.out.cell (World.block_lt_of_cell? w _ hw347_3)).trans hw347_3),((HB.out.cell (World.block_lt_of_cell? w _ hw348_0)).trans hw348_0),((HB.out.cell (World.block_lt_of_cell? w _ hw348_1)).trans hw348_1),((HB.out.cell (World.block_lt_of_cell? w _ hw348_2)).trans hw348_2),((HB.out.cell (World.block_lt_of_cell? w _ hw348_3)).trans hw348_3)⟩ (fun hHeld=>?_)
        clear hK K
        refine norm_ (a':=?_) ?_ ?_
        rotate_left
        ·show Act.put _ (some 25) _=_
         simp only [Act.put,List.setIfInBounds_toArray,List.set_cons_zero,List.set_cons_succ,i64_w,i32_w]
         rfl
        refine pure_ (i:=9) (N:=some 26) (v:=?_) (a':=?_) #[true,true,true,true,true,true,true,true,true,true] rfl rfl (any_of HT_.out (by kernel_rfl)) (fun _ _ _ h=>h) (Or.inl ⟨by rfl,?_⟩) ?_ ?_
        rotate_left
        ·intro w'
         go_simp
         with_reducible rfl
        rotate_left
        ·simp only [Act.put,List.setIfInBounds_toArray,List.set_cons_zero,List.set_cons_succ,i64_w,i32_w]
         rfl
        refine done_ (done_of HT_.out (by kernel_rfl)) ?_
        try go_wp2
        go_ret
        exact ⟨by first|rfl|(simp [errW_none,errW_some] <;> rfl)|(simp [*,errW_none,errW_some] <;> rfl),zb⟩
      ·rw [if_neg c6] at H
       exact absurd H (by simp)
     ·rw [if_neg c5] at H
      exact absurd H (by simp)
    ·rw [if_neg c4] at H
     have c4b0:decide (x5_1<(l0.length:Int))=false:=decide_eq_false c4
     clear c4
     obtain rfl:=Option.some.inj H
     go_wp2
     go_ret
     exact ⟨by first|rfl|(simp [errW_none,errW_some] <;> rfl)|(simp [*,errW_none,errW_some] <;> rfl),zb⟩
 ·rw [if_neg c3] at H
  have c3b0:((l0.length:Int) == (l1.length:Int))=false:=beq_eq_false_iff_ne.mpr c3
  have c3b1:((l0.length:Int) != (l1.length:Int))=true:=bne_iff_ne.mpr c3
  have c3b2:(l0.length == l1.length)=false:=by first|simpa using c3|(simp at c3 ⊢;omega)
  obtain rfl:=Option.some.inj H
  go_enter Try.func14,Try.ntmps14
  go_wp2
  go_ret
  exact ⟨by first|rfl|(simp [errW_none,errW_some] <;> rfl)|(simp [*,errW_none,errW_some] <;> rfl),zb⟩

/-! ### laws_markJobS: function 15 -/
def laws_markJobS.l0:Nat→List (S47)→Int→Int→Option (Int × (List (S47)))
 | 0,_,_,_=>none
 | k + 1,x0,x1,x5=>if x5<(x0.length:Int) then (if 0≤x5 then ((some (x0.set (x5:Int).toNat (⟨x1,(rd_T47 x0 x5).f1,(rd_T47 x0 x5).f2,(rd_T47 x0 x5).f3⟩:S47):List (S47))).bind fun y350=>((some (y350.set (x5:Int).toNat (⟨(rd_T47 y350 x5).f0,wrap64 (x1 + 1),(rd_T47 y350 x5).f2,(rd_T47 y350 x5).f3⟩:S47):List (S47))).bind fun y351=>((some (y351.set (x5:Int).toNat (⟨(rd_T47 y351 x5).f0,(rd_T47 y351 x5).f1,wrap64 ((wrap64 (x1 + 1)) + 1),(rd_T47 y351 x5).f3⟩:S47):List (S47))).bind fun y352=>(laws_markJobS.l0 k (y352.set (x5:Int).toNat (⟨(rd_T47 y352 x5).f0,(rd_T47 y352 x5).f1,(rd_T47 y352 x5).f2,wrap64 ((wrap64 ((wrap64 (x1 + 1)) + 1)) + 1)⟩:S47)) (wrap64 ((wrap64 ((wrap64 ((wrap64 (x1 + 1)) + 1)) + 1)) + 1)) (wrap64 (x5 + 1)))))) else (none)) else (some (x1,x0))
def laws_markJobS.f (k:Nat) (l0:List (S47)) (a1:Int):Option (Int × (List (S47))):=laws_markJobS.l0 k l0 a1 0
theorem laws_markJobS.mono_l:∀ k,(∀ y0 y1 y2,LeO (laws_markJobS.l0 k y0 y1 y2) (laws_markJobS.l0 (k + 1) y0 y1 y2))
 | 0=>fun _ _ _ r h=>by simp [laws_markJobS.l0] at h
 | k + 1=>by
  have ih0:=laws_markJobS.mono_l k
  ·intro y0 y1 y2
   unfold laws_markJobS.l0
   repeat' first
   | (with_reducible exact ih0 _ _ _)
   | (with_reducible exact LeO.refl _)
   | (with_reducible exact LeO.none _)
   | (with_reducible refine LeO.ite ?_ ?_)
   | (with_reducible refine LeO.bind ?_ (fun _=>?_))
   | exact ih0 _ _ _
   | exact LeO.none _
   | refine LeO.ite ?_ ?_
   | refine LeO.bind ?_ (fun _=>?_)
theorem laws_markJobS.mono:∀ a0 a1 k,LeO (laws_markJobS.f k a0 a1) (laws_markJobS.f (k + 1) a0 a1):=by
 intro a0 a1 k
 have ih0:=laws_markJobS.mono_l k
 unfold laws_markJobS.f
 repeat' first
   | (with_reducible exact ih0 _ _ _)
   | (with_reducible exact LeO.refl _)
   | (with_reducible exact LeO.none _)
   | (with_reducible refine LeO.ite ?_ ?_)
   | (with_reducible refine LeO.bind ?_ (fun _=>?_))
   | exact ih0 _ _ _
   | exact LeO.none _
   | refine LeO.ite ?_ ?_
   | refine LeO.bind ?_ (fun _=>?_)
set_option maxHeartbeats 8000000 in
set_option maxRecDepth 100000 in
theorem laws_markJobS.calls (k:Nat) (P0_:Nat→Prop) (u9000_:Value) (l0:List (S47)) (a1:Int) (r1:Int) (r2:List (S47)) (w0 w:World) (hB:Below w0.heap.size w0 w) (ho0:Kd.R k47 47 w w0.heap.size P0_ u9000_ l0) (h:laws_markJobS.f k l0 a1=some (r1,r2)) :
  Calls Try.prog 15 #[u9000_,.int .i64 a1] w fun e w'=>e=.returned (.int .i64 r1)∧Kd.R k47 47 w' w0.heap.size (fun k_=>(P0_ k_∨w.heap.size≤k_)) u9000_ r2∧Below w0.heap.size w0 w'∧Kept w w' (fun k_=>P0_ k_):=by
 have HO0:=Aside0.mk (show Kd.R k47 47 w w0.heap.size (fun k_=>(P0_ k_∨w.heap.size≤k_)) u9000_ l0 from Kd.R_mono ho0 (fun k_ hk=>(.inl hk)))
 have HK:=Aside0.mk (Kept.refl w (fun k_=>P0_ k_))
 have HW0:=Aside0.mk hB.size
 have HB:=Aside0.mk hB
 clear hB
 have H:(laws_markJobS.l0 k l0 a1 0)=some (r1,r2):=h
 clear h
 have H':=Aside0.mk H
 clear H
 go_enter Try.func15,Try.ntmps15
 go_wp2
 go_loopg [1,5] k (fun kq v1 v5 w'=>∃ (x0_1:List (S47)) (x1_1:Int) (x5_1:Int),v1=.int .i64 x1_1∧v5=.int .i64 x5_1∧Aside0 (laws_markJobS.l0 kq x0_1 x1_1 x5_1=some (r1,r2))∧Aside0 (kq≤k)∧Aside0 (Kd.R k47 47 w' w0.heap.size (fun k_=>(P0_ k_∨w.heap.size≤k_)) u9000_ x0_1)∧Aside0 (Kept w w' (fun k_=>P0_ k_))∧Aside0 (Below w0.heap.size w0 w'))
 case atStart=>exact ⟨(l0),(a1),(0),zo,zo,H',⟨Nat.le_refl _⟩,⟨zR HO0.out⟩,⟨by repeat (first|(with_reducible first|exact HK.out|apply Kept.alloc|apply Kept.drewN|apply Kept.drew)|exact HK.out)⟩,⟨zb⟩⟩
 case round=>
  clear H'
  (try clear c1);(try clear p2)
  obtain ⟨x0_1,x1_1,x5_1,rfl,rfl,HA,HK1,HO_0,HK,HB⟩:=hrel
  cases gk with
  | zero=>exact absurd HA.out (by simp [laws_markJobS.l0])
  | succ k1=>
   have H:=HA.out
   clear HA
   simp only [laws_markJobS.l0] at H
   by_cases c3:x5_1<(x0_1.length:Int)
   ·rw [if_pos c3] at H
    have c3b0:decide (x5_1<(x0_1.length:Int))=true:=decide_eq_true c3
    clear c3
    by_cases c4:0≤x5_1
    ·rw [if_pos c4] at H
     have c4b0:decide (0≤x5_1)=true:=decide_eq_true c4
     clear c4
     obtain ⟨y350,hy350⟩:∃ y_:List (S47),y_=(x0_1.set (x5_1:Int).toNat (⟨x1_1,(rd_T47 x0_1 x5_1).f1,(rd_T47 x0_1 x5_1).f2,(rd_T47 x0_1 x5_1).f3⟩:S47)):=⟨_,rfl⟩
     replace H:((some (y350.set (x5_1:Int).toNat (⟨(rd_T47 y350 x5_1).f0,wrap64 (x1_1 + 1),(rd_T47 y350 x5_1).f2,(rd_T47 y350 x5_1).f3⟩:S47):List (S47))).bind fun y351=>((some (y351.set (x5_1:Int).toNat (⟨(rd_T47 y351 x5_1).f0,(rd_T47 y351 x5_1).f1,wrap64 ((wrap64 (x1_1 + 1)) + 1),(rd_T47 y351 x5_1).f3⟩:S47):List (S47))).bind fun y352=>(laws_markJobS.l0 k1 (y352.set (x5_1:Int).toNat (⟨(rd_T47 y352 x5_1).f0,(rd_T47 y352 x5_1).f1,(rd_T47 y352 x5_1).f2,wrap64 ((wrap64 ((wrap64 (x1_1 + 1)) + 1)) + 1)⟩:S47)) (wrap64 ((wrap64 ((wrap64 ((wrap64 (x1_1 + 1)) + 1)) + 1)) + 1)) (wrap64 (x5_1 + 1)))))=some (r1,r2):=by first|(rw [hy350];with_reducible exact H)|(have H2_:=(Option.bind_some _ _).symm.trans H;rw [hy350];with_reducible exact H2_)|(have H2_:=(Option.bind_some _ _).symm.trans H;with_reducible exact H2_)|with_reducible exact H|(rw [hy350];exact H)|exact H
     have Ny350:=Aside0.mk hy350
     clear hy350
     obtain ⟨y351,hy351⟩:∃ y_:List (S47),y_=(y350.set (x5_1:Int).toNat (⟨(rd_T47 y350 x5_1).f0,wrap64 (x1_1 + 1),(rd_T47 y350 x5_1).f2,(rd_T47 y350 x5_1).f3⟩:S47)):=⟨_,rfl⟩
     replace H:((some (y351.set (x5_1:Int).toNat (⟨(rd_T47 y351 x5_1).f0,(rd_T47 y351 x5_1).f1,wrap64 ((wrap64 (x1_1 + 1)) + 1),(rd_T47 y351 x5_1).f3⟩:S47):List (S47))).bind fun y352=>(laws_markJobS.l0 k1 (y352.set (x5_1:Int).toNat (⟨(rd_T47 y352 x5_1).f0,(rd_T47 y352 x5_1).f1,(rd_T47 y352 x5_1).f2,wrap64 ((wrap64 ((wrap64 (x1_1 + 1)) + 1)) + 1)⟩:S47)) (wrap64 ((wrap64 ((wrap64 ((wrap64 (x1_1 + 1)) + 1)) + 1)) + 1)) (wrap64 (x5_1 + 1))))=some (r1,r2):=by first|(rw [hy351];with_reducible exact H)|(have H2_:=(Option.bind_some _ _).symm.trans H;rw [hy351];with_reducible exact H2_)|(have H2_:=(Option.bind_some _ _).symm.trans H;with_reducible exact H2_)|with_reducible exact H|(rw [hy351];exact H)|exact H
     have Ny351:=Aside0.mk hy351
     clear hy351
     obtain ⟨y352,hy352⟩:∃ y_:List (S47),y_=(y351.set (x5_1:Int).toNat (⟨(rd_T47 y351 x5_1).f0,(rd_T47 y351 x5_1).f1,wrap64 ((wrap64 (x1_1 + 1)) + 1),(rd_T47 y351 x5_1).f3⟩:S47)):=⟨_,rfl⟩
     replace H:(laws_markJobS.l0 k1 (y352.set (x5_1:Int).toNat (⟨(rd_T47 y352 x5_1).f0,(rd_T47 y352 x5_1).f1,(rd_T47 y352 x5_1).f2,wrap64 ((wrap64 ((wrap64 (x1_1 + 1)) + 1)) + 1)⟩:S47)) (wrap64 ((wrap64 ((wrap64 ((wrap64 (x1_1 + 1)) + 1)) + 1)) + 1)) (wrap64 (x5_1 + 1)))=some (r1,r2):=by first|(rw [hy352];with_reducible exact H)|(have H2_:=(Option.bind_some _ _).symm.trans H;rw [hy352];with_reducible exact H2_)|(have H2_:=(Option.bind_some _ _).symm.trans H;with_reducible exact H2_)|with_reducible exact H|(rw [hy352];exact H)|exact H
     have Ny352:=Aside0.mk hy352
     clear hy352
     obtain ⟨y353,hy353⟩:∃ y_:List (S47),y_=(y352.set (x5_1:Int).toNat (⟨(rd_T47 y352 x5_1).f0,(rd_T47 y352 x5_1).f1,(rd_T47 y352 x5_1).f2,wrap64 ((wrap64 ((wrap64 (x1_1 + 1)) + 1)) + 1)⟩:S47)):=⟨_,rfl⟩
     replace H:(laws_markJobS.l0 k1 y353 (wrap64 ((wrap64 ((wrap64 ((wrap64 (x1_1 + 1)) + 1)) + 1)) + 1)) (wrap64 (x5_1 + 1)))=some (r1,r2):=by first|(rw [hy353];with_reducible exact H)|(have H2_:=(Option.bind_some _ _).symm.trans H;rw [hy353];with_reducible exact H2_)|(have H2_:=(Option.bind_some _ _).symm.trans H;with_reducible exact H2_)|with_reducible exact H|(rw [hy353];exact H)|exact H
     have Ny353:=Aside0.mk hy353
     clear hy353
     have H':=Aside0.mk H
     clear H
     obtain ⟨Ao9,co9,eo9⟩:=Kd.R_slice HO_0.out
     subst eo9
     have p5:0≤(x5_1:Int):=of_decide_eq_true za
     have q5:(x5_1:Int)<((x0_1.length:Int):Int):=of_decide_eq_true za
     obtain ⟨go5,co5,eo5,gb5,gl5,cl5,HG5⟩:=Kd.R_form HO_0.out (by omega)
     (first|cases eo5|(injection eo5 with ea_ en_ ec_;(first|subst ea_|(injection ea_ with ea_;subst ea_));subst ec_;clear en_))
     have GB5:=Aside0.mk gb5
     have GG5:=Aside0.mk HG5
     clear gb5 gl5 HG5
     have HMgo5:=Aside0.mk (show (P0_ go5∨w.heap.size≤go5) from (HO_0.out.1 _ rfl))
     obtain ⟨ce5,hcl5,hM5,hcc5,hfr5⟩:=Kd.R_elem HO_0.out z47 (x5_1:Int) p5 q5
     obtain rfl:=k47_openM hM5
     have hx5_0:wr.cell? ⟨go5,(x5_1:Int).toNat * 4,none⟩=some (.int .i64 ((rd_T47 x0_1 x5_1).f0)):=hcc5 0 _ rfl
     have hx5_1:wr.cell? ⟨go5,(x5_1:Int).toNat * 4 + 1,none⟩=some (.int .i64 ((rd_T47 x0_1 x5_1).f1)):=hcc5 1 _ rfl
     have hx5_2:wr.cell? ⟨go5,(x5_1:Int).toNat * 4 + 2,none⟩=some (.int .i64 ((rd_T47 x0_1 x5_1).f2)):=hcc5 2 _ rfl
     have hx5_3:wr.cell? ⟨go5,(x5_1:Int).toNat * 4 + 3,none⟩=some (.int .i64 ((rd_T47 x0_1 x5_1).f3)):=hcc5 3 _ rfl
     have hf5_0:wr.frozen? ⟨go5,(x5_1:Int).toNat * 4,none⟩=false:=hfr5 0
     have hf5_1:wr.frozen? ⟨go5,(x5_1:Int).toNat * 4 + 1,none⟩=false:=hfr5 1
     have hf5_2:wr.frozen? ⟨go5,(x5_1:Int).toNat * 4 + 2,none⟩=false:=hfr5 2
     have hf5_3:wr.frozen? ⟨go5,(x5_1:Int).toNat * 4 + 3,none⟩=false:=hfr5 3
     (clear hcl5 hcc5 hfr5;(try clear hM5))
     replace p5:=eq_true p5
     replace q5:=eq_true q5
     have HX10:=Aside0.mk (show Kd.R k47 47 wr w0.heap.size (fun k_=>(P0_ k_∨w.heap.size≤k_)) (.slice (some ⟨go5,0,none⟩) x0_1.length co9) x0_1 from (zR HO_0.out))
     obtain ⟨ce10,hcl10,hM10,hcc10,hfr10⟩:=Kd.R_elem HX10.out z47 (x5_1:Int) (of_decide_eq_true za) (by have h_:(x5_1:Int)<((x0_1.length:Int):Int):=of_decide_eq_true za;first|exact h_|(have e_:=(Kd.R_reads' HO_0.out).1;omega)|simpa using h_)
     obtain rfl:=k47_openM hM10
     have HP10:=Kd.R_seg HX10.out (x5_1:Int) (of_decide_eq_true za) (by have h_:(x5_1:Int)<((x0_1.length:Int):Int):=of_decide_eq_true za;first|exact h_|(have e_:=(Kd.R_reads' HO_0.out).1;omega)|simpa using h_) (seg:=[.int .i64 x1_1]) (j:=0) hcl10 hcc10 (show 1≤4 from by decide) (x':=(⟨x1_1,(rd_T47 x0_1 x5_1).f1,(rd_T47 x0_1 x5_1).f2,(rd_T47 x0_1 x5_1).f3⟩:S47)) (k47_mkM _ _ _ (⟨x1_1,(rd_T47 x0_1 x5_1).f1,(rd_T47 x0_1 x5_1).f2,(rd_T47 x0_1 x5_1).f3⟩:S47)) (fun _ hk=>hk)
     have hx10_0:=hcc10 0 _ rfl
     (try simp only [show (k47).sz=4 from rfl,Nat.mul_one,Nat.add_zero] at hx10_0)
     have hf10_0:=hfr10 0
     (try simp only [show (k47).sz=4 from rfl,Nat.mul_one,Nat.add_zero] at hf10_0)
     (clear hcl10 hcc10 hfr10;(try clear hM10))
     go_wp2_with (first|((with_reducible refine gate_store (t:=3) (p:=16) rfl ?_);(try (rw [drewN_self wr];generalize hq_:World.drewN wr _=wr;have n0_:=Aside0.mk (Kd.R_at hq_ HO_0.out);have n1_:=Aside0.mk (kept_at hq_ HK.out);have n2_:=Aside0.mk (below_at hq_ HB.out);(try replace hx5_0:=cell_at hq_ hx5_0);(try replace hx5_1:=cell_at hq_ hx5_1);(try replace hx5_2:=cell_at hq_ hx5_2);(try replace hx5_3:=cell_at hq_ hx5_3);(try replace hf5_0:=(fun {W_ W2_:World} {n_:Nat} {a_:Addr} {b_:Bool} (h_:W_.drewN n_=W2_) (e_:W_.frozen? a_=b_)=>(by subst h_;exact e_:W2_.frozen? a_=b_)) hq_ hf5_0);(try replace hf5_1:=(fun {W_ W2_:World} {n_:Nat} {a_:Addr} {b_:Bool} (h_:W_.drewN n_=W2_) (e_:W_.frozen? a_=b_)=>(by subst h_;exact e_:W2_.frozen? a_=b_)) hq_ hf5_1);(try replace hf5_2:=(fun {W_ W2_:World} {n_:Nat} {a_:Addr} {b_:Bool} (h_:W_.drewN n_=W2_) (e_:W_.frozen? a_=b_)=>(by subst h_;exact e_:W2_.frozen? a_=b_)) hq_ hf5_2);(try replace hf5_3:=(fun {W_ W2_:World} {n_:Nat} {a_:Addr} {b_:Bool} (h_:W_.drewN n_=W2_) (e_:W_.frozen? a_=b_)=>(by subst h_;exact e_:W2_.frozen? a_=b_)) hq_ hf5_3);(try replace hx10_0:=cell_at hq_ hx10_0);(try replace hf10_0:=(fun {W_ W2_:World} {n_:Nat} {a_:Addr} {b_:Bool} (h_:W_.drewN n_=W2_) (e_:W_.frozen? a_=b_)=>(by subst h_;exact e_:W2_.frozen? a_=b_)) hq_ hf10_0);clear hq_ HO_0 HK HB;have HO_0:=n0_;have HK:=n1_;have HB:=n2_;clear n0_ n1_ n2_;(try (have HX10:=Aside0.mk (show Kd.R k47 47 wr w0.heap.size (fun k_=>(P0_ k_∨w.heap.size≤k_)) (.slice (some ⟨go5,0,none⟩) x0_1.length co9) x0_1 from (zR HO_0.out))));(try (obtain ⟨ce10,hcl10,hM10,hcc10,hfr10⟩:=Kd.R_elem HX10.out z47 (x5_1:Int) (of_decide_eq_true za) (by have h_:(x5_1:Int)<((x0_1.length:Int):Int):=of_decide_eq_true za;first|exact h_|(have e_:=(Kd.R_reads' HO_0.out).1;omega)|simpa using h_)));(try (obtain rfl:=k47_openM hM10));(try (have HP10:=Kd.R_seg HX10.out (x5_1:Int) (of_decide_eq_true za) (by have h_:(x5_1:Int)<((x0_1.length:Int):Int):=of_decide_eq_true za;first|exact h_|(have e_:=(Kd.R_reads' HO_0.out).1;omega)|simpa using h_) (seg:=[.int .i64 x1_1]) (j:=0) hcl10 hcc10 (show 1≤4 from by decide) (x':=(⟨x1_1,(rd_T47 x0_1 x5_1).f1,(rd_T47 x0_1 x5_1).f2,(rd_T47 x0_1 x5_1).f3⟩:S47)) (k47_mkM _ _ _ (⟨x1_1,(rd_T47 x0_1 x5_1).f1,(rd_T47 x0_1 x5_1).f2,(rd_T47 x0_1 x5_1).f3⟩:S47)) (fun _ hk=>hk)));(try (have hx10_0:=hcc10 0 _ rfl));(try (try simp only [show (k47).sz=4 from rfl,Nat.mul_one,Nat.add_zero] at hx10_0));(try (have hf10_0:=hfr10 0));(try (try simp only [show (k47).sz=4 from rfl,Nat.mul_one,Nat.add_zero] at hf10_0));(try (clear hcl10 hcc10 hfr10;(try clear hM10)))));refine store_event (t:=3) (p:=16) (v:=?vo_w11) (w1:=(wr.setCell ⟨go5,(x5_1:Int).toNat * 4,none⟩ (.int .i64 x1_1))) ?hg ?ho ?hn ?hr ?_;(case ho=>rfl);(case hg=>rfl);(case hn=>rfl);(case hr=>first|(go_simp;done)|(go_simp;rfl));intro w11 hw;have hg:wr.grownBy w11 (some go5):=(by rw [hw];exact HP10.2);have hp_:Kd.R k47 47 w11 w0.heap.size (fun k_=>(P0_ k_∨w.heap.size≤k_)) (.slice (some ⟨go5,0,none⟩) x0_1.length co9) y350:=(by rw [hw,Ny350.out];exact HP10.1);clear HP10;have n0_:=Aside0.mk (hp_);have n1_:=Aside0.mk ((by rw [hw];exact below_set (HB.out) GB5.out:Below w0.heap.size w0 w11));have n2_:=Aside0.mk (Kept.of_grown (S:=(fun k_=>P0_ k_)) hg (by repeat (first|(with_reducible first|exact HK.out|apply Kept.alloc|apply Kept.drewN|apply Kept.drew)|exact HK.out)) (fun k_ e_=>(HO_0.out.1 k_ e_)));clear HO_0;clear HB;clear HK;have HO_0:=n0_;have HB:=n1_;have HK:=n2_;clear n0_ n1_ n2_;clear hg hw hp_;have p6:0≤(x5_1:Int):=of_decide_eq_true za;have q6:(x5_1:Int)<((x0_1.length:Int):Int):=of_decide_eq_true za;obtain ⟨ce6,hcl6,hM6,hcc6,hfr6⟩:=Kd.R_elem HO_0.out z47 (x5_1:Int) p6 q6;obtain rfl:=k47_openM hM6;have hx6_0:w11.cell? ⟨go5,(x5_1:Int).toNat * 4,none⟩=some (.int .i64 ((rd_T47 y350 x5_1).f0)):=hcc6 0 _ rfl;have hx6_1:w11.cell? ⟨go5,(x5_1:Int).toNat * 4 + 1,none⟩=some (.int .i64 ((rd_T47 y350 x5_1).f1)):=hcc6 1 _ rfl;have hx6_2:w11.cell? ⟨go5,(x5_1:Int).toNat * 4 + 2,none⟩=some (.int .i64 ((rd_T47 y350 x5_1).f2)):=hcc6 2 _ rfl;have hx6_3:w11.cell? ⟨go5,(x5_1:Int).toNat * 4 + 3,none⟩=some (.int .i64 ((rd_T47 y350 x5_1).f3)):=hcc6 3 _ rfl;have hf6_0:w11.frozen? ⟨go5,(x5_1:Int).toNat * 4,none⟩=false:=hfr6 0;have hf6_1:w11.frozen? ⟨go5,(x5_1:Int).toNat * 4 + 1,none⟩=false:=hfr6 1;have hf6_2:w11.frozen? ⟨go5,(x5_1:Int).toNat * 4 + 2,none⟩=false:=hfr6 2;have hf6_3:w11.frozen? ⟨go5,(x5_1:Int).toNat * 4 + 3,none⟩=false:=hfr6 3;(clear hcl6 hcc6 hfr6;(try clear hM6));replace p6:=eq_true p6;replace q6:=eq_true q6;have HX12:=Aside0.mk (show Kd.R k47 47 w11 w0.heap.size (fun k_=>(P0_ k_∨w.heap.size≤k_)) (.slice (some ⟨go5,0,none⟩) x0_1.length co9) y350 from (zR HO_0.out));obtain ⟨ce12,hcl12,hM12,hcc12,hfr12⟩:=Kd.R_elem HX12.out z47 (x5_1:Int) (of_decide_eq_true za) (by have h_:(x5_1:Int)<((x0_1.length:Int):Int):=of_decide_eq_true za;first|exact h_|(have e_:=(Kd.R_reads' HO_0.out).1;omega)|simpa using h_);obtain rfl:=k47_openM hM12;have HP12:=Kd.R_seg HX12.out (x5_1:Int) (of_decide_eq_true za) (by have h_:(x5_1:Int)<((x0_1.length:Int):Int):=of_decide_eq_true za;first|exact h_|(have e_:=(Kd.R_reads' HO_0.out).1;omega)|simpa using h_) (seg:=[.int .i64 (wrap64 (x1_1 + 1))]) (j:=1) hcl12 hcc12 (show 2≤4 from by decide) (x':=(⟨(rd_T47 y350 x5_1).f0,wrap64 (x1_1 + 1),(rd_T47 y350 x5_1).f2,(rd_T47 y350 x5_1).f3⟩:S47)) (k47_mkM _ _ _ (⟨(rd_T47 y350 x5_1).f0,wrap64 (x1_1 + 1),(rd_T47 y350 x5_1).f2,(rd_T47 y350 x5_1).f3⟩:S47)) (fun _ hk=>hk);have hx12_1:=hcc12 1 _ rfl;(try simp only [show (k47).sz=4 from rfl,Nat.mul_one,Nat.add_zero] at hx12_1);have hf12_1:=hfr12 1;(try simp only [show (k47).sz=4 from rfl,Nat.mul_one,Nat.add_zero] at hf12_1);(clear hcl12 hcc12 hfr12;(try clear hM12)))|((with_reducible refine gate_store (t:=3) (p:=23) rfl ?_);(try (rw [drewN_self w11];generalize hq_:World.drewN w11 _=w11;have n0_:=Aside0.mk (Kd.R_at hq_ HO_0.out);have n1_:=Aside0.mk (kept_at hq_ HK.out);have n2_:=Aside0.mk (below_at hq_ HB.out);(try replace hx6_0:=cell_at hq_ hx6_0);(try replace hx6_1:=cell_at hq_ hx6_1);(try replace hx6_2:=cell_at hq_ hx6_2);(try replace hx6_3:=cell_at hq_ hx6_3);(try replace hf6_0:=(fun {W_ W2_:World} {n_:Nat} {a_:Addr} {b_:Bool} (h_:W_.drewN n_=W2_) (e_:W_.frozen? a_=b_)=>(by subst h_;exact e_:W2_.frozen? a_=b_)) hq_ hf6_0);(try replace hf6_1:=(fun {W_ W2_:World} {n_:Nat} {a_:Addr} {b_:Bool} (h_:W_.drewN n_=W2_) (e_:W_.frozen? a_=b_)=>(by subst h_;exact e_:W2_.frozen? a_=b_)) hq_ hf6_1);(try replace hf6_2:=(fun {W_ W2_:World} {n_:Nat} {a_:Addr} {b_:Bool} (h_:W_.drewN n_=W2_) (e_:W_.frozen? a_=b_)=>(by subst h_;exact e_:W2_.frozen? a_=b_)) hq_ hf6_2);(try replace hf6_3:=(fun {W_ W2_:World} {n_:Nat} {a_:Addr} {b_:Bool} (h_:W_.drewN n_=W2_) (e_:W_.frozen? a_=b_)=>(by subst h_;exact e_:W2_.frozen? a_=b_)) hq_ hf6_3);(try replace hx12_1:=cell_at hq_ hx12_1);(try replace hf12_1:=(fun {W_ W2_:World} {n_:Nat} {a_:Addr} {b_:Bool} (h_:W_.drewN n_=W2_) (e_:W_.frozen? a_=b_)=>(by subst h_;exact e_:W2_.frozen? a_=b_)) hq_ hf12_1);clear hq_ HO_0 HK HB;have HO_0:=n0_;have HK:=n1_;have HB:=n2_;clear n0_ n1_ n2_;(try (have HX12:=Aside0.mk (show Kd.R k47 47 w11 w0.heap.size (fun k_=>(P0_ k_∨w.heap.size≤k_)) (.slice (some ⟨go5,0,none⟩) x0_1.length co9) y350 from (zR HO_0.out))));(try (obtain ⟨ce12,hcl12,hM12,hcc12,hfr12⟩:=Kd.R_elem HX12.out z47 (x5_1:Int) (of_decide_eq_true za) (by have h_:(x5_1:Int)<((x0_1.length:Int):Int):=of_decide_eq_true za;first|exact h_|(have e_:=(Kd.R_reads' HO_0.out).1;omega)|simpa using h_)));(try (obtain rfl:=k47_openM hM12));(try (have HP12:=Kd.R_seg HX12.out (x5_1:Int) (of_decide_eq_true za) (by have h_:(x5_1:Int)<((x0_1.length:Int):Int):=of_decide_eq_true za;first|exact h_|(have e_:=(Kd.R_reads' HO_0.out).1;omega)|simpa using h_) (seg:=[.int .i64 (wrap64 (x1_1 + 1))]) (j:=1) hcl12 hcc12 (show 2≤4 from by decide) (x':=(⟨(rd_T47 y350 x5_1).f0,wrap64 (x1_1 + 1),(rd_T47 y350 x5_1).f2,(rd_T47 y350 x5_1).f3⟩:S47)) (k47_mkM _ _ _ (⟨(rd_T47 y350 x5_1).f0,wrap64 (x1_1 + 1),(rd_T47 y350 x5_1).f2,(rd_T47 y350 x5_1).f3⟩:S47)) (fun _ hk=>hk)));(try (have hx12_1:=hcc12 1 _ rfl));(try (try simp only [show (k47).sz=4 from rfl,Nat.mul_one,Nat.add_zero] at hx12_1));(try (have hf12_1:=hfr12 1));(try (try simp only [show (k47).sz=4 from rfl,Nat.mul_one,Nat.add_zero] at hf12_1));(try (clear hcl12 hcc12 hfr12;(try clear hM12)))));refine store_event (t:=3) (p:=23) (v:=?vo_w13) (w1:=(w11.setCell ⟨go5,(x5_1:Int).toNat * 4 + 1,none⟩ (.int .i64 (wrap64 (x1_1 + 1))))) ?hg ?ho ?hn ?hr ?_;(case ho=>rfl);(case hg=>rfl);(case hn=>rfl);(case hr=>first|(go_simp;done)|(go_simp;rfl));intro w13 hw;have hg:w11.grownBy w13 (some go5):=(by rw [hw];exact HP12.2);have hp_:Kd.R k47 47 w13 w0.heap.size (fun k_=>(P0_ k_∨w.heap.size≤k_)) (.slice (some ⟨go5,0,none⟩) x0_1.length co9) y351:=(by rw [hw,Ny351.out];exact HP12.1);clear HP12;have n0_:=Aside0.mk (hp_);have n1_:=Aside0.mk ((by rw [hw];exact below_set (HB.out) GB5.out:Below w0.heap.size w0 w13));have n2_:=Aside0.mk (Kept.of_grown (S:=(fun k_=>P0_ k_)) hg (by repeat (first|(with_reducible first|exact HK.out|apply Kept.alloc|apply Kept.drewN|apply Kept.drew)|exact HK.out)) (fun k_ e_=>(HO_0.out.1 k_ e_)));clear HO_0;clear HB;clear HK;have HO_0:=n0_;have HB:=n1_;have HK:=n2_;clear n0_ n1_ n2_;clear hg hw hp_;have p7:0≤(x5_1:Int):=of_decide_eq_true za;have q7:(x5_1:Int)<((x0_1.length:Int):Int):=of_decide_eq_true za;obtain ⟨ce7,hcl7,hM7,hcc7,hfr7⟩:=Kd.R_elem HO_0.out z47 (x5_1:Int) p7 q7;obtain rfl:=k47_openM hM7;have hx7_0:w13.cell? ⟨go5,(x5_1:Int).toNat * 4,none⟩=some (.int .i64 ((rd_T47 y351 x5_1).f0)):=hcc7 0 _ rfl;have hx7_1:w13.cell? ⟨go5,(x5_1:Int).toNat * 4 + 1,none⟩=some (.int .i64 ((rd_T47 y351 x5_1).f1)):=hcc7 1 _ rfl;have hx7_2:w13.cell? ⟨go5,(x5_1:Int).toNat * 4 + 2,none⟩=some (.int .i64 ((rd_T47 y351 x5_1).f2)):=hcc7 2 _ rfl;have hx7_3:w13.cell? ⟨go5,(x5_1:Int).toNat * 4 + 3,none⟩=some (.int .i64 ((rd_T47 y351 x5_1).f3)):=hcc7 3 _ rfl;have hf7_0:w13.frozen? ⟨go5,(x5_1:Int).toNat * 4,none⟩=false:=hfr7 0;have hf7_1:w13.frozen? ⟨go5,(x5_1:Int).toNat * 4 + 1,none⟩=false:=hfr7 1;have hf7_2:w13.frozen? ⟨go5,(x5_1:Int).toNat * 4 + 2,none⟩=false:=hfr7 2;have hf7_3:w13.frozen? ⟨go5,(x5_1:Int).toNat * 4 + 3,none⟩=false:=hfr7 3;(clear hcl7 hcc7 hfr7;(try clear hM7));replace p7:=eq_true p7;replace q7:=eq_true q7;have HX14:=Aside0.mk (show Kd.R k47 47 w13 w0.heap.size (fun k_=>(P0_ k_∨w.heap.size≤k_)) (.slice (some ⟨go5,0,none⟩) x0_1.length co9) y351 from (zR HO_0.out));obtain ⟨ce14,hcl14,hM14,hcc14,hfr14⟩:=Kd.R_elem HX14.out z47 (x5_1:Int) (of_decide_eq_true za) (by have h_:(x5_1:Int)<((x0_1.length:Int):Int):=of_decide_eq_true za;first|exact h_|(have e_:=(Kd.R_reads' HO_0.out).1;omega)|simpa using h_);obtain rfl:=k47_openM hM14;have HP14:=Kd.R_seg HX14.out (x5_1:Int) (of_decide_eq_true za) (by have h_:(x5_1:Int)<((x0_1.length:Int):Int):=of_decide_eq_true za;first|exact h_|(have e_:=(Kd.R_reads' HO_0.out).1;omega)|simpa using h_) (seg:=[.int .i64 (wrap64 ((wrap64 (x1_1 + 1)) + 1))]) (j:=2) hcl14 hcc14 (show 3≤4 from by decide) (x':=(⟨(rd_T47 y351 x5_1).f0,(rd_T47 y351 x5_1).f1,wrap64 ((wrap64 (x1_1 + 1)) + 1),(rd_T47 y351 x5_1).f3⟩:S47)) (k47_mkM _ _ _ (⟨(rd_T47 y351 x5_1).f0,(rd_T47 y351 x5_1).f1,wrap64 ((wrap64 (x1_1 + 1)) + 1),(rd_T47 y351 x5_1).f3⟩:S47)) (fun _ hk=>hk);have hx14_2:=hcc14 2 _ rfl;(try simp only [show (k47).sz=4 from rfl,Nat.mul_one,Nat.add_zero] at hx14_2);have hf14_2:=hfr14 2;(try simp only [show (k47).sz=4 from rfl,Nat.mul_one,Nat.add_zero] at hf14_2);(clear hcl14 hcc14 hfr14;(try clear hM14)))|((with_reducible refine gate_store (t:=3) (p:=30) rfl ?_);(try (rw [drewN_self w13];generalize hq_:World.drewN w13 _=w13;have n0_:=Aside0.mk (Kd.R_at hq_ HO_0.out);have n1_:=Aside0.mk (kept_at hq_ HK.out);have n2_:=Aside0.mk (below_at hq_ HB.out);(try replace hx7_0:=cell_at hq_ hx7_0);(try replace hx7_1:=cell_at hq_ hx7_1);(try replace hx7_2:=cell_at hq_ hx7_2);(try replace hx7_3:=cell_at hq_ hx7_3);(try replace hf7_0:=(fun {W_ W2_:World} {n_:Nat} {a_:Addr} {b_:Bool} (h_:W_.drewN n_=W2_) (e_:W_.frozen? a_=b_)=>(by subst h_;exact e_:W2_.frozen? a_=b_)) hq_ hf7_0);(try replace hf7_1:=(fun {W_ W2_:World} {n_:Nat} {a_:Addr} {b_:Bool} (h_:W_.drewN n_=W2_) (e_:W_.frozen? a_=b_)=>(by subst h_;exact e_:W2_.frozen? a_=b_)) hq_ hf7_1);(try replace hf7_2:=(fun {W_ W2_:World} {n_:Nat} {a_:Addr} {b_:Bool} (h_:W_.drewN n_=W2_) (e_:W_.frozen? a_=b_)=>(by subst h_;exact e_:W2_.frozen? a_=b_)) hq_ hf7_2);(try replace hf7_3:=(fun {W_ W2_:World} {n_:Nat} {a_:Addr} {b_:Bool} (h_:W_.drewN n_=W2_) (e_:W_.frozen? a_=b_)=>(by subst h_;exact e_:W2_.frozen? a_=b_)) hq_ hf7_3);(try replace hx14_2:=cell_at hq_ hx14_2);(try replace hf14_2:=(fun {W_ W2_:World} {n_:Nat} {a_:Addr} {b_:Bool} (h_:W_.drewN n_=W2_) (e_:W_.frozen? a_=b_)=>(by subst h_;exact e_:W2_.frozen? a_=b_)) hq_ hf14_2);clear hq_ HO_0 HK HB;have HO_0:=n0_;have HK:=n1_;have HB:=n2_;clear n0_ n1_ n2_;(try (have HX14:=Aside0.mk (show Kd.R k47 47 w13 w0.heap.size (fun k_=>(P0_ k_∨w.heap.size≤k_)) (.slice (some ⟨go5,0,none⟩) x0_1.length co9) y351 from (zR HO_0.out))));(try (obtain ⟨ce14,hcl14,hM14,hcc14,hfr14⟩:=Kd.R_elem HX14.out z47 (x5_1:Int) (of_decide_eq_true za) (by have h_:(x5_1:Int)<((x0_1.length:Int):Int):=of_decide_eq_true za;first|exact h_|(have e_:=(Kd.R_reads' HO_0.out).1;omega)|simpa using h_)));(try (obtain rfl:=k47_openM hM14));(try (have HP14:=Kd.R_seg HX14.out (x5_1:Int) (of_decide_eq_true za) (by have h_:(x5_1:Int)<((x0_1.length:Int):Int):=of_decide_eq_true za;first|exact h_|(have e_:=(Kd.R_reads' HO_0.out).1;omega)|simpa using h_) (seg:=[.int .i64 (wrap64 ((wrap64 (x1_1 + 1)) + 1))]) (j:=2) hcl14 hcc14 (show 3≤4 from by decide) (x':=(⟨(rd_T47 y351 x5_1).f0,(rd_T47 y351 x5_1).f1,wrap64 ((wrap64 (x1_1 + 1)) + 1),(rd_T47 y351 x5_1).f3⟩:S47)) (k47_mkM _ _ _ (⟨(rd_T47 y351 x5_1).f0,(rd_T47 y351 x5_1).f1,wrap64 ((wrap64 (x1_1 + 1)) + 1),(rd_T47 y351 x5_1).f3⟩:S47)) (fun _ hk=>hk)));(try (have hx14_2:=hcc14 2 _ rfl));(try (try simp only [show (k47).sz=4 from rfl,Nat.mul_one,Nat.add_zero] at hx14_2));(try (have hf14_2:=hfr14 2));(try (try simp only [show (k47).sz=4 from rfl,Nat.mul_one,Nat.add_zero] at hf14_2));(try (clear hcl14 hcc14 hfr14;(try clear hM14)))));refine store_event (t:=3) (p:=30) (v:=?vo_w15) (w1:=(w13.setCell ⟨go5,(x5_1:Int).toNat * 4 + 2,none⟩ (.int .i64 (wrap64 ((wrap64 (x1_1 + 1)) + 1))))) ?hg ?ho ?hn ?hr ?_;(case ho=>rfl);(case hg=>rfl);(case hn=>rfl);(case hr=>first|(go_simp;done)|(go_simp;rfl));intro w15 hw;have hg:w13.grownBy w15 (some go5):=(by rw [hw];exact HP14.2);have hp_:Kd.R k47 47 w15 w0.heap.size (fun k_=>(P0_ k_∨w.heap.size≤k_)) (.slice (some ⟨go5,0,none⟩) x0_1.length co9) y352:=(by rw [hw,Ny352.out];exact HP14.1);clear HP14;have n0_:=Aside0.mk (hp_);have n1_:=Aside0.mk ((by rw [hw];exact below_set (HB.out) GB5.out:Below w0.heap.size w0 w15));have n2_:=Aside0.mk (Kept.of_grown (S:=(fun k_=>P0_ k_)) hg (by repeat (first|(with_reducible first|exact HK.out|apply Kept.alloc|apply Kept.drewN|apply Kept.drew)|exact HK.out)) (fun k_ e_=>(HO_0.out.1 k_ e_)));clear HO_0;clear HB;clear HK;have HO_0:=n0_;have HB:=n1_;have HK:=n2_;clear n0_ n1_ n2_;clear hg hw hp_;have p8:0≤(x5_1:Int):=of_decide_eq_true za;have q8:(x5_1:Int)<((x0_1.length:Int):Int):=of_decide_eq_true za;obtain ⟨ce8,hcl8,hM8,hcc8,hfr8⟩:=Kd.R_elem HO_0.out z47 (x5_1:Int) p8 q8;obtain rfl:=k47_openM hM8;have hx8_0:w15.cell? ⟨go5,(x5_1:Int).toNat * 4,none⟩=some (.int .i64 ((rd_T47 y352 x5_1).f0)):=hcc8 0 _ rfl;have hx8_1:w15.cell? ⟨go5,(x5_1:Int).toNat * 4 + 1,none⟩=some (.int .i64 ((rd_T47 y352 x5_1).f1)):=hcc8 1 _ rfl;have hx8_2:w15.cell? ⟨go5,(x5_1:Int).toNat * 4 + 2,none⟩=some (.int .i64 ((rd_T47 y352 x5_1).f2)):=hcc8 2 _ rfl;have hx8_3:w15.cell? ⟨go5,(x5_1:Int).toNat * 4 + 3,none⟩=some (.int .i64 ((rd_T47 y352 x5_1).f3)):=hcc8 3 _ rfl;have hf8_0:w15.frozen? ⟨go5,(x5_1:Int).toNat * 4,none⟩=false:=hfr8 0;have hf8_1:w15.frozen? ⟨go5,(x5_1:Int).toNat * 4 + 1,none⟩=false:=hfr8 1;have hf8_2:w15.frozen? ⟨go5,(x5_1:Int).toNat * 4 + 2,none⟩=false:=hfr8 2;have hf8_3:w15.frozen? ⟨go5,(x5_1:Int).toNat * 4 + 3,none⟩=false:=hfr8 3;(clear hcl8 hcc8 hfr8;(try clear hM8));replace p8:=eq_true p8;replace q8:=eq_true q8;have HX16:=Aside0.mk (show Kd.R k47 47 w15 w0.heap.size (fun k_=>(P0_ k_∨w.heap.size≤k_)) (.slice (some ⟨go5,0,none⟩) x0_1.length co9) y352 from (zR HO_0.out));obtain ⟨ce16,hcl16,hM16,hcc16,hfr16⟩:=Kd.R_elem HX16.out z47 (x5_1:Int) (of_decide_eq_true za) (by have h_:(x5_1:Int)<((x0_1.length:Int):Int):=of_decide_eq_true za;first|exact h_|(have e_:=(Kd.R_reads' HO_0.out).1;omega)|simpa using h_);obtain rfl:=k47_openM hM16;have HP16:=Kd.R_seg HX16.out (x5_1:Int) (of_decide_eq_true za) (by have h_:(x5_1:Int)<((x0_1.length:Int):Int):=of_decide_eq_true za;first|exact h_|(have e_:=(Kd.R_reads' HO_0.out).1;omega)|simpa using h_) (seg:=[.int .i64 (wrap64 ((wrap64 ((wrap64 (x1_1 + 1)) + 1)) + 1))]) (j:=3) hcl16 hcc16 (show 4≤4 from by decide) (x':=(⟨(rd_T47 y352 x5_1).f0,(rd_T47 y352 x5_1).f1,(rd_T47 y352 x5_1).f2,wrap64 ((wrap64 ((wrap64 (x1_1 + 1)) + 1)) + 1)⟩:S47)) (k47_mkM _ _ _ (⟨(rd_T47 y352 x5_1).f0,(rd_T47 y352 x5_1).f1,(rd_T47 y352 x5_1).f2,wrap64 ((wrap64 ((wrap64 (x1_1 + 1)) + 1)) + 1)⟩:S47)) (fun _ hk=>hk);have hx16_3:=hcc16 3 _ rfl;(try simp only [show (k47).sz=4 from rfl,Nat.mul_one,Nat.add_zero] at hx16_3);have hf16_3:=hfr16 3;(try simp only [show (k47).sz=4 from rfl,Nat.mul_one,Nat.add_zero] at hf16_3);(clear hcl16 hcc16 hfr16;(try clear hM16)))|((with_reducible refine gate_store (t:=3) (p:=37) rfl ?_);(try (rw [drewN_self w15];generalize hq_:World.drewN w15 _=w15;have n0_:=Aside0.mk (Kd.R_at hq_ HO_0.out);have n1_:=Aside0.mk (kept_at hq_ HK.out);have n2_:=Aside0.mk (below_at hq_ HB.out);(try replace hx8_0:=cell_at hq_ hx8_0);(try replace hx8_1:=cell_at hq_ hx8_1);(try replace hx8_2:=cell_at hq_ hx8_2);(try replace hx8_3:=cell_at hq_ hx8_3);(try replace hf8_0:=(fun {W_ W2_:World} {n_:Nat} {a_:Addr} {b_:Bool} (h_:W_.drewN n_=W2_) (e_:W_.frozen? a_=b_)=>(by subst h_;exact e_:W2_.frozen? a_=b_)) hq_ hf8_0);(try replace hf8_1:=(fun {W_ W2_:World} {n_:Nat} {a_:Addr} {b_:Bool} (h_:W_.drewN n_=W2_) (e_:W_.frozen? a_=b_)=>(by subst h_;exact e_:W2_.frozen? a_=b_)) hq_ hf8_1);(try replace hf8_2:=(fun {W_ W2_:World} {n_:Nat} {a_:Addr} {b_:Bool} (h_:W_.drewN n_=W2_) (e_:W_.frozen? a_=b_)=>(by subst h_;exact e_:W2_.frozen? a_=b_)) hq_ hf8_2);(try replace hf8_3:=(fun {W_ W2_:World} {n_:Nat} {a_:Addr} {b_:Bool} (h_:W_.drewN n_=W2_) (e_:W_.frozen? a_=b_)=>(by subst h_;exact e_:W2_.frozen? a_=b_)) hq_ hf8_3);(try replace hx16_3:=cell_at hq_ hx16_3);(try replace hf16_3:=(fun {W_ W2_:World} {n_:Nat} {a_:Addr} {b_:Bool} (h_:W_.drewN n_=W2_) (e_:W_.frozen? a_=b_)=>(by subst h_;exact e_:W2_.frozen? a_=b_)) hq_ hf16_3);clear hq_ HO_0 HK HB;have HO_0:=n0_;have HK:=n1_;have HB:=n2_;clear n0_ n1_ n2_;(try (have HX16:=Aside0.mk (show Kd.R k47 47 w15 w0.heap.size (fun k_=>(P0_ k_∨w.heap.size≤k_)) (.slice (some ⟨go5,0,none⟩) x0_1.length co9) y352 from (zR HO_0.out))));(try (obtain ⟨ce16,hcl16,hM16,hcc16,hfr16⟩:=Kd.R_elem HX16.out z47 (x5_1:Int) (of_decide_eq_true za) (by have h_:(x5_1:Int)<((x0_1.length:Int):Int):=of_decide_eq_true za;first|exact h_|(have e_:=(Kd.R_reads' HO_0.out).1;omega)|simpa using h_)));(try (obtain rfl:=k47_openM hM16));(try (have HP16:=Kd.R_seg HX16.out (x5_1:Int) (of_decide_eq_true za) (by have h_:(x5_1:Int)<((x0_1.length:Int):Int):=of_decide_eq_true za;first|exact h_|(have e_:=(Kd.R_reads' HO_0.out).1;omega)|simpa using h_) (seg:=[.int .i64 (wrap64 ((wrap64 ((wrap64 (x1_1 + 1)) + 1)) + 1))]) (j:=3) hcl16 hcc16 (show 4≤4 from by decide) (x':=(⟨(rd_T47 y352 x5_1).f0,(rd_T47 y352 x5_1).f1,(rd_T47 y352 x5_1).f2,wrap64 ((wrap64 ((wrap64 (x1_1 + 1)) + 1)) + 1)⟩:S47)) (k47_mkM _ _ _ (⟨(rd_T47 y352 x5_1).f0,(rd_T47 y352 x5_1).f1,(rd_T47 y352 x5_1).f2,wrap64 ((wrap64 ((wrap64 (x1_1 + 1)) + 1)) + 1)⟩:S47)) (fun _ hk=>hk)));(try (have hx16_3:=hcc16 3 _ rfl));(try (try simp only [show (k47).sz=4 from rfl,Nat.mul_one,Nat.add_zero] at hx16_3));(try (have hf16_3:=hfr16 3));(try (try simp only [show (k47).sz=4 from rfl,Nat.mul_one,Nat.add_zero] at hf16_3));(try (clear hcl16 hcc16 hfr16;(try clear hM16)))));refine store_event (t:=3) (p:=37) (v:=?vo_w17) (w1:=(w15.setCell ⟨go5,(x5_1:Int).toNat * 4 + 3,none⟩ (.int .i64 (wrap64 ((wrap64 ((wrap64 (x1_1 + 1)) + 1)) + 1))))) ?hg ?ho ?hn ?hr ?_;(case ho=>rfl);(case hg=>rfl);(case hn=>rfl);(case hr=>first|(go_simp;done)|(go_simp;rfl));intro w17 hw;have hg:w15.grownBy w17 (some go5):=(by rw [hw];exact HP16.2);have hp_:Kd.R k47 47 w17 w0.heap.size (fun k_=>(P0_ k_∨w.heap.size≤k_)) (.slice (some ⟨go5,0,none⟩) x0_1.length co9) y353:=(by rw [hw,Ny353.out];exact HP16.1);clear HP16;have n0_:=Aside0.mk (hp_);have n1_:=Aside0.mk ((by rw [hw];exact below_set (HB.out) GB5.out:Below w0.heap.size w0 w17));have n2_:=Aside0.mk (Kept.of_grown (S:=(fun k_=>P0_ k_)) hg (by repeat (first|(with_reducible first|exact HK.out|apply Kept.alloc|apply Kept.drewN|apply Kept.drew)|exact HK.out)) (fun k_ e_=>(HO_0.out.1 k_ e_)));clear HO_0;clear HB;clear HK;have HO_0:=n0_;have HB:=n1_;have HK:=n2_;clear n0_ n1_ n2_;clear hg hw hp_))
     go_roundg k1
     case measure=>have:=HK1.out;omega
     case rel=>exact ⟨(y353),(wrap64 ((wrap64 ((wrap64 ((wrap64 (x1_1 + 1)) + 1)) + 1)) + 1)),(wrap64 (x5_1 + 1)),zo,zo,H',⟨by have:=HK1.out;omega⟩,⟨zR HO_0.out⟩,⟨by repeat (first|(with_reducible first|exact HK.out|apply Kept.alloc|apply Kept.drewN|apply Kept.drew)|exact HK.out)⟩,⟨zb⟩⟩
    ·rw [if_neg c4] at H
     exact absurd H (by simp)
   ·rw [if_neg c3] at H
    have c3b0:decide (x5_1<(x0_1.length:Int))=false:=decide_eq_false c3
    clear c3
    simp only [Option.some.injEq,Prod.mk.injEq] at H
    obtain ⟨rfl,rfl⟩:=H
    obtain ⟨Ao18,co18,eo18⟩:=Kd.R_slice HO_0.out
    subst eo18
    go_wp2
    go_ret
    exact ⟨by first|rfl|(simp [errW_none,errW_some] <;> rfl)|(simp [*,errW_none,errW_some] <;> rfl),zR HO_0.out,by repeat (first|(with_reducible first|exact HB.out|apply below_alloc|apply pw_below_drewN|apply below_drew1)|exact HB.out),by repeat (first|(with_reducible first|exact HK.out|apply Kept.alloc|apply Kept.drewN|apply Kept.drew)|exact HK.out)⟩

/-! ### laws_markTaskS: function 16 -/
def laws_markTaskS.l0:Nat→List (S89)→Int→Int→Option (Int × (List (S89)))
 | 0,_,_,_=>none
 | k + 1,x0,x1,x5=>if x5<(x0.length:Int) then (if 0≤x5 then ((some (x0.set (x5:Int).toNat (⟨x1,(rd_T89 x0 x5).f1,(rd_T89 x0 x5).f2⟩:S89):List (S89))).bind fun y354=>((some (y354.set (x5:Int).toNat (⟨(rd_T89 y354 x5).f0,wrap64 (x1 + 1),(rd_T89 y354 x5).f2⟩:S89):List (S89))).bind fun y355=>(laws_markTaskS.l0 k (y355.set (x5:Int).toNat (⟨(rd_T89 y355 x5).f0,(rd_T89 y355 x5).f1,wrap64 ((wrap64 (x1 + 1)) + 1)⟩:S89)) (wrap64 ((wrap64 ((wrap64 (x1 + 1)) + 1)) + 1)) (wrap64 (x5 + 1))))) else (none)) else (some (x1,x0))
def laws_markTaskS.f (k:Nat) (l0:List (S89)) (a1:Int):Option (Int × (List (S89))):=laws_markTaskS.l0 k l0 a1 0
theorem laws_markTaskS.mono_l:∀ k,(∀ y0 y1 y2,LeO (laws_markTaskS.l0 k y0 y1 y2) (laws_markTaskS.l0 (k + 1) y0 y1 y2))
 | 0=>fun _ _ _ r h=>by simp [laws_markTaskS.l0] at h
 | k + 1=>by
  have ih0:=laws_markTaskS.mono_l k
  ·intro y0 y1 y2
   unfold laws_markTaskS.l0
   repeat' first
   | (with_reducible exact ih0 _ _ _)
   | (with_reducible exact LeO.refl _)
   | (with_reducible exact LeO.none _)
   | (with_reducible refine LeO.ite ?_ ?_)
   | (with_reducible refine LeO.bind ?_ (fun _=>?_))
   | exact ih0 _ _ _
   | exact LeO.none _
   | refine LeO.ite ?_ ?_
   | refine LeO.bind ?_ (fun _=>?_)
theorem laws_markTaskS.mono:∀ a0 a1 k,LeO (laws_markTaskS.f k a0 a1) (laws_markTaskS.f (k + 1) a0 a1):=by
 intro a0 a1 k
 have ih0:=laws_markTaskS.mono_l k
 unfold laws_markTaskS.f
 repeat' first
   | (with_reducible exact ih0 _ _ _)
   | (with_reducible exact LeO.refl _)
   | (with_reducible exact LeO.none _)
   | (with_reducible refine LeO.ite ?_ ?_)
   | (with_reducible refine LeO.bind ?_ (fun _=>?_))
   | exact ih0 _ _ _
   | exact LeO.none _
   | refine LeO.ite ?_ ?_
   | refine LeO.bind ?_ (fun _=>?_)
set_option maxHeartbeats 8000000 in
set_option maxRecDepth 100000 in
theorem laws_markTaskS.calls (k:Nat) (P0_:Nat→Prop) (u9000_:Value) (l0:List (S89)) (a1:Int) (r1:Int) (r2:List (S89)) (w0 w:World) (hB:Below w0.heap.size w0 w) (ho0:Kd.R k89 89 w w0.heap.size P0_ u9000_ l0) (h:laws_markTaskS.f k l0 a1=some (r1,r2)) :
  Calls Try.prog 16 #[u9000_,.int .i64 a1] w fun e w'=>e=.returned (.int .i64 r1)∧Kd.R k89 89 w' w0.heap.size (fun k_=>(P0_ k_∨w.heap.size≤k_)) u9000_ r2∧Below w0.heap.size w0 w'∧Kept w w' (fun k_=>P0_ k_):=by
 have HO0:=Aside0.mk (show Kd.R k89 89 w w0.heap.size (fun k_=>(P0_ k_∨w.heap.size≤k_)) u9000_ l0 from Kd.R_mono ho0 (fun k_ hk=>(.inl hk)))
 have HK:=Aside0.mk (Kept.refl w (fun k_=>P0_ k_))
 have HW0:=Aside0.mk hB.size
 have HB:=Aside0.mk hB
 clear hB
 have H:(laws_markTaskS.l0 k l0 a1 0)=some (r1,r2):=h
 clear h
 have H':=Aside0.mk H
 clear H
 go_enter Try.func16,Try.ntmps16
 go_wp2
 go_loopg [1,5] k (fun kq v1 v5 w'=>∃ (x0_1:List (S89)) (x1_1:Int) (x5_1:Int),v1=.int .i64 x1_1∧v5=.int .i64 x5_1∧Aside0 (laws_markTaskS.l0 kq x0_1 x1_1 x5_1=some (r1,r2))∧Aside0 (kq≤k)∧Aside0 (Kd.R k89 89 w' w0.heap.size (fun k_=>(P0_ k_∨w.heap.size≤k_)) u9000_ x0_1)∧Aside0 (Kept w w' (fun k_=>P0_ k_))∧Aside0 (Below w0.heap.size w0 w'))
 case atStart=>exact ⟨(l0),(a1),(0),zo,zo,H',⟨Nat.le_refl _⟩,⟨zR HO0.out⟩,⟨by repeat (first|(with_reducible first|exact HK.out|apply Kept.alloc|apply Kept.drewN|apply Kept.drew)|exact HK.out)⟩,⟨zb⟩⟩
 case round=>
  clear H'
  (try clear c1);(try clear p2)
  obtain ⟨x0_1,x1_1,x5_1,rfl,rfl,HA,HK1,HO_0,HK,HB⟩:=hrel
  cases gk with
  | zero=>exact absurd HA.out (by simp [laws_markTaskS.l0])
  | succ k1=>
   have H:=HA.out
   clear HA
   simp only [laws_markTaskS.l0] at H
   by_cases c3:x5_1<(x0_1.length:Int)
   ·rw [if_pos c3] at H
    have c3b0:decide (x5_1<(x0_1.length:Int))=true:=decide_eq_true c3
    clear c3
    by_cases c4:0≤x5_1
    ·rw [if_pos c4] at H
     have c4b0:decide (0≤x5_1)=true:=decide_eq_true c4
     clear c4
     obtain ⟨y354,hy354⟩:∃ y_:List (S89),y_=(x0_1.set (x5_1:Int).toNat (⟨x1_1,(rd_T89 x0_1 x5_1).f1,(rd_T89 x0_1 x5_1).f2⟩:S89)):=⟨_,rfl⟩
     replace H:((some (y354.set (x5_1:Int).toNat (⟨(rd_T89 y354 x5_1).f0,wrap64 (x1_1 + 1),(rd_T89 y354 x5_1).f2⟩:S89):List (S89))).bind fun y355=>(laws_markTaskS.l0 k1 (y355.set (x5_1:Int).toNat (⟨(rd_T89 y355 x5_1).f0,(rd_T89 y355 x5_1).f1,wrap64 ((wrap64 (x1_1 + 1)) + 1)⟩:S89)) (wrap64 ((wrap64 ((wrap64 (x1_1 + 1)) + 1)) + 1)) (wrap64 (x5_1 + 1))))=some (r1,r2):=by first|(rw [hy354];with_reducible exact H)|(have H2_:=(Option.bind_some _ _).symm.trans H;rw [hy354];with_reducible exact H2_)|(have H2_:=(Option.bind_some _ _).symm.trans H;with_reducible exact H2_)|with_reducible exact H|(rw [hy354];exact H)|exact H
     have Ny354:=Aside0.mk hy354
     clear hy354
     obtain ⟨y355,hy355⟩:∃ y_:List (S89),y_=(y354.set (x5_1:Int).toNat (⟨(rd_T89 y354 x5_1).f0,wrap64 (x1_1 + 1),(rd_T89 y354 x5_1).f2⟩:S89)):=⟨_,rfl⟩
     replace H:(laws_markTaskS.l0 k1 (y355.set (x5_1:Int).toNat (⟨(rd_T89 y355 x5_1).f0,(rd_T89 y355 x5_1).f1,wrap64 ((wrap64 (x1_1 + 1)) + 1)⟩:S89)) (wrap64 ((wrap64 ((wrap64 (x1_1 + 1)) + 1)) + 1)) (wrap64 (x5_1 + 1)))=some (r1,r2):=by first|(rw [hy355];with_reducible exact H)|(have H2_:=(Option.bind_some _ _).symm.trans H;rw [hy355];with_reducible exact H2_)|(have H2_:=(Option.bind_some _ _).symm.trans H;with_reducible exact H2_)|with_reducible exact H|(rw [hy355];exact H)|exact H
     have Ny355:=Aside0.mk hy355
     clear hy355
     obtain ⟨y356,hy356⟩:∃ y_:List (S89),y_=(y355.set (x5_1:Int).toNat (⟨(rd_T89 y355 x5_1).f0,(rd_T89 y355 x5_1).f1,wrap64 ((wrap64 (x1_1 + 1)) + 1)⟩:S89)):=⟨_,rfl⟩
     replace H:(laws_markTaskS.l0 k1 y356 (wrap64 ((wrap64 ((wrap64 (x1_1 + 1)) + 1)) + 1)) (wrap64 (x5_1 + 1)))=some (r1,r2):=by first|(rw [hy356];with_reducible exact H)|(have H2_:=(Option.bind_some _ _).symm.trans H;rw [hy356];with_reducible exact H2_)|(have H2_:=(Option.bind_some _ _).symm.trans H;with_reducible exact H2_)|with_reducible exact H|(rw [hy356];exact H)|exact H
     have Ny356:=Aside0.mk hy356
     clear hy356
     have H':=Aside0.mk H
     clear H
     obtain ⟨Ao8,co8,eo8⟩:=Kd.R_slice HO_0.out
     subst eo8
     have p5:0≤(x5_1:Int):=of_decide_eq_true za
     have q5:(x5_1:Int)<((x0_1.length:Int):Int):=of_decide_eq_true za
     obtain ⟨go5,co5,eo5,gb5,gl5,cl5,HG5⟩:=Kd.R_form HO_0.out (by omega)
     (first|cases eo5|(injection eo5 with ea_ en_ ec_;(first|subst ea_|(injection ea_ with ea_;subst ea_));subst ec_;clear en_))
     have GB5:=Aside0.mk gb5
     have GG5:=Aside0.mk HG5
     clear gb5 gl5 HG5
     have HMgo5:=Aside0.mk (show (P0_ go5∨w.heap.size≤go5) from (HO_0.out.1 _ rfl))
     obtain ⟨ce5,hcl5,hM5,hcc5,hfr5⟩:=Kd.R_elem HO_0.out z89 (x5_1:Int) p5 q5
     obtain rfl:=k89_openM hM5
     have hx5_0:wr.cell? ⟨go5,(x5_1:Int).toNat * 3,none⟩=some (.int .i64 ((rd_T89 x0_1 x5_1).f0)):=hcc5 0 _ rfl
     have hx5_1:wr.cell? ⟨go5,(x5_1:Int).toNat * 3 + 1,none⟩=some (.int .i64 ((rd_T89 x0_1 x5_1).f1)):=hcc5 1 _ rfl
     have hx5_2:wr.cell? ⟨go5,(x5_1:Int).toNat * 3 + 2,none⟩=some (.int .i64 ((rd_T89 x0_1 x5_1).f2)):=hcc5 2 _ rfl
     have hf5_0:wr.frozen? ⟨go5,(x5_1:Int).toNat * 3,none⟩=false:=hfr5 0
     have hf5_1:wr.frozen? ⟨go5,(x5_1:Int).toNat * 3 + 1,none⟩=false:=hfr5 1
     have hf5_2:wr.frozen? ⟨go5,(x5_1:Int).toNat * 3 + 2,none⟩=false:=hfr5 2
     (clear hcl5 hcc5 hfr5;(try clear hM5))
     replace p5:=eq_true p5
     replace q5:=eq_true q5
     have HX9:=Aside0.mk (show Kd.R k89 89 wr w0.heap.size (fun k_=>(P0_ k_∨w.heap.size≤k_)) (.slice (some ⟨go5,0,none⟩) x0_1.length co8) x0_1 from (zR HO_0.out))
     obtain ⟨ce9,hcl9,hM9,hcc9,hfr9⟩:=Kd.R_elem HX9.out z89 (x5_1:Int) (of_decide_eq_true za) (by have h_:(x5_1:Int)<((x0_1.length:Int):Int):=of_decide_eq_true za;first|exact h_|(have e_:=(Kd.R_reads' HO_0.out).1;omega)|simpa using h_)
     obtain rfl:=k89_openM hM9
     have HP9:=Kd.R_seg HX9.out (x5_1:Int) (of_decide_eq_true za) (by have h_:(x5_1:Int)<((x0_1.length:Int):Int):=of_decide_eq_true za;first|exact h_|(have e_:=(Kd.R_reads' HO_0.out).1;omega)|simpa using h_) (seg:=[.int .i64 x1_1]) (j:=0) hcl9 hcc9 (show 1≤3 from by decide) (x':=(⟨x1_1,(rd_T89 x0_1 x5_1).f1,(rd_T89 x0_1 x5_1).f2⟩:S89)) (k89_mkM _ _ _ (⟨x1_1,(rd_T89 x0_1 x5_1).f1,(rd_T89 x0_1 x5_1).f2⟩:S89)) (fun _ hk=>hk)
     have hx9_0:=hcc9 0 _ rfl
     (try simp only [show (k89).sz=3 from rfl,Nat.mul_one,Nat.add_zero] at hx9_0)
     have hf9_0:=hfr9 0
     (try simp only [show (k89).sz=3 from rfl,Nat.mul_one,Nat.add_zero] at hf9_0)
     (clear hcl9 hcc9 hfr9;(try clear hM9))
     go_wp2_with (first|((with_reducible refine gate_store (t:=3) (p:=16) rfl ?_);(try (rw [drewN_self wr];generalize hq_:World.drewN wr _=wr;have n0_:=Aside0.mk (Kd.R_at hq_ HO_0.out);have n1_:=Aside0.mk (kept_at hq_ HK.out);have n2_:=Aside0.mk (below_at hq_ HB.out);(try replace hx5_0:=cell_at hq_ hx5_0);(try replace hx5_1:=cell_at hq_ hx5_1);(try replace hx5_2:=cell_at hq_ hx5_2);(try replace hf5_0:=(fun {W_ W2_:World} {n_:Nat} {a_:Addr} {b_:Bool} (h_:W_.drewN n_=W2_) (e_:W_.frozen? a_=b_)=>(by subst h_;exact e_:W2_.frozen? a_=b_)) hq_ hf5_0);(try replace hf5_1:=(fun {W_ W2_:World} {n_:Nat} {a_:Addr} {b_:Bool} (h_:W_.drewN n_=W2_) (e_:W_.frozen? a_=b_)=>(by subst h_;exact e_:W2_.frozen? a_=b_)) hq_ hf5_1);(try replace hf5_2:=(fun {W_ W2_:World} {n_:Nat} {a_:Addr} {b_:Bool} (h_:W_.drewN n_=W2_) (e_:W_.frozen? a_=b_)=>(by subst h_;exact e_:W2_.frozen? a_=b_)) hq_ hf5_2);(try replace hx9_0:=cell_at hq_ hx9_0);(try replace hf9_0:=(fun {W_ W2_:World} {n_:Nat} {a_:Addr} {b_:Bool} (h_:W_.drewN n_=W2_) (e_:W_.frozen? a_=b_)=>(by subst h_;exact e_:W2_.frozen? a_=b_)) hq_ hf9_0);clear hq_ HO_0 HK HB;have HO_0:=n0_;have HK:=n1_;have HB:=n2_;clear n0_ n1_ n2_;(try (have HX9:=Aside0.mk (show Kd.R k89 89 wr w0.heap.size (fun k_=>(P0_ k_∨w.heap.size≤k_)) (.slice (some ⟨go5,0,none⟩) x0_1.length co8) x0_1 from (zR HO_0.out))));(try (obtain ⟨ce9,hcl9,hM9,hcc9,hfr9⟩:=Kd.R_elem HX9.out z89 (x5_1:Int) (of_decide_eq_true za) (by have h_:(x5_1:Int)<((x0_1.length:Int):Int):=of_decide_eq_true za;first|exact h_|(have e_:=(Kd.R_reads' HO_0.out).1;omega)|simpa using h_)));(try (obtain rfl:=k89_openM hM9));(try (have HP9:=Kd.R_seg HX9.out (x5_1:Int) (of_decide_eq_true za) (by have h_:(x5_1:Int)<((x0_1.length:Int):Int):=of_decide_eq_true za;first|exact h_|(have e_:=(Kd.R_reads' HO_0.out).1;omega)|simpa using h_) (seg:=[.int .i64 x1_1]) (j:=0) hcl9 hcc9 (show 1≤3 from by decide) (x':=(⟨x1_1,(rd_T89 x0_1 x5_1).f1,(rd_T89 x0_1 x5_1).f2⟩:S89)) (k89_mkM _ _ _ (⟨x1_1,(rd_T89 x0_1 x5_1).f1,(rd_T89 x0_1 x5_1).f2⟩:S89)) (fun _ hk=>hk)));(try (have hx9_0:=hcc9 0 _ rfl));(try (try simp only [show (k89).sz=3 from rfl,Nat.mul_one,Nat.add_zero] at hx9_0));(try (have hf9_0:=hfr9 0));(try (try simp only [show (k89).sz=3 from rfl,Nat.mul_one,Nat.add_zero] at hf9_0));(try (clear hcl9 hcc9 hfr9;(try clear hM9)))));refine store_event (t:=3) (p:=16) (v:=?vo_w10) (w1:=(wr.setCell ⟨go5,(x5_1:Int).toNat * 3,none⟩ (.int .i64 x1_1))) ?hg ?ho ?hn ?hr ?_;(case ho=>rfl);(case hg=>rfl);(case hn=>rfl);(case hr=>first|(go_simp;done)|(go_simp;rfl));intro w10 hw;have hg:wr.grownBy w10 (some go5):=(by rw [hw];exact HP9.2);have hp_:Kd.R k89 89 w10 w0.heap.size (fun k_=>(P0_ k_∨w.heap.size≤k_)) (.slice (some ⟨go5,0,none⟩) x0_1.length co8) y354:=(by rw [hw,Ny354.out];exact HP9.1);clear HP9;have n0_:=Aside0.mk (hp_);have n1_:=Aside0.mk ((by rw [hw];exact below_set (HB.out) GB5.out:Below w0.heap.size w0 w10));have n2_:=Aside0.mk (Kept.of_grown (S:=(fun k_=>P0_ k_)) hg (by repeat (first|(with_reducible first|exact HK.out|apply Kept.alloc|apply Kept.drewN|apply Kept.drew)|exact HK.out)) (fun k_ e_=>(HO_0.out.1 k_ e_)));clear HO_0;clear HB;clear HK;have HO_0:=n0_;have HB:=n1_;have HK:=n2_;clear n0_ n1_ n2_;clear hg hw hp_;have p6:0≤(x5_1:Int):=of_decide_eq_true za;have q6:(x5_1:Int)<((x0_1.length:Int):Int):=of_decide_eq_true za;obtain ⟨ce6,hcl6,hM6,hcc6,hfr6⟩:=Kd.R_elem HO_0.out z89 (x5_1:Int) p6 q6;obtain rfl:=k89_openM hM6;have hx6_0:w10.cell? ⟨go5,(x5_1:Int).toNat * 3,none⟩=some (.int .i64 ((rd_T89 y354 x5_1).f0)):=hcc6 0 _ rfl;have hx6_1:w10.cell? ⟨go5,(x5_1:Int).toNat * 3 + 1,none⟩=some (.int .i64 ((rd_T89 y354 x5_1).f1)):=hcc6 1 _ rfl;have hx6_2:w10.cell? ⟨go5,(x5_1:Int).toNat * 3 + 2,none⟩=some (.int .i64 ((rd_T89 y354 x5_1).f2)):=hcc6 2 _ rfl;have hf6_0:w10.frozen? ⟨go5,(x5_1:Int).toNat * 3,none⟩=false:=hfr6 0;have hf6_1:w10.frozen? ⟨go5,(x5_1:Int).toNat * 3 + 1,none⟩=false:=hfr6 1;have hf6_2:w10.frozen? ⟨go5,(x5_1:Int).toNat * 3 + 2,none⟩=false:=hfr6 2;(clear hcl6 hcc6 hfr6;(try clear hM6));replace p6:=eq_true p6;replace q6:=eq_true q6;have HX11:=Aside0.mk (show Kd.R k89 89 w10 w0.heap.size (fun k_=>(P0_ k_∨w.heap.size≤k_)) (.slice (some ⟨go5,0,none⟩) x0_1.length co8) y354 from (zR HO_0.out));obtain ⟨ce11,hcl11,hM11,hcc11,hfr11⟩:=Kd.R_elem HX11.out z89 (x5_1:Int) (of_decide_eq_true za) (by have h_:(x5_1:Int)<((x0_1.length:Int):Int):=of_decide_eq_true za;first|exact h_|(have e_:=(Kd.R_reads' HO_0.out).1;omega)|simpa using h_);obtain rfl:=k89_openM hM11;have HP11:=Kd.R_seg HX11.out (x5_1:Int) (of_decide_eq_true za) (by have h_:(x5_1:Int)<((x0_1.length:Int):Int):=of_decide_eq_true za;first|exact h_|(have e_:=(Kd.R_reads' HO_0.out).1;omega)|simpa using h_) (seg:=[.int .i64 (wrap64 (x1_1 + 1))]) (j:=1) hcl11 hcc11 (show 2≤3 from by decide) (x':=(⟨(rd_T89 y354 x5_1).f0,wrap64 (x1_1 + 1),(rd_T89 y354 x5_1).f2⟩:S89)) (k89_mkM _ _ _ (⟨(rd_T89 y354 x5_1).f0,wrap64 (x1_1 + 1),(rd_T89 y354 x5_1).f2⟩:S89)) (fun _ hk=>hk);have hx11_1:=hcc11 1 _ rfl;(try simp only [show (k89).sz=3 from rfl,Nat.mul_one,Nat.add_zero] at hx11_1);have hf11_1:=hfr11 1;(try simp only [show (k89).sz=3 from rfl,Nat.mul_one,Nat.add_zero] at hf11_1);(clear hcl11 hcc11 hfr11;(try clear hM11)))|((with_reducible refine gate_store (t:=3) (p:=23) rfl ?_);(try (rw [drewN_self w10];generalize hq_:World.drewN w10 _=w10;have n0_:=Aside0.mk (Kd.R_at hq_ HO_0.out);have n1_:=Aside0.mk (kept_at hq_ HK.out);have n2_:=Aside0.mk (below_at hq_ HB.out);(try replace hx6_0:=cell_at hq_ hx6_0);(try replace hx6_1:=cell_at hq_ hx6_1);(try replace hx6_2:=cell_at hq_ hx6_2);(try replace hf6_0:=(fun {W_ W2_:World} {n_:Nat} {a_:Addr} {b_:Bool} (h_:W_.drewN n_=W2_) (e_:W_.frozen? a_=b_)=>(by subst h_;exact e_:W2_.frozen? a_=b_)) hq_ hf6_0);(try replace hf6_1:=(fun {W_ W2_:World} {n_:Nat} {a_:Addr} {b_:Bool} (h_:W_.drewN n_=W2_) (e_:W_.frozen? a_=b_)=>(by subst h_;exact e_:W2_.frozen? a_=b_)) hq_ hf6_1);(try replace hf6_2:=(fun {W_ W2_:World} {n_:Nat} {a_:Addr} {b_:Bool} (h_:W_.drewN n_=W2_) (e_:W_.frozen? a_=b_)=>(by subst h_;exact e_:W2_.frozen? a_=b_)) hq_ hf6_2);(try replace hx11_1:=cell_at hq_ hx11_1);(try replace hf11_1:=(fun {W_ W2_:World} {n_:Nat} {a_:Addr} {b_:Bool} (h_:W_.drewN n_=W2_) (e_:W_.frozen? a_=b_)=>(by subst h_;exact e_:W2_.frozen? a_=b_)) hq_ hf11_1);clear hq_ HO_0 HK HB;have HO_0:=n0_;have HK:=n1_;have HB:=n2_;clear n0_ n1_ n2_;(try (have HX11:=Aside0.mk (show Kd.R k89 89 w10 w0.heap.size (fun k_=>(P0_ k_∨w.heap.size≤k_)) (.slice (some ⟨go5,0,none⟩) x0_1.length co8) y354 from (zR HO_0.out))));(try (obtain ⟨ce11,hcl11,hM11,hcc11,hfr11⟩:=Kd.R_elem HX11.out z89 (x5_1:Int) (of_decide_eq_true za) (by have h_:(x5_1:Int)<((x0_1.length:Int):Int):=of_decide_eq_true za;first|exact h_|(have e_:=(Kd.R_reads' HO_0.out).1;omega)|simpa using h_)));(try (obtain rfl:=k89_openM hM11));(try (have HP11:=Kd.R_seg HX11.out (x5_1:Int) (of_decide_eq_true za) (by have h_:(x5_1:Int)<((x0_1.length:Int):Int):=of_decide_eq_true za;first|exact h_|(have e_:=(Kd.R_reads' HO_0.out).1;omega)|simpa using h_) (seg:=[.int .i64 (wrap64 (x1_1 + 1))]) (j:=1) hcl11 hcc11 (show 2≤3 from by decide) (x':=(⟨(rd_T89 y354 x5_1).f0,wrap64 (x1_1 + 1),(rd_T89 y354 x5_1).f2⟩:S89)) (k89_mkM _ _ _ (⟨(rd_T89 y354 x5_1).f0,wrap64 (x1_1 + 1),(rd_T89 y354 x5_1).f2⟩:S89)) (fun _ hk=>hk)));(try (have hx11_1:=hcc11 1 _ rfl));(try (try simp only [show (k89).sz=3 from rfl,Nat.mul_one,Nat.add_zero] at hx11_1));(try (have hf11_1:=hfr11 1));(try (try simp only [show (k89).sz=3 from rfl,Nat.mul_one,Nat.add_zero] at hf11_1));(try (clear hcl11 hcc11 hfr11;(try clear hM11)))));refine store_event (t:=3) (p:=23) (v:=?vo_w12) (w1:=(w10.setCell ⟨go5,(x5_1:Int).toNat * 3 + 1,none⟩ (.int .i64 (wrap64 (x1_1 + 1))))) ?hg ?ho ?hn ?hr ?_;(case ho=>rfl);(case hg=>rfl);(case hn=>rfl);(case hr=>first|(go_simp;done)|(go_simp;rfl));intro w12 hw;have hg:w10.grownBy w12 (some go5):=(by rw [hw];exact HP11.2);have hp_:Kd.R k89 89 w12 w0.heap.size (fun k_=>(P0_ k_∨w.heap.size≤k_)) (.slice (some ⟨go5,0,none⟩) x0_1.length co8) y355:=(by rw [hw,Ny355.out];exact HP11.1);clear HP11;have n0_:=Aside0.mk (hp_);have n1_:=Aside0.mk ((by rw [hw];exact below_set (HB.out) GB5.out:Below w0.heap.size w0 w12));have n2_:=Aside0.mk (Kept.of_grown (S:=(fun k_=>P0_ k_)) hg (by repeat (first|(with_reducible first|exact HK.out|apply Kept.alloc|apply Kept.drewN|apply Kept.drew)|exact HK.out)) (fun k_ e_=>(HO_0.out.1 k_ e_)));clear HO_0;clear HB;clear HK;have HO_0:=n0_;have HB:=n1_;have HK:=n2_;clear n0_ n1_ n2_;clear hg hw hp_;have p7:0≤(x5_1:Int):=of_decide_eq_true za;have q7:(x5_1:Int)<((x0_1.length:Int):Int):=of_decide_eq_true za;obtain ⟨ce7,hcl7,hM7,hcc7,hfr7⟩:=Kd.R_elem HO_0.out z89 (x5_1:Int) p7 q7;obtain rfl:=k89_openM hM7;have hx7_0:w12.cell? ⟨go5,(x5_1:Int).toNat * 3,none⟩=some (.int .i64 ((rd_T89 y355 x5_1).f0)):=hcc7 0 _ rfl;have hx7_1:w12.cell? ⟨go5,(x5_1:Int).toNat * 3 + 1,none⟩=some (.int .i64 ((rd_T89 y355 x5_1).f1)):=hcc7 1 _ rfl;have hx7_2:w12.cell? ⟨go5,(x5_1:Int).toNat * 3 + 2,none⟩=some (.int .i64 ((rd_T89 y355 x5_1).f2)):=hcc7 2 _ rfl;have hf7_0:w12.frozen? ⟨go5,(x5_1:Int).toNat * 3,none⟩=false:=hfr7 0;have hf7_1:w12.frozen? ⟨go5,(x5_1:Int).toNat * 3 + 1,none⟩=false:=hfr7 1;have hf7_2:w12.frozen? ⟨go5,(x5_1:Int).toNat * 3 + 2,none⟩=false:=hfr7 2;(clear hcl7 hcc7 hfr7;(try clear hM7));replace p7:=eq_true p7;replace q7:=eq_true q7;have HX13:=Aside0.mk (show Kd.R k89 89 w12 w0.heap.size (fun k_=>(P0_ k_∨w.heap.size≤k_)) (.slice (some ⟨go5,0,none⟩) x0_1.length co8) y355 from (zR HO_0.out));obtain ⟨ce13,hcl13,hM13,hcc13,hfr13⟩:=Kd.R_elem HX13.out z89 (x5_1:Int) (of_decide_eq_true za) (by have h_:(x5_1:Int)<((x0_1.length:Int):Int):=of_decide_eq_true za;first|exact h_|(have e_:=(Kd.R_reads' HO_0.out).1;omega)|simpa using h_);obtain rfl:=k89_openM hM13;have HP13:=Kd.R_seg HX13.out (x5_1:Int) (of_decide_eq_true za) (by have h_:(x5_1:Int)<((x0_1.length:Int):Int):=of_decide_eq_true za;first|exact h_|(have e_:=(Kd.R_reads' HO_0.out).1;omega)|simpa using h_) (seg:=[.int .i64 (wrap64 ((wrap64 (x1_1 + 1)) + 1))]) (j:=2) hcl13 hcc13 (show 3≤3 from by decide) (x':=(⟨(rd_T89 y355 x5_1).f0,(rd_T89 y355 x5_1).f1,wrap64 ((wrap64 (x1_1 + 1)) + 1)⟩:S89)) (k89_mkM _ _ _ (⟨(rd_T89 y355 x5_1).f0,(rd_T89 y355 x5_1).f1,wrap64 ((wrap64 (x1_1 + 1)) + 1)⟩:S89)) (fun _ hk=>hk);have hx13_2:=hcc13 2 _ rfl;(try simp only [show (k89).sz=3 from rfl,Nat.mul_one,Nat.add_zero] at hx13_2);have hf13_2:=hfr13 2;(try simp only [show (k89).sz=3 from rfl,Nat.mul_one,Nat.add_zero] at hf13_2);(clear hcl13 hcc13 hfr13;(try clear hM13)))|((with_reducible refine gate_store (t:=3) (p:=30) rfl ?_);(try (rw [drewN_self w12];generalize hq_:World.drewN w12 _=w12;have n0_:=Aside0.mk (Kd.R_at hq_ HO_0.out);have n1_:=Aside0.mk (kept_at hq_ HK.out);have n2_:=Aside0.mk (below_at hq_ HB.out);(try replace hx7_0:=cell_at hq_ hx7_0);(try replace hx7_1:=cell_at hq_ hx7_1);(try replace hx7_2:=cell_at hq_ hx7_2);(try replace hf7_0:=(fun {W_ W2_:World} {n_:Nat} {a_:Addr} {b_:Bool} (h_:W_.drewN n_=W2_) (e_:W_.frozen? a_=b_)=>(by subst h_;exact e_:W2_.frozen? a_=b_)) hq_ hf7_0);(try replace hf7_1:=(fun {W_ W2_:World} {n_:Nat} {a_:Addr} {b_:Bool} (h_:W_.drewN n_=W2_) (e_:W_.frozen? a_=b_)=>(by subst h_;exact e_:W2_.frozen? a_=b_)) hq_ hf7_1);(try replace hf7_2:=(fun {W_ W2_:World} {n_:Nat} {a_:Addr} {b_:Bool} (h_:W_.drewN n_=W2_) (e_:W_.frozen? a_=b_)=>(by subst h_;exact e_:W2_.frozen? a_=b_)) hq_ hf7_2);(try replace hx13_2:=cell_at hq_ hx13_2);(try replace hf13_2:=(fun {W_ W2_:World} {n_:Nat} {a_:Addr} {b_:Bool} (h_:W_.drewN n_=W2_) (e_:W_.frozen? a_=b_)=>(by subst h_;exact e_:W2_.frozen? a_=b_)) hq_ hf13_2);clear hq_ HO_0 HK HB;have HO_0:=n0_;have HK:=n1_;have HB:=n2_;clear n0_ n1_ n2_;(try (have HX13:=Aside0.mk (show Kd.R k89 89 w12 w0.heap.size (fun k_=>(P0_ k_∨w.heap.size≤k_)) (.slice (some ⟨go5,0,none⟩) x0_1.length co8) y355 from (zR HO_0.out))));(try (obtain ⟨ce13,hcl13,hM13,hcc13,hfr13⟩:=Kd.R_elem HX13.out z89 (x5_1:Int) (of_decide_eq_true za) (by have h_:(x5_1:Int)<((x0_1.length:Int):Int):=of_decide_eq_true za;first|exact h_|(have e_:=(Kd.R_reads' HO_0.out).1;omega)|simpa using h_)));(try (obtain rfl:=k89_openM hM13));(try (have HP13:=Kd.R_seg HX13.out (x5_1:Int) (of_decide_eq_true za) (by have h_:(x5_1:Int)<((x0_1.length:Int):Int):=of_decide_eq_true za;first|exact h_|(have e_:=(Kd.R_reads' HO_0.out).1;omega)|simpa using h_) (seg:=[.int .i64 (wrap64 ((wrap64 (x1_1 + 1)) + 1))]) (j:=2) hcl13 hcc13 (show 3≤3 from by decide) (x':=(⟨(rd_T89 y355 x5_1).f0,(rd_T89 y355 x5_1).f1,wrap64 ((wrap64 (x1_1 + 1)) + 1)⟩:S89)) (k89_mkM _ _ _ (⟨(rd_T89 y355 x5_1).f0,(rd_T89 y355 x5_1).f1,wrap64 ((wrap64 (x1_1 + 1)) + 1)⟩:S89)) (fun _ hk=>hk)));(try (have hx13_2:=hcc13 2 _ rfl));(try (try simp only [show (k89).sz=3 from rfl,Nat.mul_one,Nat.add_zero] at hx13_2));(try (have hf13_2:=hfr13 2));(try (try simp only [show (k89).sz=3 from rfl,Nat.mul_one,Nat.add_zero] at hf13_2));(try (clear hcl13 hcc13 hfr13;(try clear hM13)))));refine store_event (t:=3) (p:=30) (v:=?vo_w14) (w1:=(w12.setCell ⟨go5,(x5_1:Int).toNat * 3 + 2,none⟩ (.int .i64 (wrap64 ((wrap64 (x1_1 + 1)) + 1))))) ?hg ?ho ?hn ?hr ?_;(case ho=>rfl);(case hg=>rfl);(case hn=>rfl);(case hr=>first|(go_simp;done)|(go_simp;rfl));intro w14 hw;have hg:w12.grownBy w14 (some go5):=(by rw [hw];exact HP13.2);have hp_:Kd.R k89 89 w14 w0.heap.size (fun k_=>(P0_ k_∨w.heap.size≤k_)) (.slice (some ⟨go5,0,none⟩) x0_1.length co8) y356:=(by rw [hw,Ny356.out];exact HP13.1);clear HP13;have n0_:=Aside0.mk (hp_);have n1_:=Aside0.mk ((by rw [hw];exact below_set (HB.out) GB5.out:Below w0.heap.size w0 w14));have n2_:=Aside0.mk (Kept.of_grown (S:=(fun k_=>P0_ k_)) hg (by repeat (first|(with_reducible first|exact HK.out|apply Kept.alloc|apply Kept.drewN|apply Kept.drew)|exact HK.out)) (fun k_ e_=>(HO_0.out.1 k_ e_)));clear HO_0;clear HB;clear HK;have HO_0:=n0_;have HB:=n1_;have HK:=n2_;clear n0_ n1_ n2_;clear hg hw hp_))
     go_roundg k1
     case measure=>have:=HK1.out;omega
     case rel=>exact ⟨(y356),(wrap64 ((wrap64 ((wrap64 (x1_1 + 1)) + 1)) + 1)),(wrap64 (x5_1 + 1)),zo,zo,H',⟨by have:=HK1.out;omega⟩,⟨zR HO_0.out⟩,⟨by repeat (first|(with_reducible first|exact HK.out|apply Kept.alloc|apply Kept.drewN|apply Kept.drew)|exact HK.out)⟩,⟨zb⟩⟩
    ·rw [if_neg c4] at H
     exact absurd H (by simp)
   ·rw [if_neg c3] at H
    have c3b0:decide (x5_1<(x0_1.length:Int))=false:=decide_eq_false c3
    clear c3
    simp only [Option.some.injEq,Prod.mk.injEq] at H
    obtain ⟨rfl,rfl⟩:=H
    obtain ⟨Ao15,co15,eo15⟩:=Kd.R_slice HO_0.out
    subst eo15
    go_wp2
    go_ret
    exact ⟨by first|rfl|(simp [errW_none,errW_some] <;> rfl)|(simp [*,errW_none,errW_some] <;> rfl),zR HO_0.out,by repeat (first|(with_reducible first|exact HB.out|apply below_alloc|apply pw_below_drewN|apply below_drew1)|exact HB.out),by repeat (first|(with_reducible first|exact HK.out|apply Kept.alloc|apply Kept.drewN|apply Kept.drew)|exact HK.out)⟩

/-! ### laws_heldTaskS: function 17 -/
def laws_heldTaskS.l0:Nat→List (S89)→Int→Int→Option (Int)
 | 0,_,_,_=>none
 | k + 1,x0,x1,x5=>if x5<(x0.length:Int) then (if 0≤x5 then (if ((rd_T89 x0 x5).f0)=x1 then (if ((rd_T89 x0 x5).f1)=(wrap64 (x1 + 1)) then (if ((rd_T89 x0 x5).f2)=(wrap64 ((wrap64 (x1 + 1)) + 1)) then (laws_heldTaskS.l0 k x0 (wrap64 ((wrap64 ((wrap64 (x1 + 1)) + 1)) + 1)) (wrap64 (x5 + 1))) else (some (-1))) else (some (-1))) else (some (-1))) else (none)) else (some x1)
def laws_heldTaskS.f (k:Nat) (l0:List (S89)) (a1:Int):Option (Int):=laws_heldTaskS.l0 k l0 a1 0
theorem laws_heldTaskS.mono_l:∀ k,(∀ y0 y1 y2,LeO (laws_heldTaskS.l0 k y0 y1 y2) (laws_heldTaskS.l0 (k + 1) y0 y1 y2))
 | 0=>fun _ _ _ r h=>by simp [laws_heldTaskS.l0] at h
 | k + 1=>by
  have ih0:=laws_heldTaskS.mono_l k
  ·intro y0 y1 y2
   unfold laws_heldTaskS.l0
   repeat' first
   | (with_reducible exact ih0 _ _ _)
   | (with_reducible exact LeO.refl _)
   | (with_reducible exact LeO.none _)
   | (with_reducible refine LeO.ite ?_ ?_)
   | (with_reducible refine LeO.bind ?_ (fun _=>?_))
   | exact ih0 _ _ _
   | exact LeO.none _
   | refine LeO.ite ?_ ?_
   | refine LeO.bind ?_ (fun _=>?_)
theorem laws_heldTaskS.mono:∀ a0 a1 k,LeO (laws_heldTaskS.f k a0 a1) (laws_heldTaskS.f (k + 1) a0 a1):=by
 intro a0 a1 k
 have ih0:=laws_heldTaskS.mono_l k
 unfold laws_heldTaskS.f
 repeat' first
   | (with_reducible exact ih0 _ _ _)
   | (with_reducible exact LeO.refl _)
   | (with_reducible exact LeO.none _)
   | (with_reducible refine LeO.ite ?_ ?_)
   | (with_reducible refine LeO.bind ?_ (fun _=>?_))
   | exact ih0 _ _ _
   | exact LeO.none _
   | refine LeO.ite ?_ ?_
   | refine LeO.bind ?_ (fun _=>?_)
set_option maxHeartbeats 8000000 in
set_option maxRecDepth 100000 in
theorem laws_heldTaskS.calls (k:Nat) (A0:Option Addr) (c0:Nat) (l0:List (S89)) (a1:Int) (r:Int) (w:World) (hr0:Kd.C k89 w A0 l0.length l0) (hc0:l0.length≤c0) (h:laws_heldTaskS.f k l0 a1=some r) :
  Calls Try.prog 17 #[.slice A0 l0.length c0,.int .i64 a1] w fun e w'=>e=.returned (.int .i64 r)∧Drawn0 w w':=by
 have HR0:=Aside0.mk hr0
 have HC0:=Aside0.mk hc0
 clear hr0 hc0
 have H:(laws_heldTaskS.l0 k l0 a1 0)=some r:=h
 clear h
 have H':=Aside0.mk H
 clear H
 go_enter Try.func17,Try.ntmps17
 go_wp2
 go_loopg [1,5] k (fun kq v1 v5 w'=>∃ (x1_1:Int) (x5_1:Int),v1=.int .i64 x1_1∧v5=.int .i64 x5_1∧Aside0 (laws_heldTaskS.l0 kq l0 x1_1 x5_1=some r)∧Aside0 (kq≤k)∧Drawn0 w w')
 case atStart=>exact ⟨(a1),(0),zo,zo,H',⟨Nat.le_refl _⟩,by repeat (first|exact Drawn0.refl _|apply Drawn0.step)⟩
 case round=>
  clear H'
  (try clear c1);(try clear p2)
  obtain ⟨x1_1,x5_1,rfl,rfl,HA,HK1,⟨m1,rfl⟩⟩:=hrel
  cases gk with
  | zero=>exact absurd HA.out (by simp [laws_heldTaskS.l0])
  | succ k1=>
   have H:=HA.out
   clear HA
   simp only [laws_heldTaskS.l0] at H
   by_cases c3:x5_1<(l0.length:Int)
   ·rw [if_pos c3] at H
    have c3b0:decide (x5_1<(l0.length:Int))=true:=decide_eq_true c3
    clear c3
    by_cases c4:0≤x5_1
    ·rw [if_pos c4] at H
     have c4b0:decide (0≤x5_1)=true:=decide_eq_true c4
     clear c4
     by_cases c5:((rd_T89 l0 x5_1).f0)=x1_1
     ·rw [if_pos c5] at H
      have c5b0:(((rd_T89 l0 x5_1).f0) == x1_1)=true:=beq_iff_eq.mpr c5
      have c5b1:(((rd_T89 l0 x5_1).f0) != x1_1)=false:=bne_eq_false_iff_eq.mpr c5
      clear c5
      by_cases c6:((rd_T89 l0 x5_1).f1)=(wrap64 (x1_1 + 1))
      ·rw [if_pos c6] at H
       have c6b0:(((rd_T89 l0 x5_1).f1) == (wrap64 (x1_1 + 1)))=true:=beq_iff_eq.mpr c6
       have c6b1:(((rd_T89 l0 x5_1).f1) != (wrap64 (x1_1 + 1)))=false:=bne_eq_false_iff_eq.mpr c6
       clear c6
       by_cases c7:((rd_T89 l0 x5_1).f2)=(wrap64 ((wrap64 (x1_1 + 1)) + 1))
       ·rw [if_pos c7] at H
        have c7b0:(((rd_T89 l0 x5_1).f2) == (wrap64 ((wrap64 (x1_1 + 1)) + 1)))=true:=beq_iff_eq.mpr c7
        have c7b1:(((rd_T89 l0 x5_1).f2) != (wrap64 ((wrap64 (x1_1 + 1)) + 1)))=false:=bne_eq_false_iff_eq.mpr c7
        clear c7
        have H':=Aside0.mk H
        clear H
        have p357:0≤(x5_1:Int):=of_decide_eq_true za
        have q357:x5_1<(l0.length:Int):=of_decide_eq_true za
        obtain ⟨ad357,e357,hx357_0,hx357_1,hx357_2⟩:=at_T89 HR0.out x5_1 p357 q357
        cases e357
        replace p357:=eq_true p357
        replace q357:=eq_true q357
        have p358:0≤(x5_1:Int):=of_decide_eq_true za
        have q358:x5_1<(l0.length:Int):=of_decide_eq_true za
        obtain ⟨ad358,e358,hx358_0,hx358_1,hx358_2⟩:=at_T89 HR0.out x5_1 p358 q358
        obtain rfl:ad357=ad358:=(by injection e358)
        replace p358:=eq_true p358
        replace q358:=eq_true q358
        have p359:0≤(x5_1:Int):=of_decide_eq_true za
        have q359:x5_1<(l0.length:Int):=of_decide_eq_true za
        obtain ⟨ad359,e359,hx359_0,hx359_1,hx359_2⟩:=at_T89 HR0.out x5_1 p359 q359
        obtain rfl:ad357=ad359:=(by injection e359)
        replace p359:=eq_true p359
        replace q359:=eq_true q359
        go_wp2
        go_roundg k1
        case measure=>have:=HK1.out;omega
        case rel=>exact ⟨(wrap64 ((wrap64 ((wrap64 (x1_1 + 1)) + 1)) + 1)),(wrap64 (x5_1 + 1)),zo,zo,H',⟨by have:=HK1.out;omega⟩,by repeat (first|exact Drawn0.refl _|apply Drawn0.step)⟩
       ·rw [if_neg c7] at H
        have c7b0:(((rd_T89 l0 x5_1).f2) == (wrap64 ((wrap64 (x1_1 + 1)) + 1)))=false:=beq_eq_false_iff_ne.mpr c7
        have c7b1:(((rd_T89 l0 x5_1).f2) != (wrap64 ((wrap64 (x1_1 + 1)) + 1)))=true:=bne_iff_ne.mpr c7
        obtain rfl:=Option.some.inj H
        have p357:0≤(x5_1:Int):=of_decide_eq_true za
        have q357:x5_1<(l0.length:Int):=of_decide_eq_true za
        obtain ⟨ad357,e357,hx357_0,hx357_1,hx357_2⟩:=at_T89 HR0.out x5_1 p357 q357
        cases e357
        replace p357:=eq_true p357
        replace q357:=eq_true q357
        have p358:0≤(x5_1:Int):=of_decide_eq_true za
        have q358:x5_1<(l0.length:Int):=of_decide_eq_true za
        obtain ⟨ad358,e358,hx358_0,hx358_1,hx358_2⟩:=at_T89 HR0.out x5_1 p358 q358
        obtain rfl:ad357=ad358:=(by injection e358)
        replace p358:=eq_true p358
        replace q358:=eq_true q358
        have p359:0≤(x5_1:Int):=of_decide_eq_true za
        have q359:x5_1<(l0.length:Int):=of_decide_eq_true za
        obtain ⟨ad359,e359,hx359_0,hx359_1,hx359_2⟩:=at_T89 HR0.out x5_1 p359 q359
        obtain rfl:ad357=ad359:=(by injection e359)
        replace p359:=eq_true p359
        replace q359:=eq_true q359
        go_wp2
        go_ret
        exact ⟨by first|rfl|(simp;done)|(simp [*];done),by repeat (first|exact Drawn0.refl _|apply Drawn0.step)⟩
      ·rw [if_neg c6] at H
       have c6b0:(((rd_T89 l0 x5_1).f1) == (wrap64 (x1_1 + 1)))=false:=beq_eq_false_iff_ne.mpr c6
       have c6b1:(((rd_T89 l0 x5_1).f1) != (wrap64 (x1_1 + 1)))=true:=bne_iff_ne.mpr c6
       obtain rfl:=Option.some.inj H
       have p357:0≤(x5_1:Int):=of_decide_eq_true za
       have q357:x5_1<(l0.length:Int):=of_decide_eq_true za
       obtain ⟨ad357,e357,hx357_0,hx357_1,hx357_2⟩:=at_T89 HR0.out x5_1 p357 q357
       cases e357
       replace p357:=eq_true p357
       replace q357:=eq_true q357
       have p358:0≤(x5_1:Int):=of_decide_eq_true za
       have q358:x5_1<(l0.length:Int):=of_decide_eq_true za
       obtain ⟨ad358,e358,hx358_0,hx358_1,hx358_2⟩:=at_T89 HR0.out x5_1 p358 q358
       obtain rfl:ad357=ad358:=(by injection e358)
       replace p358:=eq_true p358
       replace q358:=eq_true q358
       go_wp2
       go_ret
       exact ⟨by first|rfl|(simp;done)|(simp [*];done),by repeat (first|exact Drawn0.refl _|apply Drawn0.step)⟩
     ·rw [if_neg c5] at H
      have c5b0:(((rd_T89 l0 x5_1).f0) == x1_1)=false:=beq_eq_false_iff_ne.mpr c5
      have c5b1:(((rd_T89 l0 x5_1).f0) != x1_1)=true:=bne_iff_ne.mpr c5
      obtain rfl:=Option.some.inj H
      have p357:0≤(x5_1:Int):=of_decide_eq_true za
      have q357:x5_1<(l0.length:Int):=of_decide_eq_true za
      obtain ⟨ad357,e357,hx357_0,hx357_1,hx357_2⟩:=at_T89 HR0.out x5_1 p357 q357
      cases e357
      replace p357:=eq_true p357
      replace q357:=eq_true q357
      go_wp2
      go_ret
      exact ⟨by first|rfl|(simp;done)|(simp [*];done),by repeat (first|exact Drawn0.refl _|apply Drawn0.step)⟩
    ·rw [if_neg c4] at H
     exact absurd H (by simp)
   ·rw [if_neg c3] at H
    have c3b0:decide (x5_1<(l0.length:Int))=false:=decide_eq_false c3
    clear c3
    obtain rfl:=Option.some.inj H
    go_wp2
    go_ret
    exact ⟨by first|rfl|(simp;done)|(simp [*];done),by repeat (first|exact Drawn0.refl _|apply Drawn0.step)⟩

end Go.Proofs.Ytplbabjigikgjaa.XFnExactLongestFirst
-- minified
