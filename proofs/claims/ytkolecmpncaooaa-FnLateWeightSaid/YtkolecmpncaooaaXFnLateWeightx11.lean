-- Written by a program of this session (the kit's print, widened). Proved here: what each function answers, for the arguments that its contract names.
import Derived.Test.YtkolecmpncaooaaXFnLateWeightx0
import Derived.Test.YtkolecmpncaooaaXFnLateWeightx10
namespace Go.Proofs.Ytkolecmpncaooaa.XFnLateWeight
open Go.RowKit Go.Proofs.YtkolecmpncaooaaW.PrintWords Go.Proofs.YtkolecmpncaooaaW.PrintLast Go.Proofs.YtkolecmpncaooaaW.PrintMore
attribute [local go_sem] max2_int min2_int max_two min_two max_three min_three max_four min_four   -- for this text's walks alone
attribute [local go_sem] idxA_51_0 idxA_51_1 fldS_45_0 fldS_45_1 fldS_45_2 fldS_96_0 fldS_96_1 fldS_96_2
set_option linter.unusedVariables false
set_option linter.unusedSimpArgs false

/-! ### spec_l6Due: function 64 -/
mutual
def spec_l6Due.l0:Nat→List (S31)→List Int→List Int→Int→Option (List Int)
 | 0,_,_,_,_=>none
 | k + 1,x0,x1,x5,x6=>if x6<(x1.length:Int) then (spec_l6Due.l1 k x0 x1 x5 x6 0) else (some x5)
def spec_l6Due.l1:Nat→List (S31)→List Int→List Int→Int→Int→Option (List Int)
 | 0,_,_,_,_,_=>none
 | k + 1,x0,x1,x5,x6,x7=>if x7<(x5.length:Int) then (if 0≤x7 then (if 0≤x6 then (if x6<(x1.length:Int) then ((spec_l6Sooner.f x0 (rd x5 x7) (rd x1 x6)).bind fun t327=>(if t327=true then (spec_l6Due.l1 k x0 x1 x5 x6 (wrap64 (x7 + 1))) else ((some (([]:List Int):List Int)).bind fun y328=>(if x7≤(x5.length:Int) then ((some (x5.take (x7:Int).toNat:List Int)).bind fun y331=>(if y328.length + y331.length<17592186044416 then ((some (y328++y331:List Int)).bind fun y335=>((some (([rd x1 x6]:List Int):List Int)).bind fun y339=>(if y335.length + y339.length<17592186044416 then ((some (y335++y339:List Int)).bind fun y342=>((some (x5.drop (x7:Int).toNat:List Int)).bind fun y345=>(if y342.length + y345.length<17592186044416 then (spec_l6Due.l0 k x0 x1 (y342++y345) (wrap64 (x6 + 1))) else (none)))) else (none)))) else (none))) else (none))))) else (none)) else (none)) else (none)) else ((some (([]:List Int):List Int)).bind fun y352=>(if 0≤x7 then (if x7≤(x5.length:Int) then ((some (x5.take (x7:Int).toNat:List Int)).bind fun y355=>(if y352.length + y355.length<17592186044416 then ((some (y352++y355:List Int)).bind fun y359=>(if 0≤x6 then (if x6<(x1.length:Int) then ((some (([rd x1 x6]:List Int):List Int)).bind fun y363=>(if y359.length + y363.length<17592186044416 then ((some (y359++y363:List Int)).bind fun y366=>((some (x5.drop (x7:Int).toNat:List Int)).bind fun y369=>(if y366.length + y369.length<17592186044416 then (spec_l6Due.l0 k x0 x1 (y366++y369) (wrap64 (x6 + 1))) else (none)))) else (none))) else (none)) else (none))) else (none))) else (none)) else (none)))
end
def spec_l6Due.f (k:Nat) (l0:List (S31)) (l1:List Int):Option (List Int):=spec_l6Due.l0 k l0 l1 (([]:List Int)) 0
theorem spec_l6Due.mono_l:∀ k,(∀ y0 y1 y2 y3,LeO (spec_l6Due.l0 k y0 y1 y2 y3) (spec_l6Due.l0 (k + 1) y0 y1 y2 y3))∧(∀ y0 y1 y2 y3 y4,LeO (spec_l6Due.l1 k y0 y1 y2 y3 y4) (spec_l6Due.l1 (k + 1) y0 y1 y2 y3 y4))
 | 0=>⟨fun _ _ _ _ r h=>by simp [spec_l6Due.l0] at h,fun _ _ _ _ _ r h=>by simp [spec_l6Due.l1] at h⟩
 | k + 1=>by
  obtain ⟨ih0,ih1⟩:=spec_l6Due.mono_l k
  refine ⟨?_,?_⟩ <;> intros <;> first|unfold spec_l6Due.l0|unfold spec_l6Due.l1
  all_goals repeat' first|(with_reducible first|apply ih0|apply ih1|exact LeO.refl _|exact LeO.none _|refine LeO.ite ?_ ?_|refine LeO.bind ?_ (fun _=>?_))|apply ih0|apply ih1|exact LeO.none _|refine LeO.ite ?_ ?_|refine LeO.bind ?_ (fun _=>?_)
theorem spec_l6Due.mono:∀ a0 a1 k,LeO (spec_l6Due.f k a0 a1) (spec_l6Due.f (k + 1) a0 a1):=by
 intro a0 a1 k
 obtain ⟨ih0,ih1⟩:=spec_l6Due.mono_l k
 unfold spec_l6Due.f
 repeat' first|(with_reducible first|apply ih0|apply ih1|exact LeO.refl _|exact LeO.none _|refine LeO.ite ?_ ?_|refine LeO.bind ?_ (fun _=>?_))|apply ih0|apply ih1|exact LeO.none _|refine LeO.ite ?_ ?_|refine LeO.bind ?_ (fun _=>?_)
def spec_l6Due.T6:Bool × List (List Nat × List Nat):=(true,[([],[]),([],[]),([1],[1]),([0,2],[0,2]),([3],[3]),([4],[4]),([4],[4]),([4],[4]),([6,7,4],[4,6,7]),([8,4],[4,8]),([4],[4]),([4],[4]),([10,11,4],[4,10,11]),([12,4],[4,12]),([5,9,13,4,4],[4,5,9,13]),([4,14],[4,14])])
def spec_l6Due.B6:List Nat:=[0,0,2,7,15,31,31,31,223,479,31,31,3103,7199,16383,32767]
theorem spec_l6Due.tab6:rtab .any (opsOf Try.f64 6)=spec_l6Due.T6:=by kernel_rfl
theorem spec_l6Due.bits6:waitsOk spec_l6Due.T6.2 spec_l6Due.B6=true:=by kernel_rfl
def spec_l6Due.T8:Bool × List (List Nat × List Nat):=(true,[([],[]),([],[]),([],[]),([1,2],[1,2]),([0,3],[0,3]),([],[]),([],[]),([5,6],[5,6]),([7],[7]),([8],[8]),([4,9,4],[4,9]),([],[]),([],[]),([11,12],[11,12]),([10,13,10],[10,13]),([14,14,0,1,2,3,4,5,6,7,8,9,10,11,12,13,14],[1,11,14])])
def spec_l6Due.B8:List Nat:=[0,0,0,6,15,0,0,96,224,480,1023,0,0,6144,16383,32767]
theorem spec_l6Due.tab8:rtab .any (opsOf Try.f64 8)=spec_l6Due.T8:=by kernel_rfl
theorem spec_l6Due.bits8:waitsOk spec_l6Due.T8.2 spec_l6Due.B8=true:=by kernel_rfl
set_option maxHeartbeats 8000000 in
set_option maxRecDepth 100000 in
theorem spec_l6Due.calls (k:Nat) (A0:Option Addr) (c0:Nat) (l0:List (S31)) (A1:Option Addr) (c1:Nat) (l1:List Int) (r:List Int) (w:World) (hr0:Kd.C k31 w A0 l0.length l0) (hc0:l0.length≤c0) (hr1:Kd.C (Kd.int .i64) w A1 l1.length l1) (hc1:l1.length≤c1) (h:spec_l6Due.f k l0 l1=some r) :
  Calls Try.prog 64 #[.slice A0 l0.length c0,.slice A1 l1.length c1] w fun e w'=>∃ v0_:Value,e=.returned (v0_)∧Kd.R (Kd.int .i64) 3 w' w.heap.size (fun _=>True) v0_ r∧Below w.heap.size w w':=by
 have HR0:=Aside0.mk hr0
 have HC0:=Aside0.mk hc0
 clear hr0 hc0
 have HR1:=Aside0.mk hr1
 have HC1:=Aside0.mk hc1
 clear hr1 hc1
 have HB:=Aside0.mk (Below.refl w.heap.size w)
 have H:(spec_l6Due.l0 k l0 l1 (([]:List Int)) 0)=some r:=h
 clear h
 obtain ⟨y322,hy322⟩:∃ y_:List Int,y_=(([]:List Int)):=⟨_,rfl⟩
 replace H:(spec_l6Due.l0 k l0 l1 y322 0)=some r:=by first|(rw [hy322];with_reducible exact H)|(have H2_:=(Option.bind_some _ _).symm.trans H;rw [hy322];with_reducible exact H2_)|(have H2_:=(Option.bind_some _ _).symm.trans H;with_reducible exact H2_)|with_reducible exact H|(rw [hy322];exact H)|exact H
 have Ny322:=Aside0.mk hy322
 clear hy322
 have H':=Aside0.mk H
 clear H
 go_enter Try.func64,Try.ntmps64
 go_wp2_with (first|((with_reducible refine gate_dst (N:=8) rfl ?_);refine Kd.R_lit (Kd.int .i64) _ 3 ?hg (N:=8) ?hd (xs:=([]:List Int)) (inner:=[]) (ok:=fun _=>True) (okp:=fun _=>True) ?hr ?hp (fun _ hk=>hk) trivial (Below.refl _ _) (Nat.le_refl _) (by simp) ?_;(case hd=>rfl);(case hg=>rfl);(case hr=>first|(go_simp;done)|(go_simp;rfl));(case hp=>exact (Reps.none _ _));intro v323 w3 ho4 hb hg_ hnew_;clear hg_ hnew_;(first|rw [←Ny322.out] at ho4|(simp only [Int.reduceToNat] at ho4;rw [←Ny322.out] at ho4));have HO324:=Aside0.mk (Kd.R_lower ho4 (below_size zb));replace HB:=zb1 hb;clear hb ho4))
 go_loopg [5,6] k (fun kq v5 v6 w'=>∃ (x5_1:List Int) (x6_1:Int),v6=.int .i64 x6_1∧Aside0 (spec_l6Due.l0 kq l0 l1 x5_1 x6_1=some r)∧Aside0 (kq≤k)∧Aside0 (Kd.R (Kd.int .i64) 3 w' w.heap.size (fun _=>True) v5 x5_1)∧Aside0 (Below w.heap.size w w'))
 case atStart=>exact ⟨(y322),(0),zo,H',⟨Nat.le_refl _⟩,⟨zR HO324.out⟩,⟨zb⟩⟩
 case round=>
  clear H'
  obtain ⟨x5_1,x6_1,rfl,HA,HK1,HO_5,HB⟩:=hrel
  cases gk with
  | zero=>exact absurd HA.out (by simp [spec_l6Due.l0])
  | succ k1=>
   have H:=HA.out
   clear HA
   simp only [spec_l6Due.l0] at H
   by_cases c5:x6_1<(l1.length:Int)
   rotate_left
   ·rw [if_neg c5] at H
    have c5b0:=decide_eq_false c5
    clear c5
    obtain rfl:=Option.some.inj H
    go_wp2
    go_ret
    exact ⟨_,zz0,zR HO_5.out,zb⟩
   rw [if_pos c5] at H
   have c5b0:=decide_eq_true c5
   clear c5
   have H':=Aside0.mk H
   clear H
   go_wp2
   go_loopg [7] k1 (fun kq v7 w'=>∃ (x7_2:Int),v7=.int .i64 x7_2∧Aside0 (spec_l6Due.l1 kq l0 l1 x5_1 x6_1 x7_2=some r)∧Aside0 (kq≤k1)∧Aside0 (Kd.R (Kd.int .i64) 3 w' w.heap.size (fun _=>True) u5 x5_1)∧Aside0 (Below w.heap.size w w'))
   case atStart=>exact ⟨(0),zo,H',⟨Nat.le_refl _⟩,⟨zR HO_5.out⟩,⟨zb⟩⟩
   case round=>
    clear H'
    obtain ⟨x7_2,rfl,HA,HK2,HO_5,HB⟩:=hrel
    cases gk with
    | zero=>exact absurd HA.out (by simp [spec_l6Due.l1])
    | succ k2=>
     have H:=HA.out
     clear HA
     simp only [spec_l6Due.l1] at H
     by_cases c6:x7_2<(x5_1.length:Int)
     rotate_left
     ·rw [if_neg c6] at H
      have c6b0:=decide_eq_false c6
      clear c6
      obtain ⟨y352,hy352⟩:∃ y_:List Int,y_=(([]:List Int)):=⟨_,rfl⟩
      replace H:(if 0≤x7_2 then (if x7_2≤(x5_1.length:Int) then ((some (x5_1.take (x7_2:Int).toNat:List Int)).bind fun y355=>(if y352.length + y355.length<17592186044416 then ((some (y352++y355:List Int)).bind fun y359=>(if 0≤x6_1 then (if x6_1<(l1.length:Int) then ((some (([rd l1 x6_1]:List Int):List Int)).bind fun y363=>(if y359.length + y363.length<17592186044416 then ((some (y359++y363:List Int)).bind fun y366=>((some (x5_1.drop (x7_2:Int).toNat:List Int)).bind fun y369=>(if y366.length + y369.length<17592186044416 then (spec_l6Due.l0 k2 l0 l1 (y366++y369) (wrap64 (x6_1 + 1))) else (none)))) else (none))) else (none)) else (none))) else (none))) else (none)) else (none))=some r:=by first|(rw [hy352];with_reducible exact H)|(have H2_:=(Option.bind_some _ _).symm.trans H;rw [hy352];with_reducible exact H2_)|(have H2_:=(Option.bind_some _ _).symm.trans H;with_reducible exact H2_)|with_reducible exact H|(rw [hy352];exact H)|exact H
      have Ny352:=Aside0.mk hy352
      clear hy352
      by_cases c35:0≤x7_2
      rotate_left
      ·rw [if_neg c35] at H
       exact absurd H (by simp)
      rw [if_pos c35] at H
      have c35b0:=eq_true c35
      have c35b1:=decide_eq_true c35
      clear c35
      by_cases c36:x7_2≤(x5_1.length:Int)
      rotate_left
      ·rw [if_neg c36] at H
       exact absurd H (by simp)
      rw [if_pos c36] at H
      have c36b0:=eq_true c36
      have c36b1:=decide_eq_true c36
      clear c36
      obtain ⟨y355,hy355⟩:∃ y_:List Int,y_=(x5_1.take (x7_2:Int).toNat):=⟨_,rfl⟩
      replace H:(if y352.length + y355.length<17592186044416 then ((some (y352++y355:List Int)).bind fun y359=>(if 0≤x6_1 then (if x6_1<(l1.length:Int) then ((some (([rd l1 x6_1]:List Int):List Int)).bind fun y363=>(if y359.length + y363.length<17592186044416 then ((some (y359++y363:List Int)).bind fun y366=>((some (x5_1.drop (x7_2:Int).toNat:List Int)).bind fun y369=>(if y366.length + y369.length<17592186044416 then (spec_l6Due.l0 k2 l0 l1 (y366++y369) (wrap64 (x6_1 + 1))) else (none)))) else (none))) else (none)) else (none))) else (none))=some r:=by first|(rw [hy355];with_reducible exact H)|(have H2_:=(Option.bind_some _ _).symm.trans H;rw [hy355];with_reducible exact H2_)|(have H2_:=(Option.bind_some _ _).symm.trans H;with_reducible exact H2_)|with_reducible exact H|(rw [hy355];exact H)|exact H
      have Ny355:=Aside0.mk hy355
      clear hy355
      by_cases c37:y352.length + y355.length<17592186044416
      rotate_left
      ·rw [if_neg c37] at H
       exact absurd H (by simp)
      rw [if_pos c37] at H
      have LMc37:=Aside0.mk c37
      clear c37
      obtain ⟨y359,hy359⟩:∃ y_:List Int,y_=(y352++y355):=⟨_,rfl⟩
      replace H:(if 0≤x6_1 then (if x6_1<(l1.length:Int) then ((some (([rd l1 x6_1]:List Int):List Int)).bind fun y363=>(if y359.length + y363.length<17592186044416 then ((some (y359++y363:List Int)).bind fun y366=>((some (x5_1.drop (x7_2:Int).toNat:List Int)).bind fun y369=>(if y366.length + y369.length<17592186044416 then (spec_l6Due.l0 k2 l0 l1 (y366++y369) (wrap64 (x6_1 + 1))) else (none)))) else (none))) else (none)) else (none))=some r:=by first|(rw [hy359];with_reducible exact H)|(have H2_:=(Option.bind_some _ _).symm.trans H;rw [hy359];with_reducible exact H2_)|(have H2_:=(Option.bind_some _ _).symm.trans H;with_reducible exact H2_)|with_reducible exact H|(rw [hy359];exact H)|exact H
      have Ny359:=Aside0.mk hy359
      clear hy359
      by_cases c38:0≤x6_1
      rotate_left
      ·rw [if_neg c38] at H
       exact absurd H (by simp)
      rw [if_pos c38] at H
      have c38b0:=decide_eq_true c38
      clear c38
      by_cases c39:x6_1<(l1.length:Int)
      rotate_left
      ·rw [if_neg c39] at H
       exact absurd H (by simp)
      rw [if_pos c39] at H
      have c39b0:=decide_eq_true c39
      clear c39
      obtain ⟨y363,hy363⟩:∃ y_:List Int,y_=(([rd l1 x6_1]:List Int)):=⟨_,rfl⟩
      replace H:(if y359.length + y363.length<17592186044416 then ((some (y359++y363:List Int)).bind fun y366=>((some (x5_1.drop (x7_2:Int).toNat:List Int)).bind fun y369=>(if y366.length + y369.length<17592186044416 then (spec_l6Due.l0 k2 l0 l1 (y366++y369) (wrap64 (x6_1 + 1))) else (none)))) else (none))=some r:=by first|(rw [hy363];with_reducible exact H)|(have H2_:=(Option.bind_some _ _).symm.trans H;rw [hy363];with_reducible exact H2_)|(have H2_:=(Option.bind_some _ _).symm.trans H;with_reducible exact H2_)|with_reducible exact H|(rw [hy363];exact H)|exact H
      have Ny363:=Aside0.mk hy363
      clear hy363
      by_cases c40:y359.length + y363.length<17592186044416
      rotate_left
      ·rw [if_neg c40] at H
       exact absurd H (by simp)
      rw [if_pos c40] at H
      have LMc40:=Aside0.mk c40
      clear c40
      obtain ⟨y366,hy366⟩:∃ y_:List Int,y_=(y359++y363):=⟨_,rfl⟩
      replace H:((some (x5_1.drop (x7_2:Int).toNat:List Int)).bind fun y369=>(if y366.length + y369.length<17592186044416 then (spec_l6Due.l0 k2 l0 l1 (y366++y369) (wrap64 (x6_1 + 1))) else (none)))=some r:=by first|(rw [hy366];with_reducible exact H)|(have H2_:=(Option.bind_some _ _).symm.trans H;rw [hy366];with_reducible exact H2_)|(have H2_:=(Option.bind_some _ _).symm.trans H;with_reducible exact H2_)|with_reducible exact H|(rw [hy366];exact H)|exact H
      have Ny366:=Aside0.mk hy366
      clear hy366
      have c41b0:=eq_true (of_decide_eq_true za:0≤x7_2)
      have c42b0:=eq_true (of_decide_eq_true za:x7_2≤(x5_1.length:Int))
      obtain ⟨y369,hy369⟩:∃ y_:List Int,y_=(x5_1.drop (x7_2:Int).toNat):=⟨_,rfl⟩
      replace H:(if y366.length + y369.length<17592186044416 then (spec_l6Due.l0 k2 l0 l1 (y366++y369) (wrap64 (x6_1 + 1))) else (none))=some r:=by first|(rw [hy369];with_reducible exact H)|(have H2_:=(Option.bind_some _ _).symm.trans H;rw [hy369];with_reducible exact H2_)|(have H2_:=(Option.bind_some _ _).symm.trans H;with_reducible exact H2_)|with_reducible exact H|(rw [hy369];exact H)|exact H
      have Ny369:=Aside0.mk hy369
      clear hy369
      by_cases c43:y366.length + y369.length<17592186044416
      rotate_left
      ·rw [if_neg c43] at H
       exact absurd H (by simp)
      rw [if_pos c43] at H
      have LMc43:=Aside0.mk c43
      clear c43
      obtain ⟨y373,hy373⟩:∃ y_:List Int,y_=(y366++y369):=⟨_,rfl⟩
      replace H:(spec_l6Due.l0 k2 l0 l1 y373 (wrap64 (x6_1 + 1)))=some r:=by first|(rw [hy373];with_reducible exact H)|(have H2_:=(Option.bind_some _ _).symm.trans H;rw [hy373];with_reducible exact H2_)|(have H2_:=(Option.bind_some _ _).symm.trans H;with_reducible exact H2_)|with_reducible exact H|(rw [hy373];exact H)|exact H
      have Ny373:=Aside0.mk hy373
      clear hy373
      have H':=Aside0.mk H
      clear H
      try go_wp2
      replace HO_5:=Aside0.mk (Kd.R_drew HO_5.out)
      replace HB:=Aside0.mk (below_drew1 HB.out)
      obtain ⟨Ao45,co45,eo45⟩:=Kd.R_slice HO_5.out
      (first|subst eo45|(injection eo45 with f1_ f2_ f3_;have f4_:=f1_.symm;have f5_:=f3_.symm;clear f1_ f2_ f3_;subst f4_;subst f5_))
      refine start_ (n:=16) (S:=fun w'=>True) (ds:=[]) #[false,false,false,false,false,false,false,false,false,false,false,false,false,false,false,false] (by kernel_rfl) rfl rfl trivial (fun hHeld=>?_);refine with_tabW spec_l6Due.tab6 spec_l6Due.bits6 (fun HT_ HW_=>?_)
      generalize wr.drew=w44 at HO_5 HB hHeld ⊢
      refine pu_ 0 15 ?_
      refine pu_ 1 16 ?_
      refine pu_ 2 17 ?_
      refine pu_ 3 18 ?_
      refine pu_ 4 19 ?_
      refine pv_ 5 20 ?_
      refine pv_ 6 21 ?_
      refine pv_ 7 22 ?_
      refine pv_ 8 23 ?_
      refine pv_ 9 24 ?_
      refine pv_ 10 25 ?_
      refine pv_ 11 26 ?_
      refine pv_ 12 27 ?_
      refine pv_ 13 28 ?_
      refine pv_ 14 29 ?_
      refine pu_ 15 30 ?_
      refine done_ (done_of HT_.out (by kernel_rfl)) ?_
      try go_wp2
      replace HO_5:=Aside0.mk (Kd.R_drew HO_5.out)
      replace HB:=Aside0.mk (below_drew1 HB.out)
      have q47:(x7_2:Int)≤((x5_1.length:Int):Int):=of_decide_eq_true za
      obtain ⟨i047,hi047,_,hsz47,_⟩:=info_parts info3
      have hroom47:x5_1.length≤co45:=(Kd.R_reads' HO_5.out).2.1
      have hC47:Kd.C (Kd.int .i64) _ Ao45 x5_1.length x5_1:=(Kd.R_reads' HO_5.out).2.2
      have hcut47:=cut_to (P:=Try.prog) 49 3 .i64 Try.underlying49 hi047 Ao45 x5_1.length co45 x7_2 (of_decide_eq_true za) q47 hroom47
      have hr47:=Kd.C_take (m:=(x7_2:Int).toNat) hC47 (by omega)
      have hy47:y355.length=(x7_2:Int).toNat:=(by rw [Ny355.out,List.length_take];omega)
      rw [←Ny355.out] at hr47
      rw [←hy47] at hcut47
      have HR358:=Aside0.mk hr47
      have HC358:=Aside0.mk (show y355.length≤co45 from by omega)
      clear hr47 hC47 hroom47 hi047 hsz47
      have KY47:=Aside0.mk hy47
      clear hy47
      have KL47:=Aside0.mk (show (x7_2:Int).toNat≤x5_1.length from by omega)
      replace q47:=eq_true q47
      have p362:0≤(x6_1:Int):=of_decide_eq_true za
      have q362:x6_1<(l1.length:Int):=of_decide_eq_true za
      obtain ⟨ad362,e362,hx362_0⟩:=Kd.at_int HR1.out x6_1 p362 q362
      have hw362_0:=hx362_0
      cases e362
      replace hx362_0:=zh_ HB hx362_0
      replace p362:=eq_true p362
      replace q362:=eq_true q362
      have q48:(x7_2:Int)≤((x5_1.length:Int):Int):=of_decide_eq_true za
      obtain ⟨i048,hi048,_,hsz48,_⟩:=info_parts info3
      have hroom48:x5_1.length≤co45:=(Kd.R_reads' HO_5.out).2.1
      have hC48:Kd.C (Kd.int .i64) _ Ao45 x5_1.length x5_1:=(Kd.R_reads' HO_5.out).2.2
      have q048:(0:Int)≤(x7_2:Int):=of_decide_eq_true za
      have hcut48:=cut_from (P:=Try.prog) 49 3 .i64 Try.underlying49 hi048 1 hsz48 Ao45 x5_1.length co45 x7_2 q048 q48
      have hr48:=Kd.C_drop (m:=(x7_2:Int).toNat) (c:=co45) hC48 (by omega) hroom48
      obtain ⟨A48,hA48⟩:∃ Az_,Az_=(if co45=(x7_2:Int).toNat then Ao45 else (Ao45:Option Addr).map (·.add ((x7_2:Int).toNat * 1))):=⟨_,rfl⟩
      obtain ⟨c48,hc48⟩:∃ cz_,cz_=co45 - (x7_2:Int).toNat:=⟨_,rfl⟩
      have hy48:y369.length=x5_1.length - (x7_2:Int).toNat:=(by rw [Ny369.out,List.length_drop] <;> omega)
      rw [show (x5_1).drop (x7_2:Int).toNat=y369 from Ny369.out.symm] at hr48
      replace hr48:Kd.C (Kd.int .i64) _ A48 y369.length y369:=(by rw [hA48];exact hr48)
      rw [←hy48,←hA48,←hc48] at hcut48
      have HR372:=Aside0.mk hr48
      have HC372:=Aside0.mk (show y369.length≤c48 from by rw [hy48,hc48];exact Nat.sub_le_sub_right hroom48 _)
      clear hr48 hC48 hroom48 hi048 hsz48 hc48
      have KY48:=Aside0.mk hy48
      have KA48:=Aside0.mk hA48
      clear hy48 hA48
      have KL48:=Aside0.mk (show (x7_2:Int).toNat≤x5_1.length from by omega)
      replace q48:=eq_true q48
      refine start_ (n:=16) (S:=fun w'=>w'.cell? (ad362.add (x6_1).toNat)=some (.int .i64 (rd l1 x6_1))) (ds:=[]) #[false,false,false,false,false,false,false,false,false,false,false,false,false,false,false,false] (by kernel_rfl) rfl rfl (((HB.out.cell (World.block_lt_of_cell? w _ hw362_0)).trans hw362_0)) (fun hHeld=>?_);refine with_tabW spec_l6Due.tab8 spec_l6Due.bits8 (fun HT_ HW_=>?_)
      generalize w44.drew=w46 at HO_5 HB HR358 HR372 hx362_0 hHeld ⊢
      refine pu_ 1 34 ?_
      refine pu_ 2 35 ?_
      refine pu_ 3 36 ?_
      refine pu_ 5 38 ?_
      refine pu_ 6 39 ?_
      refine pu_ 7 40 ?_
      refine pu_ 11 44 ?_
      refine pu_ 12 45 ?_
      refine pu_ 13 46 ?_
      refine take_ (i:=8) (N:=some 41) (v:=?_) (a':=?_) #[false,true,true,true,false,true,true,true,true,false,false,true,true,true,false,false] rfl rfl (take_ofW HT_.out HW_.out (by kernel_rfl)) (fun _ _ _ h=>h) (Or.inl ⟨by rfl,?_⟩) hHeld ?_ ?_
      rotate_left
      ·intro w' s0
       go_simp
       with_reducible rfl
      rotate_left
      ·simp only [Act.put,List.setIfInBounds_toArray,List.set_cons_zero,List.set_cons_succ,i64_w,i32_w]
       rfl
      refine join_ (σ:=Value × Value × Value) 3 #[true,true,true,true,true,true,true,true,true,true,false,true,true,true,false,false] (fun s_=>[(33,s_.1),(37,s_.2.1),(42,s_.2.2)]) (fun s_ w'=>(w'.cell? (ad362.add (x6_1).toNat)=some (.int .i64 (rd l1 x6_1)))∧(Kd.R (Kd.int .i64) 3 w' w.heap.size (fun k_=>some k_≠(s_.2.2:Value).ownBlock∧some k_≠(.slice Ao45 x5_1.length co45:Value).ownBlock) s_.2.1 y359)∧(Kd.R (Kd.int .i64) 3 w' w.heap.size (fun k_=>some k_≠(s_.2.1:Value).ownBlock∧some k_≠(.slice Ao45 x5_1.length co45:Value).ownBlock) s_.2.2 y363)∧(Kd.R (Kd.int .i64) 3 w' w.heap.size (fun k_=>some k_≠(s_.2.1:Value).ownBlock∧some k_≠(s_.2.2:Value).ownBlock) (.slice Ao45 x5_1.length co45) x5_1)∧(Below w.heap.size w w')) ?_ ?_
      rotate_left
      ·intro hCont
       refine two_ (i:=0) (j:=9) (Ni:=some 33) (Nj:=some 42) #[true,true,true,true,false,true,true,true,true,false,false,true,true,true,false,false] #[false,true,true,true,false,true,true,true,true,true,false,true,true,true,false,false] rfl rfl rfl rfl (two_of HT_.out (by kernel_rfl)) (by decide) (by decide) (fun K hK=>?_) (fun K hK=>?_)
       ·skip
        refine Kd.R_lit_step (Kd.int .i64) _ 3 ?hg (N:=33) ?hd (xs:=([]:List Int)) (inner:=[]) (ok:=fun _=>True) (okp:=fun _=>True) ?hr ?hp (fun _ hk=>hk) trivial (Below.refl _ _) (Nat.le_refl _) (by simp) ?_;(case hd=>rfl);(case hg=>rfl);(case hr=>first|(go_simp;done)|(go_simp;rfl));(case hp=>exact (Reps.none _ _))
        intro v353 w49 ho50 hb hg_ hnew_
        clear hg_ hnew_
        (first|rw [←Ny352.out] at ho50|(simp only [Int.reduceToNat] at ho50;rw [←Ny352.out] at ho50))
        have n0_:=Aside0.mk (Kd.R_elder' (zR HO_5.out) (Kd.R_base ho50) hb)
        have n1_:=Aside0.mk (Kd.R_lower (Kd.R_new' ho50 (Kd.R_lt (zR HO_5.out))) (below_size zb))
        have n2_:=Aside0.mk (Kd.C_below zz20 hb)
        have n3_:=Aside0.mk (Kd.C_below zz28 hb)
        have n4_:=zb1 hb
        clear HO_5
        clear HR358
        clear HR372
        clear HB
        have HO_5:=n0_
        have HO354:=n1_
        have HR358:=n2_
        have HR372:=n3_
        have HB:=n4_
        clear n0_ n1_ n2_ n3_ n4_
        clear hb ho50
        refine hK.out _ _ (((HB.out.cell (World.block_lt_of_cell? w _ hw362_0)).trans hw362_0)) (fun hHeld=>?_)
        clear hK K
        refine norm_ (a':=?_) ?_ ?_
        rotate_left
        ·show Act.put _ (some 33) _=_
         simp only [Act.put,List.setIfInBounds_toArray,List.set_cons_zero,List.set_cons_succ,i64_w,i32_w]
         rfl
        refine two_ (i:=4) (j:=9) (Ni:=some 37) (Nj:=some 42) #[true,true,true,true,true,true,true,true,true,false,false,true,true,true,false,false] #[true,true,true,true,false,true,true,true,true,true,false,true,true,true,false,false] rfl rfl rfl rfl (two_of HT_.out (by kernel_rfl)) (by decide) (by decide) (fun K hK=>?_) (fun K hK=>?_)
        ·skip
         refine Kd.R_append_rows_step (Kd.int .i64) (w0:=w) w.heap.size (by rfl) (.tmp 33) (.tmp 36) 49 3 (.int .i64 0) 8 rfl Try.underlying49 info3 rfl (by decide) (by omega) v353 y352 y355 _ _ _ (fun k_=>some k_≠(.slice Ao45 x5_1.length co45:Value).ownBlock) (fun _=>False) rfl rfl ?aO ?aR (fun _ _ h=>h) (fun _ h=>h.elim) ?aF ?aB ?aS ?aL ?_
         (case aR=>repeat (first|exact zz20|(with_reducible refine Kd.C_alloc ?_ _)|(with_reducible refine Kd.C_drewN ?_ _)|(with_reducible refine Kd.C_drew ?_)))
         (case aB=>exact zb)
         (case aF=>exact (fun k_ hk=>Kd.fresh' (Kd.R_lt (zR HO_5.out)) k_ hk))
         (case aO=>exact (zR (Kd.R_mono HO354.out (fun _ hk=>hk.2))))
         (case aS=>exact (below_size zb))
         (case aL=>have:=LMc37.out;omega)
         intro v360 w51 ho hb hg hat
         rw [←Ny359.out] at ho
         have n0_:=Aside0.mk (Kd.R_after (ok:=(fun _=>True)) (zR HO_5.out) hg hat)
         have n1_:=Aside0.mk (hb)
         have n2_:=Aside0.mk ((show Kd.C (Kd.int .i64) w51 Ao45 y355.length y355 from by rw [Ny355.out];exact Kd.C_take (m:=(x7_2:Int).toNat) ((Kd.R_reads' (Kd.R_after (ok:=(fun _=>True)) (zR HO_5.out) hg hat)).2.2) KL47.out))
         have n3_:=Aside0.mk ((show Kd.C (Kd.int .i64) w51 A48 y369.length y369 from by rw [Ny369.out,KA48.out];exact Kd.C_drop (m:=(x7_2:Int).toNat) (c:=co45) ((Kd.R_reads' (Kd.R_after (ok:=(fun _=>True)) (zR HO_5.out) hg hat)).2.2) KL48.out ((Kd.R_reads' (Kd.R_after (ok:=(fun _=>True)) (zR HO_5.out) hg hat)).2.1)))
         have n4_:=Aside0.mk (ho)
         clear HO_5
         clear HB
         clear HR358
         clear HR372
         clear HO354
         have HO_5:=n0_
         have HB:=n1_
         have HR358:=n2_
         have HR372:=n3_
         have HO361:=n4_
         clear n0_ n1_ n2_ n3_ n4_
         clear ho hb hg hat
         refine hK.out _ _ (((HB.out.cell (World.block_lt_of_cell? w _ hw362_0)).trans hw362_0)) (fun hHeld=>?_)
         clear hK K
         refine norm_ (a':=?_) ?_ ?_
         rotate_left
         ·show Act.put _ (some 37) _=_
          simp only [Act.put,List.setIfInBounds_toArray,List.set_cons_zero,List.set_cons_succ,i64_w,i32_w]
          rfl
         refine one_ (i:=9) (N:=some 42) #[true,true,true,true,true,true,true,true,true,true,false,true,true,true,false,false] rfl rfl (one_of HT_.out (by kernel_rfl)) (by decide) (fun K hK=>?_)
         refine Kd.R_lit_step (Kd.int .i64) _ 3 ?hg (N:=42) ?hd (xs:=([rd l1 x6_1]:List Int)) (inner:=[.int .i64 (rd l1 x6_1)]) (ok:=fun _=>True) (okp:=fun _=>True) ?hr ?hp (fun _ hk=>hk) trivial (Below.refl _ _) (Nat.le_refl _) (by simp) ?_;(case hd=>rfl);(case hg=>rfl);(case hr=>first|(go_simp;done)|(go_simp;rfl));(case hp=>exact (Reps.one (show Kd.M (Kd.int .i64) _ _ _ (rd l1 x6_1) [.int .i64 (rd l1 x6_1)] from rfl) (Reps.none _ _)))
         intro v364 w52 ho53 hb hg_ hnew_
         clear hg_ hnew_
         (first|rw [←Ny363.out] at ho53|(simp only [Int.reduceToNat] at ho53;rw [←Ny363.out] at ho53))
         have n0_:=Aside0.mk (Kd.R_elder' (zR HO_5.out) (Kd.R_base ho53) hb)
         have n1_:=Aside0.mk (Kd.R_elder' (zR HO361.out) (Kd.R_base ho53) hb)
         have n2_:=Aside0.mk (Kd.R_lower (Kd.R_new' (Kd.R_new' ho53 (Kd.R_lt (zR HO_5.out))) (Kd.R_lt (zR HO361.out))) (below_size zb))
         have n3_:=Aside0.mk (Kd.C_below zz20 hb)
         have n4_:=Aside0.mk (Kd.C_below zz28 hb)
         have n5_:=zb1 hb
         clear HO_5
         clear HO361
         clear HR358
         clear HR372
         clear HB
         have HO_5:=n0_
         have HO361:=n1_
         have HO365:=n2_
         have HR358:=n3_
         have HR372:=n4_
         have HB:=n5_
         clear n0_ n1_ n2_ n3_ n4_ n5_
         clear hb ho53
         refine hK.out _ _ (((HB.out.cell (World.block_lt_of_cell? w _ hw362_0)).trans hw362_0)) (fun hHeld=>?_)
         clear hK K
         refine norm_ (a':=?_) ?_ ?_
         rotate_left
         ·show Act.put _ (some 42) _=_
          simp only [Act.put,List.setIfInBounds_toArray,List.set_cons_zero,List.set_cons_succ,i64_w,i32_w]
          rfl
         exact norm_ zz21 (hCont (v353,v360,v364) _ ⟨hHeld,(zR (Kd.R_mono HO361.out (fun _ hk=>⟨hk.2,hk.1⟩))),(zR (Kd.R_mono HO365.out (fun _ hk=>⟨hk.2,hk.1.2⟩))),(zR (Kd.R_mono HO_5.out (fun _ hk=>⟨hk.1.2,hk.2⟩))),zb⟩)
        ·skip
         refine Kd.R_lit_step (Kd.int .i64) _ 3 ?hg (N:=42) ?hd (xs:=([rd l1 x6_1]:List Int)) (inner:=[.int .i64 (rd l1 x6_1)]) (ok:=fun _=>True) (okp:=fun _=>True) ?hr ?hp (fun _ hk=>hk) trivial (Below.refl _ _) (Nat.le_refl _) (by simp) ?_;(case hd=>rfl);(case hg=>rfl);(case hr=>first|(go_simp;done)|(go_simp;rfl));(case hp=>exact (Reps.one (show Kd.M (Kd.int .i64) _ _ _ (rd l1 x6_1) [.int .i64 (rd l1 x6_1)] from rfl) (Reps.none _ _)))
         intro v364 w51 ho52 hb hg_ hnew_
         clear hg_ hnew_
         (first|rw [←Ny363.out] at ho52|(simp only [Int.reduceToNat] at ho52;rw [←Ny363.out] at ho52))
         have n0_:=Aside0.mk (Kd.R_elder' (zR HO_5.out) (Kd.R_base ho52) hb)
         have n1_:=Aside0.mk (Kd.R_elder' (zR HO354.out) (Kd.R_base ho52) hb)
         have n2_:=Aside0.mk (Kd.R_lower (Kd.R_new' (Kd.R_new' ho52 (Kd.R_lt (zR HO_5.out))) (Kd.R_lt (zR HO354.out))) (below_size zb))
         have n3_:=Aside0.mk (Kd.C_below zz20 hb)
         have n4_:=Aside0.mk (Kd.C_below zz28 hb)
         have n5_:=zb1 hb
         clear HO_5
         clear HO354
         clear HR358
         clear HR372
         clear HB
         have HO_5:=n0_
         have HO354:=n1_
         have HO365:=n2_
         have HR358:=n3_
         have HR372:=n4_
         have HB:=n5_
         clear n0_ n1_ n2_ n3_ n4_ n5_
         clear hb ho52
         refine hK.out _ _ (((HB.out.cell (World.block_lt_of_cell? w _ hw362_0)).trans hw362_0)) (fun hHeld=>?_)
         clear hK K
         refine norm_ (a':=?_) ?_ ?_
         rotate_left
         ·show Act.put _ (some 42) _=_
          simp only [Act.put,List.setIfInBounds_toArray,List.set_cons_zero,List.set_cons_succ,i64_w,i32_w]
          rfl
         refine one_ (i:=4) (N:=some 37) #[true,true,true,true,true,true,true,true,true,true,false,true,true,true,false,false] rfl rfl (one_of HT_.out (by kernel_rfl)) (by decide) (fun K hK=>?_)
         refine Kd.R_append_rows_step (Kd.int .i64) (w0:=w) w.heap.size (by rfl) (.tmp 33) (.tmp 36) 49 3 (.int .i64 0) 8 rfl Try.underlying49 info3 rfl (by decide) (by omega) v353 y352 y355 _ _ _ (fun k_=>some k_≠(.slice Ao45 x5_1.length co45:Value).ownBlock∧some k_≠(v364:Value).ownBlock) (fun _=>False) rfl rfl ?aO ?aR (fun _ _ h=>h) (fun _ h=>h.elim) ?aF ?aB ?aS ?aL ?_
         (case aR=>repeat (first|exact zz20|(with_reducible refine Kd.C_alloc ?_ _)|(with_reducible refine Kd.C_drewN ?_ _)|(with_reducible refine Kd.C_drew ?_)))
         (case aB=>exact zb)
         (case aF=>exact (fun k_ hk=>⟨Kd.fresh' (Kd.R_lt (zR HO_5.out)) k_ hk,Kd.fresh' (Kd.R_lt (zR HO365.out)) k_ hk⟩))
         (case aO=>exact (zR (Kd.R_mono HO354.out (fun _ hk=>⟨hk.1.2,hk.2⟩))))
         (case aS=>exact (below_size zb))
         (case aL=>have:=LMc37.out;omega)
         intro v360 w53 ho hb hg hat
         rw [←Ny359.out] at ho
         have n0_:=Aside0.mk (Kd.R_after (ok:=(fun k_=>some k_≠(v364:Value).ownBlock)) (zR (Kd.R_mono HO_5.out (fun _ hk=>⟨hk.2,hk.1.2⟩))) hg hat)
         have n1_:=Aside0.mk (Kd.R_after (ok:=(fun k_=>some k_≠(.slice Ao45 x5_1.length co45:Value).ownBlock)) (zR (Kd.R_mono HO365.out (fun _ hk=>⟨hk.1.2,hk.2⟩))) hg hat)
         have n2_:=Aside0.mk (hb)
         have n3_:=Aside0.mk ((show Kd.C (Kd.int .i64) w53 Ao45 y355.length y355 from by rw [Ny355.out];exact Kd.C_take (m:=(x7_2:Int).toNat) ((Kd.R_reads' (Kd.R_after (ok:=(fun k_=>some k_≠(v364:Value).ownBlock)) (zR (Kd.R_mono HO_5.out (fun _ hk=>⟨hk.2,hk.1.2⟩))) hg hat)).2.2) KL47.out))
         have n4_:=Aside0.mk ((show Kd.C (Kd.int .i64) w53 A48 y369.length y369 from by rw [Ny369.out,KA48.out];exact Kd.C_drop (m:=(x7_2:Int).toNat) (c:=co45) ((Kd.R_reads' (Kd.R_after (ok:=(fun k_=>some k_≠(v364:Value).ownBlock)) (zR (Kd.R_mono HO_5.out (fun _ hk=>⟨hk.2,hk.1.2⟩))) hg hat)).2.2) KL48.out ((Kd.R_reads' (Kd.R_after (ok:=(fun k_=>some k_≠(v364:Value).ownBlock)) (zR (Kd.R_mono HO_5.out (fun _ hk=>⟨hk.2,hk.1.2⟩))) hg hat)).2.1)))
         have n5_:=Aside0.mk (ho)
         clear HO_5
         clear HO365
         clear HB
         clear HR358
         clear HR372
         clear HO354
         have HO_5:=n0_
         have HO365:=n1_
         have HB:=n2_
         have HR358:=n3_
         have HR372:=n4_
         have HO361:=n5_
         clear n0_ n1_ n2_ n3_ n4_ n5_
         clear ho hb hg hat
         refine hK.out _ _ (((HB.out.cell (World.block_lt_of_cell? w _ hw362_0)).trans hw362_0)) (fun hHeld=>?_)
         clear hK K
         refine norm_ (a':=?_) ?_ ?_
         rotate_left
         ·show Act.put _ (some 37) _=_
          simp only [Act.put,List.setIfInBounds_toArray,List.set_cons_zero,List.set_cons_succ,i64_w,i32_w]
          rfl
         exact norm_ zz21 (hCont (v353,v360,v364) _ ⟨hHeld,(zR (Kd.R_mono HO361.out (fun _ hk=>⟨hk.2,hk.1⟩))),(zR (Kd.R_mono HO365.out (fun _ hk=>⟨hk.2,hk.1⟩))),(zR (Kd.R_mono HO_5.out (fun _ hk=>⟨hk.2,hk.1⟩))),zb⟩)
       ·skip
        refine Kd.R_lit_step (Kd.int .i64) _ 3 ?hg (N:=42) ?hd (xs:=([rd l1 x6_1]:List Int)) (inner:=[.int .i64 (rd l1 x6_1)]) (ok:=fun _=>True) (okp:=fun _=>True) ?hr ?hp (fun _ hk=>hk) trivial (Below.refl _ _) (Nat.le_refl _) (by simp) ?_;(case hd=>rfl);(case hg=>rfl);(case hr=>first|(go_simp;done)|(go_simp;rfl));(case hp=>exact (Reps.one (show Kd.M (Kd.int .i64) _ _ _ (rd l1 x6_1) [.int .i64 (rd l1 x6_1)] from rfl) (Reps.none _ _)))
        intro v364 w49 ho50 hb hg_ hnew_
        clear hg_ hnew_
        (first|rw [←Ny363.out] at ho50|(simp only [Int.reduceToNat] at ho50;rw [←Ny363.out] at ho50))
        have n0_:=Aside0.mk (Kd.R_elder' (zR HO_5.out) (Kd.R_base ho50) hb)
        have n1_:=Aside0.mk (Kd.R_lower (Kd.R_new' ho50 (Kd.R_lt (zR HO_5.out))) (below_size zb))
        have n2_:=Aside0.mk (Kd.C_below zz20 hb)
        have n3_:=Aside0.mk (Kd.C_below zz28 hb)
        have n4_:=zb1 hb
        clear HO_5
        clear HR358
        clear HR372
        clear HB
        have HO_5:=n0_
        have HO365:=n1_
        have HR358:=n2_
        have HR372:=n3_
        have HB:=n4_
        clear n0_ n1_ n2_ n3_ n4_
        clear hb ho50
        refine hK.out _ _ (((HB.out.cell (World.block_lt_of_cell? w _ hw362_0)).trans hw362_0)) (fun hHeld=>?_)
        clear hK K
        refine norm_ (a':=?_) ?_ ?_
        rotate_left
        ·show Act.put _ (some 42) _=_
         simp only [Act.put,List.setIfInBounds_toArray,List.set_cons_zero,List.set_cons_succ,i64_w,i32_w]
         rfl
        refine one_ (i:=0) (N:=some 33) #[true,true,true,true,false,true,true,true,true,true,false,true,true,true,false,false] rfl rfl (one_of HT_.out (by kernel_rfl)) (by decide) (fun K hK=>?_)
        refine Kd.R_lit_step (Kd.int .i64) _ 3 ?hg (N:=33) ?hd (xs:=([]:List Int)) (inner:=[]) (ok:=fun _=>True) (okp:=fun _=>True) ?hr ?hp (fun _ hk=>hk) trivial (Below.refl _ _) (Nat.le_refl _) (by simp) ?_;(case hd=>rfl);(case hg=>rfl);(case hr=>first|(go_simp;done)|(go_simp;rfl));(case hp=>exact (Reps.none _ _))
        intro v353 w51 ho52 hb hg_ hnew_
        clear hg_ hnew_
        (first|rw [←Ny352.out] at ho52|(simp only [Int.reduceToNat] at ho52;rw [←Ny352.out] at ho52))
        have n0_:=Aside0.mk (Kd.R_elder' (zR HO_5.out) (Kd.R_base ho52) hb)
        have n1_:=Aside0.mk (Kd.R_elder' (zR HO365.out) (Kd.R_base ho52) hb)
        have n2_:=Aside0.mk (Kd.R_lower (Kd.R_new' (Kd.R_new' ho52 (Kd.R_lt (zR HO_5.out))) (Kd.R_lt (zR HO365.out))) (below_size zb))
        have n3_:=Aside0.mk (Kd.C_below zz20 hb)
        have n4_:=Aside0.mk (Kd.C_below zz28 hb)
        have n5_:=zb1 hb
        clear HO_5
        clear HO365
        clear HR358
        clear HR372
        clear HB
        have HO_5:=n0_
        have HO365:=n1_
        have HO354:=n2_
        have HR358:=n3_
        have HR372:=n4_
        have HB:=n5_
        clear n0_ n1_ n2_ n3_ n4_ n5_
        clear hb ho52
        refine hK.out _ _ (((HB.out.cell (World.block_lt_of_cell? w _ hw362_0)).trans hw362_0)) (fun hHeld=>?_)
        clear hK K
        refine norm_ (a':=?_) ?_ ?_
        rotate_left
        ·show Act.put _ (some 33) _=_
         simp only [Act.put,List.setIfInBounds_toArray,List.set_cons_zero,List.set_cons_succ,i64_w,i32_w]
         rfl
        refine one_ (i:=4) (N:=some 37) #[true,true,true,true,true,true,true,true,true,true,false,true,true,true,false,false] rfl rfl (one_of HT_.out (by kernel_rfl)) (by decide) (fun K hK=>?_)
        refine Kd.R_append_rows_step (Kd.int .i64) (w0:=w) w.heap.size (by rfl) (.tmp 33) (.tmp 36) 49 3 (.int .i64 0) 8 rfl Try.underlying49 info3 rfl (by decide) (by omega) v353 y352 y355 _ _ _ (fun k_=>some k_≠(.slice Ao45 x5_1.length co45:Value).ownBlock∧some k_≠(v364:Value).ownBlock) (fun _=>False) rfl rfl ?aO ?aR (fun _ _ h=>h) (fun _ h=>h.elim) ?aF ?aB ?aS ?aL ?_
        (case aR=>repeat (first|exact zz20|(with_reducible refine Kd.C_alloc ?_ _)|(with_reducible refine Kd.C_drewN ?_ _)|(with_reducible refine Kd.C_drew ?_)))
        (case aB=>exact zb)
        (case aF=>exact (fun k_ hk=>⟨Kd.fresh' (Kd.R_lt (zR HO_5.out)) k_ hk,Kd.fresh' (Kd.R_lt (zR HO365.out)) k_ hk⟩))
        (case aO=>exact (zR (Kd.R_mono HO354.out (fun _ hk=>⟨hk.1.2,hk.2⟩))))
        (case aS=>exact (below_size zb))
        (case aL=>have:=LMc37.out;omega)
        intro v360 w53 ho hb hg hat
        rw [←Ny359.out] at ho
        have n0_:=Aside0.mk (Kd.R_after (ok:=(fun k_=>some k_≠(v364:Value).ownBlock)) (zR (Kd.R_mono HO_5.out (fun _ hk=>⟨hk.1.2,hk.2⟩))) hg hat)
        have n1_:=Aside0.mk (Kd.R_after (ok:=(fun k_=>some k_≠(.slice Ao45 x5_1.length co45:Value).ownBlock)) (zR (Kd.R_mono HO365.out (fun _ hk=>⟨hk.1.2,hk.2⟩))) hg hat)
        have n2_:=Aside0.mk (hb)
        have n3_:=Aside0.mk ((show Kd.C (Kd.int .i64) w53 Ao45 y355.length y355 from by rw [Ny355.out];exact Kd.C_take (m:=(x7_2:Int).toNat) ((Kd.R_reads' (Kd.R_after (ok:=(fun k_=>some k_≠(v364:Value).ownBlock)) (zR (Kd.R_mono HO_5.out (fun _ hk=>⟨hk.1.2,hk.2⟩))) hg hat)).2.2) KL47.out))
        have n4_:=Aside0.mk ((show Kd.C (Kd.int .i64) w53 A48 y369.length y369 from by rw [Ny369.out,KA48.out];exact Kd.C_drop (m:=(x7_2:Int).toNat) (c:=co45) ((Kd.R_reads' (Kd.R_after (ok:=(fun k_=>some k_≠(v364:Value).ownBlock)) (zR (Kd.R_mono HO_5.out (fun _ hk=>⟨hk.1.2,hk.2⟩))) hg hat)).2.2) KL48.out ((Kd.R_reads' (Kd.R_after (ok:=(fun k_=>some k_≠(v364:Value).ownBlock)) (zR (Kd.R_mono HO_5.out (fun _ hk=>⟨hk.1.2,hk.2⟩))) hg hat)).2.1)))
        have n5_:=Aside0.mk (ho)
        clear HO_5
        clear HO365
        clear HB
        clear HR358
        clear HR372
        clear HO354
        have HO_5:=n0_
        have HO365:=n1_
        have HB:=n2_
        have HR358:=n3_
        have HR372:=n4_
        have HO361:=n5_
        clear n0_ n1_ n2_ n3_ n4_ n5_
        clear ho hb hg hat
        refine hK.out _ _ (((HB.out.cell (World.block_lt_of_cell? w _ hw362_0)).trans hw362_0)) (fun hHeld=>?_)
        clear hK K
        refine norm_ (a':=?_) ?_ ?_
        rotate_left
        ·show Act.put _ (some 37) _=_
         simp only [Act.put,List.setIfInBounds_toArray,List.set_cons_zero,List.set_cons_succ,i64_w,i32_w]
         rfl
        exact norm_ zz21 (hCont (v353,v360,v364) _ ⟨hHeld,(zR (Kd.R_mono HO361.out (fun _ hk=>⟨hk.2,hk.1⟩))),(zR (Kd.R_mono HO365.out (fun _ hk=>⟨hk.2,hk.1⟩))),(zR (Kd.R_mono HO_5.out (fun _ hk=>⟨hk.2,hk.1⟩))),zb⟩)
      rintro ⟨v353,v360,v364⟩ w54 ⟨hS_,h0_,h1_,h2_,h3_⟩
      have n0_:Aside0 (Kd.R (Kd.int .i64) 3 w54 w.heap.size (fun k_=>some k_≠(v364:Value).ownBlock∧some k_≠(.slice Ao45 x5_1.length co45:Value).ownBlock) v360 y359):=⟨h0_⟩
      have n1_:Aside0 (Kd.R (Kd.int .i64) 3 w54 w.heap.size (fun k_=>some k_≠(v360:Value).ownBlock∧some k_≠(.slice Ao45 x5_1.length co45:Value).ownBlock) v364 y363):=⟨h1_⟩
      have n2_:Aside0 (Kd.R (Kd.int .i64) 3 w54 w.heap.size (fun k_=>some k_≠(v360:Value).ownBlock∧some k_≠(v364:Value).ownBlock) (.slice Ao45 x5_1.length co45) x5_1):=⟨h2_⟩
      have n3_:Aside0 (Below w.heap.size w w54):=⟨h3_⟩
      clear HO_5
      clear HB
      clear h0_ h1_ h2_ h3_
      have HO361:=n0_
      have HO365:=n1_
      have HO_5:=n2_
      have HB:=n3_
      clear n0_ n1_ n2_ n3_
      have hHeld:w54.cell? (ad362.add (x6_1).toNat)=some (.int .i64 (rd l1 x6_1)):=hS_
      obtain ⟨Ao56,co56,eo56⟩:=Kd.R_slice HO365.out
      (first|subst eo56|(injection eo56 with f1_ f2_ f3_;have f4_:=f1_.symm;have f5_:=f3_.symm;clear f1_ f2_ f3_;subst f4_;subst f5_))
      refine norm_ (a':=?_) ?_ ?_
      rotate_left
      ·simp only [putAll,Act.put,List.setIfInBounds_toArray,List.set_cons_zero,List.set_cons_succ]
       rfl
      refine one_ (i:=10) (N:=some 43) #[true,true,true,true,true,true,true,true,true,true,true,true,true,true,false,false] rfl rfl (one_of HT_.out (by kernel_rfl)) (by decide) (fun K hK=>?_)
      refine Kd.R_append_rows_step (Kd.int .i64) (w0:=w) w.heap.size (by rfl) (.tmp 37) (.tmp 42) 49 3 (.int .i64 0) 8 rfl Try.underlying49 info3 rfl (by decide) (by omega) v360 y359 y363 _ _ _ (fun k_=>some k_≠(.slice Ao45 x5_1.length co45:Value).ownBlock∧some k_≠(.slice Ao56 y363.length co56:Value).ownBlock) (fun _=>False) rfl rfl ?aO ?aR (fun _ _ h=>h) (fun _ h=>h.elim) ?aF ?aB ?aS ?aL ?_
      (case aR=>exact zC ((Kd.R_reads' HO365.out).2.2))
      (case aB=>exact zb)
      (case aF=>exact (fun k_ hk=>⟨Kd.fresh' (Kd.R_lt (zR HO_5.out)) k_ hk,Kd.fresh' (Kd.R_lt (zR HO365.out)) k_ hk⟩))
      (case aO=>exact (zR (Kd.R_mono HO361.out (fun _ hk=>⟨hk.2,hk.1⟩))))
      (case aS=>exact (below_size zb))
      (case aL=>have:=LMc40.out;omega)
      intro v367 w55 ho hb hg hat
      rw [←Ny366.out] at ho
      replace HO_5:=Aside0.mk (Kd.R_after (ok:=(fun k_=>some k_≠(.slice Ao56 y363.length co56:Value).ownBlock)) (zR (Kd.R_mono HO_5.out (fun _ hk=>⟨hk.2,hk.1⟩))) hg hat)
      replace HO365:=Aside0.mk (Kd.R_after (ok:=(fun k_=>some k_≠(.slice Ao45 x5_1.length co45:Value).ownBlock)) (zR (Kd.R_mono HO365.out (fun _ hk=>⟨hk.2,hk.1⟩))) hg hat)
      replace HB:=Aside0.mk (hb)
      have HO368:=Aside0.mk (ho)
      clear HO361
      clear ho hb hg hat
      refine hK.out _ _ (((HB.out.cell (World.block_lt_of_cell? w _ hw362_0)).trans hw362_0)) (fun hHeld=>?_)
      clear hK K
      refine norm_ (a':=?_) ?_ ?_
      rotate_left
      ·show Act.put _ (some 43) _=_
       simp only [Act.put,List.setIfInBounds_toArray,List.set_cons_zero,List.set_cons_succ,i64_w,i32_w]
       rfl
      refine one_ (i:=14) (N:=some 47) #[true,true,true,true,true,true,true,true,true,true,true,true,true,true,true,false] rfl rfl (one_of HT_.out (by kernel_rfl)) (by decide) (fun K hK=>?_)
      refine Kd.R_append_rows_step (Kd.int .i64) (w0:=w) w.heap.size (by rfl) (.tmp 43) (.tmp 46) 49 3 (.int .i64 0) 8 rfl Try.underlying49 info3 rfl (by decide) (by omega) v367 y366 y369 _ _ _ (fun k_=>some k_≠(.slice Ao45 x5_1.length co45:Value).ownBlock∧some k_≠(.slice Ao56 y363.length co56:Value).ownBlock) (fun _=>False) rfl rfl ?aO ?aR (fun _ _ h=>h) (fun _ h=>h.elim) ?aF ?aB ?aS ?aL ?_
      (case aR=>exact (by rw [Ny369.out,KA48.out];first|exact Kd.C_drop (m:=(x7_2:Int).toNat) (c:=co45) ((Kd.R_reads' (HO_5.out)).2.2) KL48.out ((Kd.R_reads' (HO_5.out)).2.1)|exact Kd.C_drop (m:=(x7_2:Int).toNat) (c:=co45) ((Kd.R_reads' (zR HO_5.out)).2.2) KL48.out ((Kd.R_reads' (zR HO_5.out)).2.1)))
      (case aB=>exact zb)
      (case aF=>exact (fun k_ hk=>⟨Kd.fresh' (Kd.R_lt (zR HO_5.out)) k_ hk,Kd.fresh' (Kd.R_lt (zR HO365.out)) k_ hk⟩))
      (case aO=>exact (zR HO368.out))
      (case aS=>exact (below_size zb))
      (case aL=>have:=LMc43.out;omega)
      intro v374 w57 ho hb hg hat
      rw [←Ny373.out] at ho
      replace HO_5:=Aside0.mk (Kd.R_after (ok:=(fun k_=>some k_≠(.slice Ao56 y363.length co56:Value).ownBlock)) (zR HO_5.out) hg hat)
      replace HO365:=Aside0.mk (Kd.R_after (ok:=(fun k_=>some k_≠(.slice Ao45 x5_1.length co45:Value).ownBlock)) (zR HO365.out) hg hat)
      replace HB:=Aside0.mk (hb)
      have HO375:=Aside0.mk (ho)
      clear HO368
      clear ho hb hg hat
      refine hK.out _ _ (((HB.out.cell (World.block_lt_of_cell? w _ hw362_0)).trans hw362_0)) (fun hHeld=>?_)
      clear hK K
      refine norm_ (a':=?_) ?_ ?_
      rotate_left
      ·show Act.put _ (some 47) _=_
       simp only [Act.put,List.setIfInBounds_toArray,List.set_cons_zero,List.set_cons_succ,i64_w,i32_w]
       rfl
      refine pu_ 15 5 ?_
      refine done_ (done_of HT_.out (by kernel_rfl)) ?_
      try go_wp2
      go_roundg k2
      case measure=>have:=HK1.out;have:=HK2.out;omega
      case rel=>exact ⟨(y373),(wrap64 (x6_1 + 1)),zo,H',⟨by have:=HK1.out;have:=HK2.out;omega⟩,⟨zR (Kd.R_mono HO375.out (fun _ hk=>trivial))⟩,⟨zb⟩⟩
     rw [if_pos c6] at H
     have c6b0:=decide_eq_true c6
     clear c6
     by_cases c7:0≤x7_2
     rotate_left
     ·rw [if_neg c7] at H
      exact absurd H (by simp)
     rw [if_pos c7] at H
     have c7b0:=decide_eq_true c7
     clear c7
     by_cases c8:0≤x6_1
     rotate_left
     ·rw [if_neg c8] at H
      exact absurd H (by simp)
     rw [if_pos c8] at H
     have c8b0:=decide_eq_true c8
     clear c8
     by_cases c9:x6_1<(l1.length:Int)
     rotate_left
     ·rw [if_neg c9] at H
      exact absurd H (by simp)
     rw [if_pos c9] at H
     have c9b0:=decide_eq_true c9
     clear c9
     replace H:=Option.bind_eq_some_iff.mp H
     obtain ⟨t327,A100,H⟩:=H
     try dsimp only at H
     have A10:=Aside0.mk A100
     clear A100
     by_cases c11:t327=true
     ·subst c11
      rw [if_pos rfl] at H
      have H':=Aside0.mk H
      clear H
      try go_wp2
      replace HO_5:=Aside0.mk (Kd.R_drew HO_5.out)
      replace HB:=Aside0.mk (below_drew1 HB.out)
      obtain ⟨Ao13,co13,eo13⟩:=Kd.R_slice HO_5.out
      (first|subst eo13|(injection eo13 with f1_ f2_ f3_;have f4_:=f1_.symm;have f5_:=f3_.symm;clear f1_ f2_ f3_;subst f4_;subst f5_))
      have p325:0≤(x7_2:Int):=of_decide_eq_true za
      have q325:x7_2<(x5_1.length:Int):=of_decide_eq_true za
      obtain ⟨ad325,e325,hx325_0⟩:=Kd.at_int (Kd.R_reads' HO_5.out).2.2 x7_2 p325 q325
      cases e325
      replace p325:=eq_true p325
      replace q325:=eq_true q325
      have p326:0≤(x6_1:Int):=of_decide_eq_true za
      have q326:x6_1<(l1.length:Int):=of_decide_eq_true za
      obtain ⟨ad326,e326,hx326_0⟩:=Kd.at_int HR1.out x6_1 p326 q326
      have hw326_0:=hx326_0
      cases e326
      replace hx326_0:=zh_ HB hx326_0
      replace p326:=eq_true p326
      replace q326:=eq_true q326
      refine start_ (n:=16) (S:=fun w'=>w'.cell? (ad325.add (x7_2).toNat)=some (.int .i64 (rd x5_1 x7_2))∧w'.cell? (ad326.add (x6_1).toNat)=some (.int .i64 (rd l1 x6_1))) (ds:=[]) #[false,false,false,false,false,false,false,false,false,false,false,false,false,false,false,false] (by kernel_rfl) rfl rfl ⟨hx325_0,((HB.out.cell (World.block_lt_of_cell? w _ hw326_0)).trans hw326_0)⟩ (fun hHeld=>?_);refine with_tabW spec_l6Due.tab6 spec_l6Due.bits6 (fun HT_ HW_=>?_)
      generalize wr.drew=w12 at HO_5 HB hx325_0 hx326_0 hHeld ⊢
      refine pu_ 0 15 ?_
      refine pu_ 1 16 ?_
      refine pu_ 2 17 ?_
      refine pu_ 3 18 ?_
      refine pu_ 4 19 ?_
      refine pu_ 5 20 ?_
      refine pu_ 6 21 ?_
      refine pu_ 7 22 ?_
      refine pu_ 8 23 ?_
      refine pu_ 10 25 ?_
      refine pu_ 11 26 ?_
      refine pu_ 12 27 ?_
      refine tk_ 9 24 hHeld ?_
      refine tk_ 13 28 hHeld ?_
      refine one_ (i:=14) (N:=some 29) #[true,true,true,true,true,true,true,true,true,true,true,true,true,true,true,false] rfl rfl (one_of HT_.out (by kernel_rfl)) (by decide) (fun K hK=>?_)
      refine goes_ Try.func99 (by kernel_rfl) rfl #[.slice A0 l0.length c0,.int .i64 (rd x5_1 x7_2),.int .i64 (rd l1 x6_1)] (by rfl) rfl rfl zl ?_
      with_reducible refine (spec_l6Sooner.calls _ _ l0 (rd x5_1 x7_2) (rd l1 x6_1) true _ ?side1 ?side2 A10.out).mono ?_
      (case side1=>exact zC (Kd.C_below HR0.out HB.out))
      (case side2=>exact HC0.out)
      rintro e w' ⟨rfl,⟨nd,rfl⟩⟩
      refine ⟨_,rfl,?_⟩
      refine hK.out _ _ ⟨hHeld.1,((HB.out.cell (World.block_lt_of_cell? w _ hw326_0)).trans hw326_0)⟩ (fun hHeld=>?_)
      clear hK K
      refine norm_ (a':=?_) ?_ ?_
      rotate_left
      ·show Act.put _ (some 29) _=_
       simp only [Act.put,List.setIfInBounds_toArray,List.set_cons_zero,List.set_cons_succ,i64_w,i32_w]
       rfl
      refine pu_ 15 30 ?_
      refine done_ (done_of HT_.out (by kernel_rfl)) ?_
      try go_wp2
      go_roundg k2
      case measure=>have:=HK1.out;have:=HK2.out;omega
      case rel=>exact ⟨(wrap64 (x7_2 + 1)),zo,H',⟨by have:=HK1.out;have:=HK2.out;omega⟩,⟨zR HO_5.out⟩,⟨zb⟩⟩
     replace c11:=Bool.eq_false_iff.mpr c11
     subst c11
     rw [if_neg (show ¬ (false=true) by decide)] at H
     obtain ⟨y328,hy328⟩:∃ y_:List Int,y_=(([]:List Int)):=⟨_,rfl⟩
     replace H:(if x7_2≤(x5_1.length:Int) then ((some (x5_1.take (x7_2:Int).toNat:List Int)).bind fun y331=>(if y328.length + y331.length<17592186044416 then ((some (y328++y331:List Int)).bind fun y335=>((some (([rd l1 x6_1]:List Int):List Int)).bind fun y339=>(if y335.length + y339.length<17592186044416 then ((some (y335++y339:List Int)).bind fun y342=>((some (x5_1.drop (x7_2:Int).toNat:List Int)).bind fun y345=>(if y342.length + y345.length<17592186044416 then (spec_l6Due.l0 k2 l0 l1 (y342++y345) (wrap64 (x6_1 + 1))) else (none)))) else (none)))) else (none))) else (none))=some r:=by first|(rw [hy328];with_reducible exact H)|(have H2_:=(Option.bind_some _ _).symm.trans H;rw [hy328];with_reducible exact H2_)|(have H2_:=(Option.bind_some _ _).symm.trans H;with_reducible exact H2_)|with_reducible exact H|(rw [hy328];exact H)|exact H
     have Ny328:=Aside0.mk hy328
     clear hy328
     have c14b0:=eq_true (of_decide_eq_true za:0≤x7_2)
     by_cases c15:x7_2≤(x5_1.length:Int)
     rotate_left
     ·rw [if_neg c15] at H
      exact absurd H (by simp)
     rw [if_pos c15] at H
     have c15b0:=eq_true c15
     have c15b1:=decide_eq_true c15
     clear c15
     obtain ⟨y331,hy331⟩:∃ y_:List Int,y_=(x5_1.take (x7_2:Int).toNat):=⟨_,rfl⟩
     replace H:(if y328.length + y331.length<17592186044416 then ((some (y328++y331:List Int)).bind fun y335=>((some (([rd l1 x6_1]:List Int):List Int)).bind fun y339=>(if y335.length + y339.length<17592186044416 then ((some (y335++y339:List Int)).bind fun y342=>((some (x5_1.drop (x7_2:Int).toNat:List Int)).bind fun y345=>(if y342.length + y345.length<17592186044416 then (spec_l6Due.l0 k2 l0 l1 (y342++y345) (wrap64 (x6_1 + 1))) else (none)))) else (none)))) else (none))=some r:=by first|(rw [hy331];with_reducible exact H)|(have H2_:=(Option.bind_some _ _).symm.trans H;rw [hy331];with_reducible exact H2_)|(have H2_:=(Option.bind_some _ _).symm.trans H;with_reducible exact H2_)|with_reducible exact H|(rw [hy331];exact H)|exact H
     have Ny331:=Aside0.mk hy331
     clear hy331
     by_cases c16:y328.length + y331.length<17592186044416
     rotate_left
     ·rw [if_neg c16] at H
      exact absurd H (by simp)
     rw [if_pos c16] at H
     have LMc16:=Aside0.mk c16
     clear c16
     obtain ⟨y335,hy335⟩:∃ y_:List Int,y_=(y328++y331):=⟨_,rfl⟩
     replace H:((some (([rd l1 x6_1]:List Int):List Int)).bind fun y339=>(if y335.length + y339.length<17592186044416 then ((some (y335++y339:List Int)).bind fun y342=>((some (x5_1.drop (x7_2:Int).toNat:List Int)).bind fun y345=>(if y342.length + y345.length<17592186044416 then (spec_l6Due.l0 k2 l0 l1 (y342++y345) (wrap64 (x6_1 + 1))) else (none)))) else (none)))=some r:=by first|(rw [hy335];with_reducible exact H)|(have H2_:=(Option.bind_some _ _).symm.trans H;rw [hy335];with_reducible exact H2_)|(have H2_:=(Option.bind_some _ _).symm.trans H;with_reducible exact H2_)|with_reducible exact H|(rw [hy335];exact H)|exact H
     have Ny335:=Aside0.mk hy335
     clear hy335
     obtain ⟨y339,hy339⟩:∃ y_:List Int,y_=(([rd l1 x6_1]:List Int)):=⟨_,rfl⟩
     replace H:(if y335.length + y339.length<17592186044416 then ((some (y335++y339:List Int)).bind fun y342=>((some (x5_1.drop (x7_2:Int).toNat:List Int)).bind fun y345=>(if y342.length + y345.length<17592186044416 then (spec_l6Due.l0 k2 l0 l1 (y342++y345) (wrap64 (x6_1 + 1))) else (none)))) else (none))=some r:=by first|(rw [hy339];with_reducible exact H)|(have H2_:=(Option.bind_some _ _).symm.trans H;rw [hy339];with_reducible exact H2_)|(have H2_:=(Option.bind_some _ _).symm.trans H;with_reducible exact H2_)|with_reducible exact H|(rw [hy339];exact H)|exact H
     have Ny339:=Aside0.mk hy339
     clear hy339
     by_cases c17:y335.length + y339.length<17592186044416
     rotate_left
     ·rw [if_neg c17] at H
      exact absurd H (by simp)
     rw [if_pos c17] at H
     have LMc17:=Aside0.mk c17
     clear c17
     obtain ⟨y342,hy342⟩:∃ y_:List Int,y_=(y335++y339):=⟨_,rfl⟩
     replace H:((some (x5_1.drop (x7_2:Int).toNat:List Int)).bind fun y345=>(if y342.length + y345.length<17592186044416 then (spec_l6Due.l0 k2 l0 l1 (y342++y345) (wrap64 (x6_1 + 1))) else (none)))=some r:=by first|(rw [hy342];with_reducible exact H)|(have H2_:=(Option.bind_some _ _).symm.trans H;rw [hy342];with_reducible exact H2_)|(have H2_:=(Option.bind_some _ _).symm.trans H;with_reducible exact H2_)|with_reducible exact H|(rw [hy342];exact H)|exact H
     have Ny342:=Aside0.mk hy342
     clear hy342
     have c18b0:=eq_true (of_decide_eq_true za:0≤x7_2)
     have c19b0:=eq_true (of_decide_eq_true za:x7_2≤(x5_1.length:Int))
     obtain ⟨y345,hy345⟩:∃ y_:List Int,y_=(x5_1.drop (x7_2:Int).toNat):=⟨_,rfl⟩
     replace H:(if y342.length + y345.length<17592186044416 then (spec_l6Due.l0 k2 l0 l1 (y342++y345) (wrap64 (x6_1 + 1))) else (none))=some r:=by first|(rw [hy345];with_reducible exact H)|(have H2_:=(Option.bind_some _ _).symm.trans H;rw [hy345];with_reducible exact H2_)|(have H2_:=(Option.bind_some _ _).symm.trans H;with_reducible exact H2_)|with_reducible exact H|(rw [hy345];exact H)|exact H
     have Ny345:=Aside0.mk hy345
     clear hy345
     by_cases c20:y342.length + y345.length<17592186044416
     rotate_left
     ·rw [if_neg c20] at H
      exact absurd H (by simp)
     rw [if_pos c20] at H
     have LMc20:=Aside0.mk c20
     clear c20
     obtain ⟨y349,hy349⟩:∃ y_:List Int,y_=(y342++y345):=⟨_,rfl⟩
     replace H:(spec_l6Due.l0 k2 l0 l1 y349 (wrap64 (x6_1 + 1)))=some r:=by first|(rw [hy349];with_reducible exact H)|(have H2_:=(Option.bind_some _ _).symm.trans H;rw [hy349];with_reducible exact H2_)|(have H2_:=(Option.bind_some _ _).symm.trans H;with_reducible exact H2_)|with_reducible exact H|(rw [hy349];exact H)|exact H
     have Ny349:=Aside0.mk hy349
     clear hy349
     have H':=Aside0.mk H
     clear H
     try go_wp2
     replace HO_5:=Aside0.mk (Kd.R_drew HO_5.out)
     replace HB:=Aside0.mk (below_drew1 HB.out)
     obtain ⟨Ao22,co22,eo22⟩:=Kd.R_slice HO_5.out
     (first|subst eo22|(injection eo22 with f1_ f2_ f3_;have f4_:=f1_.symm;have f5_:=f3_.symm;clear f1_ f2_ f3_;subst f4_;subst f5_))
     have p325:0≤(x7_2:Int):=of_decide_eq_true za
     have q325:x7_2<(x5_1.length:Int):=of_decide_eq_true za
     obtain ⟨ad325,e325,hx325_0⟩:=Kd.at_int (Kd.R_reads' HO_5.out).2.2 x7_2 p325 q325
     cases e325
     replace p325:=eq_true p325
     replace q325:=eq_true q325
     have p326:0≤(x6_1:Int):=of_decide_eq_true za
     have q326:x6_1<(l1.length:Int):=of_decide_eq_true za
     obtain ⟨ad326,e326,hx326_0⟩:=Kd.at_int HR1.out x6_1 p326 q326
     have hw326_0:=hx326_0
     cases e326
     replace hx326_0:=zh_ HB hx326_0
     replace p326:=eq_true p326
     replace q326:=eq_true q326
     refine start_ (n:=16) (S:=fun w'=>w'.cell? (ad325.add (x7_2).toNat)=some (.int .i64 (rd x5_1 x7_2))∧w'.cell? (ad326.add (x6_1).toNat)=some (.int .i64 (rd l1 x6_1))) (ds:=[]) #[false,false,false,false,false,false,false,false,false,false,false,false,false,false,false,false] (by kernel_rfl) rfl rfl ⟨hx325_0,((HB.out.cell (World.block_lt_of_cell? w _ hw326_0)).trans hw326_0)⟩ (fun hHeld=>?_);refine with_tabW spec_l6Due.tab6 spec_l6Due.bits6 (fun HT_ HW_=>?_)
     generalize wr.drew=w21 at HO_5 HB hx325_0 hx326_0 hHeld ⊢
     refine pu_ 0 15 ?_
     refine pu_ 1 16 ?_
     refine pu_ 2 17 ?_
     refine pu_ 3 18 ?_
     refine pu_ 4 19 ?_
     refine pu_ 5 20 ?_
     refine pu_ 6 21 ?_
     refine pu_ 7 22 ?_
     refine pu_ 8 23 ?_
     refine pu_ 10 25 ?_
     refine pu_ 11 26 ?_
     refine pu_ 12 27 ?_
     refine tk_ 9 24 hHeld ?_
     refine tk_ 13 28 hHeld ?_
     refine one_ (i:=14) (N:=some 29) #[true,true,true,true,true,true,true,true,true,true,true,true,true,true,true,false] rfl rfl (one_of HT_.out (by kernel_rfl)) (by decide) (fun K hK=>?_)
     refine goes_ Try.func99 (by kernel_rfl) rfl #[.slice A0 l0.length c0,.int .i64 (rd x5_1 x7_2),.int .i64 (rd l1 x6_1)] (by rfl) rfl rfl zl ?_
     with_reducible refine (spec_l6Sooner.calls _ _ l0 (rd x5_1 x7_2) (rd l1 x6_1) false _ ?side1 ?side2 A10.out).mono ?_
     (case side1=>exact zC (Kd.C_below HR0.out HB.out))
     (case side2=>exact HC0.out)
     rintro e w' ⟨rfl,⟨nd,rfl⟩⟩
     refine ⟨_,rfl,?_⟩
     refine hK.out _ _ ⟨hHeld.1,((HB.out.cell (World.block_lt_of_cell? w _ hw326_0)).trans hw326_0)⟩ (fun hHeld=>?_)
     clear hK K
     refine norm_ (a':=?_) ?_ ?_
     rotate_left
     ·show Act.put _ (some 29) _=_
      simp only [Act.put,List.setIfInBounds_toArray,List.set_cons_zero,List.set_cons_succ,i64_w,i32_w]
      rfl
     refine pu_ 15 30 ?_
     refine done_ (done_of HT_.out (by kernel_rfl)) ?_
     try go_wp2
     (try (rw [drewN_self w21];generalize hq_:World.drewN w21 _=w21;have n0_:Aside0 (Kd.R (Kd.int .i64) 3 w21 w.heap.size (fun _=>True) (.slice (some ad325) x5_1.length co22) x5_1):=⟨by rw [←hq_];exact (zR HO_5.out)⟩;have n1_:Aside0 (Below w.heap.size w w21):=⟨by rw [←hq_];exact zb⟩;clear HO_5 HB hq_;have HO_5:=n0_;have HB:=n1_;clear n0_ n1_))
     replace HO_5:=Aside0.mk (Kd.R_drew HO_5.out)
     replace HB:=Aside0.mk (below_drew1 HB.out)
     have q24:(x7_2:Int)≤((x5_1.length:Int):Int):=of_decide_eq_true za
     obtain ⟨i024,hi024,_,hsz24,_⟩:=info_parts info3
     have hroom24:x5_1.length≤co22:=(Kd.R_reads' HO_5.out).2.1
     have hC24:Kd.C (Kd.int .i64) _ (some ad325) x5_1.length x5_1:=(Kd.R_reads' HO_5.out).2.2
     have hcut24:=cut_to (P:=Try.prog) 49 3 .i64 Try.underlying49 hi024 (some ad325) x5_1.length co22 x7_2 (of_decide_eq_true za) q24 hroom24
     have hr24:=Kd.C_take (m:=(x7_2:Int).toNat) hC24 (by omega)
     have hy24:y331.length=(x7_2:Int).toNat:=(by rw [Ny331.out,List.length_take];omega)
     rw [←Ny331.out] at hr24
     rw [←hy24] at hcut24
     have HR334:=Aside0.mk hr24
     have HC334:=Aside0.mk (show y331.length≤co22 from by omega)
     clear hr24 hC24 hroom24 hi024 hsz24
     have KY24:=Aside0.mk hy24
     clear hy24
     have KL24:=Aside0.mk (show (x7_2:Int).toNat≤x5_1.length from by omega)
     replace q24:=eq_true q24
     have p338:0≤(x6_1:Int):=of_decide_eq_true za
     have q338:x6_1<(l1.length:Int):=of_decide_eq_true za
     obtain ⟨ad338,e338,hx338_0⟩:=Kd.at_int HR1.out x6_1 p338 q338
     have hw338_0:=hx338_0
     obtain rfl:ad326=ad338:=(by injection e338)
     replace hx338_0:=zh_ HB hx338_0
     replace p338:=eq_true p338
     replace q338:=eq_true q338
     have q25:(x7_2:Int)≤((x5_1.length:Int):Int):=of_decide_eq_true za
     obtain ⟨i025,hi025,_,hsz25,_⟩:=info_parts info3
     have hroom25:x5_1.length≤co22:=(Kd.R_reads' HO_5.out).2.1
     have hC25:Kd.C (Kd.int .i64) _ (some ad325) x5_1.length x5_1:=(Kd.R_reads' HO_5.out).2.2
     have q025:(0:Int)≤(x7_2:Int):=of_decide_eq_true za
     have hcut25:=cut_from (P:=Try.prog) 49 3 .i64 Try.underlying49 hi025 1 hsz25 (some ad325) x5_1.length co22 x7_2 q025 q25
     have hr25:=Kd.C_drop (m:=(x7_2:Int).toNat) (c:=co22) hC25 (by omega) hroom25
     obtain ⟨A25,hA25⟩:∃ Az_,Az_=(if co22=(x7_2:Int).toNat then (some ad325) else ((some ad325):Option Addr).map (·.add ((x7_2:Int).toNat * 1))):=⟨_,rfl⟩
     obtain ⟨c25,hc25⟩:∃ cz_,cz_=co22 - (x7_2:Int).toNat:=⟨_,rfl⟩
     have hy25:y345.length=x5_1.length - (x7_2:Int).toNat:=(by rw [Ny345.out,List.length_drop] <;> omega)
     rw [show (x5_1).drop (x7_2:Int).toNat=y345 from Ny345.out.symm] at hr25
     replace hr25:Kd.C (Kd.int .i64) _ A25 y345.length y345:=(by rw [hA25];exact hr25)
     rw [←hy25,←hA25,←hc25] at hcut25
     have HR348:=Aside0.mk hr25
     have HC348:=Aside0.mk (show y345.length≤c25 from by rw [hy25,hc25];exact Nat.sub_le_sub_right hroom25 _)
     clear hr25 hC25 hroom25 hi025 hsz25 hc25
     have KY25:=Aside0.mk hy25
     have KA25:=Aside0.mk hA25
     clear hy25 hA25
     have KL25:=Aside0.mk (show (x7_2:Int).toNat≤x5_1.length from by omega)
     replace q25:=eq_true q25
     refine start_ (n:=16) (S:=fun w'=>w'.cell? (ad326.add (x6_1).toNat)=some (.int .i64 (rd l1 x6_1))) (ds:=[]) #[false,false,false,false,false,false,false,false,false,false,false,false,false,false,false,false] (by kernel_rfl) rfl rfl (((HB.out.cell (World.block_lt_of_cell? w _ hw338_0)).trans hw338_0)) (fun hHeld=>?_);refine with_tabW spec_l6Due.tab8 spec_l6Due.bits8 (fun HT_ HW_=>?_)
     generalize w21.drew=w23 at HO_5 HB HR334 HR348 hx338_0 hHeld ⊢
     refine pu_ 1 34 ?_
     refine pu_ 2 35 ?_
     refine pu_ 3 36 ?_
     refine pu_ 5 38 ?_
     refine pu_ 6 39 ?_
     refine pu_ 7 40 ?_
     refine pu_ 11 44 ?_
     refine pu_ 12 45 ?_
     refine pu_ 13 46 ?_
     refine take_ (i:=8) (N:=some 41) (v:=?_) (a':=?_) #[false,true,true,true,false,true,true,true,true,false,false,true,true,true,false,false] rfl rfl (take_ofW HT_.out HW_.out (by kernel_rfl)) (fun _ _ _ h=>h) (Or.inl ⟨by rfl,?_⟩) hHeld ?_ ?_
     rotate_left
     ·intro w' s0
      go_simp
      with_reducible rfl
     rotate_left
     ·simp only [Act.put,List.setIfInBounds_toArray,List.set_cons_zero,List.set_cons_succ,i64_w,i32_w]
      rfl
     refine join_ (σ:=Value × Value × Value) 3 #[true,true,true,true,true,true,true,true,true,true,false,true,true,true,false,false] (fun s_=>[(33,s_.1),(37,s_.2.1),(42,s_.2.2)]) (fun s_ w'=>(w'.cell? (ad326.add (x6_1).toNat)=some (.int .i64 (rd l1 x6_1)))∧(Kd.R (Kd.int .i64) 3 w' w.heap.size (fun k_=>some k_≠(s_.2.2:Value).ownBlock∧some k_≠(.slice (some ad325) x5_1.length co22:Value).ownBlock) s_.2.1 y335)∧(Kd.R (Kd.int .i64) 3 w' w.heap.size (fun k_=>some k_≠(s_.2.1:Value).ownBlock∧some k_≠(.slice (some ad325) x5_1.length co22:Value).ownBlock) s_.2.2 y339)∧(Kd.R (Kd.int .i64) 3 w' w.heap.size (fun k_=>some k_≠(s_.2.1:Value).ownBlock∧some k_≠(s_.2.2:Value).ownBlock) (.slice (some ad325) x5_1.length co22) x5_1)∧(Below w.heap.size w w')) ?_ ?_
     rotate_left
     ·intro hCont
      refine two_ (i:=0) (j:=9) (Ni:=some 33) (Nj:=some 42) #[true,true,true,true,false,true,true,true,true,false,false,true,true,true,false,false] #[false,true,true,true,false,true,true,true,true,true,false,true,true,true,false,false] rfl rfl rfl rfl (two_of HT_.out (by kernel_rfl)) (by decide) (by decide) (fun K hK=>?_) (fun K hK=>?_)
      ·skip
       refine Kd.R_lit_step (Kd.int .i64) _ 3 ?hg (N:=33) ?hd (xs:=([]:List Int)) (inner:=[]) (ok:=fun _=>True) (okp:=fun _=>True) ?hr ?hp (fun _ hk=>hk) trivial (Below.refl _ _) (Nat.le_refl _) (by simp) ?_;(case hd=>rfl);(case hg=>rfl);(case hr=>first|(go_simp;done)|(go_simp;rfl));(case hp=>exact (Reps.none _ _))
       intro v329 w26 ho27 hb hg_ hnew_
       clear hg_ hnew_
       (first|rw [←Ny328.out] at ho27|(simp only [Int.reduceToNat] at ho27;rw [←Ny328.out] at ho27))
       have n0_:=Aside0.mk (Kd.R_elder' (zR HO_5.out) (Kd.R_base ho27) hb)
       have n1_:=Aside0.mk (Kd.R_lower (Kd.R_new' ho27 (Kd.R_lt (zR HO_5.out))) (below_size zb))
       have n2_:=Aside0.mk (Kd.C_below zz22 hb)
       have n3_:=Aside0.mk (Kd.C_below zz29 hb)
       have n4_:=zb1 hb
       clear HO_5
       clear HR334
       clear HR348
       clear HB
       have HO_5:=n0_
       have HO330:=n1_
       have HR334:=n2_
       have HR348:=n3_
       have HB:=n4_
       clear n0_ n1_ n2_ n3_ n4_
       clear hb ho27
       refine hK.out _ _ (((HB.out.cell (World.block_lt_of_cell? w _ hw338_0)).trans hw338_0)) (fun hHeld=>?_)
       clear hK K
       refine norm_ (a':=?_) ?_ ?_
       rotate_left
       ·show Act.put _ (some 33) _=_
        simp only [Act.put,List.setIfInBounds_toArray,List.set_cons_zero,List.set_cons_succ,i64_w,i32_w]
        rfl
       refine two_ (i:=4) (j:=9) (Ni:=some 37) (Nj:=some 42) #[true,true,true,true,true,true,true,true,true,false,false,true,true,true,false,false] #[true,true,true,true,false,true,true,true,true,true,false,true,true,true,false,false] rfl rfl rfl rfl (two_of HT_.out (by kernel_rfl)) (by decide) (by decide) (fun K hK=>?_) (fun K hK=>?_)
       ·skip
        refine Kd.R_append_rows_step (Kd.int .i64) (w0:=w) w.heap.size (by rfl) (.tmp 33) (.tmp 36) 49 3 (.int .i64 0) 8 rfl Try.underlying49 info3 rfl (by decide) (by omega) v329 y328 y331 _ _ _ (fun k_=>some k_≠(.slice (some ad325) x5_1.length co22:Value).ownBlock) (fun _=>False) rfl rfl ?aO ?aR (fun _ _ h=>h) (fun _ h=>h.elim) ?aF ?aB ?aS ?aL ?_
        (case aR=>repeat (first|exact zz22|(with_reducible refine Kd.C_alloc ?_ _)|(with_reducible refine Kd.C_drewN ?_ _)|(with_reducible refine Kd.C_drew ?_)))
        (case aB=>exact zb)
        (case aF=>exact (fun k_ hk=>Kd.fresh' (Kd.R_lt (zR HO_5.out)) k_ hk))
        (case aO=>exact (zR (Kd.R_mono HO330.out (fun _ hk=>hk.2))))
        (case aS=>exact (below_size zb))
        (case aL=>have:=LMc16.out;omega)
        intro v336 w28 ho hb hg hat
        rw [←Ny335.out] at ho
        have n0_:=Aside0.mk (Kd.R_after (ok:=(fun _=>True)) (zR HO_5.out) hg hat)
        have n1_:=Aside0.mk (hb)
        have n2_:=Aside0.mk ((show Kd.C (Kd.int .i64) w28 (some ad325) y331.length y331 from by rw [Ny331.out];exact Kd.C_take (m:=(x7_2:Int).toNat) ((Kd.R_reads' (Kd.R_after (ok:=(fun _=>True)) (zR HO_5.out) hg hat)).2.2) KL24.out))
        have n3_:=Aside0.mk ((show Kd.C (Kd.int .i64) w28 A25 y345.length y345 from by rw [Ny345.out,KA25.out];exact Kd.C_drop (m:=(x7_2:Int).toNat) (c:=co22) ((Kd.R_reads' (Kd.R_after (ok:=(fun _=>True)) (zR HO_5.out) hg hat)).2.2) KL25.out ((Kd.R_reads' (Kd.R_after (ok:=(fun _=>True)) (zR HO_5.out) hg hat)).2.1)))
        have n4_:=Aside0.mk (ho)
        clear HO_5
        clear HB
        clear HR334
        clear HR348
        clear HO330
        have HO_5:=n0_
        have HB:=n1_
        have HR334:=n2_
        have HR348:=n3_
        have HO337:=n4_
        clear n0_ n1_ n2_ n3_ n4_
        clear ho hb hg hat
        refine hK.out _ _ (((HB.out.cell (World.block_lt_of_cell? w _ hw338_0)).trans hw338_0)) (fun hHeld=>?_)
        clear hK K
        refine norm_ (a':=?_) ?_ ?_
        rotate_left
        ·show Act.put _ (some 37) _=_
         simp only [Act.put,List.setIfInBounds_toArray,List.set_cons_zero,List.set_cons_succ,i64_w,i32_w]
         rfl
        refine one_ (i:=9) (N:=some 42) #[true,true,true,true,true,true,true,true,true,true,false,true,true,true,false,false] rfl rfl (one_of HT_.out (by kernel_rfl)) (by decide) (fun K hK=>?_)
        refine Kd.R_lit_step (Kd.int .i64) _ 3 ?hg (N:=42) ?hd (xs:=([rd l1 x6_1]:List Int)) (inner:=[.int .i64 (rd l1 x6_1)]) (ok:=fun _=>True) (okp:=fun _=>True) ?hr ?hp (fun _ hk=>hk) trivial (Below.refl _ _) (Nat.le_refl _) (by simp) ?_;(case hd=>rfl);(case hg=>rfl);(case hr=>first|(go_simp;done)|(go_simp;rfl));(case hp=>exact (Reps.one (show Kd.M (Kd.int .i64) _ _ _ (rd l1 x6_1) [.int .i64 (rd l1 x6_1)] from rfl) (Reps.none _ _)))
        intro v340 w29 ho30 hb hg_ hnew_
        clear hg_ hnew_
        (first|rw [←Ny339.out] at ho30|(simp only [Int.reduceToNat] at ho30;rw [←Ny339.out] at ho30))
        have n0_:=Aside0.mk (Kd.R_elder' (zR HO_5.out) (Kd.R_base ho30) hb)
        have n1_:=Aside0.mk (Kd.R_elder' (zR HO337.out) (Kd.R_base ho30) hb)
        have n2_:=Aside0.mk (Kd.R_lower (Kd.R_new' (Kd.R_new' ho30 (Kd.R_lt (zR HO_5.out))) (Kd.R_lt (zR HO337.out))) (below_size zb))
        have n3_:=Aside0.mk (Kd.C_below zz22 hb)
        have n4_:=Aside0.mk (Kd.C_below zz29 hb)
        have n5_:=zb1 hb
        clear HO_5
        clear HO337
        clear HR334
        clear HR348
        clear HB
        have HO_5:=n0_
        have HO337:=n1_
        have HO341:=n2_
        have HR334:=n3_
        have HR348:=n4_
        have HB:=n5_
        clear n0_ n1_ n2_ n3_ n4_ n5_
        clear hb ho30
        refine hK.out _ _ (((HB.out.cell (World.block_lt_of_cell? w _ hw338_0)).trans hw338_0)) (fun hHeld=>?_)
        clear hK K
        refine norm_ (a':=?_) ?_ ?_
        rotate_left
        ·show Act.put _ (some 42) _=_
         simp only [Act.put,List.setIfInBounds_toArray,List.set_cons_zero,List.set_cons_succ,i64_w,i32_w]
         rfl
        exact norm_ zz21 (hCont (v329,v336,v340) _ ⟨hHeld,(zR (Kd.R_mono HO337.out (fun _ hk=>⟨hk.2,hk.1⟩))),(zR (Kd.R_mono HO341.out (fun _ hk=>⟨hk.2,hk.1.2⟩))),(zR (Kd.R_mono HO_5.out (fun _ hk=>⟨hk.1.2,hk.2⟩))),zb⟩)
       ·skip
        refine Kd.R_lit_step (Kd.int .i64) _ 3 ?hg (N:=42) ?hd (xs:=([rd l1 x6_1]:List Int)) (inner:=[.int .i64 (rd l1 x6_1)]) (ok:=fun _=>True) (okp:=fun _=>True) ?hr ?hp (fun _ hk=>hk) trivial (Below.refl _ _) (Nat.le_refl _) (by simp) ?_;(case hd=>rfl);(case hg=>rfl);(case hr=>first|(go_simp;done)|(go_simp;rfl));(case hp=>exact (Reps.one (show Kd.M (Kd.int .i64) _ _ _ (rd l1 x6_1) [.int .i64 (rd l1 x6_1)] from rfl) (Reps.none _ _)))
        intro v340 w28 ho29 hb hg_ hnew_
        clear hg_ hnew_
        (first|rw [←Ny339.out] at ho29|(simp only [Int.reduceToNat] at ho29;rw [←Ny339.out] at ho29))
        have n0_:=Aside0.mk (Kd.R_elder' (zR HO_5.out) (Kd.R_base ho29) hb)
        have n1_:=Aside0.mk (Kd.R_elder' (zR HO330.out) (Kd.R_base ho29) hb)
        have n2_:=Aside0.mk (Kd.R_lower (Kd.R_new' (Kd.R_new' ho29 (Kd.R_lt (zR HO_5.out))) (Kd.R_lt (zR HO330.out))) (below_size zb))
        have n3_:=Aside0.mk (Kd.C_below zz22 hb)
        have n4_:=Aside0.mk (Kd.C_below zz29 hb)
        have n5_:=zb1 hb
        clear HO_5
        clear HO330
        clear HR334
        clear HR348
        clear HB
        have HO_5:=n0_
        have HO330:=n1_
        have HO341:=n2_
        have HR334:=n3_
        have HR348:=n4_
        have HB:=n5_
        clear n0_ n1_ n2_ n3_ n4_ n5_
        clear hb ho29
        refine hK.out _ _ (((HB.out.cell (World.block_lt_of_cell? w _ hw338_0)).trans hw338_0)) (fun hHeld=>?_)
        clear hK K
        refine norm_ (a':=?_) ?_ ?_
        rotate_left
        ·show Act.put _ (some 42) _=_
         simp only [Act.put,List.setIfInBounds_toArray,List.set_cons_zero,List.set_cons_succ,i64_w,i32_w]
         rfl
        refine one_ (i:=4) (N:=some 37) #[true,true,true,true,true,true,true,true,true,true,false,true,true,true,false,false] rfl rfl (one_of HT_.out (by kernel_rfl)) (by decide) (fun K hK=>?_)
        refine Kd.R_append_rows_step (Kd.int .i64) (w0:=w) w.heap.size (by rfl) (.tmp 33) (.tmp 36) 49 3 (.int .i64 0) 8 rfl Try.underlying49 info3 rfl (by decide) (by omega) v329 y328 y331 _ _ _ (fun k_=>some k_≠(.slice (some ad325) x5_1.length co22:Value).ownBlock∧some k_≠(v340:Value).ownBlock) (fun _=>False) rfl rfl ?aO ?aR (fun _ _ h=>h) (fun _ h=>h.elim) ?aF ?aB ?aS ?aL ?_
        (case aR=>repeat (first|exact zz22|(with_reducible refine Kd.C_alloc ?_ _)|(with_reducible refine Kd.C_drewN ?_ _)|(with_reducible refine Kd.C_drew ?_)))
        (case aB=>exact zb)
        (case aF=>exact (fun k_ hk=>⟨Kd.fresh' (Kd.R_lt (zR HO_5.out)) k_ hk,Kd.fresh' (Kd.R_lt (zR HO341.out)) k_ hk⟩))
        (case aO=>exact (zR (Kd.R_mono HO330.out (fun _ hk=>⟨hk.1.2,hk.2⟩))))
        (case aS=>exact (below_size zb))
        (case aL=>have:=LMc16.out;omega)
        intro v336 w30 ho hb hg hat
        rw [←Ny335.out] at ho
        have n0_:=Aside0.mk (Kd.R_after (ok:=(fun k_=>some k_≠(v340:Value).ownBlock)) (zR (Kd.R_mono HO_5.out (fun _ hk=>⟨hk.2,hk.1.2⟩))) hg hat)
        have n1_:=Aside0.mk (Kd.R_after (ok:=(fun k_=>some k_≠(.slice (some ad325) x5_1.length co22:Value).ownBlock)) (zR (Kd.R_mono HO341.out (fun _ hk=>⟨hk.1.2,hk.2⟩))) hg hat)
        have n2_:=Aside0.mk (hb)
        have n3_:=Aside0.mk ((show Kd.C (Kd.int .i64) w30 (some ad325) y331.length y331 from by rw [Ny331.out];exact Kd.C_take (m:=(x7_2:Int).toNat) ((Kd.R_reads' (Kd.R_after (ok:=(fun k_=>some k_≠(v340:Value).ownBlock)) (zR (Kd.R_mono HO_5.out (fun _ hk=>⟨hk.2,hk.1.2⟩))) hg hat)).2.2) KL24.out))
        have n4_:=Aside0.mk ((show Kd.C (Kd.int .i64) w30 A25 y345.length y345 from by rw [Ny345.out,KA25.out];exact Kd.C_drop (m:=(x7_2:Int).toNat) (c:=co22) ((Kd.R_reads' (Kd.R_after (ok:=(fun k_=>some k_≠(v340:Value).ownBlock)) (zR (Kd.R_mono HO_5.out (fun _ hk=>⟨hk.2,hk.1.2⟩))) hg hat)).2.2) KL25.out ((Kd.R_reads' (Kd.R_after (ok:=(fun k_=>some k_≠(v340:Value).ownBlock)) (zR (Kd.R_mono HO_5.out (fun _ hk=>⟨hk.2,hk.1.2⟩))) hg hat)).2.1)))
        have n5_:=Aside0.mk (ho)
        clear HO_5
        clear HO341
        clear HB
        clear HR334
        clear HR348
        clear HO330
        have HO_5:=n0_
        have HO341:=n1_
        have HB:=n2_
        have HR334:=n3_
        have HR348:=n4_
        have HO337:=n5_
        clear n0_ n1_ n2_ n3_ n4_ n5_
        clear ho hb hg hat
        refine hK.out _ _ (((HB.out.cell (World.block_lt_of_cell? w _ hw338_0)).trans hw338_0)) (fun hHeld=>?_)
        clear hK K
        refine norm_ (a':=?_) ?_ ?_
        rotate_left
        ·show Act.put _ (some 37) _=_
         simp only [Act.put,List.setIfInBounds_toArray,List.set_cons_zero,List.set_cons_succ,i64_w,i32_w]
         rfl
        exact norm_ zz21 (hCont (v329,v336,v340) _ ⟨hHeld,(zR (Kd.R_mono HO337.out (fun _ hk=>⟨hk.2,hk.1⟩))),(zR (Kd.R_mono HO341.out (fun _ hk=>⟨hk.2,hk.1⟩))),(zR (Kd.R_mono HO_5.out (fun _ hk=>⟨hk.2,hk.1⟩))),zb⟩)
      ·skip
       refine Kd.R_lit_step (Kd.int .i64) _ 3 ?hg (N:=42) ?hd (xs:=([rd l1 x6_1]:List Int)) (inner:=[.int .i64 (rd l1 x6_1)]) (ok:=fun _=>True) (okp:=fun _=>True) ?hr ?hp (fun _ hk=>hk) trivial (Below.refl _ _) (Nat.le_refl _) (by simp) ?_;(case hd=>rfl);(case hg=>rfl);(case hr=>first|(go_simp;done)|(go_simp;rfl));(case hp=>exact (Reps.one (show Kd.M (Kd.int .i64) _ _ _ (rd l1 x6_1) [.int .i64 (rd l1 x6_1)] from rfl) (Reps.none _ _)))
       intro v340 w26 ho27 hb hg_ hnew_
       clear hg_ hnew_
       (first|rw [←Ny339.out] at ho27|(simp only [Int.reduceToNat] at ho27;rw [←Ny339.out] at ho27))
       have n0_:=Aside0.mk (Kd.R_elder' (zR HO_5.out) (Kd.R_base ho27) hb)
       have n1_:=Aside0.mk (Kd.R_lower (Kd.R_new' ho27 (Kd.R_lt (zR HO_5.out))) (below_size zb))
       have n2_:=Aside0.mk (Kd.C_below zz22 hb)
       have n3_:=Aside0.mk (Kd.C_below zz29 hb)
       have n4_:=zb1 hb
       clear HO_5
       clear HR334
       clear HR348
       clear HB
       have HO_5:=n0_
       have HO341:=n1_
       have HR334:=n2_
       have HR348:=n3_
       have HB:=n4_
       clear n0_ n1_ n2_ n3_ n4_
       clear hb ho27
       refine hK.out _ _ (((HB.out.cell (World.block_lt_of_cell? w _ hw338_0)).trans hw338_0)) (fun hHeld=>?_)
       clear hK K
       refine norm_ (a':=?_) ?_ ?_
       rotate_left
       ·show Act.put _ (some 42) _=_
        simp only [Act.put,List.setIfInBounds_toArray,List.set_cons_zero,List.set_cons_succ,i64_w,i32_w]
        rfl
       refine one_ (i:=0) (N:=some 33) #[true,true,true,true,false,true,true,true,true,true,false,true,true,true,false,false] rfl rfl (one_of HT_.out (by kernel_rfl)) (by decide) (fun K hK=>?_)
       refine Kd.R_lit_step (Kd.int .i64) _ 3 ?hg (N:=33) ?hd (xs:=([]:List Int)) (inner:=[]) (ok:=fun _=>True) (okp:=fun _=>True) ?hr ?hp (fun _ hk=>hk) trivial (Below.refl _ _) (Nat.le_refl _) (by simp) ?_;(case hd=>rfl);(case hg=>rfl);(case hr=>first|(go_simp;done)|(go_simp;rfl));(case hp=>exact (Reps.none _ _))
       intro v329 w28 ho29 hb hg_ hnew_
       clear hg_ hnew_
       (first|rw [←Ny328.out] at ho29|(simp only [Int.reduceToNat] at ho29;rw [←Ny328.out] at ho29))
       have n0_:=Aside0.mk (Kd.R_elder' (zR HO_5.out) (Kd.R_base ho29) hb)
       have n1_:=Aside0.mk (Kd.R_elder' (zR HO341.out) (Kd.R_base ho29) hb)
       have n2_:=Aside0.mk (Kd.R_lower (Kd.R_new' (Kd.R_new' ho29 (Kd.R_lt (zR HO_5.out))) (Kd.R_lt (zR HO341.out))) (below_size zb))
       have n3_:=Aside0.mk (Kd.C_below zz22 hb)
       have n4_:=Aside0.mk (Kd.C_below zz29 hb)
       have n5_:=zb1 hb
       clear HO_5
       clear HO341
       clear HR334
       clear HR348
       clear HB
       have HO_5:=n0_
       have HO341:=n1_
       have HO330:=n2_
       have HR334:=n3_
       have HR348:=n4_
       have HB:=n5_
       clear n0_ n1_ n2_ n3_ n4_ n5_
       clear hb ho29
       refine hK.out _ _ (((HB.out.cell (World.block_lt_of_cell? w _ hw338_0)).trans hw338_0)) (fun hHeld=>?_)
       clear hK K
       refine norm_ (a':=?_) ?_ ?_
       rotate_left
       ·show Act.put _ (some 33) _=_
        simp only [Act.put,List.setIfInBounds_toArray,List.set_cons_zero,List.set_cons_succ,i64_w,i32_w]
        rfl
       refine one_ (i:=4) (N:=some 37) #[true,true,true,true,true,true,true,true,true,true,false,true,true,true,false,false] rfl rfl (one_of HT_.out (by kernel_rfl)) (by decide) (fun K hK=>?_)
       refine Kd.R_append_rows_step (Kd.int .i64) (w0:=w) w.heap.size (by rfl) (.tmp 33) (.tmp 36) 49 3 (.int .i64 0) 8 rfl Try.underlying49 info3 rfl (by decide) (by omega) v329 y328 y331 _ _ _ (fun k_=>some k_≠(.slice (some ad325) x5_1.length co22:Value).ownBlock∧some k_≠(v340:Value).ownBlock) (fun _=>False) rfl rfl ?aO ?aR (fun _ _ h=>h) (fun _ h=>h.elim) ?aF ?aB ?aS ?aL ?_
       (case aR=>repeat (first|exact zz22|(with_reducible refine Kd.C_alloc ?_ _)|(with_reducible refine Kd.C_drewN ?_ _)|(with_reducible refine Kd.C_drew ?_)))
       (case aB=>exact zb)
       (case aF=>exact (fun k_ hk=>⟨Kd.fresh' (Kd.R_lt (zR HO_5.out)) k_ hk,Kd.fresh' (Kd.R_lt (zR HO341.out)) k_ hk⟩))
       (case aO=>exact (zR (Kd.R_mono HO330.out (fun _ hk=>⟨hk.1.2,hk.2⟩))))
       (case aS=>exact (below_size zb))
       (case aL=>have:=LMc16.out;omega)
       intro v336 w30 ho hb hg hat
       rw [←Ny335.out] at ho
       have n0_:=Aside0.mk (Kd.R_after (ok:=(fun k_=>some k_≠(v340:Value).ownBlock)) (zR (Kd.R_mono HO_5.out (fun _ hk=>⟨hk.1.2,hk.2⟩))) hg hat)
       have n1_:=Aside0.mk (Kd.R_after (ok:=(fun k_=>some k_≠(.slice (some ad325) x5_1.length co22:Value).ownBlock)) (zR (Kd.R_mono HO341.out (fun _ hk=>⟨hk.1.2,hk.2⟩))) hg hat)
       have n2_:=Aside0.mk (hb)
       have n3_:=Aside0.mk ((show Kd.C (Kd.int .i64) w30 (some ad325) y331.length y331 from by rw [Ny331.out];exact Kd.C_take (m:=(x7_2:Int).toNat) ((Kd.R_reads' (Kd.R_after (ok:=(fun k_=>some k_≠(v340:Value).ownBlock)) (zR (Kd.R_mono HO_5.out (fun _ hk=>⟨hk.1.2,hk.2⟩))) hg hat)).2.2) KL24.out))
       have n4_:=Aside0.mk ((show Kd.C (Kd.int .i64) w30 A25 y345.length y345 from by rw [Ny345.out,KA25.out];exact Kd.C_drop (m:=(x7_2:Int).toNat) (c:=co22) ((Kd.R_reads' (Kd.R_after (ok:=(fun k_=>some k_≠(v340:Value).ownBlock)) (zR (Kd.R_mono HO_5.out (fun _ hk=>⟨hk.1.2,hk.2⟩))) hg hat)).2.2) KL25.out ((Kd.R_reads' (Kd.R_after (ok:=(fun k_=>some k_≠(v340:Value).ownBlock)) (zR (Kd.R_mono HO_5.out (fun _ hk=>⟨hk.1.2,hk.2⟩))) hg hat)).2.1)))
       have n5_:=Aside0.mk (ho)
       clear HO_5
       clear HO341
       clear HB
       clear HR334
       clear HR348
       clear HO330
       have HO_5:=n0_
       have HO341:=n1_
       have HB:=n2_
       have HR334:=n3_
       have HR348:=n4_
       have HO337:=n5_
       clear n0_ n1_ n2_ n3_ n4_ n5_
       clear ho hb hg hat
       refine hK.out _ _ (((HB.out.cell (World.block_lt_of_cell? w _ hw338_0)).trans hw338_0)) (fun hHeld=>?_)
       clear hK K
       refine norm_ (a':=?_) ?_ ?_
       rotate_left
       ·show Act.put _ (some 37) _=_
        simp only [Act.put,List.setIfInBounds_toArray,List.set_cons_zero,List.set_cons_succ,i64_w,i32_w]
        rfl
       exact norm_ zz21 (hCont (v329,v336,v340) _ ⟨hHeld,(zR (Kd.R_mono HO337.out (fun _ hk=>⟨hk.2,hk.1⟩))),(zR (Kd.R_mono HO341.out (fun _ hk=>⟨hk.2,hk.1⟩))),(zR (Kd.R_mono HO_5.out (fun _ hk=>⟨hk.2,hk.1⟩))),zb⟩)
     rintro ⟨v329,v336,v340⟩ w31 ⟨hS_,h0_,h1_,h2_,h3_⟩
     have n0_:Aside0 (Kd.R (Kd.int .i64) 3 w31 w.heap.size (fun k_=>some k_≠(v340:Value).ownBlock∧some k_≠(.slice (some ad325) x5_1.length co22:Value).ownBlock) v336 y335):=⟨h0_⟩
     have n1_:Aside0 (Kd.R (Kd.int .i64) 3 w31 w.heap.size (fun k_=>some k_≠(v336:Value).ownBlock∧some k_≠(.slice (some ad325) x5_1.length co22:Value).ownBlock) v340 y339):=⟨h1_⟩
     have n2_:Aside0 (Kd.R (Kd.int .i64) 3 w31 w.heap.size (fun k_=>some k_≠(v336:Value).ownBlock∧some k_≠(v340:Value).ownBlock) (.slice (some ad325) x5_1.length co22) x5_1):=⟨h2_⟩
     have n3_:Aside0 (Below w.heap.size w w31):=⟨h3_⟩
     clear HO_5
     clear HB
     clear h0_ h1_ h2_ h3_
     have HO337:=n0_
     have HO341:=n1_
     have HO_5:=n2_
     have HB:=n3_
     clear n0_ n1_ n2_ n3_
     have hHeld:w31.cell? (ad326.add (x6_1).toNat)=some (.int .i64 (rd l1 x6_1)):=hS_
     obtain ⟨Ao33,co33,eo33⟩:=Kd.R_slice HO341.out
     (first|subst eo33|(injection eo33 with f1_ f2_ f3_;have f4_:=f1_.symm;have f5_:=f3_.symm;clear f1_ f2_ f3_;subst f4_;subst f5_))
     refine norm_ (a':=?_) ?_ ?_
     rotate_left
     ·simp only [putAll,Act.put,List.setIfInBounds_toArray,List.set_cons_zero,List.set_cons_succ]
      rfl
     refine one_ (i:=10) (N:=some 43) #[true,true,true,true,true,true,true,true,true,true,true,true,true,true,false,false] rfl rfl (one_of HT_.out (by kernel_rfl)) (by decide) (fun K hK=>?_)
     refine Kd.R_append_rows_step (Kd.int .i64) (w0:=w) w.heap.size (by rfl) (.tmp 37) (.tmp 42) 49 3 (.int .i64 0) 8 rfl Try.underlying49 info3 rfl (by decide) (by omega) v336 y335 y339 _ _ _ (fun k_=>some k_≠(.slice (some ad325) x5_1.length co22:Value).ownBlock∧some k_≠(.slice Ao33 y339.length co33:Value).ownBlock) (fun _=>False) rfl rfl ?aO ?aR (fun _ _ h=>h) (fun _ h=>h.elim) ?aF ?aB ?aS ?aL ?_
     (case aR=>exact zC ((Kd.R_reads' HO341.out).2.2))
     (case aB=>exact zb)
     (case aF=>exact (fun k_ hk=>⟨Kd.fresh' (Kd.R_lt (zR HO_5.out)) k_ hk,Kd.fresh' (Kd.R_lt (zR HO341.out)) k_ hk⟩))
     (case aO=>exact (zR (Kd.R_mono HO337.out (fun _ hk=>⟨hk.2,hk.1⟩))))
     (case aS=>exact (below_size zb))
     (case aL=>have:=LMc17.out;omega)
     intro v343 w32 ho hb hg hat
     rw [←Ny342.out] at ho
     replace HO_5:=Aside0.mk (Kd.R_after (ok:=(fun k_=>some k_≠(.slice Ao33 y339.length co33:Value).ownBlock)) (zR (Kd.R_mono HO_5.out (fun _ hk=>⟨hk.2,hk.1⟩))) hg hat)
     replace HO341:=Aside0.mk (Kd.R_after (ok:=(fun k_=>some k_≠(.slice (some ad325) x5_1.length co22:Value).ownBlock)) (zR (Kd.R_mono HO341.out (fun _ hk=>⟨hk.2,hk.1⟩))) hg hat)
     replace HB:=Aside0.mk (hb)
     have HO344:=Aside0.mk (ho)
     clear HO337
     clear ho hb hg hat
     refine hK.out _ _ (((HB.out.cell (World.block_lt_of_cell? w _ hw338_0)).trans hw338_0)) (fun hHeld=>?_)
     clear hK K
     refine norm_ (a':=?_) ?_ ?_
     rotate_left
     ·show Act.put _ (some 43) _=_
      simp only [Act.put,List.setIfInBounds_toArray,List.set_cons_zero,List.set_cons_succ,i64_w,i32_w]
      rfl
     refine one_ (i:=14) (N:=some 47) #[true,true,true,true,true,true,true,true,true,true,true,true,true,true,true,false] rfl rfl (one_of HT_.out (by kernel_rfl)) (by decide) (fun K hK=>?_)
     refine Kd.R_append_rows_step (Kd.int .i64) (w0:=w) w.heap.size (by rfl) (.tmp 43) (.tmp 46) 49 3 (.int .i64 0) 8 rfl Try.underlying49 info3 rfl (by decide) (by omega) v343 y342 y345 _ _ _ (fun k_=>some k_≠(.slice (some ad325) x5_1.length co22:Value).ownBlock∧some k_≠(.slice Ao33 y339.length co33:Value).ownBlock) (fun _=>False) rfl rfl ?aO ?aR (fun _ _ h=>h) (fun _ h=>h.elim) ?aF ?aB ?aS ?aL ?_
     (case aR=>exact (by rw [Ny345.out,KA25.out];first|exact Kd.C_drop (m:=(x7_2:Int).toNat) (c:=co22) ((Kd.R_reads' (HO_5.out)).2.2) KL25.out ((Kd.R_reads' (HO_5.out)).2.1)|exact Kd.C_drop (m:=(x7_2:Int).toNat) (c:=co22) ((Kd.R_reads' (zR HO_5.out)).2.2) KL25.out ((Kd.R_reads' (zR HO_5.out)).2.1)))
     (case aB=>exact zb)
     (case aF=>exact (fun k_ hk=>⟨Kd.fresh' (Kd.R_lt (zR HO_5.out)) k_ hk,Kd.fresh' (Kd.R_lt (zR HO341.out)) k_ hk⟩))
     (case aO=>exact (zR HO344.out))
     (case aS=>exact (below_size zb))
     (case aL=>have:=LMc20.out;omega)
     intro v350 w34 ho hb hg hat
     rw [←Ny349.out] at ho
     replace HO_5:=Aside0.mk (Kd.R_after (ok:=(fun k_=>some k_≠(.slice Ao33 y339.length co33:Value).ownBlock)) (zR HO_5.out) hg hat)
     replace HO341:=Aside0.mk (Kd.R_after (ok:=(fun k_=>some k_≠(.slice (some ad325) x5_1.length co22:Value).ownBlock)) (zR HO341.out) hg hat)
     replace HB:=Aside0.mk (hb)
     have HO351:=Aside0.mk (ho)
     clear HO344
     clear ho hb hg hat
     refine hK.out _ _ (((HB.out.cell (World.block_lt_of_cell? w _ hw338_0)).trans hw338_0)) (fun hHeld=>?_)
     clear hK K
     refine norm_ (a':=?_) ?_ ?_
     rotate_left
     ·show Act.put _ (some 47) _=_
      simp only [Act.put,List.setIfInBounds_toArray,List.set_cons_zero,List.set_cons_succ,i64_w,i32_w]
      rfl
     refine pu_ 15 5 ?_
     refine done_ (done_of HT_.out (by kernel_rfl)) ?_
     try go_wp2
     go_roundg k2
     case measure=>have:=HK1.out;have:=HK2.out;omega
     case rel=>exact ⟨(y349),(wrap64 (x6_1 + 1)),zo,H',⟨by have:=HK1.out;have:=HK2.out;omega⟩,⟨zR (Kd.R_mono HO351.out (fun _ hk=>trivial))⟩,⟨zb⟩⟩

end Go.Proofs.Ytkolecmpncaooaa.XFnLateWeight
-- minified
