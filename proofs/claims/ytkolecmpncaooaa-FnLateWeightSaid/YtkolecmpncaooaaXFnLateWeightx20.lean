-- Written by a program of this session (the kit's print, widened). Proved here: what each function answers, for the arguments that its contract names.
import Derived.Test.YtkolecmpncaooaaXFnLateWeightx0
import Derived.Test.YtkolecmpncaooaaXFnLateWeightx18
import Derived.Test.YtkolecmpncaooaaXFnLateWeightx19
namespace Go.Proofs.Ytkolecmpncaooaa.XFnLateWeight
open Go.RowKit Go.Proofs.YtkolecmpncaooaaW.PrintWords Go.Proofs.YtkolecmpncaooaaW.PrintLast Go.Proofs.YtkolecmpncaooaaW.PrintMore
attribute [local go_sem] max2_int min2_int max_two min_two max_three min_three max_four min_four   -- for this text's walks alone
attribute [local go_sem] idxA_51_0 idxA_51_1 fldS_45_0 fldS_45_1 fldS_45_2 fldS_96_0 fldS_96_1 fldS_96_2
set_option linter.unusedVariables false
set_option linter.unusedSimpArgs false

/-! ### spec_l1Has: function 114 -/
def spec_l1Has.l0:Nat→List Int→Int→Int→Option (Bool)
 | 0,_,_,_=>none
 | k + 1,x0,x1,x5=>if x5<(x0.length:Int) then (if 0≤x5 then (if (rd x0 x5)=x1 then (some true) else (spec_l1Has.l0 k x0 x1 (wrap64 (x5 + 1)))) else (none)) else (some false)
def spec_l1Has.f (k:Nat) (l0:List Int) (a1:Int):Option (Bool):=spec_l1Has.l0 k l0 a1 0
theorem spec_l1Has.mono_l:∀ k,(∀ y0 y1 y2,LeO (spec_l1Has.l0 k y0 y1 y2) (spec_l1Has.l0 (k + 1) y0 y1 y2))
 | 0=>fun _ _ _ r h=>by simp [spec_l1Has.l0] at h
 | k + 1=>by
  have ih0:=spec_l1Has.mono_l k
  ·intro y0 y1 y2
   unfold spec_l1Has.l0
   repeat' first|(with_reducible first|apply ih0|exact LeO.refl _|exact LeO.none _|refine LeO.ite ?_ ?_|refine LeO.bind ?_ (fun _=>?_))|apply ih0|exact LeO.none _|refine LeO.ite ?_ ?_|refine LeO.bind ?_ (fun _=>?_)
theorem spec_l1Has.mono:∀ a0 a1 k,LeO (spec_l1Has.f k a0 a1) (spec_l1Has.f (k + 1) a0 a1):=by
 intro a0 a1 k
 have ih0:=spec_l1Has.mono_l k
 unfold spec_l1Has.f
 repeat' first|(with_reducible first|apply ih0|exact LeO.refl _|exact LeO.none _|refine LeO.ite ?_ ?_|refine LeO.bind ?_ (fun _=>?_))|apply ih0|exact LeO.none _|refine LeO.ite ?_ ?_|refine LeO.bind ?_ (fun _=>?_)
set_option maxHeartbeats 8000000 in
set_option maxRecDepth 100000 in
theorem spec_l1Has.calls (k:Nat) (A0:Option Addr) (c0:Nat) (l0:List Int) (a1:Int) (r:Bool) (w:World) (hr0:Kd.C (Kd.int .i64) w A0 l0.length l0) (hc0:l0.length≤c0) (h:spec_l1Has.f k l0 a1=some r) :
  Calls Try.prog 114 #[.slice A0 l0.length c0,.int .i64 a1] w fun e w'=>e=.returned (.bool r)∧Drawn0 w w':=by
 have HR0:=Aside0.mk hr0
 have HC0:=Aside0.mk hc0
 clear hr0 hc0
 have H:(spec_l1Has.l0 k l0 a1 0)=some r:=h
 clear h
 have H':=Aside0.mk H
 clear H
 go_enter Try.func114,Try.ntmps114
 go_wp2
 go_loopg [5] k (fun kq v5 w'=>∃ (x5_1:Int),v5=.int .i64 x5_1∧Aside0 (spec_l1Has.l0 kq l0 a1 x5_1=some r)∧Aside0 (kq≤k)∧Drawn0 w w')
 case atStart=>exact ⟨(0),zo,H',⟨Nat.le_refl _⟩,zz5⟩
 case round=>
  clear H'
  obtain ⟨x5_1,rfl,HA,HK1,⟨m1,rfl⟩⟩:=hrel
  cases gk with
  | zero=>exact absurd HA.out (by simp [spec_l1Has.l0])
  | succ k1=>
   have H:=HA.out
   clear HA
   simp only [spec_l1Has.l0] at H
   by_cases c3:x5_1<(l0.length:Int)
   rotate_left
   ·rw [if_neg c3] at H
    have c3b0:=decide_eq_false c3
    clear c3
    obtain rfl:=Option.some.inj H
    go_wp2
    go_ret
    exact ⟨zz7,zz5⟩
   rw [if_pos c3] at H
   have c3b0:=decide_eq_true c3
   clear c3
   by_cases c4:0≤x5_1
   rotate_left
   ·rw [if_neg c4] at H
    exact absurd H (by simp)
   rw [if_pos c4] at H
   have c4b0:=decide_eq_true c4
   clear c4
   by_cases c5:(rd l0 x5_1)=a1
   ·rw [if_pos c5] at H
    have c5b0:((rd l0 x5_1) == a1)=true:=beq_iff_eq.mpr c5
    have c5b1:((rd l0 x5_1) != a1)=false:=bne_eq_false_iff_eq.mpr c5
    clear c5
    obtain rfl:=Option.some.inj H
    have p493:0≤(x5_1:Int):=of_decide_eq_true za
    have q493:x5_1<(l0.length:Int):=of_decide_eq_true za
    obtain ⟨ad493,e493,hx493_0⟩:=Kd.at_int HR0.out x5_1 p493 q493
    cases e493
    replace p493:=eq_true p493
    replace q493:=eq_true q493
    go_wp2
    go_ret
    exact ⟨zz7,zz5⟩
   rw [if_neg c5] at H
   have c5b0:((rd l0 x5_1) == a1)=false:=beq_eq_false_iff_ne.mpr c5
   have c5b1:((rd l0 x5_1) != a1)=true:=bne_iff_ne.mpr c5
   have H':=Aside0.mk H
   clear H
   have p493:0≤(x5_1:Int):=of_decide_eq_true za
   have q493:x5_1<(l0.length:Int):=of_decide_eq_true za
   obtain ⟨ad493,e493,hx493_0⟩:=Kd.at_int HR0.out x5_1 p493 q493
   cases e493
   replace p493:=eq_true p493
   replace q493:=eq_true q493
   go_wp2
   go_roundg k1
   case measure=>have:=HK1.out;omega
   case rel=>exact ⟨(wrap64 (x5_1 + 1)),zo,H',⟨by have:=HK1.out;omega⟩,zz5⟩

/-! ### spec_l2Try: function 110 -/
mutual
def spec_l2Try.j0:Nat→List Int→Int→Bool→List Int→Int→Int→Option (List Int × Int × Int)
 | 0,_,_,_,_,_,_=>none
 | k + 1,x1,x9,x28,x495000,x495001,x495002=>if x28=true then ((spec_l1Own.f x1).bind fun t497=>(some (t497,x9,1))) else (if x9=x495001 then (some (x495000,x495001,wrap64 (x495002 + 1))) else (some (x495000,x495001,x495002)))
def spec_l2Try.l0:Nat→List (S31)→List Int→Int→Int→List Int→Int→Int→Option (List Int × Int × Int)
 | 0,_,_,_,_,_,_,_=>none
 | k + 1,x0,x1,x2,x10,x495000,x495001,x495002=>if x10<(x0.length:Int) then ((spec_l1Has.f k x1 x10).bind fun t500=>(if t500=true then (spec_l2Try.l0 k x0 x1 x2 (wrap64 (x10 + 1)) x495000 x495001 x495002) else ((spec_l1Own.f x1).bind fun t501=>((some (([x10]:List Int):List Int)).bind fun y504=>(if t501.length + y504.length<17592186044416 then ((spec_l2Try.f k x0 (t501++y504) x2 x495000 x495001 x495002).bind fun bt510=>(spec_l2Try.l0 k x0 x1 x2 (wrap64 (x10 + 1)) bt510.1 bt510.2.1 bt510.2.2)) else (none)))))) else (some (x495000,x495001,x495002))
def spec_l2Try.f:Nat→List (S31)→List Int→Int→List Int→Int→Int→Option (List Int × Int × Int)
 | 0,_,_,_,_,_,_=>none
 | k + 1,l0,l1,a2,l3_0,a3_1,a3_2=>if (l1.length:Int)=(l0.length:Int) then ((spec_l2Value.f k l0 l1 a2).bind fun t496=>(if a3_2=0 then (spec_l2Try.j0 k l1 t496 true l3_0 a3_1 a3_2) else (spec_l2Try.j0 k l1 t496 (decide (t496<a3_1)) l3_0 a3_1 a3_2))) else (spec_l2Try.l0 k l0 l1 a2 0 l3_0 a3_1 a3_2)
end
theorem spec_l2Try.mono_l:∀ k,(∀ y0 y1 y2 y3 y4 y5,LeO (spec_l2Try.f k y0 y1 y2 y3 y4 y5) (spec_l2Try.f (k + 1) y0 y1 y2 y3 y4 y5))∧(∀ y0 y1 y2 y3 y4 y5,LeO (spec_l2Try.j0 k y0 y1 y2 y3 y4 y5) (spec_l2Try.j0 (k + 1) y0 y1 y2 y3 y4 y5))∧(∀ y0 y1 y2 y3 y4 y5 y6,LeO (spec_l2Try.l0 k y0 y1 y2 y3 y4 y5 y6) (spec_l2Try.l0 (k + 1) y0 y1 y2 y3 y4 y5 y6))
 | 0=>⟨fun _ _ _ _ _ _ r h=>by simp [spec_l2Try.f] at h,fun _ _ _ _ _ _ r h=>by simp [spec_l2Try.j0] at h,fun _ _ _ _ _ _ _ r h=>by simp [spec_l2Try.l0] at h⟩
 | k + 1=>by
  obtain ⟨ih0,ih1,ih2⟩:=spec_l2Try.mono_l k
  refine ⟨?_,?_,?_⟩ <;> intros <;> first|unfold spec_l2Try.f|unfold spec_l2Try.j0|unfold spec_l2Try.l0
  all_goals repeat' first|(with_reducible first|apply ih0|apply ih1|apply ih2|exact spec_l1Has.mono _ _ _|exact spec_l2Value.mono _ _ _ _|exact LeO.refl _|exact LeO.none _|refine LeO.ite ?_ ?_|refine LeO.bind ?_ (fun _=>?_))|apply ih0|apply ih1|apply ih2|exact spec_l1Has.mono _ _ _|exact spec_l2Value.mono _ _ _ _|exact LeO.none _|refine LeO.ite ?_ ?_|refine LeO.bind ?_ (fun _=>?_)
theorem spec_l2Try.mono:∀ a0 a1 a2 a3 a4 a5 k,LeO (spec_l2Try.f k a0 a1 a2 a3 a4 a5) (spec_l2Try.f (k + 1) a0 a1 a2 a3 a4 a5):=by
 intro a0 a1 a2 a3 a4 a5 k
 obtain ⟨ih0,ih1,ih2⟩:=spec_l2Try.mono_l k
 exact ih0 a0 a1 a2 a3 a4 a5
def spec_l2Try.T12:Bool × List (List Nat × List Nat):=(true,[([],[]),([],[]),([1],[1]),([],[]),([3],[3]),([2,4,2],[2,4]),([],[]),([],[]),([0,5,6,7,5],[0,5,6,7]),([8,8,0,1,2,3,4,5,6,7,8],[8])])
def spec_l2Try.B12:List Nat:=[0,0,2,0,8,30,0,0,255,511]
theorem spec_l2Try.tab12:rtab .any (opsOf Try.f110 12)=spec_l2Try.T12:=by kernel_rfl
theorem spec_l2Try.bits12:waitsOk spec_l2Try.T12.2 spec_l2Try.B12=true:=by kernel_rfl
set_option maxHeartbeats 8000000 in
set_option maxRecDepth 100000 in
theorem spec_l2Try.calls (k:Nat):∀ (A0:Option Addr) (c0:Nat) (l0:List (S31)) (A1:Option Addr) (c1:Nat) (l1:List Int) (a2:Int) (P3_0_:Nat→Prop) (A3_0:Option Addr) (c3_0:Nat) (l3_0:List Int) (a3_1:Int) (a3_2:Int) (r1:List Int) (r2:Int) (r3:Int) (w:World) (hr0:Kd.C k31 w A0 l0.length l0) (hc0:l0.length≤c0) (hr1:Kd.C (Kd.int .i64) w A1 l1.length l1) (hc1:l1.length≤c1) (hs3_0:Kd.V (Kd.int .i64) 3 w w.heap.size (fun k_=>P3_0_ k_) (.slice A3_0 l3_0.length c3_0) l3_0) (h:spec_l2Try.f k l0 l1 a2 l3_0 a3_1 a3_2=some (r1,r2,r3)),
  Calls Try.prog 110 #[.slice A0 l0.length c0,.slice A1 l1.length c1,.int .i64 a2,.agg #[.slice A3_0 l3_0.length c3_0,.int .i64 a3_1,.int .i64 a3_2]] w fun e w'=>∃ v0_:Value,e=.returned (.agg #[v0_,.int .i64 r2,.int .i64 r3])∧Kd.V (Kd.int .i64) 3 w' w.heap.size (fun k_=>(P3_0_ k_∨w.heap.size≤k_)) v0_ r1∧Below w.heap.size w w':=by
 induction k using Nat.strongRecOn with
 | _ k ih=>
 intro A0 c0 l0 A1 c1 l1 a2 P3_0_ A3_0 c3_0 l3_0 a3_1 a3_2 r1 r2 r3 w hr0 hc0 hr1 hc1 hs3_0 h
 cases k with
 | zero=>exact absurd h (by simp [spec_l2Try.f])
 | succ k=>
 simp only [spec_l2Try.f] at h
 have hu96:=Try.underlying96
 have HR0:=Aside0.mk hr0
 have HC0:=Aside0.mk hc0
 clear hr0 hc0
 have HR1:=Aside0.mk hr1
 have HC1:=Aside0.mk hc1
 clear hr1 hc1
 have HO3_0:=Aside0.mk (show Kd.V (Kd.int .i64) 3 w w.heap.size (fun k_=>(P3_0_ k_∨w.heap.size≤k_)) (.slice A3_0 l3_0.length c3_0) l3_0 from Kd.V_mono hs3_0 (fun k_ hk=>.inl hk))
 have HB:=Aside0.mk (Below.refl w.heap.size w)
 have H:(if (l1.length:Int)=(l0.length:Int) then ((spec_l2Value.f k l0 l1 a2).bind fun t496=>(if a3_2=0 then (spec_l2Try.j0 k l1 t496 true l3_0 a3_1 a3_2) else (spec_l2Try.j0 k l1 t496 (decide (t496<a3_1)) l3_0 a3_1 a3_2))) else (spec_l2Try.l0 k l0 l1 a2 0 l3_0 a3_1 a3_2))=some (r1,r2,r3):=h
 clear h
 by_cases c5:(l1.length:Int)=(l0.length:Int)
 ·rw [if_pos c5] at H
  have c5b0:((l1.length:Int) == (l0.length:Int))=true:=beq_iff_eq.mpr c5
  have c5b1:((l1.length:Int) != (l0.length:Int))=false:=bne_eq_false_iff_eq.mpr c5
  have c5b2:(l1.length == l0.length)=true:=by first|simpa using c5|(simp at c5 ⊢;omega)
  clear c5
  replace H:=Option.bind_eq_some_iff.mp H
  obtain ⟨t496,A60,H⟩:=H
  try dsimp only at H
  have A6:=Aside0.mk A60
  clear A60
  have HC7:=Aside0.mk H
  clear H
  go_enter Try.func110,Try.ntmps110
  go_upto_region 3 with (first|((with_reducible refine gate_dst (N:=7) rfl ?_);refine box_event ?hg (N:=7) ?hd (cs:=#[.slice A3_0 l3_0.length c3_0,.int .i64 a3_1,.int .i64 a3_2]) (t:=96) ?hr ?_;(case hd=>rfl);(case hg=>rfl);(case hr=>first|(go_simp;done)|(go_simp;rfl));intro gb494 hg w8 hbox hb;have n0_:=Aside0.mk (Kd.V_below (Kd.V_elderB zz30 gb494 (Nat.le_of_eq hg.symm)) hb);have n1_:=zb1 hb;have n2_:=Aside0.mk (hbox);have n3_:=Aside0.mk ((by rw [hg];exact (below_size zb):w.heap.size≤gb494));have n4_:=Aside0.mk ((by rw [hg];exact (below_size zb):w.heap.size≤gb494));clear HO3_0;clear HB;have HO3_0:=n0_;have HB:=n1_;have BK494:=n2_;have GW494:=n3_;have GE494:=n4_;clear n0_ n1_ n2_ n3_ n4_;clear hb hbox hg)|((with_reducible refine gate_dst (N:=8) rfl ?_);refine box_event ?hg (N:=8) ?hd (cs:=#[.slice none 0 0,.int .i64 0,.int .i64 0]) (t:=96) ?hr ?_;(case hd=>rfl);(case hg=>rfl);(case hr=>first|(go_simp;done)|(go_simp;rfl));intro gb495 hg w9 hbox hb;have n0_:=Aside0.mk (Kd.V_below (Kd.V_elderB zz30 gb495 (Nat.le_of_eq hg.symm)) hb);have n1_:=Aside0.mk (blk_below (g:=gb494) (o:=.cells #[.slice A3_0 l3_0.length c3_0,.int .i64 a3_1,.int .i64 a3_2] 96 (0,0)) zz8 hb);have n2_:=Aside0.mk (below_step zz27 hb);have n3_:=Aside0.mk (hbox);have n4_:=Aside0.mk ((by rw [hg];exact (below_size zz27):w.heap.size≤gb495));have n5_:=Aside0.mk ((by rw [hg];exact (below_size zz27):w.heap.size≤gb495));have n6_:=Aside0.mk ((by rw [hg];exact Nat.ne_of_lt (blk_lt (g:=gb494) (o:=.cells #[.slice A3_0 l3_0.length c3_0,.int .i64 a3_1,.int .i64 a3_2] 96 (0,0)) zz8):gb494≠gb495));have n7_:=Aside0.mk ((by rw [hg];exact Nat.ne_of_gt (blk_lt (g:=gb494) (o:=.cells #[.slice A3_0 l3_0.length c3_0,.int .i64 a3_1,.int .i64 a3_2] 96 (0,0)) zz8):gb495≠gb494));clear HO3_0;clear BK494;clear HB;have HO3_0:=n0_;have BK494:=n1_;have HB:=n2_;have BK495:=n3_;have GW495:=n4_;have GE495:=n5_;have NB494_495:=n6_;have NB495_494:=n7_;clear n0_ n1_ n2_ n3_ n4_ n5_ n6_ n7_;clear hb hbox hg)|((with_reducible refine gate_callee (f:=113) rfl ?_);refine zgo 19 Try.func113 #[.slice A0 l0.length c0,.slice A1 l1.length c1,.int .i64 a2] ?_;(with_reducible refine (spec_l2Value.calls k _ _ l0 _ _ l1 a2 t496 _ ?side1 ?side2 ?side3 ?side4 A6.out).mono ?_);(case side1=>exact zC (Kd.C_below HR0.out HB.out));(case side2=>exact HC0.out);(case side3=>exact zC (Kd.C_below HR1.out HB.out));(case side4=>exact HC1.out);rintro e w10 ⟨rfl,hb⟩;refine ⟨_,rfl,?_⟩;replace HO3_0:=Aside0.mk (Kd.V_below zz30 hb);replace BK494:=Aside0.mk (blk_below (g:=gb494) (o:=.cells #[.slice A3_0 l3_0.length c3_0,.int .i64 a3_1,.int .i64 a3_2] 96 (0,0)) zz8 hb);replace BK495:=Aside0.mk (blk_below (g:=gb495) (o:=.cells #[.slice none 0 0,.int .i64 0,.int .i64 0] 96 (0,0)) zz14 hb);replace HB:=Aside0.mk (below_step zz4 hb);(try clear hb)))
  (try simp only [Act.put,List.setIfInBounds_toArray,List.set_cons_zero,List.set_cons_succ])
  go_cut [28] (fun v28 wc=>∃ (kq:Nat) (x28_6:Bool),v28=.bool x28_6∧Aside0 (spec_l2Try.j0 kq l1 t496 x28_6 l3_0 a3_1 a3_2=some (r1,r2,r3))∧Aside0 (kq≤k)∧Aside0 (Kd.V (Kd.int .i64) 3 wc w.heap.size (fun k_=>(P3_0_ k_∨w.heap.size≤k_)∧k_≠gb494∧k_≠gb495) (.slice A3_0 l3_0.length c3_0) l3_0)∧Aside0 (wc.heap[gb494]?=some (.cells #[(.slice A3_0 l3_0.length c3_0),.int .i64 a3_1,.int .i64 a3_2] 96 (0,0)))∧Aside0 (wc.heap[gb495]?=some (.cells #[(.slice none 0 0),.int .i64 0,.int .i64 0] 96 (0,0)))∧Aside0 (Below w.heap.size w wc))
  case first=>
   have H:=HC7.out
   clear HC7
   by_cases c11:a3_2=0
   ·rw [if_pos c11] at H
    have c11b0:(a3_2 == 0)=true:=beq_iff_eq.mpr c11
    have c11b1:(a3_2 != 0)=false:=bne_eq_false_iff_eq.mpr c11
    clear c11
    (first|rw [c11b0]|(simp only [i64_w,i32_w];rw [c11b0])|skip)
    have H':=Aside0.mk H
    clear H
    have hnb12:=NB494_495.out
    have hnc12:=NB495_494.out
    obtain ⟨hcz13_0,hcz13_1,hcz13_2,hfz13_0,hfz13_1,hfz13_2⟩:=zk3 BK494.out
    go_wp2
    go_meet
    case rel=>exact ⟨_,(true),zo,H',⟨by first|omega|exact Nat.le_refl _⟩,⟨zz43⟩,⟨zz8⟩,⟨zz14⟩,⟨zz4⟩⟩
   rw [if_neg c11] at H
   have c11b0:(a3_2 == 0)=false:=beq_eq_false_iff_ne.mpr c11
   have c11b1:(a3_2 != 0)=true:=bne_iff_ne.mpr c11
   (first|rw [c11b0]|(simp only [i64_w,i32_w];rw [c11b0])|skip)
   have H':=Aside0.mk H
   clear H
   have hnb14:=NB494_495.out
   have hnc14:=NB495_494.out
   obtain ⟨hcz15_0,hcz15_1,hcz15_2,hfz15_0,hfz15_1,hfz15_2⟩:=zk3 BK494.out
   go_wp2
   go_meet
   case rel=>exact ⟨_,(decide (t496<a3_1)),zo,H',⟨by first|omega|exact Nat.le_refl _⟩,⟨zz43⟩,⟨zz8⟩,⟨zz14⟩,⟨zz4⟩⟩
  case rest=>
   clear HC7
   obtain ⟨kq,x28_6,rfl,HA,HJ6,HO_495000,BK494,BK495,HB⟩:=hcut
   cases kq with
   | zero=>exact absurd HA.out (by simp [spec_l2Try.j0])
   | succ kj6=>
    have H:=HA.out
    clear HA
    simp only [spec_l2Try.j0] at H
    by_cases c16:x28_6=true
    ·subst c16
     rw [if_pos rfl] at H
     replace H:=Option.bind_eq_some_iff.mp H
     obtain ⟨t497,A170,H⟩:=H
     try dsimp only at H
     have A17:=Aside0.mk A170
     clear A170
     simp only [Option.some.injEq,Prod.mk.injEq] at H
     obtain ⟨rfl,rfl,rfl⟩:=H
     go_wp2_with (first|((with_reducible refine gate_callee (f:=83) rfl ?_);refine zgo 30 Try.func83 #[.slice A1 l1.length c1] ?_;(with_reducible refine (spec_l1Own.calls _ _ l1 t497 _ ?side1 ?side2 A17.out).mono ?_);(case side1=>exact zC (Kd.C_below HR1.out HB.out));(case side2=>exact HC1.out);rintro e w18 ⟨v498,rfl,ho0,hb⟩;refine ⟨_,rfl,?_⟩;replace HO_495000:=Aside0.mk (Kd.V_elder' zz24 (Kd.R_base ho0) hb);have HO499:=Aside0.mk (Kd.R_lower (Kd.R_newM (M:=fun k_=>(w.heap.size≤k_)) ho0 (below_size zz4) (fun k_ h_=>h_)) (below_size zz4));replace BK494:=Aside0.mk (blk_below (g:=gb494) (o:=.cells #[.slice A3_0 l3_0.length c3_0,.int .i64 a3_1,.int .i64 a3_2] 96 (0,0)) zz8 hb);replace BK495:=Aside0.mk (blk_below (g:=gb495) (o:=.cells #[.slice none 0 0,.int .i64 0,.int .i64 0] 96 (0,0)) zz14 hb);replace HB:=Aside0.mk (below_step zz4 hb);(try clear hb);(try clear ho0);obtain ⟨Ao19,co19,eo19⟩:=Kd.R_slice HO499.out;subst eo19;have hnb20:=NB495_494.out;have hnc20:=NB494_495.out;obtain ⟨hcz21_0,hcz21_1,hcz21_2,hfz21_0,hfz21_1,hfz21_2⟩:=zk3 BK495.out))
     refine bodyPost_ret (results_cell_row rfl _ _ gb495 96 #[.slice Ao19 t497.length co19,.int .i64 t496,.int .i64 1] (0,0) _ rfl (by (with_reducible repeat (first|refine blk_drewN ?_ _|refine blk_drew ?_|refine blk_alloc ?_ _));refine blk_put (cs:=#[.slice Ao19 t497.length co19,.int .i64 t496,.int .i64 0]) ?_ 2 _ rfl;(with_reducible repeat (first|refine blk_drewN ?_ _|refine blk_drew ?_|refine blk_alloc ?_ _));refine blk_put (cs:=#[.slice Ao19 t497.length co19,.int .i64 0,.int .i64 0]) ?_ 1 _ rfl;(with_reducible repeat (first|refine blk_drewN ?_ _|refine blk_drew ?_|refine blk_alloc ?_ _));refine blk_put (cs:=#[.slice none 0 0,.int .i64 0,.int .i64 0]) ?_ 0 _ rfl;(with_reducible repeat (first|refine blk_drewN ?_ _|refine blk_drew ?_|refine blk_alloc ?_ _));exact BK495.out) Try.underlying96 rfl (by kernel_rfl)) rfl ?_
     exact ⟨_,zz0,Kd.V_mono (Kd.R_V (by (with_reducible repeat (first|apply Kd.R_alloc|apply Kd.R_drewN|apply Kd.R_drew));exact Kd.R_mono (Kd.R_far (p:=⟨gb495,2,none⟩) (Kd.R_far (p:=⟨gb495,1,none⟩) (Kd.R_far (p:=⟨gb495,0,none⟩) (Kd.R_types HO499.out BK495.out (by decide)) (fun _ hk=>hk.2) (.slice Ao19 t497.length co19)) (fun _ hk=>hk.2) (.int .i64 t496)) (fun _ hk=>hk.2) (.int .i64 1)) (fun _ hk=>hk.1.1))) (fun k_ hk=>by first|exact ⟨(.inr (hk.1)),hk.2⟩|exact (.inr (hk))),zz4⟩
    replace c16:=Bool.eq_false_iff.mpr c16
    subst c16
    rw [if_neg (show ¬ (false=true) by decide)] at H
    by_cases c22:t496=a3_1
    rotate_left
    ·rw [if_neg c22] at H
     have c22b0:(t496 == a3_1)=false:=beq_eq_false_iff_ne.mpr c22
     have c22b1:(t496 != a3_1)=true:=bne_iff_ne.mpr c22
     simp only [Option.some.injEq,Prod.mk.injEq] at H
     obtain ⟨rfl,rfl,rfl⟩:=H
     have hnb26:=NB494_495.out
     have hnc26:=NB495_494.out
     obtain ⟨hcz27_0,hcz27_1,hcz27_2,hfz27_0,hfz27_1,hfz27_2⟩:=zk3 BK494.out
     obtain ⟨hcz28_0,hcz28_1,hcz28_2,hfz28_0,hfz28_1,hfz28_2⟩:=zk3 BK495.out
     go_wp2
     refine bodyPost_ret (results_cell_row rfl _ _ gb495 96 #[.slice A3_0 l3_0.length c3_0,.int .i64 a3_1,.int .i64 a3_2] (0,0) _ rfl (by (with_reducible repeat (first|refine blk_drewN ?_ _|refine blk_drew ?_|refine blk_alloc ?_ _));refine blk_put (cs:=#[.slice A3_0 l3_0.length c3_0,.int .i64 a3_1,.int .i64 0]) ?_ 2 _ rfl;(with_reducible repeat (first|refine blk_drewN ?_ _|refine blk_drew ?_|refine blk_alloc ?_ _));refine blk_put (cs:=#[.slice A3_0 l3_0.length c3_0,.int .i64 0,.int .i64 0]) ?_ 1 _ rfl;(with_reducible repeat (first|refine blk_drewN ?_ _|refine blk_drew ?_|refine blk_alloc ?_ _));refine blk_put (cs:=#[.slice none 0 0,.int .i64 0,.int .i64 0]) ?_ 0 _ rfl;(with_reducible repeat (first|refine blk_drewN ?_ _|refine blk_drew ?_|refine blk_alloc ?_ _));exact BK495.out) Try.underlying96 rfl (by kernel_rfl)) rfl ?_
     exact ⟨_,zz0,by (with_reducible repeat (first|apply Kd.V_alloc|apply Kd.V_drewN|apply Kd.V_drew));exact Kd.V_mono (Kd.V_far (p:=⟨gb495,2,none⟩) (Kd.V_far (p:=⟨gb495,1,none⟩) (Kd.V_far (p:=⟨gb495,0,none⟩) (Kd.V_mono HO_495000.out (fun k_ hk=>(⟨hk,hk.2.2⟩:_∧k_≠gb495))) (fun _ hk=>hk.2) (.slice A3_0 l3_0.length c3_0)) (fun _ hk=>hk.2) (.int .i64 a3_1)) (fun _ hk=>hk.2) (.int .i64 a3_2)) (fun _ hk=>hk.1.1),zz4⟩
    rw [if_pos c22] at H
    have c22b0:(t496 == a3_1)=true:=beq_iff_eq.mpr c22
    have c22b1:(t496 != a3_1)=false:=bne_eq_false_iff_eq.mpr c22
    clear c22
    simp only [Option.some.injEq,Prod.mk.injEq] at H
    obtain ⟨rfl,rfl,rfl⟩:=H
    have hnb23:=NB494_495.out
    have hnc23:=NB495_494.out
    obtain ⟨hcz24_0,hcz24_1,hcz24_2,hfz24_0,hfz24_1,hfz24_2⟩:=zk3 BK494.out
    obtain ⟨hcz25_0,hcz25_1,hcz25_2,hfz25_0,hfz25_1,hfz25_2⟩:=zk3 BK495.out
    go_wp2
    refine bodyPost_ret (results_cell_row rfl _ _ gb495 96 #[.slice A3_0 l3_0.length c3_0,.int .i64 a3_1,.int .i64 (wrap64 (a3_2 + 1))] (0,0) _ rfl (by (with_reducible repeat (first|refine blk_drewN ?_ _|refine blk_drew ?_|refine blk_alloc ?_ _));refine blk_put (cs:=#[.slice A3_0 l3_0.length c3_0,.int .i64 a3_1,.int .i64 0]) ?_ 2 _ rfl;(with_reducible repeat (first|refine blk_drewN ?_ _|refine blk_drew ?_|refine blk_alloc ?_ _));refine blk_put (cs:=#[.slice A3_0 l3_0.length c3_0,.int .i64 0,.int .i64 0]) ?_ 1 _ rfl;(with_reducible repeat (first|refine blk_drewN ?_ _|refine blk_drew ?_|refine blk_alloc ?_ _));refine blk_put (cs:=#[.slice none 0 0,.int .i64 0,.int .i64 0]) ?_ 0 _ rfl;(with_reducible repeat (first|refine blk_drewN ?_ _|refine blk_drew ?_|refine blk_alloc ?_ _));refine blk_far ?_ NB495_494.out _;(with_reducible repeat (first|refine blk_drewN ?_ _|refine blk_drew ?_|refine blk_alloc ?_ _));exact BK495.out) Try.underlying96 rfl (by kernel_rfl)) rfl ?_
    exact ⟨_,zz0,by (with_reducible repeat (first|apply Kd.V_alloc|apply Kd.V_drewN|apply Kd.V_drew));exact Kd.V_mono (Kd.V_far (p:=⟨gb495,2,none⟩) (Kd.V_far (p:=⟨gb495,1,none⟩) (Kd.V_far (p:=⟨gb495,0,none⟩) (Kd.V_far (p:=⟨gb494,2,none⟩) (Kd.V_mono (Kd.V_mono HO_495000.out (fun k_ hk=>(⟨hk,hk.2.1⟩:_∧k_≠gb494))) (fun k_ hk=>(⟨hk,hk.1.2.2⟩:_∧k_≠gb495))) (fun _ hk=>hk.1.2) (.int .i64 (wrap64 (a3_2 + 1)))) (fun _ hk=>hk.2) (.slice A3_0 l3_0.length c3_0)) (fun _ hk=>hk.2) (.int .i64 a3_1)) (fun _ hk=>hk.2) (.int .i64 (wrap64 (a3_2 + 1)))) (fun _ hk=>hk.1.1.1),zz4⟩
 rw [if_neg c5] at H
 have c5b0:((l1.length:Int) == (l0.length:Int))=false:=beq_eq_false_iff_ne.mpr c5
 have c5b1:((l1.length:Int) != (l0.length:Int))=true:=bne_iff_ne.mpr c5
 have c5b2:(l1.length == l0.length)=false:=by first|simpa using c5|(simp at c5 ⊢;omega)
 have H':=Aside0.mk H
 clear H
 go_enter Try.func110,Try.ntmps110
 go_wp2_with (first|((with_reducible refine gate_dst (N:=7) rfl ?_);refine box_event ?hg (N:=7) ?hd (cs:=#[.slice A3_0 l3_0.length c3_0,.int .i64 a3_1,.int .i64 a3_2]) (t:=96) ?hr ?_;(case hd=>rfl);(case hg=>rfl);(case hr=>first|(go_simp;done)|(go_simp;rfl));intro gb494 hg w29 hbox hb;have n0_:=Aside0.mk (Kd.V_below (Kd.V_elderB zz30 gb494 (Nat.le_of_eq hg.symm)) hb);have n1_:=zb1 hb;have n2_:=Aside0.mk (hbox);have n3_:=Aside0.mk ((by rw [hg];exact (below_size zb):w.heap.size≤gb494));have n4_:=Aside0.mk ((by rw [hg];exact (below_size zb):w.heap.size≤gb494));clear HO3_0;clear HB;have HO3_0:=n0_;have HB:=n1_;have BK494:=n2_;have GW494:=n3_;have GE494:=n4_;clear n0_ n1_ n2_ n3_ n4_;clear hb hbox hg)|((with_reducible refine gate_dst (N:=8) rfl ?_);refine box_event ?hg (N:=8) ?hd (cs:=#[.slice none 0 0,.int .i64 0,.int .i64 0]) (t:=96) ?hr ?_;(case hd=>rfl);(case hg=>rfl);(case hr=>first|(go_simp;done)|(go_simp;rfl));intro gb495 hg w30 hbox hb;have n0_:=Aside0.mk (Kd.V_below (Kd.V_elderB zz30 gb495 (Nat.le_of_eq hg.symm)) hb);have n1_:=Aside0.mk (blk_below (g:=gb494) (o:=.cells #[.slice A3_0 l3_0.length c3_0,.int .i64 a3_1,.int .i64 a3_2] 96 (0,0)) zz8 hb);have n2_:=Aside0.mk (below_step zz27 hb);have n3_:=Aside0.mk (hbox);have n4_:=Aside0.mk ((by rw [hg];exact (below_size zz27):w.heap.size≤gb495));have n5_:=Aside0.mk ((by rw [hg];exact (below_size zz27):w.heap.size≤gb495));have n6_:=Aside0.mk ((by rw [hg];exact Nat.ne_of_lt (blk_lt (g:=gb494) (o:=.cells #[.slice A3_0 l3_0.length c3_0,.int .i64 a3_1,.int .i64 a3_2] 96 (0,0)) zz8):gb494≠gb495));have n7_:=Aside0.mk ((by rw [hg];exact Nat.ne_of_gt (blk_lt (g:=gb494) (o:=.cells #[.slice A3_0 l3_0.length c3_0,.int .i64 a3_1,.int .i64 a3_2] 96 (0,0)) zz8):gb495≠gb494));clear HO3_0;clear BK494;clear HB;have HO3_0:=n0_;have BK494:=n1_;have HB:=n2_;have BK495:=n3_;have GW495:=n4_;have GE495:=n5_;have NB494_495:=n6_;have NB495_494:=n7_;clear n0_ n1_ n2_ n3_ n4_ n5_ n6_ n7_;clear hb hbox hg))
 go_loopg [10] k (fun kq v10 w'=>∃ (x10_1:Int) (x495000_1:List Int) (x495001_1:Int) (x495002_1:Int) (u495000:Value),v10=.int .i64 x10_1∧Aside0 (spec_l2Try.l0 kq l0 l1 a2 x10_1 x495000_1 x495001_1 x495002_1=some (r1,r2,r3))∧Aside0 (kq≤k)∧Aside0 (Kd.V (Kd.int .i64) 3 w' w.heap.size (fun k_=>(P3_0_ k_∨w.heap.size≤k_)∧k_≠gb494∧k_≠gb495) u495000 x495000_1)∧Aside0 (w'.heap[gb494]?=some (.cells #[u495000,.int .i64 x495001_1,.int .i64 x495002_1] 96 (0,0)))∧Aside0 (w'.heap[gb495]?=some (.cells #[(.slice none 0 0),.int .i64 0,.int .i64 0] 96 (0,0)))∧Aside0 (Below w.heap.size w w'))
 case atStart=>exact ⟨(0),(l3_0),(a3_1),(a3_2),(.slice A3_0 l3_0.length c3_0),zo,H',⟨Nat.le_refl _⟩,⟨zz43⟩,⟨zz8⟩,⟨zz14⟩,⟨zz4⟩⟩
 case round=>
  clear H'
  obtain ⟨x10_1,x495000_1,x495001_1,x495002_1,u495000,rfl,HA,HK1,HO_495000,BK494,BK495,HB⟩:=hrel
  cases gk with
  | zero=>exact absurd HA.out (by simp [spec_l2Try.l0])
  | succ k1=>
   have H:=HA.out
   clear HA
   simp only [spec_l2Try.l0] at H
   by_cases c31:x10_1<(l0.length:Int)
   rotate_left
   ·rw [if_neg c31] at H
    have c31b0:=decide_eq_false c31
    clear c31
    simp only [Option.some.injEq,Prod.mk.injEq] at H
    obtain ⟨rfl,rfl,rfl⟩:=H
    have hnb51:=NB494_495.out
    have hnc51:=NB495_494.out
    obtain ⟨hcz52_0,hcz52_1,hcz52_2,hfz52_0,hfz52_1,hfz52_2⟩:=zk3 BK494.out
    obtain ⟨Ao53,co53,eo53⟩:=Kd.V_slice HO_495000.out
    subst eo53
    obtain ⟨hcz54_0,hcz54_1,hcz54_2,hfz54_0,hfz54_1,hfz54_2⟩:=zk3 BK495.out
    go_wp2
    refine bodyPost_ret (results_cell_row rfl _ _ gb495 96 #[.slice Ao53 x495000_1.length co53,.int .i64 x495001_1,.int .i64 x495002_1] (0,0) _ rfl (by (with_reducible repeat (first|refine blk_drewN ?_ _|refine blk_drew ?_|refine blk_alloc ?_ _));refine blk_put (cs:=#[.slice Ao53 x495000_1.length co53,.int .i64 x495001_1,.int .i64 0]) ?_ 2 _ rfl;(with_reducible repeat (first|refine blk_drewN ?_ _|refine blk_drew ?_|refine blk_alloc ?_ _));refine blk_put (cs:=#[.slice Ao53 x495000_1.length co53,.int .i64 0,.int .i64 0]) ?_ 1 _ rfl;(with_reducible repeat (first|refine blk_drewN ?_ _|refine blk_drew ?_|refine blk_alloc ?_ _));refine blk_put (cs:=#[.slice none 0 0,.int .i64 0,.int .i64 0]) ?_ 0 _ rfl;(with_reducible repeat (first|refine blk_drewN ?_ _|refine blk_drew ?_|refine blk_alloc ?_ _));exact BK495.out) Try.underlying96 rfl (by kernel_rfl)) rfl ?_
    exact ⟨_,zz0,by (with_reducible repeat (first|apply Kd.V_alloc|apply Kd.V_drewN|apply Kd.V_drew));exact Kd.V_mono (Kd.V_far (p:=⟨gb495,2,none⟩) (Kd.V_far (p:=⟨gb495,1,none⟩) (Kd.V_far (p:=⟨gb495,0,none⟩) (Kd.V_mono HO_495000.out (fun k_ hk=>(⟨hk,hk.2.2⟩:_∧k_≠gb495))) (fun _ hk=>hk.2) (.slice Ao53 x495000_1.length co53)) (fun _ hk=>hk.2) (.int .i64 x495001_1)) (fun _ hk=>hk.2) (.int .i64 x495002_1)) (fun _ hk=>hk.1.1),zz4⟩
   rw [if_pos c31] at H
   have c31b0:=decide_eq_true c31
   clear c31
   replace H:=Option.bind_eq_some_iff.mp H
   obtain ⟨t500,A320,H⟩:=H
   try dsimp only at H
   have A32:=Aside0.mk A320
   clear A320
   by_cases c33:t500=true
   ·subst c33
    rw [if_pos rfl] at H
    have H':=Aside0.mk H
    clear H
    go_wp2_with (first|((with_reducible refine gate_callee (f:=114) rfl ?_);refine zgo 50 Try.func114 #[.slice A1 l1.length c1,.int .i64 x10_1] ?_;(with_reducible refine (spec_l1Has.calls k1 _ _ l1 x10_1 true _ ?side1 ?side2 A32.out).mono ?_);(case side1=>exact zC (Kd.C_below HR1.out HB.out));(case side2=>exact HC1.out);rintro e w' ⟨rfl,⟨nd,rfl⟩⟩;refine ⟨_,rfl,?_⟩))
    go_roundg k1
    case measure=>have:=HK1.out;omega
    case rel=>exact ⟨(wrap64 (x10_1 + 1)),(x495000_1),(x495001_1),(x495002_1),(u495000),zo,H',⟨by have:=HK1.out;omega⟩,⟨zz24⟩,⟨zz8⟩,⟨zz14⟩,⟨zz4⟩⟩
   replace c33:=Bool.eq_false_iff.mpr c33
   subst c33
   rw [if_neg (show ¬ (false=true) by decide)] at H
   replace H:=Option.bind_eq_some_iff.mp H
   obtain ⟨t501,A340,H⟩:=H
   try dsimp only at H
   have A34:=Aside0.mk A340
   clear A340
   obtain ⟨y504,hy504⟩:∃ y_:List Int,y_=(([x10_1]:List Int)):=⟨_,rfl⟩
   replace H:(if t501.length + y504.length<17592186044416 then ((spec_l2Try.f k1 l0 (t501++y504) a2 x495000_1 x495001_1 x495002_1).bind fun bt510=>(spec_l2Try.l0 k1 l0 l1 a2 (wrap64 (x10_1 + 1)) bt510.1 bt510.2.1 bt510.2.2)) else (none))=some (r1,r2,r3):=by first|(rw [hy504];with_reducible exact H)|(have H2_:=(Option.bind_some _ _).symm.trans H;rw [hy504];with_reducible exact H2_)|(have H2_:=(Option.bind_some _ _).symm.trans H;with_reducible exact H2_)|with_reducible exact H|(rw [hy504];exact H)|exact H
   have Ny504:=Aside0.mk hy504
   clear hy504
   by_cases c35:t501.length + y504.length<17592186044416
   rotate_left
   ·rw [if_neg c35] at H
    exact absurd H (by simp)
   rw [if_pos c35] at H
   have LMc35:=Aside0.mk c35
   clear c35
   obtain ⟨y507,hy507⟩:∃ y_:List Int,y_=(t501++y504):=⟨_,rfl⟩
   replace H:((spec_l2Try.f k1 l0 y507 a2 x495000_1 x495001_1 x495002_1).bind fun bt510=>(spec_l2Try.l0 k1 l0 l1 a2 (wrap64 (x10_1 + 1)) bt510.1 bt510.2.1 bt510.2.2))=some (r1,r2,r3):=by first|(rw [hy507];with_reducible exact H)|(have H2_:=(Option.bind_some _ _).symm.trans H;rw [hy507];with_reducible exact H2_)|(have H2_:=(Option.bind_some _ _).symm.trans H;with_reducible exact H2_)|with_reducible exact H|(rw [hy507];exact H)|exact H
   have Ny507:=Aside0.mk hy507
   clear hy507
   replace H:=Option.bind_eq_some_iff.mp H
   obtain ⟨⟨t510,t513,t514⟩,A360,H⟩:=H
   try dsimp only at H
   have A36:=Aside0.mk A360
   clear A360
   have H':=Aside0.mk H
   clear H
   try go_wp2_with (first|((with_reducible refine gate_callee (f:=114) rfl ?_);refine zgo 50 Try.func114 #[.slice A1 l1.length c1,.int .i64 x10_1] ?_;(with_reducible refine (spec_l1Has.calls k1 _ _ l1 x10_1 false _ ?side1 ?side2 A32.out).mono ?_);(case side1=>exact zC (Kd.C_below HR1.out HB.out));(case side2=>exact HC1.out);rintro e w' ⟨rfl,⟨nd,rfl⟩⟩;refine ⟨_,rfl,?_⟩;(try (rw [drewN_self wr];generalize hq_:World.drewN wr _=wr;have n0_:Aside0 (Kd.V (Kd.int .i64) 3 wr w.heap.size (fun k_=>(P3_0_ k_∨w.heap.size≤k_)∧k_≠gb494∧k_≠gb495) u495000 x495000_1):=⟨by rw [←hq_];exact zz24⟩;have n1_:Aside0 (wr.heap[gb494]?=some (.cells #[u495000,.int .i64 x495001_1,.int .i64 x495002_1] 96 (0,0))):=⟨by rw [←hq_];exact zz8⟩;have n2_:Aside0 (wr.heap[gb495]?=some (.cells #[.slice none 0 0,.int .i64 0,.int .i64 0] 96 (0,0))):=⟨by rw [←hq_];exact zz14⟩;have n3_:Aside0 (Below w.heap.size w wr):=⟨by rw [←hq_];exact zz4⟩;clear HO_495000 BK494 BK495 HB hq_;have HO_495000:=n0_;have BK494:=n1_;have BK495:=n2_;have HB:=n3_;clear n0_ n1_ n2_ n3_));obtain ⟨Ao37,co37,eo37⟩:=Kd.V_slice HO_495000.out;subst eo37))
   replace HO_495000:=Aside0.mk (Kd.V_drew HO_495000.out)
   replace BK494:=Aside0.mk (blk_drew BK494.out)
   replace BK495:=Aside0.mk (blk_drew BK495.out)
   replace HB:=Aside0.mk (below_drew1 HB.out)
   refine start_ (n:=10) (S:=fun w'=>w'.cell? ⟨gb494,0,none⟩=some (.slice Ao37 x495000_1.length co37)∧w'.cell? ⟨gb494,1,none⟩=some (.int .i64 x495001_1)∧w'.cell? ⟨gb494,2,none⟩=some (.int .i64 x495002_1)) (ds:=[9]) #[false,false,false,false,false,false,false,false,false,false] (by kernel_rfl) rfl rfl ⟨(blk_cell BK494.out 0).trans rfl,(blk_cell BK494.out 1).trans rfl,(blk_cell BK494.out 2).trans rfl⟩ (fun hHeld=>?_);refine with_tabW spec_l2Try.tab12 spec_l2Try.bits12 (fun HT_ HW_=>?_)
   generalize wr.drew=w38 at HO_495000 BK494 BK495 HB hHeld ⊢
   refine pu_ 0 52 ?_
   refine pu_ 1 53 ?_
   refine pu_ 3 55 ?_
   refine pu_ 6 58 ?_
   refine tk_ 7 59 hHeld ?_
   refine join_ (σ:=Value × Value) 3 #[true,true,true,true,true,false,true,true,false,false] (fun s_=>[(54,s_.1),(56,s_.2)]) (fun s_ w'=>(w'.cell? ⟨gb494,0,none⟩=some (.slice Ao37 x495000_1.length co37)∧w'.cell? ⟨gb494,1,none⟩=some (.int .i64 x495001_1)∧w'.cell? ⟨gb494,2,none⟩=some (.int .i64 x495002_1))∧(Kd.R (Kd.int .i64) 3 w' w.heap.size (fun k_=>(w.heap.size≤k_)∧some k_≠(s_.2:Value).ownBlock) s_.1 t501)∧(Kd.R (Kd.int .i64) 3 w' w.heap.size (fun k_=>(w.heap.size≤k_)∧some k_≠(s_.1:Value).ownBlock) s_.2 y504)∧(Kd.V (Kd.int .i64) 3 w' w.heap.size (fun k_=>(P3_0_ k_∨w.heap.size≤k_)∧some k_≠(s_.1:Value).ownBlock∧some k_≠(s_.2:Value).ownBlock∧k_≠gb494∧k_≠gb495) (.slice Ao37 x495000_1.length co37) x495000_1)∧(w'.heap[gb494]?=some (.cells #[.slice Ao37 x495000_1.length co37,.int .i64 x495001_1,.int .i64 x495002_1] 96 (0,0)))∧(w'.heap[gb495]?=some (.cells #[.slice none 0 0,.int .i64 0,.int .i64 0] 96 (0,0)))∧(Below w.heap.size w w')) ?_ ?_
   rotate_left
   ·intro hCont
    refine two_ (i:=2) (j:=4) (Ni:=some 54) (Nj:=some 56) #[true,true,true,true,false,false,true,true,false,false] #[true,true,false,true,true,false,true,true,false,false] rfl rfl rfl rfl (two_of HT_.out (by kernel_rfl)) (by decide) (by decide) (fun K hK=>?_) (fun K hK=>?_)
    ·skip
     refine goes_ Try.func83 (by kernel_rfl) rfl #[.slice A1 l1.length c1] (by rfl) rfl rfl zl ?_
     with_reducible refine (spec_l1Own.calls _ _ l1 t501 _ ?side1 ?side2 A34.out).mono ?_
     (case side1=>exact zC (Kd.C_below HR1.out HB.out))
     (case side2=>exact HC1.out)
     rintro e w39 ⟨v502,rfl,ho0,hb⟩
     refine ⟨_,rfl,?_⟩
     replace HO_495000:=Aside0.mk (Kd.V_elder' zz24 (Kd.R_base ho0) hb)
     have HO503:=Aside0.mk (Kd.R_lower (Kd.R_newM (M:=fun k_=>(w.heap.size≤k_)) ho0 (below_size zz4) (fun k_ h_=>h_)) (below_size zz4))
     replace BK494:=Aside0.mk (blk_below (g:=gb494) (o:=.cells #[.slice Ao37 x495000_1.length co37,.int .i64 x495001_1,.int .i64 x495002_1] 96 (0,0)) zz8 hb)
     replace BK495:=Aside0.mk (blk_below (g:=gb495) (o:=.cells #[.slice none 0 0,.int .i64 0,.int .i64 0] 96 (0,0)) zz14 hb)
     replace HB:=Aside0.mk (below_step zz4 hb)
     refine hK.out _ _ ⟨(blk_cell BK494.out 0).trans rfl,(blk_cell BK494.out 1).trans rfl,(blk_cell BK494.out 2).trans rfl⟩ (fun hHeld=>?_)
     clear hK K
     refine norm_ (a':=?_) ?_ ?_
     rotate_left
     ·show Act.put _ (some 54) _=_
      simp only [Act.put,List.setIfInBounds_toArray,List.set_cons_zero,List.set_cons_succ,i64_w,i32_w]
      rfl
     refine one_ (i:=4) (N:=some 56) #[true,true,true,true,true,false,true,true,false,false] rfl rfl (one_of HT_.out (by kernel_rfl)) (by decide) (fun K hK=>?_)
     refine Kd.R_lit_step (Kd.int .i64) _ 3 ?hg (N:=56) ?hd (xs:=([x10_1]:List Int)) (inner:=[.int .i64 x10_1]) (ok:=fun _=>True) (okp:=fun _=>True) ?hr ?hp (fun _ hk=>hk) trivial (Below.refl _ _) (Nat.le_refl _) (by simp) ?_;(case hd=>rfl);(case hg=>rfl);(case hr=>first|(go_simp;done)|(go_simp;rfl));(case hp=>exact (Reps.one (show Kd.M (Kd.int .i64) _ _ _ x10_1 [.int .i64 x10_1] from rfl) (Reps.none _ _)))
     intro v505 w40 ho41 hb hg_ hnew_
     clear hg_ hnew_
     (first|rw [←Ny504.out] at ho41|(simp only [Int.reduceToNat] at ho41;rw [←Ny504.out] at ho41))
     have n0_:=Aside0.mk (Kd.V_elder' zz24 (Kd.R_base ho41) hb)
     have n1_:=Aside0.mk (Kd.R_elder' (zR HO503.out) (Kd.R_base ho41) hb)
     have n2_:=Aside0.mk (Kd.R_lower (Kd.R_new' (Kd.R_newM (M:=fun k_=>(w.heap.size≤k_)) ho41 (below_size zz4) (fun k_ h_=>h_)) (Kd.R_lt (zR HO503.out))) (below_size zz4))
     have n3_:=Aside0.mk (blk_below (g:=gb494) (o:=.cells #[.slice Ao37 x495000_1.length co37,.int .i64 x495001_1,.int .i64 x495002_1] 96 (0,0)) zz8 hb)
     have n4_:=Aside0.mk (blk_below (g:=gb495) (o:=.cells #[.slice none 0 0,.int .i64 0,.int .i64 0] 96 (0,0)) zz14 hb)
     have n5_:=Aside0.mk (below_step zz4 hb)
     clear HO_495000
     clear HO503
     clear BK494
     clear BK495
     clear HB
     have HO_495000:=n0_
     have HO503:=n1_
     have HO506:=n2_
     have BK494:=n3_
     have BK495:=n4_
     have HB:=n5_
     clear n0_ n1_ n2_ n3_ n4_ n5_
     clear hb ho41
     refine hK.out _ _ ⟨(blk_cell BK494.out 0).trans rfl,(blk_cell BK494.out 1).trans rfl,(blk_cell BK494.out 2).trans rfl⟩ (fun hHeld=>?_)
     clear hK K
     refine norm_ (a':=?_) ?_ ?_
     rotate_left
     ·show Act.put _ (some 56) _=_
      simp only [Act.put,List.setIfInBounds_toArray,List.set_cons_zero,List.set_cons_succ,i64_w,i32_w]
      rfl
     exact norm_ zz21 (hCont (v502,v505) _ ⟨hHeld,(zR (Kd.R_mono HO503.out (fun _ hk=>⟨hk.1.1,hk.2⟩))),(zR (Kd.R_mono HO506.out (fun _ hk=>⟨hk.1.1,hk.2⟩))),(by (with_reducible repeat (first|apply Kd.V_alloc|apply Kd.V_drewN|apply Kd.V_drew));exact Kd.V_mono HO_495000.out (fun _ hk=>⟨hk.1.1.1,⟨hk.1.2,⟨hk.2,⟨hk.1.1.2.1,hk.1.1.2.2⟩⟩⟩⟩)),zz8,zz14,zz4⟩)
    ·skip
     refine Kd.R_lit_step (Kd.int .i64) _ 3 ?hg (N:=56) ?hd (xs:=([x10_1]:List Int)) (inner:=[.int .i64 x10_1]) (ok:=fun _=>True) (okp:=fun _=>True) ?hr ?hp (fun _ hk=>hk) trivial (Below.refl _ _) (Nat.le_refl _) (by simp) ?_;(case hd=>rfl);(case hg=>rfl);(case hr=>first|(go_simp;done)|(go_simp;rfl));(case hp=>exact (Reps.one (show Kd.M (Kd.int .i64) _ _ _ x10_1 [.int .i64 x10_1] from rfl) (Reps.none _ _)))
     intro v505 w39 ho40 hb hg_ hnew_
     clear hg_ hnew_
     (first|rw [←Ny504.out] at ho40|(simp only [Int.reduceToNat] at ho40;rw [←Ny504.out] at ho40))
     replace HO_495000:=Aside0.mk (Kd.V_elder' zz24 (Kd.R_base ho40) hb)
     have HO506:=Aside0.mk (Kd.R_lower (Kd.R_newM (M:=fun k_=>(w.heap.size≤k_)) ho40 (below_size zz4) (fun k_ h_=>h_)) (below_size zz4))
     replace BK494:=Aside0.mk (blk_below (g:=gb494) (o:=.cells #[.slice Ao37 x495000_1.length co37,.int .i64 x495001_1,.int .i64 x495002_1] 96 (0,0)) zz8 hb)
     replace BK495:=Aside0.mk (blk_below (g:=gb495) (o:=.cells #[.slice none 0 0,.int .i64 0,.int .i64 0] 96 (0,0)) zz14 hb)
     replace HB:=Aside0.mk (below_step zz4 hb)
     clear hb ho40
     refine hK.out _ _ ⟨(blk_cell BK494.out 0).trans rfl,(blk_cell BK494.out 1).trans rfl,(blk_cell BK494.out 2).trans rfl⟩ (fun hHeld=>?_)
     clear hK K
     refine norm_ (a':=?_) ?_ ?_
     rotate_left
     ·show Act.put _ (some 56) _=_
      simp only [Act.put,List.setIfInBounds_toArray,List.set_cons_zero,List.set_cons_succ,i64_w,i32_w]
      rfl
     refine one_ (i:=2) (N:=some 54) #[true,true,true,true,true,false,true,true,false,false] rfl rfl (one_of HT_.out (by kernel_rfl)) (by decide) (fun K hK=>?_)
     refine goes_ Try.func83 (by kernel_rfl) rfl #[.slice A1 l1.length c1] (by rfl) rfl rfl zl ?_
     with_reducible refine (spec_l1Own.calls _ _ l1 t501 _ ?side1 ?side2 A34.out).mono ?_
     (case side1=>exact zC (Kd.C_below HR1.out HB.out))
     (case side2=>exact HC1.out)
     rintro e w41 ⟨v502,rfl,ho0,hb⟩
     refine ⟨_,rfl,?_⟩
     have n0_:=Aside0.mk (Kd.V_elder' zz24 (Kd.R_base ho0) hb)
     have n1_:=Aside0.mk (Kd.R_elder' (zR HO506.out) (Kd.R_base ho0) hb)
     have n2_:=Aside0.mk (Kd.R_lower (Kd.R_new' (Kd.R_newM (M:=fun k_=>(w.heap.size≤k_)) ho0 (below_size zz4) (fun k_ h_=>h_)) (Kd.R_lt (zR HO506.out))) (below_size zz4))
     have n3_:=Aside0.mk (blk_below (g:=gb494) (o:=.cells #[.slice Ao37 x495000_1.length co37,.int .i64 x495001_1,.int .i64 x495002_1] 96 (0,0)) zz8 hb)
     have n4_:=Aside0.mk (blk_below (g:=gb495) (o:=.cells #[.slice none 0 0,.int .i64 0,.int .i64 0] 96 (0,0)) zz14 hb)
     have n5_:=Aside0.mk (below_step zz4 hb)
     clear HO_495000
     clear HO506
     clear BK494
     clear BK495
     clear HB
     have HO_495000:=n0_
     have HO506:=n1_
     have HO503:=n2_
     have BK494:=n3_
     have BK495:=n4_
     have HB:=n5_
     clear n0_ n1_ n2_ n3_ n4_ n5_
     refine hK.out _ _ ⟨(blk_cell BK494.out 0).trans rfl,(blk_cell BK494.out 1).trans rfl,(blk_cell BK494.out 2).trans rfl⟩ (fun hHeld=>?_)
     clear hK K
     refine norm_ (a':=?_) ?_ ?_
     rotate_left
     ·show Act.put _ (some 54) _=_
      simp only [Act.put,List.setIfInBounds_toArray,List.set_cons_zero,List.set_cons_succ,i64_w,i32_w]
      rfl
     exact norm_ zz21 (hCont (v502,v505) _ ⟨hHeld,(zR (Kd.R_mono HO503.out (fun _ hk=>⟨hk.1.1,hk.2⟩))),(zR (Kd.R_mono HO506.out (fun _ hk=>⟨hk.1.1,hk.2⟩))),(by (with_reducible repeat (first|apply Kd.V_alloc|apply Kd.V_drewN|apply Kd.V_drew));exact Kd.V_mono HO_495000.out (fun _ hk=>⟨hk.1.1.1,⟨hk.2,⟨hk.1.2,⟨hk.1.1.2.1,hk.1.1.2.2⟩⟩⟩⟩)),zz8,zz14,zz4⟩)
   rintro ⟨v502,v505⟩ w42 ⟨hS_,h0_,h1_,h2_,h3_,h4_,h5_⟩
   have n0_:Aside0 (Kd.R (Kd.int .i64) 3 w42 w.heap.size (fun k_=>(w.heap.size≤k_)∧some k_≠(v505:Value).ownBlock) v502 t501):=⟨h0_⟩
   have n1_:Aside0 (Kd.R (Kd.int .i64) 3 w42 w.heap.size (fun k_=>(w.heap.size≤k_)∧some k_≠(v502:Value).ownBlock) v505 y504):=⟨h1_⟩
   have n2_:Aside0 (Kd.V (Kd.int .i64) 3 w42 w.heap.size (fun k_=>(P3_0_ k_∨w.heap.size≤k_)∧some k_≠(v502:Value).ownBlock∧some k_≠(v505:Value).ownBlock∧k_≠gb494∧k_≠gb495) (.slice Ao37 x495000_1.length co37) x495000_1):=⟨h2_⟩
   have n3_:Aside0 (w42.heap[gb494]?=some (.cells #[.slice Ao37 x495000_1.length co37,.int .i64 x495001_1,.int .i64 x495002_1] 96 (0,0))):=⟨h3_⟩
   have n4_:Aside0 (w42.heap[gb495]?=some (.cells #[.slice none 0 0,.int .i64 0,.int .i64 0] 96 (0,0))):=⟨h4_⟩
   have n5_:Aside0 (Below w.heap.size w w42):=⟨h5_⟩
   clear HO_495000
   clear BK494
   clear BK495
   clear HB
   clear h0_ h1_ h2_ h3_ h4_ h5_
   have HO503:=n0_
   have HO506:=n1_
   have HO_495000:=n2_
   have BK494:=n3_
   have BK495:=n4_
   have HB:=n5_
   clear n0_ n1_ n2_ n3_ n4_ n5_
   have hHeld:w42.cell? ⟨gb494,0,none⟩=some (.slice Ao37 x495000_1.length co37)∧w42.cell? ⟨gb494,1,none⟩=some (.int .i64 x495001_1)∧w42.cell? ⟨gb494,2,none⟩=some (.int .i64 x495002_1):=hS_
   obtain ⟨Ao44,co44,eo44⟩:=Kd.R_slice HO506.out
   (first|subst eo44|(injection eo44 with f1_ f2_ f3_;have f4_:=f1_.symm;have f5_:=f3_.symm;clear f1_ f2_ f3_;subst f4_;subst f5_))
   refine norm_ (a':=?_) ?_ ?_
   rotate_left
   ·simp only [putAll,Act.put,List.setIfInBounds_toArray,List.set_cons_zero,List.set_cons_succ]
    rfl
   refine one_ (i:=5) (N:=some 57) #[true,true,true,true,true,true,true,true,false,false] rfl rfl (one_of HT_.out (by kernel_rfl)) (by decide) (fun K hK=>?_)
   refine Kd.R_append_rows_step (Kd.int .i64) (w0:=w) w.heap.size (by rfl) (.tmp 54) (.tmp 56) 49 3 (.int .i64 0) 8 rfl Try.underlying49 info3 rfl (by decide) (by omega) v502 t501 y504 _ _ _ (fun k_=>(w.heap.size≤k_)∧some k_≠(.slice Ao44 y504.length co44:Value).ownBlock) (fun _=>False) rfl rfl ?aO ?aR (fun _ _ h=>h) (fun _ h=>h.elim) ?aF ?aB ?aS ?aL ?_
   (case aR=>exact zC ((Kd.R_reads' HO506.out).2.2))
   (case aB=>exact zz4)
   (case aF=>exact (fun k_ hk=>⟨(Nat.le_trans (below_size zz4) hk),Kd.fresh' (Kd.R_lt (zR HO506.out)) k_ hk⟩))
   (case aO=>exact (zR HO503.out))
   (case aS=>exact (below_size zz4))
   (case aL=>have:=LMc35.out;omega)
   intro v508 w43 ho hb hg hat
   rw [←Ny507.out] at ho
   replace HO_495000:=Aside0.mk (Kd.V_afterv (ok:=(fun k_=>(P3_0_ k_∨w.heap.size≤k_)∧some k_≠(.slice Ao44 y504.length co44:Value).ownBlock∧k_≠gb494∧k_≠gb495)) (by (with_reducible repeat (first|apply Kd.V_alloc|apply Kd.V_drewN|apply Kd.V_drew));exact Kd.V_mono HO_495000.out (fun _ hk=>⟨⟨hk.1,⟨hk.2.2.1,⟨hk.2.2.2.1,hk.2.2.2.2⟩⟩⟩,hk.2.1⟩)) hg hat)
   replace BK494:=Aside0.mk (blk_grown (g:=gb494) (o:=.cells #[.slice Ao37 x495000_1.length co37,.int .i64 x495001_1,.int .i64 x495002_1] 96 (0,0)) zz8 hg (Kd.R_ne HO503.out BK494.out (by decide)))
   replace BK495:=Aside0.mk (blk_grown (g:=gb495) (o:=.cells #[.slice none 0 0,.int .i64 0,.int .i64 0] 96 (0,0)) zz14 hg (Kd.R_ne HO503.out BK495.out (by decide)))
   replace HO506:=Aside0.mk (Kd.R_after (ok:=(fun k_=>(w.heap.size≤k_))) (zR HO506.out) hg hat)
   replace HB:=Aside0.mk (hb)
   have HO509:=Aside0.mk (ho)
   clear HO503
   clear ho hb hg hat
   obtain ⟨Ao45,co45,eo45⟩:=Kd.R_slice HO509.out
   (first|subst eo45|(injection eo45 with f1_ f2_ f3_;have f4_:=f1_.symm;have f5_:=f3_.symm;clear f1_ f2_ f3_;subst f4_;subst f5_))
   refine hK.out _ _ ⟨(blk_cell BK494.out 0).trans rfl,(blk_cell BK494.out 1).trans rfl,(blk_cell BK494.out 2).trans rfl⟩ (fun hHeld=>?_)
   clear hK K
   refine norm_ (a':=?_) ?_ ?_
   rotate_left
   ·show Act.put _ (some 57) _=_
    simp only [Act.put,List.setIfInBounds_toArray,List.set_cons_zero,List.set_cons_succ,i64_w,i32_w]
    rfl
   refine one_ (i:=8) (N:=some 60) #[true,true,true,true,true,true,true,true,true,false] rfl rfl (one_of HT_.out (by kernel_rfl)) (by decide) (fun K hK=>?_)
   refine goes_ Try.func110 (by kernel_rfl) rfl #[.slice A0 l0.length c0,.slice Ao45 y507.length co45,.int .i64 a2,.agg #[.slice Ao37 x495000_1.length co37,.int .i64 x495001_1,.int .i64 x495002_1]] (by rfl) rfl rfl zl ?_
   with_reducible refine (ih k1 (by have:=HK1.out;omega) _ _ l0 _ _ y507 a2 (fun k_=>(((P3_0_ k_∨w.heap.size≤k_)∧(some k_≠(.slice Ao44 y504.length co44:Value).ownBlock∧(k_≠gb494∧k_≠gb495)))∧some k_≠(.slice Ao45 y507.length co45:Value).ownBlock)) _ _ x495000_1 x495001_1 x495002_1 t510 t513 t514 _ ?side1 ?side2 ?side3 ?side4 ?side5 A36.out).mono ?_
   (case side1=>exact zC (Kd.C_below HR0.out HB.out))
   (case side2=>exact HC0.out)
   (case side3=>exact zC ((Kd.R_reads' HO509.out).2.2))
   (case side4=>exact (Kd.R_reads' HO509.out).2.1)
   (case side5=>exact HO_495000.out)
   rintro e w46 ⟨v511,rfl,ho0,hb⟩
   refine ⟨_,rfl,?_⟩
   have n0_:=Aside0.mk (Kd.V_below zz24 hb)
   have n1_:=zRb HO506 hb
   have n2_:=zRb HO509 hb
   have n3_:=Aside0.mk (Kd.V_lower (Kd.V_mono (ok':=fun k_=>(P3_0_ k_∨w.heap.size≤k_)∧some k_≠(.slice Ao44 y504.length co44:Value).ownBlock∧some k_≠(.slice Ao45 y507.length co45:Value).ownBlock∧k_≠gb494∧k_≠gb495) ho0 (fun k_ hk_=>⟨Or.elim hk_ (fun hs_=>hs_.1.1) (fun hn_=>(.inr (Nat.le_trans (below_size zz4) hn_))),Or.elim hk_ (fun hs_=>hs_.1.2.1) (fun hn_=>(Kd.fresh' (Kd.R_lt (zR HO506.out)) k_ hn_)),Or.elim hk_ (fun hs_=>hs_.2) (fun hn_=>(Kd.fresh' (Kd.R_lt (zR HO509.out)) k_ hn_)),Or.elim hk_ (fun hs_=>hs_.1.2.2.1) (fun hn_=>(Kd.freshB (g:=gb494) (o:=.cells #[.slice Ao37 x495000_1.length co37,.int .i64 x495001_1,.int .i64 x495002_1] 96 (0,0)) zz8 k_ hn_)),Or.elim hk_ (fun hs_=>hs_.1.2.2.2) (fun hn_=>(Kd.freshB (g:=gb495) (o:=.cells #[.slice none 0 0,.int .i64 0,.int .i64 0] 96 (0,0)) zz14 k_ hn_))⟩)) (below_size zz4))
   have n4_:=Aside0.mk (blk_below (g:=gb494) (o:=.cells #[.slice Ao37 x495000_1.length co37,.int .i64 x495001_1,.int .i64 x495002_1] 96 (0,0)) zz8 hb)
   have n5_:=Aside0.mk (blk_below (g:=gb495) (o:=.cells #[.slice none 0 0,.int .i64 0,.int .i64 0] 96 (0,0)) zz14 hb)
   have n6_:=Aside0.mk (below_step zz4 hb)
   clear HO_495000
   clear HO506
   clear HO509
   clear BK494
   clear BK495
   clear HB
   have HO_495000:=n0_
   have HO506:=n1_
   have HO509:=n2_
   have HO512:=n3_
   have BK494:=n4_
   have BK495:=n5_
   have HB:=n6_
   clear n0_ n1_ n2_ n3_ n4_ n5_ n6_
   obtain ⟨Ao47,co47,eo47⟩:=Kd.V_slice HO512.out
   (first|subst eo47|(injection eo47 with f1_ f2_ f3_;have f4_:=f1_.symm;have f5_:=f3_.symm;clear f1_ f2_ f3_;subst f4_;subst f5_))
   refine hK.out _ _ ⟨(blk_cell BK494.out 0).trans rfl,(blk_cell BK494.out 1).trans rfl,(blk_cell BK494.out 2).trans rfl⟩ (fun hHeld=>?_)
   clear hK K
   refine norm_ (a':=?_) ?_ ?_
   rotate_left
   ·show Act.put _ (some 60) _=_
    simp only [Act.put,List.setIfInBounds_toArray,List.set_cons_zero,List.set_cons_succ,i64_w,i32_w]
    rfl
   refine last_ (i:=9) (N:=none) #[true,true,true,true,true,true,true,true,true,true] rfl rfl (one_of HT_.out (by kernel_rfl)) (by decide) (fun K hK=>?_)
   have hs48:w46.cell? ⟨gb494,0,none⟩=some (.slice Ao37 x495000_1.length co37):=(blk_cell BK494.out 0).trans rfl
   have hfs48:=blk_frozen BK494.out 0
   have hns48_1:=NB495_494.out
   have hms48_1:=NB494_495.out
   have hs49:w46.cell? ⟨gb494,1,none⟩=some (.int .i64 x495001_1):=(blk_cell BK494.out 1).trans rfl
   have hfs49:=blk_frozen BK494.out 1
   have hns49_1:=NB495_494.out
   have hms49_1:=NB494_495.out
   have hs50:w46.cell? ⟨gb494,2,none⟩=some (.int .i64 x495002_1):=(blk_cell BK494.out 2).trans rfl
   have hfs50:=blk_frozen BK494.out 2
   have hns50_1:=NB495_494.out
   have hms50_1:=NB494_495.out
   refine skip_ (w1:=?_) (by rfl) rfl ?_ ?_
   rotate_left
   ·go_simp
    rfl
   refine hK.out _ _ ?_
   clear hK K
   refine done_ (done_of HT_.out (by kernel_rfl)) ?_
   try go_wp2
   go_roundg k1
   case measure=>have:=HK1.out;omega
   case rel=>exact ⟨(wrap64 (x10_1 + 1)),(t510),(t513),(t514),(.slice Ao47 t510.length co47),zo,H',⟨by have:=HK1.out;omega⟩,⟨by (with_reducible repeat (first|apply Kd.V_alloc|apply Kd.V_drewN|apply Kd.V_drew));exact Kd.V_mono (Kd.V_far (p:=⟨gb494,2,none⟩) (Kd.V_far (p:=⟨gb494,1,none⟩) (Kd.V_far (p:=⟨gb494,0,none⟩) (Kd.V_mono HO512.out (fun k_ hk=>(⟨hk,hk.2.2.2.1⟩:_∧k_≠gb494))) (fun _ hk=>hk.2) (.slice Ao47 t510.length co47)) (fun _ hk=>hk.2) (.int .i64 t513)) (fun _ hk=>hk.2) (.int .i64 t514)) (fun _ hk=>⟨hk.1.1,⟨hk.1.2.2.2.1,hk.1.2.2.2.2⟩⟩)⟩,⟨by (with_reducible repeat (first|refine blk_drewN ?_ _|refine blk_drew ?_|refine blk_alloc ?_ _));refine blk_put (cs:=#[.slice Ao47 t510.length co47,.int .i64 t513,.int .i64 x495002_1]) ?_ 2 _ rfl;(with_reducible repeat (first|refine blk_drewN ?_ _|refine blk_drew ?_|refine blk_alloc ?_ _));refine blk_put (cs:=#[.slice Ao47 t510.length co47,.int .i64 x495001_1,.int .i64 x495002_1]) ?_ 1 _ rfl;(with_reducible repeat (first|refine blk_drewN ?_ _|refine blk_drew ?_|refine blk_alloc ?_ _));refine blk_put (cs:=#[.slice Ao37 x495000_1.length co37,.int .i64 x495001_1,.int .i64 x495002_1]) ?_ 0 _ rfl;(with_reducible repeat (first|refine blk_drewN ?_ _|refine blk_drew ?_|refine blk_alloc ?_ _));exact BK494.out⟩,⟨by (with_reducible repeat (first|refine blk_drewN ?_ _|refine blk_drew ?_|refine blk_alloc ?_ _));refine blk_far ?_ NB495_494.out _;(with_reducible repeat (first|refine blk_drewN ?_ _|refine blk_drew ?_|refine blk_alloc ?_ _));refine blk_far ?_ NB495_494.out _;(with_reducible repeat (first|refine blk_drewN ?_ _|refine blk_drew ?_|refine blk_alloc ?_ _));refine blk_far ?_ NB495_494.out _;(with_reducible repeat (first|refine blk_drewN ?_ _|refine blk_drew ?_|refine blk_alloc ?_ _));exact BK495.out⟩,⟨zz4⟩⟩

/-! ### spec_l2All: function 103 -/
def spec_l2All.f (k:Nat) (l0:List (S31)) (a1:Int):Option (List Int × Int × Int):=(spec_l2Try.f k l0 (([]:List Int)) a1 ([]:List Int) 0 0).bind fun bt519=>(some (bt519.1,bt519.2.1,bt519.2.2))
theorem spec_l2All.mono:∀ a0 a1 k,LeO (spec_l2All.f k a0 a1) (spec_l2All.f (k + 1) a0 a1):=by
 intro a0 a1 k
 unfold spec_l2All.f
 repeat' first|(with_reducible first|exact spec_l2Try.mono _ _ _ _ _ _ _|exact LeO.refl _|exact LeO.none _|refine LeO.ite ?_ ?_|refine LeO.bind ?_ (fun _=>?_))|exact spec_l2Try.mono _ _ _ _ _ _ _|exact LeO.none _|refine LeO.ite ?_ ?_|refine LeO.bind ?_ (fun _=>?_)
set_option maxHeartbeats 8000000 in
set_option maxRecDepth 100000 in
theorem spec_l2All.calls (k:Nat) (A0:Option Addr) (c0:Nat) (l0:List (S31)) (a1:Int) (r1:List Int) (r2:Int) (r3:Int) (w:World) (hr0:Kd.C k31 w A0 l0.length l0) (hc0:l0.length≤c0) (h:spec_l2All.f k l0 a1=some (r1,r2,r3)) :
  Calls Try.prog 103 #[.slice A0 l0.length c0,.int .i64 a1] w fun e w'=>∃ v0_:Value,e=.returned (.agg #[v0_,.int .i64 r2,.int .i64 r3])∧Kd.V (Kd.int .i64) 3 w' w.heap.size (fun k_=>(w.heap.size≤k_)) v0_ r1∧Below w.heap.size w w':=by
 have hu96:=Try.underlying96
 have HR0:=Aside0.mk hr0
 have HC0:=Aside0.mk hc0
 clear hr0 hc0
 have HB:=Aside0.mk (Below.refl w.heap.size w)
 have H:((spec_l2Try.f k l0 (([]:List Int)) a1 ([]:List Int) 0 0).bind fun bt519=>(some (bt519.1,bt519.2.1,bt519.2.2)))=some (r1,r2,r3):=h
 clear h
 obtain ⟨y516,hy516⟩:∃ y_:List Int,y_=(([]:List Int)):=⟨_,rfl⟩
 replace H:((spec_l2Try.f k l0 y516 a1 ([]:List Int) 0 0).bind fun bt519=>(some (bt519.1,bt519.2.1,bt519.2.2)))=some (r1,r2,r3):=by first|(rw [hy516];with_reducible exact H)|(have H2_:=(Option.bind_some _ _).symm.trans H;rw [hy516];with_reducible exact H2_)|(have H2_:=(Option.bind_some _ _).symm.trans H;with_reducible exact H2_)|with_reducible exact H|(rw [hy516];exact H)|exact H
 have Ny516:=Aside0.mk hy516
 clear hy516
 replace H:=Option.bind_eq_some_iff.mp H
 obtain ⟨⟨t519,t522,t523⟩,A30,H⟩:=H
 try dsimp only at H
 have A3:=Aside0.mk A30
 clear A30
 simp only [Option.some.injEq,Prod.mk.injEq] at H
 obtain ⟨rfl,rfl,rfl⟩:=H
 go_enter Try.func103,Try.ntmps103
 go_wp2_with (first|((with_reducible refine gate_dst (N:=4) rfl ?_);refine box_event ?hg (N:=4) ?hd (cs:=#[.slice none 0 0,.int .i64 0,.int .i64 0]) (t:=96) ?hr ?_;(case hd=>rfl);(case hg=>rfl);(case hr=>first|(go_simp;done)|(go_simp;rfl));intro gb515 hg w4 hbox hb;have n0_:=zb1 hb;have n1_:=Aside0.mk (hbox);have n2_:=Aside0.mk ((by rw [hg];exact (below_size zb):w.heap.size≤gb515));have n3_:=Aside0.mk ((by rw [hg];exact (below_size zb):w.heap.size≤gb515));clear HB;have HB:=n0_;have BK515:=n1_;have GW515:=n2_;have GE515:=n3_;clear n0_ n1_ n2_ n3_;clear hb hbox hg)|((with_reducible refine gate_dst (N:=6) rfl ?_);refine Kd.R_lit (Kd.int .i64) _ 3 ?hg (N:=6) ?hd (xs:=([]:List Int)) (inner:=[]) (ok:=fun _=>True) (okp:=fun _=>True) ?hr ?hp (fun _ hk=>hk) trivial (Below.refl _ _) (Nat.le_refl _) (by simp) ?_;(case hd=>rfl);(case hg=>rfl);(case hr=>first|(go_simp;done)|(go_simp;rfl));(case hp=>exact (Reps.none _ _));intro v517 w5 ho6 hb hg_ hnew_;clear hg_ hnew_;(first|rw [←Ny516.out] at ho6|(simp only [Int.reduceToNat] at ho6;rw [←Ny516.out] at ho6));have HO518:=Aside0.mk (Kd.R_lower (Kd.R_newM (M:=fun k_=>(w.heap.size≤k_)) ho6 (below_size zz26) (fun k_ h_=>h_)) (below_size zz26));replace BK515:=Aside0.mk (blk_below (g:=gb515) (o:=.cells #[.slice none 0 0,.int .i64 0,.int .i64 0] 96 (0,0)) zz44 hb);replace HB:=Aside0.mk (below_step zz26 hb);clear hb ho6;obtain ⟨Ao7,co7,eo7⟩:=Kd.R_slice HO518.out;subst eo7)|((with_reducible refine gate_callee (f:=110) rfl ?_);refine zgo 9 Try.func110 #[.slice A0 l0.length c0,.slice Ao7 y516.length co7,.int .i64 a1,.agg #[.slice none 0 0,.int .i64 0,.int .i64 0]] ?_;(refine (spec_l2Try.calls k _ _ l0 _ _ y516 a1 (fun k_=>False) _ _ ([]:List Int) 0 0 t519 t522 t523 _ ?side1 ?side2 ?side3 ?side4 ?side5 A3.out).mono ?_);(case side1=>exact zC (Kd.C_below HR0.out HB.out));(case side2=>exact HC0.out);(case side3=>exact zC ((Kd.R_reads' HO518.out).2.2));(case side4=>exact (Kd.R_reads' HO518.out).2.1);(case side5=>exact Kd.V_nil _ _ _ _ _);rintro e w8 ⟨v520,rfl,ho0,hb⟩;refine ⟨_,rfl,?_⟩;have n0_:=zRb HO518 hb;have n1_:=Aside0.mk (Kd.V_lower (Kd.V_mono (ok':=fun k_=>(w.heap.size≤k_)∧some k_≠(.slice Ao7 y516.length co7:Value).ownBlock∧k_≠gb515) ho0 (fun k_ hk_=>⟨Or.elim hk_ (fun hs_=>(hs_).elim) (fun hn_=>(Nat.le_trans (below_size zz26) hn_)),Or.elim hk_ (fun hs_=>(hs_).elim) (fun hn_=>(Kd.fresh' (Kd.R_lt (zR HO518.out)) k_ hn_)),Or.elim hk_ (fun hs_=>(hs_).elim) (fun hn_=>(Kd.freshB (g:=gb515) (o:=.cells #[.slice none 0 0,.int .i64 0,.int .i64 0] 96 (0,0)) zz44 k_ hn_))⟩)) (below_size zz26));have n2_:=Aside0.mk (blk_below (g:=gb515) (o:=.cells #[.slice none 0 0,.int .i64 0,.int .i64 0] 96 (0,0)) zz44 hb);have n3_:=Aside0.mk (below_step zz26 hb);clear HO518;clear BK515;clear HB;have HO518:=n0_;have HO521:=n1_;have BK515:=n2_;have HB:=n3_;clear n0_ n1_ n2_ n3_;(try clear hb);(try clear ho0);obtain ⟨Ao9,co9,eo9⟩:=Kd.V_slice HO521.out;subst eo9;obtain ⟨hcz10_0,hcz10_1,hcz10_2,hfz10_0,hfz10_1,hfz10_2⟩:=zk3 BK515.out))
 refine bodyPost_ret (results_cell_row rfl _ _ gb515 96 #[.slice Ao9 t519.length co9,.int .i64 t522,.int .i64 t523] (0,0) _ rfl (by (with_reducible repeat (first|refine blk_drewN ?_ _|refine blk_drew ?_|refine blk_alloc ?_ _));refine blk_put (cs:=#[.slice Ao9 t519.length co9,.int .i64 t522,.int .i64 0]) ?_ 2 _ rfl;(with_reducible repeat (first|refine blk_drewN ?_ _|refine blk_drew ?_|refine blk_alloc ?_ _));refine blk_put (cs:=#[.slice Ao9 t519.length co9,.int .i64 0,.int .i64 0]) ?_ 1 _ rfl;(with_reducible repeat (first|refine blk_drewN ?_ _|refine blk_drew ?_|refine blk_alloc ?_ _));refine blk_put (cs:=#[.slice none 0 0,.int .i64 0,.int .i64 0]) ?_ 0 _ rfl;(with_reducible repeat (first|refine blk_drewN ?_ _|refine blk_drew ?_|refine blk_alloc ?_ _));exact BK515.out) Try.underlying96 rfl (by kernel_rfl)) rfl ?_
 exact ⟨_,zz0,by (with_reducible repeat (first|apply Kd.V_alloc|apply Kd.V_drewN|apply Kd.V_drew));exact Kd.V_mono (Kd.V_far (p:=⟨gb515,2,none⟩) (Kd.V_far (p:=⟨gb515,1,none⟩) (Kd.V_far (p:=⟨gb515,0,none⟩) (Kd.V_mono HO521.out (fun k_ hk=>(⟨hk,hk.2.2⟩:_∧k_≠gb515))) (fun _ hk=>hk.2) (.slice Ao9 t519.length co9)) (fun _ hk=>hk.2) (.int .i64 t522)) (fun _ hk=>hk.2) (.int .i64 t523)) (fun _ hk=>hk.1.1),zz26⟩

end Go.Proofs.Ytkolecmpncaooaa.XFnLateWeight
-- minified
