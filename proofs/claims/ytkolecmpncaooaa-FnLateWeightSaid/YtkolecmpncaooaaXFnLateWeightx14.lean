-- Written by a program of this session (the kit's print, widened). Proved here: what each function answers, for the arguments that its contract names.
import Derived.Test.YtkolecmpncaooaaXFnLateWeightx0
namespace Go.Proofs.Ytkolecmpncaooaa.XFnLateWeight
open Go.RowKit Go.Proofs.YtkolecmpncaooaaW.PrintWords Go.Proofs.YtkolecmpncaooaaW.PrintLast Go.Proofs.YtkolecmpncaooaaW.PrintMore
attribute [local go_sem] max2_int min2_int max_two min_two max_three min_three max_four min_four   -- for this text's walks alone
attribute [local go_sem] idxA_51_0 idxA_51_1 fldS_45_0 fldS_45_1 fldS_45_2 fldS_96_0 fldS_96_1 fldS_96_2
set_option linter.unusedVariables false
set_option linter.unusedSimpArgs false

/-! ### impl_nextOrder: function 93 -/
mutual
def impl_nextOrder.j1:Nat→List Int→Int→Option (Bool × List Int)
 | 0,_,_=>none
 | k + 1,x0,x3=>if x3<0 then (some (false,x0)) else (impl_nextOrder.l1 k x0 x3 (wrap64 ((x0.length:Int) - 1)))
def impl_nextOrder.l1:Nat→List Int→Int→Int→Option (Bool × List Int)
 | 0,_,_,_=>none
 | k + 1,x0,x3,x4=>if 0≤x4 then (if x4<(x0.length:Int) then (if 0≤x3 then (if x3<(x0.length:Int) then (if (rd x0 x4)<(rd x0 x3) then (impl_nextOrder.l1 k x0 x3 (wrap64 (x4 - 1))) else (impl_nextOrder.l2 k ((x0.set (x3:Int).toNat (rd x0 x4)).set (x4:Int).toNat (rd x0 x3)) (wrap64 (x3 + 1)) (wrap64 ((x0.length:Int) - 1)))) else (none)) else (none)) else (none)) else (none)
def impl_nextOrder.l2:Nat→List Int→Int→Int→Option (Bool × List Int)
 | 0,_,_,_=>none
 | k + 1,x0,x5,x6=>if x5<x6 then (if 0≤x6 then (if x6<(x0.length:Int) then (if 0≤x5 then (if x5<(x0.length:Int) then (impl_nextOrder.l2 k ((x0.set (x5:Int).toNat (rd x0 x6)).set (x6:Int).toNat (rd x0 x5)) (wrap64 (x5 + 1)) (wrap64 (x6 - 1))) else (none)) else (none)) else (none)) else (none)) else (some (true,x0))
def impl_nextOrder.l0:Nat→List Int→Int→Option (Bool × List Int)
 | 0,_,_=>none
 | k + 1,x0,x3=>if x3≥0 then (if 0≤x3 then (if x3<(x0.length:Int) then (if 0≤(wrap64 (x3 + 1)) then (if (wrap64 (x3 + 1))<(x0.length:Int) then (if (rd x0 x3)>(rd x0 (wrap64 (x3 + 1))) then (impl_nextOrder.l0 k x0 (wrap64 (x3 - 1))) else (impl_nextOrder.j1 k x0 x3)) else (none)) else (none)) else (none)) else (none)) else (impl_nextOrder.j1 k x0 x3)
end
def impl_nextOrder.f (k:Nat) (l0:List Int):Option (Bool × List Int):=impl_nextOrder.l0 k l0 (wrap64 ((l0.length:Int) - 2))
theorem impl_nextOrder.mono_l:∀ k,(∀ y0 y1,LeO (impl_nextOrder.j1 k y0 y1) (impl_nextOrder.j1 (k + 1) y0 y1))∧(∀ y0 y1 y2,LeO (impl_nextOrder.l1 k y0 y1 y2) (impl_nextOrder.l1 (k + 1) y0 y1 y2))∧(∀ y0 y1 y2,LeO (impl_nextOrder.l2 k y0 y1 y2) (impl_nextOrder.l2 (k + 1) y0 y1 y2))∧(∀ y0 y1,LeO (impl_nextOrder.l0 k y0 y1) (impl_nextOrder.l0 (k + 1) y0 y1))
 | 0=>⟨fun _ _ r h=>by simp [impl_nextOrder.j1] at h,fun _ _ _ r h=>by simp [impl_nextOrder.l1] at h,fun _ _ _ r h=>by simp [impl_nextOrder.l2] at h,fun _ _ r h=>by simp [impl_nextOrder.l0] at h⟩
 | k + 1=>by
  obtain ⟨ih0,ih1,ih2,ih3⟩:=impl_nextOrder.mono_l k
  refine ⟨?_,?_,?_,?_⟩ <;> intros <;> first|unfold impl_nextOrder.j1|unfold impl_nextOrder.l1|unfold impl_nextOrder.l2|unfold impl_nextOrder.l0
  all_goals repeat' first|(with_reducible first|apply ih0|apply ih1|apply ih2|apply ih3|exact LeO.refl _|exact LeO.none _|refine LeO.ite ?_ ?_|refine LeO.bind ?_ (fun _=>?_))|apply ih0|apply ih1|apply ih2|apply ih3|exact LeO.none _|refine LeO.ite ?_ ?_|refine LeO.bind ?_ (fun _=>?_)
theorem impl_nextOrder.mono:∀ a0 k,LeO (impl_nextOrder.f k a0) (impl_nextOrder.f (k + 1) a0):=by
 intro a0 k
 obtain ⟨ih0,ih1,ih2,ih3⟩:=impl_nextOrder.mono_l k
 unfold impl_nextOrder.f
 repeat' first|(with_reducible first|apply ih0|apply ih1|apply ih2|apply ih3|exact LeO.refl _|exact LeO.none _|refine LeO.ite ?_ ?_|refine LeO.bind ?_ (fun _=>?_))|apply ih0|apply ih1|apply ih2|apply ih3|exact LeO.none _|refine LeO.ite ?_ ?_|refine LeO.bind ?_ (fun _=>?_)
def impl_nextOrder.T2:Bool × List (List Nat × List Nat):=(true,[([],[]),([0],[0]),([1],[1]),([2],[2]),([2],[2]),([3,4,2],[2,3,4]),([5,2],[2,5]),([2],[2]),([2],[2]),([8,2],[2,8]),([7,9,2],[2,7,9]),([10,2],[2,10]),([6,11,2],[2,6,11]),([2,12],[2,12])])
def impl_nextOrder.B2:List Nat:=[0,1,3,7,7,31,63,7,7,263,903,1927,4095,8191]
theorem impl_nextOrder.tab2:rtab .any (opsOf Try.f93 2)=impl_nextOrder.T2:=by kernel_rfl
theorem impl_nextOrder.bits2:waitsOk impl_nextOrder.T2.2 impl_nextOrder.B2=true:=by kernel_rfl
def impl_nextOrder.T7:Bool × List (List Nat × List Nat):=(true,[([],[]),([],[]),([0,1],[0,1]),([2],[2]),([],[]),([],[]),([4,5],[4,5]),([6],[6]),([3,7],[3,7])])
def impl_nextOrder.B7:List Nat:=[0,0,3,7,0,0,48,112,255]
theorem impl_nextOrder.tab7:rtab .any (opsOf Try.f93 7)=impl_nextOrder.T7:=by kernel_rfl
theorem impl_nextOrder.bits7:waitsOk impl_nextOrder.T7.2 impl_nextOrder.B7=true:=by kernel_rfl
def impl_nextOrder.T9:Bool × List (List Nat × List Nat):=(true,[([],[]),([],[]),([],[]),([],[]),([],[]),([],[]),([4,5],[4,5]),([6],[6]),([],[]),([],[]),([8,9],[8,9]),([10],[10]),([0,1,0,1,4,5,6,7,11],[0,1]),([12,7,0,1,4,5,6,7,11],[7,12]),([2,3,0,1,2,3,4,5,6,7,8,9,10,11,12,13],[2,3]),([14,11,13,0,1,2,3,4,5,6,7,8,9,10,11,12,13],[11,14])])
def impl_nextOrder.B9:List Nat:=[0,0,0,0,0,0,48,112,0,0,768,1792,4083,8179,16383,32767]
theorem impl_nextOrder.tab9:rtab .any (opsOf Try.f93 9)=impl_nextOrder.T9:=by kernel_rfl
theorem impl_nextOrder.bits9:waitsOk impl_nextOrder.T9.2 impl_nextOrder.B9=true:=by kernel_rfl
def impl_nextOrder.T13:Bool × List (List Nat × List Nat):=(true,[([],[]),([],[]),([],[]),([],[]),([],[]),([],[]),([4,5],[4,5]),([6],[6]),([],[]),([],[]),([8,9],[8,9]),([10],[10]),([0,1,0,1,4,5,6,7,11],[0,1]),([12,7,0,1,4,5,6,7,11],[7,12]),([2,3,0,1,2,3,4,5,6,7,8,9,10,11,12,13],[2,3]),([14,11,13,0,1,2,3,4,5,6,7,8,9,10,11,12,13],[11,14])])
def impl_nextOrder.B13:List Nat:=[0,0,0,0,0,0,48,112,0,0,768,1792,4083,8179,16383,32767]
theorem impl_nextOrder.tab13:rtab .any (opsOf Try.f93 13)=impl_nextOrder.T13:=by kernel_rfl
theorem impl_nextOrder.bits13:waitsOk impl_nextOrder.T13.2 impl_nextOrder.B13=true:=by kernel_rfl
set_option maxHeartbeats 8000000 in
set_option maxRecDepth 100000 in
theorem impl_nextOrder.calls (k:Nat) (P0_:Nat→Prop) (u9000_:Value) (l0:List Int) (r1:Bool) (r2:List Int) (w0 w:World) (hB:Below w0.heap.size w0 w) (ho0:Kd.R (Kd.int .i64) 3 w w0.heap.size P0_ u9000_ l0) (h:impl_nextOrder.f k l0=some (r1,r2)) :
  Calls Try.prog 93 #[u9000_] w fun e w'=>e=.returned (.bool r1)∧Kd.R (Kd.int .i64) 3 w' w0.heap.size (fun k_=>(P0_ k_∨w.heap.size≤k_)) u9000_ r2∧Below w0.heap.size w0 w'∧Kept w w' (fun k_=>P0_ k_):=by
 have HO0:=Aside0.mk (show Kd.R (Kd.int .i64) 3 w w0.heap.size (fun k_=>(P0_ k_∨w.heap.size≤k_)) u9000_ l0 from Kd.R_mono ho0 (fun k_ hk=>(.inl hk)))
 have HK:=Aside0.mk (Kept.refl w (fun k_=>P0_ k_))
 have HW0:=Aside0.mk hB.size
 have HB:=Aside0.mk hB
 clear hB
 have H:(impl_nextOrder.l0 k l0 (wrap64 ((l0.length:Int) - 2)))=some (r1,r2):=h
 clear h
 have HC2:=Aside0.mk H
 clear H
 obtain ⟨Ao3,co3,eo3⟩:=Kd.R_slice HO0.out
 subst eo3
 go_enter Try.func93,Try.ntmps93
 go_upto_block 0 with (fail)
 go_cut [3] (fun v3 wc=>∃ (kq:Nat) (x3_1:Int),v3=.int .i64 x3_1∧Aside0 (impl_nextOrder.j1 kq l0 x3_1=some (r1,r2))∧Aside0 (kq≤k)∧Aside0 (Kd.R (Kd.int .i64) 3 wc w0.heap.size (fun k_=>(P0_ k_∨w.heap.size≤k_)) (.slice Ao3 l0.length co3) l0)∧Aside0 (Kept w wc (fun k_=>P0_ k_))∧Aside0 (Below w0.heap.size w0 wc))
 case first=>
  have H:=HC2.out
  clear HC2
  have H':=Aside0.mk H
  clear H
  go_wp2
  go_loopg [3] k (fun kq v3 w'=>∃ (x3_1:Int),v3=.int .i64 x3_1∧Aside0 (impl_nextOrder.l0 kq l0 x3_1=some (r1,r2))∧Aside0 (kq≤k)∧Aside0 (Kd.R (Kd.int .i64) 3 w' w0.heap.size (fun k_=>(P0_ k_∨w.heap.size≤k_)) (.slice Ao3 l0.length co3) l0)∧Aside0 (Kept w w' (fun k_=>P0_ k_))∧Aside0 (Below w0.heap.size w0 w'))
  case atStart=>exact ⟨(wrap64 ((l0.length:Int) - 2)),zo,H',⟨Nat.le_refl _⟩,⟨zR HO0.out⟩,⟨zz23⟩,⟨zb⟩⟩
  case round=>
   clear H'
   try clear p2
   obtain ⟨x3_1,rfl,HA,HK1,HO_0,HK,HB⟩:=hrel
   cases gk with
   | zero=>exact absurd HA.out (by simp [impl_nextOrder.l0])
   | succ k1=>
    have H:=HA.out
    clear HA
    simp only [impl_nextOrder.l0] at H
    by_cases c4:x3_1≥0
    rotate_left
    ·rw [if_neg c4] at H
     have c4b0:=decide_eq_false c4
     clear c4
     (first|rw [c4b0]|(simp only [i64_w,i32_w];rw [c4b0])|skip)
     have H':=Aside0.mk H
     clear H
     try go_wp2
     replace HO_0:=Aside0.mk (Kd.R_drew HO_0.out)
     replace HK:=Aside0.mk (Kept.drew HK.out)
     replace HB:=Aside0.mk (below_drew1 HB.out)
     refine start_ (n:=14) (S:=fun w'=>True) (ds:=[]) #[false,false,false,false,false,false,false,false,false,false,false,false,false,false] (by kernel_rfl) rfl rfl trivial (fun hHeld=>?_);refine with_tabW impl_nextOrder.tab2 impl_nextOrder.bits2 (fun HT_ HW_=>?_)
     generalize wr.drew=w13 at HO_0 HK HB hHeld ⊢
     refine pu_ 0 10 ?_
     refine pu_ 1 11 ?_
     refine pu_ 2 12 ?_
     refine pv_ 3 13 ?_
     refine pv_ 4 14 ?_
     refine pv_ 5 15 ?_
     refine pv_ 6 16 ?_
     refine pv_ 7 17 ?_
     refine pv_ 8 18 ?_
     refine pv_ 9 19 ?_
     refine pv_ 10 20 ?_
     refine pv_ 11 21 ?_
     refine pv_ 12 22 ?_
     refine pu_ 13 23 ?_
     refine done_ (done_of HT_.out (by kernel_rfl)) ?_
     try go_wp2
     go_meet
     case rel=>exact ⟨_,(x3_1),zo,H',⟨by have:=HK1.out;first|omega|exact Nat.le_refl _⟩,⟨zR HO_0.out⟩,⟨zz23⟩,⟨zb⟩⟩
    rw [if_pos c4] at H
    have c4b0:=decide_eq_true c4
    clear c4
    (first|rw [c4b0]|(simp only [i64_w,i32_w];rw [c4b0])|skip)
    by_cases c5:0≤x3_1
    rotate_left
    ·rw [if_neg c5] at H
     exact absurd H (by simp)
    rw [if_pos c5] at H
    have c5b0:=decide_eq_true c5
    clear c5
    by_cases c6:x3_1<(l0.length:Int)
    rotate_left
    ·rw [if_neg c6] at H
     exact absurd H (by simp)
    rw [if_pos c6] at H
    have c6b0:=decide_eq_true c6
    clear c6
    obtain ⟨ji7,hji7⟩:∃ j_:Int,(wrap64 (x3_1 + 1))=j_:=⟨_,rfl⟩
    replace H:(if 0≤(ji7) then (if (ji7)<(l0.length:Int) then (if (rd l0 x3_1)>(rd l0 (ji7)) then (impl_nextOrder.l0 k1 l0 (wrap64 (x3_1 - 1))) else (impl_nextOrder.j1 k1 l0 x3_1)) else (none)) else (none))=some (r1,r2):=by first|(rw [hji7] at H;exact H)|(simp only [hji7] at H ⊢;exact H)
    have hji7w:(IntKind.i64.wrap (x3_1 + 1))=ji7:=(i64_w _).trans hji7
    by_cases c8:0≤(ji7)
    rotate_left
    ·rw [if_neg c8] at H
     exact absurd H (by simp)
    rw [if_pos c8] at H
    have c8b0:=decide_eq_true c8
    clear c8
    by_cases c9:(ji7)<(l0.length:Int)
    rotate_left
    ·rw [if_neg c9] at H
     exact absurd H (by simp)
    rw [if_pos c9] at H
    have c9b0:=decide_eq_true c9
    clear c9
    by_cases c10:(rd l0 x3_1)>(rd l0 (ji7))
    rotate_left
    ·rw [if_neg c10] at H
     have c10b0:=decide_eq_false c10
     clear c10
     have H':=Aside0.mk H
     clear H
     try go_wp2
     replace HO_0:=Aside0.mk (Kd.R_drew HO_0.out)
     replace HK:=Aside0.mk (Kept.drew HK.out)
     replace HB:=Aside0.mk (below_drew1 HB.out)
     have p415:0≤(x3_1:Int):=of_decide_eq_true za
     have q415:x3_1<(l0.length:Int):=of_decide_eq_true za
     obtain ⟨ad415,e415,hx415_0⟩:=Kd.at_int (Kd.R_reads' HO_0.out).2.2 x3_1 p415 q415
     cases e415
     replace p415:=eq_true p415
     replace q415:=eq_true q415
     have p416:0≤((ji7):Int):=of_decide_eq_true za
     have q416:(ji7)<(l0.length:Int):=of_decide_eq_true za
     obtain ⟨ad416,e416,hx416_0⟩:=Kd.at_int (Kd.R_reads' HO_0.out).2.2 (ji7) p416 q416
     obtain rfl:ad415=ad416:=(by injection e416)
     replace p416:=eq_true p416
     replace q416:=eq_true q416
     refine start_ (n:=14) (S:=fun w'=>w'.cell? (ad415.add (x3_1).toNat)=some (.int .i64 (rd l0 x3_1))∧w'.cell? (ad415.add ((ji7)).toNat)=some (.int .i64 (rd l0 (ji7)))) (ds:=[]) #[false,false,false,false,false,false,false,false,false,false,false,false,false,false] (by kernel_rfl) rfl rfl ⟨hx415_0,hx416_0⟩ (fun hHeld=>?_);refine with_tabW impl_nextOrder.tab2 impl_nextOrder.bits2 (fun HT_ HW_=>?_)
     generalize wr.drew=w12 at HO_0 HK HB hx415_0 hx416_0 hHeld ⊢
     refine pu_ 0 10 ?_
     refine pu_ 1 11 ?_
     refine pu_ 2 12 ?_
     refine pu_ 3 13 ?_
     refine pu_ 4 14 ?_
     refine pu_ 5 15 ?_
     refine pu_ 7 17 ?_
     refine pu_ 8 18 ?_
     refine pu_ 9 19 ?_
     refine pu_ 10 20 ?_
     refine tk_ 6 16 hHeld ?_
     refine tk_ 11 21 hHeld ?_
     refine pu_ 12 22 ?_
     refine pu_ 13 23 ?_
     refine done_ (done_of HT_.out (by kernel_rfl)) ?_
     try go_wp2
     go_meet
     case rel=>exact ⟨_,(x3_1),zo,H',⟨by have:=HK1.out;first|omega|exact Nat.le_refl _⟩,⟨zR HO_0.out⟩,⟨zz23⟩,⟨zb⟩⟩
    rw [if_pos c10] at H
    have c10b0:=decide_eq_true c10
    clear c10
    have H':=Aside0.mk H
    clear H
    try go_wp2
    replace HO_0:=Aside0.mk (Kd.R_drew HO_0.out)
    replace HK:=Aside0.mk (Kept.drew HK.out)
    replace HB:=Aside0.mk (below_drew1 HB.out)
    have p415:0≤(x3_1:Int):=of_decide_eq_true za
    have q415:x3_1<(l0.length:Int):=of_decide_eq_true za
    obtain ⟨ad415,e415,hx415_0⟩:=Kd.at_int (Kd.R_reads' HO_0.out).2.2 x3_1 p415 q415
    cases e415
    replace p415:=eq_true p415
    replace q415:=eq_true q415
    have p416:0≤((ji7):Int):=of_decide_eq_true za
    have q416:(ji7)<(l0.length:Int):=of_decide_eq_true za
    obtain ⟨ad416,e416,hx416_0⟩:=Kd.at_int (Kd.R_reads' HO_0.out).2.2 (ji7) p416 q416
    obtain rfl:ad415=ad416:=(by injection e416)
    replace p416:=eq_true p416
    replace q416:=eq_true q416
    refine start_ (n:=14) (S:=fun w'=>w'.cell? (ad415.add (x3_1).toNat)=some (.int .i64 (rd l0 x3_1))∧w'.cell? (ad415.add ((ji7)).toNat)=some (.int .i64 (rd l0 (ji7)))) (ds:=[]) #[false,false,false,false,false,false,false,false,false,false,false,false,false,false] (by kernel_rfl) rfl rfl ⟨hx415_0,hx416_0⟩ (fun hHeld=>?_);refine with_tabW impl_nextOrder.tab2 impl_nextOrder.bits2 (fun HT_ HW_=>?_)
    generalize wr.drew=w11 at HO_0 HK HB hx415_0 hx416_0 hHeld ⊢
    refine pu_ 0 10 ?_
    refine pu_ 1 11 ?_
    refine pu_ 2 12 ?_
    refine pu_ 3 13 ?_
    refine pu_ 4 14 ?_
    refine pu_ 5 15 ?_
    refine pu_ 7 17 ?_
    refine pu_ 8 18 ?_
    refine pu_ 9 19 ?_
    refine pu_ 10 20 ?_
    refine tk_ 6 16 hHeld ?_
    refine tk_ 11 21 hHeld ?_
    refine pu_ 12 22 ?_
    refine pu_ 13 23 ?_
    refine done_ (done_of HT_.out (by kernel_rfl)) ?_
    try go_wp2
    go_roundg k1
    case measure=>have:=HK1.out;omega
    case rel=>exact ⟨(wrap64 (x3_1 - 1)),zo,H',⟨by have:=HK1.out;omega⟩,⟨zR HO_0.out⟩,⟨zz23⟩,⟨zb⟩⟩
 case rest=>
  clear HC2
  obtain ⟨kq,x3_1,rfl,HA,HJ1,HO_0,HK,HB⟩:=hcut
  cases kq with
  | zero=>exact absurd HA.out (by simp [impl_nextOrder.j1])
  | succ kj1=>
   have H:=HA.out
   clear HA
   simp only [impl_nextOrder.j1] at H
   by_cases c14:x3_1<0
   ·rw [if_pos c14] at H
    have c14b0:=decide_eq_true c14
    clear c14
    simp only [Option.some.injEq,Prod.mk.injEq] at H
    obtain ⟨rfl,rfl⟩:=H
    go_wp2
    go_ret
    exact ⟨zz0,zR HO_0.out,by repeat (first|(with_reducible first|exact HB.out|apply below_alloc|apply pw_below_drewN|apply below_drew1)|exact HB.out),zz23⟩
   rw [if_neg c14] at H
   have c14b0:=decide_eq_false c14
   clear c14
   have H':=Aside0.mk H
   clear H
   go_wp2
   go_loopg [4] kj1 (fun kq v4 w'=>∃ (x4_2:Int),v4=.int .i64 x4_2∧Aside0 (impl_nextOrder.l1 kq l0 x3_1 x4_2=some (r1,r2))∧Aside0 (kq≤kj1)∧Aside0 (Kd.R (Kd.int .i64) 3 w' w0.heap.size (fun k_=>(P0_ k_∨w.heap.size≤k_)) (.slice Ao3 l0.length co3) l0)∧Aside0 (Kept w w' (fun k_=>P0_ k_))∧Aside0 (Below w0.heap.size w0 w'))
   case atStart=>exact ⟨(wrap64 ((l0.length:Int) - 1)),zo,H',⟨Nat.le_refl _⟩,⟨zR HO_0.out⟩,⟨zz23⟩,⟨zb⟩⟩
   case round=>
    clear H'
    obtain ⟨x4_2,rfl,HA,HK2,HO_0,HK,HB⟩:=hrel
    cases gk with
    | zero=>exact absurd HA.out (by simp [impl_nextOrder.l1])
    | succ k2=>
     have H:=HA.out
     clear HA
     simp only [impl_nextOrder.l1] at H
     by_cases c15:0≤x4_2
     rotate_left
     ·rw [if_neg c15] at H
      exact absurd H (by simp)
     rw [if_pos c15] at H
     have c15b0:=decide_eq_true c15
     clear c15
     by_cases c16:x4_2<(l0.length:Int)
     rotate_left
     ·rw [if_neg c16] at H
      exact absurd H (by simp)
     rw [if_pos c16] at H
     have c16b0:=decide_eq_true c16
     clear c16
     by_cases c17:0≤x3_1
     rotate_left
     ·rw [if_neg c17] at H
      exact absurd H (by simp)
     rw [if_pos c17] at H
     have c17b0:=decide_eq_true c17
     clear c17
     by_cases c18:x3_1<(l0.length:Int)
     rotate_left
     ·rw [if_neg c18] at H
      exact absurd H (by simp)
     rw [if_pos c18] at H
     have c18b0:=decide_eq_true c18
     clear c18
     by_cases c19:(rd l0 x4_2)<(rd l0 x3_1)
     ·rw [if_pos c19] at H
      have c19b0:=decide_eq_true c19
      clear c19
      have H':=Aside0.mk H
      clear H
      try go_wp2
      replace HO_0:=Aside0.mk (Kd.R_drew HO_0.out)
      replace HK:=Aside0.mk (Kept.drew HK.out)
      replace HB:=Aside0.mk (below_drew1 HB.out)
      have p417:0≤(x4_2:Int):=of_decide_eq_true za
      have q417:x4_2<(l0.length:Int):=of_decide_eq_true za
      obtain ⟨ad417,e417,hx417_0⟩:=Kd.at_int (Kd.R_reads' HO_0.out).2.2 x4_2 p417 q417
      cases e417
      replace p417:=eq_true p417
      replace q417:=eq_true q417
      have p418:0≤(x3_1:Int):=of_decide_eq_true za
      have q418:x3_1<(l0.length:Int):=of_decide_eq_true za
      obtain ⟨ad418,e418,hx418_0⟩:=Kd.at_int (Kd.R_reads' HO_0.out).2.2 x3_1 p418 q418
      obtain rfl:ad417=ad418:=(by injection e418)
      replace p418:=eq_true p418
      replace q418:=eq_true q418
      refine start_ (n:=9) (S:=fun w'=>w'.cell? (ad417.add (x4_2).toNat)=some (.int .i64 (rd l0 x4_2))∧w'.cell? (ad417.add (x3_1).toNat)=some (.int .i64 (rd l0 x3_1))) (ds:=[]) #[false,false,false,false,false,false,false,false,false] (by kernel_rfl) rfl rfl ⟨hx417_0,hx418_0⟩ (fun hHeld=>?_);refine with_tabW impl_nextOrder.tab7 impl_nextOrder.bits7 (fun HT_ HW_=>?_)
      generalize wr.drew=w20 at HO_0 HK HB hx417_0 hx418_0 hHeld ⊢
      refine pu_ 0 31 ?_
      refine pu_ 1 32 ?_
      refine pu_ 2 33 ?_
      refine pu_ 4 35 ?_
      refine pu_ 5 36 ?_
      refine pu_ 6 37 ?_
      refine tk_ 3 34 hHeld ?_
      refine tk_ 7 38 hHeld ?_
      refine pu_ 8 39 ?_
      refine done_ (done_of HT_.out (by kernel_rfl)) ?_
      try go_wp2
      go_roundg k2
      case measure=>have:=HJ1.out;have:=HK2.out;omega
      case rel=>exact ⟨(wrap64 (x4_2 - 1)),zo,H',⟨by have:=HJ1.out;have:=HK2.out;omega⟩,⟨zR HO_0.out⟩,⟨zz23⟩,⟨zb⟩⟩
     rw [if_neg c19] at H
     have c19b0:=decide_eq_false c19
     clear c19
     obtain ⟨y421,hy421⟩:∃ y_:List Int,y_=(l0.set (x3_1:Int).toNat (rd l0 x4_2)):=⟨_,rfl⟩
     replace H:(impl_nextOrder.l2 k2 (y421.set (x4_2:Int).toNat (rd l0 x3_1)) (wrap64 (x3_1 + 1)) (wrap64 ((l0.length:Int) - 1)))=some (r1,r2):=by first|(rw [hy421];with_reducible exact H)|(have H2_:=(Option.bind_some _ _).symm.trans H;rw [hy421];with_reducible exact H2_)|(have H2_:=(Option.bind_some _ _).symm.trans H;with_reducible exact H2_)|with_reducible exact H|(rw [hy421];exact H)|exact H
     have Ny421:=Aside0.mk hy421
     clear hy421
     obtain ⟨y422,hy422⟩:∃ y_:List Int,y_=(y421.set (x4_2:Int).toNat (rd l0 x3_1)):=⟨_,rfl⟩
     replace H:(impl_nextOrder.l2 k2 y422 (wrap64 (x3_1 + 1)) (wrap64 ((l0.length:Int) - 1)))=some (r1,r2):=by first|(rw [hy422];with_reducible exact H)|(have H2_:=(Option.bind_some _ _).symm.trans H;rw [hy422];with_reducible exact H2_)|(have H2_:=(Option.bind_some _ _).symm.trans H;with_reducible exact H2_)|with_reducible exact H|(rw [hy422];exact H)|exact H
     have Ny422:=Aside0.mk hy422
     clear hy422
     have H':=Aside0.mk H
     clear H
     try go_wp2
     replace HO_0:=Aside0.mk (Kd.R_drew HO_0.out)
     replace HK:=Aside0.mk (Kept.drew HK.out)
     replace HB:=Aside0.mk (below_drew1 HB.out)
     have p417:0≤(x4_2:Int):=of_decide_eq_true za
     have q417:x4_2<(l0.length:Int):=of_decide_eq_true za
     obtain ⟨ad417,e417,hx417_0⟩:=Kd.at_int (Kd.R_reads' HO_0.out).2.2 x4_2 p417 q417
     cases e417
     replace p417:=eq_true p417
     replace q417:=eq_true q417
     have p418:0≤(x3_1:Int):=of_decide_eq_true za
     have q418:x3_1<(l0.length:Int):=of_decide_eq_true za
     obtain ⟨ad418,e418,hx418_0⟩:=Kd.at_int (Kd.R_reads' HO_0.out).2.2 x3_1 p418 q418
     obtain rfl:ad417=ad418:=(by injection e418)
     replace p418:=eq_true p418
     replace q418:=eq_true q418
     refine start_ (n:=9) (S:=fun w'=>w'.cell? (ad417.add (x4_2).toNat)=some (.int .i64 (rd l0 x4_2))∧w'.cell? (ad417.add (x3_1).toNat)=some (.int .i64 (rd l0 x3_1))) (ds:=[]) #[false,false,false,false,false,false,false,false,false] (by kernel_rfl) rfl rfl ⟨hx417_0,hx418_0⟩ (fun hHeld=>?_);refine with_tabW impl_nextOrder.tab7 impl_nextOrder.bits7 (fun HT_ HW_=>?_)
     generalize wr.drew=w23 at HO_0 HK HB hx417_0 hx418_0 hHeld ⊢
     refine pu_ 0 31 ?_
     refine pu_ 1 32 ?_
     refine pu_ 2 33 ?_
     refine pu_ 4 35 ?_
     refine pu_ 5 36 ?_
     refine pu_ 6 37 ?_
     refine tk_ 3 34 hHeld ?_
     refine tk_ 7 38 hHeld ?_
     refine pu_ 8 39 ?_
     refine done_ (done_of HT_.out (by kernel_rfl)) ?_
     try go_wp2
     replace HO_0:=Aside0.mk (Kd.R_drew HO_0.out)
     replace HK:=Aside0.mk (Kept.drew HK.out)
     replace HB:=Aside0.mk (below_drew1 HB.out)
     have p419:0≤(x4_2:Int):=of_decide_eq_true za
     have q419:x4_2<(l0.length:Int):=of_decide_eq_true za
     obtain ⟨ad419,e419,hx419_0⟩:=Kd.at_int (Kd.R_reads' HO_0.out).2.2 x4_2 p419 q419
     obtain rfl:ad417=ad419:=(by injection e419)
     replace p419:=eq_true p419
     replace q419:=eq_true q419
     have p420:0≤(x3_1:Int):=of_decide_eq_true za
     have q420:x3_1<(l0.length:Int):=of_decide_eq_true za
     obtain ⟨ad420,e420,hx420_0⟩:=Kd.at_int (Kd.R_reads' HO_0.out).2.2 x3_1 p420 q420
     obtain rfl:ad417=ad420:=(by injection e420)
     replace p420:=eq_true p420
     replace q420:=eq_true q420
     have p21:0≤(x3_1:Int):=of_decide_eq_true za
     have q21:(x3_1:Int)<((l0.length:Int):Int):=of_decide_eq_true za
     obtain ⟨go21,co21,eo21,gb21,gl21,cl21,HG21⟩:=Kd.R_form HO_0.out (by omega)
     (first|cases eo21|(injection eo21 with ea_ en_ ec_;(first|subst ea_|(injection ea_ with ea_;subst ea_));subst ec_;clear en_))
     have GB21:=Aside0.mk gb21
     have GG21:=Aside0.mk HG21
     clear gb21 gl21 HG21
     have HMgo21:=Aside0.mk (show (P0_ go21∨w.heap.size≤go21) from (HO_0.out.1 _ rfl))
     (first|simp only [add_plain] at hx417_0|skip)
     (first|simp only [add_plain] at hx418_0|skip)
     (first|simp only [add_plain] at hx419_0|skip)
     (first|simp only [add_plain] at hx420_0|skip)
     obtain ⟨hx21_0,hf21_0⟩:=Kd.R_celln 0 HO_0.out (x3_1:Int) p21 q21
     replace p21:=eq_true p21
     replace q21:=eq_true q21
     have HP25:=Kd.R_putn HO_0.out (x3_1:Int) (rd l0 x4_2)
     rw [←Ny421.out] at HP25
     have HQ25:=Aside0.mk HP25
     clear HP25
     have p22:0≤(x4_2:Int):=of_decide_eq_true za
     have q22:(x4_2:Int)<((l0.length:Int):Int):=of_decide_eq_true za
     obtain ⟨hx22_0,hf22_0⟩:=Kd.R_celln 0 HQ25.out (x4_2:Int) p22 q22
     replace p22:=eq_true p22
     replace q22:=eq_true q22
     have HP26:=Kd.R_putn HQ25.out (x4_2:Int) (rd l0 x3_1)
     rw [←Ny422.out] at HP26
     have HQ26:=Aside0.mk HP26
     clear HP26
     refine start_ (n:=16) (S:=fun w'=>w'.cell? ⟨go21,(x4_2).toNat,none⟩=some (.int .i64 (rd l0 x4_2))∧w'.cell? ⟨go21,(x3_1).toNat,none⟩=some (.int .i64 (rd l0 x3_1))) (ds:=[13,15]) #[false,false,false,false,false,false,false,false,false,false,false,false,false,false,false,false] (by kernel_rfl) rfl rfl ⟨hx419_0,hx420_0⟩ (fun hHeld=>?_);refine with_tabW impl_nextOrder.tab9 impl_nextOrder.bits9 (fun HT_ HW_=>?_)
     generalize w23.drew=w24 at HO_0 HK HB GG21 HQ25 HQ26 hf21_0 hf22_0 hx21_0 hx22_0 hx417_0 hx418_0 hx419_0 hx420_0 hHeld ⊢
     refine pu_ 0 42 ?_
     refine pu_ 1 43 ?_
     refine pu_ 2 44 ?_
     refine pu_ 3 45 ?_
     refine pu_ 4 46 ?_
     refine pu_ 5 47 ?_
     refine pu_ 6 48 ?_
     refine pu_ 8 50 ?_
     refine pu_ 9 51 ?_
     refine pu_ 10 52 ?_
     refine tk_ 7 49 hHeld ?_
     refine tk_ 11 53 hHeld ?_
     refine pu_ 12 54 ?_
     refine last_ (i:=13) (N:=none) #[true,true,true,true,true,true,true,true,true,true,true,true,true,true,false,false] rfl rfl (one_of HT_.out (by kernel_rfl)) (by decide) (fun K hK=>?_)
     refine skip_ (w1:=?_) (by rfl) rfl ?_ ?_
     rotate_left
     ·go_simp
      rfl
     refine hK.out _ _ ?_
     clear hK K
     refine pu_ 14 55 ?_
     refine last_ (i:=15) (N:=none) #[true,true,true,true,true,true,true,true,true,true,true,true,true,true,true,true] rfl rfl (one_of HT_.out (by kernel_rfl)) (by decide) (fun K hK=>?_)
     refine skip_ (w1:=?_) (by rfl) rfl ?_ ?_
     rotate_left
     ·go_simp
      rfl
     refine hK.out _ _ ?_
     clear hK K
     refine done_ (done_of HT_.out (by kernel_rfl)) ?_
     try go_wp2
     go_loopg [5,6] k2 (fun kq v5 v6 w'=>∃ (x0_3:List Int) (x5_3:Int) (x6_3:Int),v5=.int .i64 x5_3∧v6=.int .i64 x6_3∧Aside0 (impl_nextOrder.l2 kq x0_3 x5_3 x6_3=some (r1,r2))∧Aside0 (kq≤k2)∧Aside0 (Kd.R (Kd.int .i64) 3 w' w0.heap.size (fun k_=>(P0_ k_∨w.heap.size≤k_)) (.slice (some ⟨go21,0,none⟩) l0.length co3) x0_3)∧Aside0 (Kept w w' (fun k_=>P0_ k_))∧Aside0 (Below w0.heap.size w0 w'))
     case atStart=>exact ⟨(y422),(wrap64 (x3_1 + 1)),(wrap64 ((l0.length:Int) - 1)),zo,zo,H',⟨Nat.le_refl _⟩,⟨by (with_reducible repeat (first|apply Kd.R_alloc|apply Kd.R_drewN|apply Kd.R_drew));exact HQ26.out⟩,⟨by repeat (first|(with_reducible first|exact HK.out|apply Kept.alloc|apply Kept.drewN|apply Kept.drew|refine Kept.setCell ?_ HMgo21.out _|refine Kept.setCell ?_ HMgo21.out _)|exact HK.out)⟩,⟨by repeat (first|(with_reducible first|exact HB.out|apply below_alloc|apply pw_below_drewN|apply below_drew1|refine below_set ?_ GB21.out|refine below_set ?_ GB21.out)|exact HB.out)⟩⟩
     case round=>
      clear H'
      obtain ⟨x0_3,x5_3,x6_3,rfl,rfl,HA,HK3,HO_0,HK,HB⟩:=hrel
      have hl0_3:=(Kd.R_reads' HO_0.out).1
      rw [hl0_3] at HO_0
      (try simp only [hl0_3])
      cases gk with
      | zero=>exact absurd HA.out (by simp [impl_nextOrder.l2])
      | succ k3=>
       have H:=HA.out
       clear HA
       simp only [impl_nextOrder.l2] at H
       by_cases c27:x5_3<x6_3
       rotate_left
       ·rw [if_neg c27] at H
        have c27b0:=decide_eq_false c27
        clear c27
        simp only [Option.some.injEq,Prod.mk.injEq] at H
        obtain ⟨rfl,rfl⟩:=H
        go_wp2
        go_ret
        exact ⟨zz0,(by first|exact (zR HO_0.out)|(simp only [hl0_3];exact (zR HO_0.out))),by repeat (first|(with_reducible first|exact HB.out|apply below_alloc|apply pw_below_drewN|apply below_drew1)|exact HB.out),zz23⟩
       rw [if_pos c27] at H
       have c27b0:=decide_eq_true c27
       clear c27
       by_cases c28:0≤x6_3
       rotate_left
       ·rw [if_neg c28] at H
        exact absurd H (by simp)
       rw [if_pos c28] at H
       have c28b0:=decide_eq_true c28
       clear c28
       by_cases c29:x6_3<(x0_3.length:Int)
       rotate_left
       ·rw [if_neg c29] at H
        exact absurd H (by simp)
       rw [if_pos c29] at H
       have c29b0:=decide_eq_true c29
       clear c29
       by_cases c30:0≤x5_3
       rotate_left
       ·rw [if_neg c30] at H
        exact absurd H (by simp)
       rw [if_pos c30] at H
       have c30b0:=decide_eq_true c30
       clear c30
       by_cases c31:x5_3<(x0_3.length:Int)
       rotate_left
       ·rw [if_neg c31] at H
        exact absurd H (by simp)
       rw [if_pos c31] at H
       have c31b0:=decide_eq_true c31
       clear c31
       obtain ⟨y425,hy425⟩:∃ y_:List Int,y_=(x0_3.set (x5_3:Int).toNat (rd x0_3 x6_3)):=⟨_,rfl⟩
       replace H:(impl_nextOrder.l2 k3 (y425.set (x6_3:Int).toNat (rd x0_3 x5_3)) (wrap64 (x5_3 + 1)) (wrap64 (x6_3 - 1)))=some (r1,r2):=by first|(rw [hy425];with_reducible exact H)|(have H2_:=(Option.bind_some _ _).symm.trans H;rw [hy425];with_reducible exact H2_)|(have H2_:=(Option.bind_some _ _).symm.trans H;with_reducible exact H2_)|with_reducible exact H|(rw [hy425];exact H)|exact H
       have Ny425:=Aside0.mk hy425
       clear hy425
       obtain ⟨y426,hy426⟩:∃ y_:List Int,y_=(y425.set (x6_3:Int).toNat (rd x0_3 x5_3)):=⟨_,rfl⟩
       replace H:(impl_nextOrder.l2 k3 y426 (wrap64 (x5_3 + 1)) (wrap64 (x6_3 - 1)))=some (r1,r2):=by first|(rw [hy426];with_reducible exact H)|(have H2_:=(Option.bind_some _ _).symm.trans H;rw [hy426];with_reducible exact H2_)|(have H2_:=(Option.bind_some _ _).symm.trans H;with_reducible exact H2_)|with_reducible exact H|(rw [hy426];exact H)|exact H
       have Ny426:=Aside0.mk hy426
       clear hy426
       have H':=Aside0.mk H
       clear H
       try go_wp2
       replace HO_0:=Aside0.mk (Kd.R_drew HO_0.out)
       replace HK:=Aside0.mk (Kept.drew HK.out)
       replace HB:=Aside0.mk (below_drew1 HB.out)
       have p423:0≤(x6_3:Int):=of_decide_eq_true za
       have q423:x6_3<(x0_3.length:Int):=of_decide_eq_true za
       obtain ⟨ad423,e423,hx423_0⟩:=Kd.at_int (Kd.R_reads' HO_0.out).2.2 x6_3 p423 q423
       obtain rfl:(⟨go21,0,none⟩:Addr)=ad423:=(by injection e423)
       (first|simp only [add_plain] at hx423_0|simp only [add_at] at hx423_0|simp only [Addr.add,Nat.zero_add] at hx423_0|skip)
       replace p423:=eq_true p423
       replace q423:=eq_true q423
       have p424:0≤(x5_3:Int):=of_decide_eq_true za
       have q424:x5_3<(x0_3.length:Int):=of_decide_eq_true za
       obtain ⟨ad424,e424,hx424_0⟩:=Kd.at_int (Kd.R_reads' HO_0.out).2.2 x5_3 p424 q424
       obtain rfl:(⟨go21,0,none⟩:Addr)=ad424:=(by injection e424)
       (first|simp only [add_plain] at hx424_0|simp only [add_at] at hx424_0|simp only [Addr.add,Nat.zero_add] at hx424_0|skip)
       replace p424:=eq_true p424
       replace q424:=eq_true q424
       have p32:0≤(x5_3:Int):=of_decide_eq_true za
       have q32:(x5_3:Int)<((x0_3.length:Int):Int):=of_decide_eq_true za
       obtain ⟨hx32_0,hf32_0⟩:=Kd.R_celln 0 HO_0.out (x5_3:Int) p32 q32
       replace p32:=eq_true p32
       replace q32:=eq_true q32
       have HP35:=Kd.R_putn HO_0.out (x5_3:Int) (rd x0_3 x6_3)
       rw [←Ny425.out] at HP35
       have HQ35:=Aside0.mk HP35
       clear HP35
       have p33:0≤(x6_3:Int):=of_decide_eq_true za
       have q33:(x6_3:Int)<((x0_3.length:Int):Int):=of_decide_eq_true za
       obtain ⟨hx33_0,hf33_0⟩:=Kd.R_celln 0 HQ35.out (x6_3:Int) p33 q33
       replace p33:=eq_true p33
       replace q33:=eq_true q33
       have HP36:=Kd.R_putn HQ35.out (x6_3:Int) (rd x0_3 x5_3)
       rw [←Ny426.out] at HP36
       have HQ36:=Aside0.mk HP36
       clear HP36
       refine start_ (n:=16) (S:=fun w'=>w'.cell? ⟨go21,(x6_3).toNat,none⟩=some (.int .i64 (rd x0_3 x6_3))∧w'.cell? ⟨go21,(x5_3).toNat,none⟩=some (.int .i64 (rd x0_3 x5_3))) (ds:=[13,15]) #[false,false,false,false,false,false,false,false,false,false,false,false,false,false,false,false] (by kernel_rfl) rfl rfl ⟨hx423_0,hx424_0⟩ (fun hHeld=>?_);refine with_tabW impl_nextOrder.tab13 impl_nextOrder.bits13 (fun HT_ HW_=>?_)
       generalize wr.drew=w34 at HO_0 HK HB HQ35 HQ36 hf32_0 hf33_0 hx32_0 hx33_0 hx423_0 hx424_0 hHeld ⊢
       refine pu_ 0 68 ?_
       refine pu_ 1 69 ?_
       refine pu_ 2 70 ?_
       refine pu_ 3 71 ?_
       refine pu_ 4 72 ?_
       refine pu_ 5 73 ?_
       refine pu_ 6 74 ?_
       refine pu_ 8 76 ?_
       refine pu_ 9 77 ?_
       refine pu_ 10 78 ?_
       refine tk_ 7 75 hHeld ?_
       refine tk_ 11 79 hHeld ?_
       refine pu_ 12 80 ?_
       refine last_ (i:=13) (N:=none) #[true,true,true,true,true,true,true,true,true,true,true,true,true,true,false,false] rfl rfl (one_of HT_.out (by kernel_rfl)) (by decide) (fun K hK=>?_)
       refine skip_ (w1:=?_) (by rfl) rfl ?_ ?_
       rotate_left
       ·go_simp
        rfl
       refine hK.out _ _ ?_
       clear hK K
       refine pu_ 14 81 ?_
       refine last_ (i:=15) (N:=none) #[true,true,true,true,true,true,true,true,true,true,true,true,true,true,true,true] rfl rfl (one_of HT_.out (by kernel_rfl)) (by decide) (fun K hK=>?_)
       refine skip_ (w1:=?_) (by rfl) rfl ?_ ?_
       rotate_left
       ·go_simp
        rfl
       refine hK.out _ _ ?_
       clear hK K
       refine done_ (done_of HT_.out (by kernel_rfl)) ?_
       try go_wp2
       (try simp only [←hl0_3])
       go_roundg k3
       case measure=>have:=HJ1.out;have:=HK2.out;have:=HK3.out;omega
       case rel=>exact ⟨(y426),(wrap64 (x5_3 + 1)),(wrap64 (x6_3 - 1)),zo,zo,H',⟨by have:=HJ1.out;have:=HK2.out;have:=HK3.out;omega⟩,⟨by (try simp only [hl0_3]);(with_reducible repeat (first|apply Kd.R_alloc|apply Kd.R_drewN|apply Kd.R_drew));exact HQ36.out⟩,⟨by repeat (first|(with_reducible first|exact HK.out|apply Kept.alloc|apply Kept.drewN|apply Kept.drew|refine Kept.setCell ?_ HMgo21.out _|refine Kept.setCell ?_ HMgo21.out _)|exact HK.out)⟩,⟨by repeat (first|(with_reducible first|exact HB.out|apply below_alloc|apply pw_below_drewN|apply below_drew1|refine below_set ?_ GB21.out|refine below_set ?_ GB21.out)|exact HB.out)⟩⟩

end Go.Proofs.Ytkolecmpncaooaa.XFnLateWeight
-- minified
