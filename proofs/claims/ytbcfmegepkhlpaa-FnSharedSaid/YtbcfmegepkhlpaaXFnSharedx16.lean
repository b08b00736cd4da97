-- Written by a program of this session (the kit's print, widened). Proved here: what each function answers, for the arguments that its contract names.
import Derived.Test.YtbcfmegepkhlpaaXFnSharedx0
import Derived.Test.YtbcfmegepkhlpaaXFnSharedx15
namespace Go.Proofs.Ytbcfmegepkhlpaa.XFnShared
open Go.RowKit Go.Proofs.YtbcfmegepkhlpaaW.PrintWords Go.Proofs.YtbcfmegepkhlpaaW.PrintLast Go.Proofs.YtbcfmegepkhlpaaW.PrintMore
attribute [local go_sem] max2_int min2_int max_two min_two max_three min_three max_four min_four   -- for this text's walks alone
attribute [local go_sem] idxA_72_0 idxA_72_1 fldS_96_0 fldS_96_1 fldS_96_2 fldS_111_0 fldS_111_1 fldS_111_2
set_option linter.unusedVariables false
set_option linter.unusedSimpArgs false

/-! ### spec_l7Shared: function 89 -/
mutual
def spec_l7Shared.l0:Nat→List (S76)→List (List (S116))→List Int→Int→Option (Bool)
 | 0,_,_,_,_=>none
 | k + 1,x0,x1,x5,x6=>if x6<(x1.length:Int) then (spec_l7Shared.l1 k x0 x1 x5 x6 0 0) else (spec_l7Shared.l3 k x0 x5 0)
def spec_l7Shared.l1:Nat→List (S76)→List (List (S116))→List Int→Int→Int→Int→Option (Bool)
 | 0,_,_,_,_,_,_=>none
 | k + 1,x0,x1,x5,x6,x7,x8=>if 0≤x6 then (if x6<(x1.length:Int) then (if x8<((rd_L7 x1 x6).length:Int) then (if 0≤x8 then ((spec_l3Job.f x0 ((rd_T116 (rd_L7 x1 x6) x8).f0)).bind fun t525=>(if t525=true then (if ((rd_T116 (rd_L7 x1 x6) x8).f1)<x7 then (spec_l7Shared.j2 k x0 x1 x5 x6 x8 true ((rd_T116 (rd_L7 x1 x6) x8).f0) ((rd_T116 (rd_L7 x1 x6) x8).f1) ((rd_T116 (rd_L7 x1 x6) x8).f2)) else (if ((rd_T116 (rd_L7 x1 x6) x8).f2)≤((rd_T116 (rd_L7 x1 x6) x8).f1) then (spec_l7Shared.j2 k x0 x1 x5 x6 x8 true ((rd_T116 (rd_L7 x1 x6) x8).f0) ((rd_T116 (rd_L7 x1 x6) x8).f1) ((rd_T116 (rd_L7 x1 x6) x8).f2)) else (spec_l7Shared.j2 k x0 x1 x5 x6 x8 (decide (((rd_T116 (rd_L7 x1 x6) x8).f2)>1000)) ((rd_T116 (rd_L7 x1 x6) x8).f0) ((rd_T116 (rd_L7 x1 x6) x8).f1) ((rd_T116 (rd_L7 x1 x6) x8).f2)))) else (spec_l7Shared.j2 k x0 x1 x5 x6 x8 true ((rd_T116 (rd_L7 x1 x6) x8).f0) ((rd_T116 (rd_L7 x1 x6) x8).f1) ((rd_T116 (rd_L7 x1 x6) x8).f2)))) else (none)) else (spec_l7Shared.l0 k x0 x1 x5 (wrap64 (x6 + 1)))) else (none)) else (none)
def spec_l7Shared.j2:Nat→List (S76)→List (List (S116))→List Int→Int→Int→Bool→Int→Int→Int→Option (Bool)
 | 0,_,_,_,_,_,_,_,_,_=>none
 | k + 1,x0,x1,x5,x6,x8,x59,x525000,x525001,x525002=>if x59=true then (some false) else (spec_l7Shared.l2 k x0 x1 x5 x6 x8 0 x525000 x525001 x525002)
def spec_l7Shared.l2:Nat→List (S76)→List (List (S116))→List Int→Int→Int→Int→Int→Int→Int→Option (Bool)
 | 0,_,_,_,_,_,_,_,_,_=>none
 | k + 1,x0,x1,x5,x6,x8,x10,x525000,x525001,x525002=>if x10<x6 then (if 0≤x10 then (if x10<(x1.length:Int) then ((spec_l7Apart.f k x525000 x525001 x525002 (rd_L7 x1 x10)).bind fun t527=>(if t527=true then (spec_l7Shared.l2 k x0 x1 x5 x6 x8 (wrap64 (x10 + 1)) x525000 x525001 x525002) else (some false))) else (none)) else (none)) else (if 0≤x525000 then (if x525000<(x5.length:Int) then (spec_l7Shared.l1 k x0 x1 (x5.set (x525000:Int).toNat (wrap64 ((wrap64 ((rd x5 x525000) + x525002)) - x525001))) x6 x525002 (wrap64 (x8 + 1))) else (none)) else (none))
def spec_l7Shared.l3:Nat→List (S76)→List Int→Int→Option (Bool)
 | 0,_,_,_=>none
 | k + 1,x0,x5,x11=>if x11<(x0.length:Int) then (if 0≤x11 then (if x11<(x5.length:Int) then (if (rd x5 x11)=((rd_T76 x0 x11).f0) then (spec_l7Shared.l3 k x0 x5 (wrap64 (x11 + 1))) else (some false)) else (none)) else (none)) else (some true)
end
def spec_l7Shared.f (k:Nat) (l0:List (S76)) (l1:List (List (S116))):Option (Bool):=if 0≤(l0.length:Int) then (if ((l0.length:Int):Int).toNat≤35184372088832 then (spec_l7Shared.l0 k l0 l1 (List.replicate ((l0.length:Int):Int).toNat 0) 0) else (none)) else (none)
theorem spec_l7Shared.mono_l:∀ k,(∀ y0 y1 y2 y3,LeO (spec_l7Shared.l0 k y0 y1 y2 y3) (spec_l7Shared.l0 (k + 1) y0 y1 y2 y3))∧(∀ y0 y1 y2 y3 y4 y5,LeO (spec_l7Shared.l1 k y0 y1 y2 y3 y4 y5) (spec_l7Shared.l1 (k + 1) y0 y1 y2 y3 y4 y5))∧(∀ y0 y1 y2 y3 y4 y5 y6 y7 y8,LeO (spec_l7Shared.j2 k y0 y1 y2 y3 y4 y5 y6 y7 y8) (spec_l7Shared.j2 (k + 1) y0 y1 y2 y3 y4 y5 y6 y7 y8))∧(∀ y0 y1 y2 y3 y4 y5 y6 y7 y8,LeO (spec_l7Shared.l2 k y0 y1 y2 y3 y4 y5 y6 y7 y8) (spec_l7Shared.l2 (k + 1) y0 y1 y2 y3 y4 y5 y6 y7 y8))∧(∀ y0 y1 y2,LeO (spec_l7Shared.l3 k y0 y1 y2) (spec_l7Shared.l3 (k + 1) y0 y1 y2))
 | 0=>⟨fun _ _ _ _ r h=>by simp [spec_l7Shared.l0] at h,fun _ _ _ _ _ _ r h=>by simp [spec_l7Shared.l1] at h,fun _ _ _ _ _ _ _ _ _ r h=>by simp [spec_l7Shared.j2] at h,fun _ _ _ _ _ _ _ _ _ r h=>by simp [spec_l7Shared.l2] at h,fun _ _ _ r h=>by simp [spec_l7Shared.l3] at h⟩
 | k + 1=>by
  obtain ⟨ih0,ih1,ih2,ih3,ih4⟩:=spec_l7Shared.mono_l k
  refine ⟨?_,?_,?_,?_,?_⟩ <;> intros <;> first|unfold spec_l7Shared.l0|unfold spec_l7Shared.l1|unfold spec_l7Shared.j2|unfold spec_l7Shared.l2|unfold spec_l7Shared.l3
  all_goals repeat' first|(with_reducible first|apply ih0|apply ih1|apply ih2|apply ih3|apply ih4|exact spec_l7Apart.mono _ _ _ _ _|exact LeO.refl _|exact LeO.none _|refine LeO.ite ?_ ?_|refine LeO.bind ?_ (fun _=>?_))|apply ih0|apply ih1|apply ih2|apply ih3|apply ih4|exact spec_l7Apart.mono _ _ _ _ _|exact LeO.none _|refine LeO.ite ?_ ?_|refine LeO.bind ?_ (fun _=>?_)
theorem spec_l7Shared.mono:∀ a0 a1 k,LeO (spec_l7Shared.f k a0 a1) (spec_l7Shared.f (k + 1) a0 a1):=by
 intro a0 a1 k
 obtain ⟨ih0,ih1,ih2,ih3,ih4⟩:=spec_l7Shared.mono_l k
 unfold spec_l7Shared.f
 repeat' first|(with_reducible first|apply ih0|apply ih1|apply ih2|apply ih3|apply ih4|exact spec_l7Apart.mono _ _ _ _ _|exact LeO.refl _|exact LeO.none _|refine LeO.ite ?_ ?_|refine LeO.bind ?_ (fun _=>?_))|apply ih0|apply ih1|apply ih2|apply ih3|apply ih4|exact spec_l7Apart.mono _ _ _ _ _|exact LeO.none _|refine LeO.ite ?_ ?_|refine LeO.bind ?_ (fun _=>?_)
def spec_l7Shared.T17:Bool × List (List Nat × List Nat):=(true,[([],[]),([],[]),([1],[1]),([],[]),([],[]),([4],[4]),([3,5],[3,5]),([6],[6]),([],[]),([8],[8]),([7,9],[7,9]),([],[]),([11],[11]),([10,12],[10,12]),([0,2,0,1,2,3,4,5,6,7,8,9,10,11,12,13],[0,2]),([14,13,0,1,2,3,4,5,6,7,8,9,10,11,12,13],[13,14])])
def spec_l7Shared.B17:List Nat:=[0,0,2,0,0,16,56,120,0,256,1016,0,2048,8184,16383,32767]
theorem spec_l7Shared.tab17:rtab .any (opsOf Try.f89 17)=spec_l7Shared.T17:=by kernel_rfl
theorem spec_l7Shared.bits17:waitsOk spec_l7Shared.T17.2 spec_l7Shared.B17=true:=by kernel_rfl
def spec_l7Shared.T22:Bool × List (List Nat × List Nat):=(true,[([],[]),([],[]),([0,1],[0,1]),([2],[2]),([],[]),([],[]),([4,5],[4,5]),([6],[6]),([7],[7]),([3,8],[3,8])])
def spec_l7Shared.B22:List Nat:=[0,0,3,7,0,0,48,112,240,511]
theorem spec_l7Shared.tab22:rtab .any (opsOf Try.f89 22)=spec_l7Shared.T22:=by kernel_rfl
theorem spec_l7Shared.bits22:waitsOk spec_l7Shared.T22.2 spec_l7Shared.B22=true:=by kernel_rfl
set_option maxHeartbeats 8000000 in
set_option maxRecDepth 100000 in
theorem spec_l7Shared.calls (k:Nat) (A0:Option Addr) (c0:Nat) (l0:List (S76)) (A1:Option Addr) (c1:Nat) (l1:List (List (S116))) (r:Bool) (w:World) (hr0:Kd.C k76 w A0 l0.length l0) (hc0:l0.length≤c0) (hr1:Kd.C (Kd.slice 116 k116) w A1 l1.length l1) (hc1:l1.length≤c1) (h:spec_l7Shared.f k l0 l1=some r) :
  Calls Try.prog 89 #[.slice A0 l0.length c0,.slice A1 l1.length c1] w fun e w'=>e=.returned (.bool r)∧Below w.heap.size w w':=by
 have hu116:=Try.underlying116
 have HR0:=Aside0.mk hr0
 have HC0:=Aside0.mk hc0
 clear hr0 hc0
 have HR1:=Aside0.mk hr1
 have HC1:=Aside0.mk hc1
 clear hr1 hc1
 have HB:=Aside0.mk (Below.refl w.heap.size w)
 have H:(if 0≤(l0.length:Int) then (if ((l0.length:Int):Int).toNat≤35184372088832 then (spec_l7Shared.l0 k l0 l1 (List.replicate ((l0.length:Int):Int).toNat 0) 0) else (none)) else (none))=some r:=h
 clear h
 by_cases c3:0≤(l0.length:Int)
 rotate_left
 ·rw [if_neg c3] at H
  exact absurd H (by simp)
 rw [if_pos c3] at H
 have c3b0:=eq_true c3
 have c3b1:=decide_eq_true c3
 clear c3
 by_cases c4:((l0.length:Int):Int).toNat≤35184372088832
 rotate_left
 ·rw [if_neg c4] at H
  exact absurd H (by simp)
 rw [if_pos c4] at H
 have c4b0:=eq_true c4
 have c4b1:=decide_eq_true c4
 clear c4
 obtain ⟨y518,hy518⟩:∃ y_:List Int,y_=(List.replicate ((l0.length:Int):Int).toNat 0):=⟨_,rfl⟩
 replace H:(spec_l7Shared.l0 k l0 l1 y518 0)=some r:=by first|(rw [hy518];with_reducible exact H)|(have H2_:=(Option.bind_some _ _).symm.trans H;rw [hy518];with_reducible exact H2_)|(have H2_:=(Option.bind_some _ _).symm.trans H;with_reducible exact H2_)|with_reducible exact H|(rw [hy518];exact H)|exact H
 have Ny518:=Aside0.mk hy518
 clear hy518
 have H':=Aside0.mk H
 clear H
 go_enter Try.func89,Try.ntmps89
 go_wp2_with (first|((with_reducible refine gate_dst (N:=14) rfl ?_);refine Kd.R_make (Kd.int .i64) _ 3 rfl (N:=14) rfl 43 _ _ rfl (l0.length:Int) rfl rfl Try.underlying43 (.int .i64 0) 8 info3 rfl (by decide) (by omega) 0 (ok:=fun _=>True) (okp:=fun _=>True) rfl (fun _ hk=>hk) trivial (of_decide_eq_true za) (Nat.le_trans (Nat.mul_le_mul_right _ (of_decide_eq_true za:(l0.length:Int).toNat≤35184372088832)) (by omega)) (Below.refl _ _) (Nat.le_refl _) ?_;intro v519 w5 ho6 hb hg_ hnew_;clear hg_ hnew_;(first|rw [←Ny518.out] at ho6|(simp only [Int.reduceToNat] at ho6;rw [←Ny518.out] at ho6));have HO520:=Aside0.mk (Kd.R_lower ho6 (below_size zb));replace HB:=zb1 hb;clear hb ho6))
 go_loopg [6] k (fun kq v6 w'=>∃ (x5_1:List Int) (x6_1:Int),v6=.int .i64 x6_1∧Aside0 (spec_l7Shared.l0 kq l0 l1 x5_1 x6_1=some r)∧Aside0 (kq≤k)∧Aside0 (Kd.R (Kd.int .i64) 3 w' w.heap.size (fun _=>True) v519 x5_1)∧Aside0 (Below w.heap.size w w'))
 case atStart=>exact ⟨(y518),(0),zo,H',⟨Nat.le_refl _⟩,⟨zR HO520.out⟩,⟨zb⟩⟩
 case round=>
  clear H'
  obtain ⟨x5_1,x6_1,rfl,HA,HK1,HO_5,HB⟩:=hrel
  cases gk with
  | zero=>exact absurd HA.out (by simp [spec_l7Shared.l0])
  | succ k1=>
   have H:=HA.out
   clear HA
   simp only [spec_l7Shared.l0] at H
   by_cases c7:x6_1<(l1.length:Int)
   rotate_left
   ·rw [if_neg c7] at H
    have c7b0:=decide_eq_false c7
    clear c7
    have H':=Aside0.mk H
    clear H
    go_wp2
    go_loopg [11] k1 (fun kq v11 w'=>∃ (x11_2:Int),v11=.int .i64 x11_2∧Aside0 (spec_l7Shared.l3 kq l0 x5_1 x11_2=some r)∧Aside0 (kq≤k1)∧Aside0 (Kd.R (Kd.int .i64) 3 w' w.heap.size (fun _=>True) v519 x5_1)∧Aside0 (Below w.heap.size w w'))
    case atStart=>exact ⟨(0),zo,H',⟨Nat.le_refl _⟩,⟨zR HO_5.out⟩,⟨zb⟩⟩
    case round=>
     clear H'
     obtain ⟨x11_2,rfl,HA,HK2,HO_5,HB⟩:=hrel
     cases gk with
     | zero=>exact absurd HA.out (by simp [spec_l7Shared.l3])
     | succ k2=>
      have H:=HA.out
      clear HA
      simp only [spec_l7Shared.l3] at H
      by_cases c40:x11_2<(l0.length:Int)
      rotate_left
      ·rw [if_neg c40] at H
       have c40b0:=decide_eq_false c40
       clear c40
       obtain rfl:=Option.some.inj H
       go_wp2
       go_ret
       exact ⟨zz1,zb⟩
      rw [if_pos c40] at H
      have c40b0:=decide_eq_true c40
      clear c40
      by_cases c41:0≤x11_2
      rotate_left
      ·rw [if_neg c41] at H
       exact absurd H (by simp)
      rw [if_pos c41] at H
      have c41b0:=decide_eq_true c41
      clear c41
      by_cases c42:x11_2<(x5_1.length:Int)
      rotate_left
      ·rw [if_neg c42] at H
       exact absurd H (by simp)
      rw [if_pos c42] at H
      have c42b0:=decide_eq_true c42
      clear c42
      by_cases c43:(rd x5_1 x11_2)=((rd_T76 l0 x11_2).f0)
      rotate_left
      ·rw [if_neg c43] at H
       have c43b0:((rd x5_1 x11_2) == ((rd_T76 l0 x11_2).f0))=false:=beq_eq_false_iff_ne.mpr c43
       have c43b1:((rd x5_1 x11_2) != ((rd_T76 l0 x11_2).f0))=true:=bne_iff_ne.mpr c43
       obtain rfl:=Option.some.inj H
       try go_wp2
       replace HO_5:=Aside0.mk (Kd.R_drew HO_5.out)
       replace HB:=Aside0.mk (below_drew1 HB.out)
       obtain ⟨Ao47,co47,eo47⟩:=Kd.R_slice HO_5.out
       (first|subst eo47|(injection eo47 with f1_ f2_ f3_;have f4_:=f1_.symm;have f5_:=f3_.symm;clear f1_ f2_ f3_;subst f4_;subst f5_))
       have p530:0≤(x11_2:Int):=of_decide_eq_true za
       have q530:x11_2<(x5_1.length:Int):=of_decide_eq_true za
       obtain ⟨ad530,e530,hx530_0⟩:=Kd.at_int (Kd.R_reads' HO_5.out).2.2 x11_2 p530 q530
       cases e530
       replace p530:=eq_true p530
       replace q530:=eq_true q530
       have p531:0≤(x11_2:Int):=of_decide_eq_true za
       have q531:x11_2<(l0.length:Int):=of_decide_eq_true za
       obtain ⟨ad531,e531,hx531_0,hx531_1,hx531_2,hx531_3⟩:=at_T76 HR0.out x11_2 p531 q531
       have hw531_3:=hx531_3
       have hw531_2:=hx531_2
       have hw531_1:=hx531_1
       have hw531_0:=hx531_0
       cases e531
       replace hx531_0:=zh_ HB hx531_0
       replace hx531_1:=zh_ HB hx531_1
       replace hx531_2:=zh_ HB hx531_2
       replace hx531_3:=zh_ HB hx531_3
       replace p531:=eq_true p531
       replace q531:=eq_true q531
       refine start_ (n:=10) (S:=fun w'=>w'.cell? (ad530.add (x11_2).toNat)=some (.int .i64 (rd x5_1 x11_2))∧w'.cell? (ad531.add ((x11_2).toNat * 4))=some (.int .i64 ((rd_T76 l0 x11_2).f0))∧w'.cell? ⟨(ad531.add ((x11_2).toNat * 4)).block,(ad531.add ((x11_2).toNat * 4)).off + 1,none⟩=some (.int .i64 ((rd_T76 l0 x11_2).f1))∧w'.cell? ⟨(ad531.add ((x11_2).toNat * 4)).block,(ad531.add ((x11_2).toNat * 4)).off + 2,none⟩=some (.int .i64 ((rd_T76 l0 x11_2).f2))∧w'.cell? ⟨(ad531.add ((x11_2).toNat * 4)).block,(ad531.add ((x11_2).toNat * 4)).off + 3,none⟩=some (.int .i64 ((rd_T76 l0 x11_2).f3))) (ds:=[]) #[false,false,false,false,false,false,false,false,false,false] (by kernel_rfl) rfl rfl ⟨hx530_0,((HB.out.cell (World.block_lt_of_cell? w _ hw531_0)).trans hw531_0),((HB.out.cell (World.block_lt_of_cell? w _ hw531_1)).trans hw531_1),((HB.out.cell (World.block_lt_of_cell? w _ hw531_2)).trans hw531_2),((HB.out.cell (World.block_lt_of_cell? w _ hw531_3)).trans hw531_3)⟩ (fun hHeld=>?_);refine with_tabW spec_l7Shared.tab22 spec_l7Shared.bits22 (fun HT_ HW_=>?_)
       generalize wr.drew=w46 at HO_5 HB hx530_0 hx531_0 hx531_1 hx531_2 hx531_3 hHeld ⊢
       refine pu_ 0 95 ?_
       refine pu_ 1 96 ?_
       refine pu_ 2 97 ?_
       refine pu_ 4 99 ?_
       refine pu_ 5 100 ?_
       refine pu_ 6 101 ?_
       refine pu_ 7 102 ?_
       refine tk_ 3 98 hHeld ?_
       refine tk_ 8 103 hHeld ?_
       refine pu_ 9 104 ?_
       refine done_ (done_of HT_.out (by kernel_rfl)) ?_
       try go_wp2
       go_ret
       exact ⟨zz1,zb⟩
      rw [if_pos c43] at H
      have c43b0:((rd x5_1 x11_2) == ((rd_T76 l0 x11_2).f0))=true:=beq_iff_eq.mpr c43
      have c43b1:((rd x5_1 x11_2) != ((rd_T76 l0 x11_2).f0))=false:=bne_eq_false_iff_eq.mpr c43
      clear c43
      have H':=Aside0.mk H
      clear H
      try go_wp2
      replace HO_5:=Aside0.mk (Kd.R_drew HO_5.out)
      replace HB:=Aside0.mk (below_drew1 HB.out)
      obtain ⟨Ao45,co45,eo45⟩:=Kd.R_slice HO_5.out
      (first|subst eo45|(injection eo45 with f1_ f2_ f3_;have f4_:=f1_.symm;have f5_:=f3_.symm;clear f1_ f2_ f3_;subst f4_;subst f5_))
      have p530:0≤(x11_2:Int):=of_decide_eq_true za
      have q530:x11_2<(x5_1.length:Int):=of_decide_eq_true za
      obtain ⟨ad530,e530,hx530_0⟩:=Kd.at_int (Kd.R_reads' HO_5.out).2.2 x11_2 p530 q530
      cases e530
      replace p530:=eq_true p530
      replace q530:=eq_true q530
      have p531:0≤(x11_2:Int):=of_decide_eq_true za
      have q531:x11_2<(l0.length:Int):=of_decide_eq_true za
      obtain ⟨ad531,e531,hx531_0,hx531_1,hx531_2,hx531_3⟩:=at_T76 HR0.out x11_2 p531 q531
      have hw531_3:=hx531_3
      have hw531_2:=hx531_2
      have hw531_1:=hx531_1
      have hw531_0:=hx531_0
      cases e531
      replace hx531_0:=zh_ HB hx531_0
      replace hx531_1:=zh_ HB hx531_1
      replace hx531_2:=zh_ HB hx531_2
      replace hx531_3:=zh_ HB hx531_3
      replace p531:=eq_true p531
      replace q531:=eq_true q531
      refine start_ (n:=10) (S:=fun w'=>w'.cell? (ad530.add (x11_2).toNat)=some (.int .i64 (rd x5_1 x11_2))∧w'.cell? (ad531.add ((x11_2).toNat * 4))=some (.int .i64 ((rd_T76 l0 x11_2).f0))∧w'.cell? ⟨(ad531.add ((x11_2).toNat * 4)).block,(ad531.add ((x11_2).toNat * 4)).off + 1,none⟩=some (.int .i64 ((rd_T76 l0 x11_2).f1))∧w'.cell? ⟨(ad531.add ((x11_2).toNat * 4)).block,(ad531.add ((x11_2).toNat * 4)).off + 2,none⟩=some (.int .i64 ((rd_T76 l0 x11_2).f2))∧w'.cell? ⟨(ad531.add ((x11_2).toNat * 4)).block,(ad531.add ((x11_2).toNat * 4)).off + 3,none⟩=some (.int .i64 ((rd_T76 l0 x11_2).f3))) (ds:=[]) #[false,false,false,false,false,false,false,false,false,false] (by kernel_rfl) rfl rfl ⟨hx530_0,((HB.out.cell (World.block_lt_of_cell? w _ hw531_0)).trans hw531_0),((HB.out.cell (World.block_lt_of_cell? w _ hw531_1)).trans hw531_1),((HB.out.cell (World.block_lt_of_cell? w _ hw531_2)).trans hw531_2),((HB.out.cell (World.block_lt_of_cell? w _ hw531_3)).trans hw531_3)⟩ (fun hHeld=>?_);refine with_tabW spec_l7Shared.tab22 spec_l7Shared.bits22 (fun HT_ HW_=>?_)
      generalize wr.drew=w44 at HO_5 HB hx530_0 hx531_0 hx531_1 hx531_2 hx531_3 hHeld ⊢
      refine pu_ 0 95 ?_
      refine pu_ 1 96 ?_
      refine pu_ 2 97 ?_
      refine pu_ 4 99 ?_
      refine pu_ 5 100 ?_
      refine pu_ 6 101 ?_
      refine pu_ 7 102 ?_
      refine tk_ 3 98 hHeld ?_
      refine tk_ 8 103 hHeld ?_
      refine pu_ 9 104 ?_
      refine done_ (done_of HT_.out (by kernel_rfl)) ?_
      try go_wp2
      go_roundg k2
      case measure=>have:=HK1.out;have:=HK2.out;omega
      case rel=>exact ⟨(wrap64 (x11_2 + 1)),zo,H',⟨zz9⟩,⟨zR HO_5.out⟩,⟨zb⟩⟩
   rw [if_pos c7] at H
   have c7b0:=decide_eq_true c7
   clear c7
   have H':=Aside0.mk H
   clear H
   go_wp2
   go_loopg [7,8] k1 (fun kq v7 v8 w'=>∃ (x5_2:List Int) (x7_2:Int) (x8_2:Int),v7=.int .i64 x7_2∧v8=.int .i64 x8_2∧Aside0 (spec_l7Shared.l1 kq l0 l1 x5_2 x6_1 x7_2 x8_2=some r)∧Aside0 (kq≤k1)∧Aside0 (Kd.R (Kd.int .i64) 3 w' w.heap.size (fun _=>True) v519 x5_2)∧Aside0 (Below w.heap.size w w'))
   case atStart=>exact ⟨(x5_1),(0),(0),zo,zo,H',⟨Nat.le_refl _⟩,⟨zR HO_5.out⟩,⟨zb⟩⟩
   case round=>
    clear H'
    obtain ⟨x5_2,x7_2,x8_2,rfl,rfl,HA,HK2,HO_5,HB⟩:=hrel
    cases gk with
    | zero=>exact absurd HA.out (by simp [spec_l7Shared.l1])
    | succ k2=>
     have H:=HA.out
     clear HA
     simp only [spec_l7Shared.l1] at H
     by_cases c8:0≤x6_1
     rotate_left
     ·rw [if_neg c8] at H
      exact absurd H (by simp)
     rw [if_pos c8] at H
     have c8b0:=decide_eq_true c8
     clear c8
     by_cases c9:x6_1<(l1.length:Int)
     rotate_left
     ·rw [if_neg c9] at H
      exact absurd H (by simp)
     rw [if_pos c9] at H
     have c9b0:=decide_eq_true c9
     clear c9
     by_cases c10:x8_2<((rd_L7 l1 x6_1).length:Int)
     rotate_left
     ·rw [if_neg c10] at H
      have c10b0:=decide_eq_false c10
      clear c10
      have H':=Aside0.mk H
      clear H
      have p521:0≤(x6_1:Int):=of_decide_eq_true za
      have q521:x6_1<(l1.length:Int):=of_decide_eq_true za
      obtain ⟨ad521,A521_0,c521_0,e521,hx521_0,hl521_0,hi521_0⟩:=at_L7 HR1.out x6_1 p521 q521
      cases e521
      replace hx521_0:=zh_ HB hx521_0
      have HR521_0:=Aside0.mk hi521_0
      have HC521_0:=Aside0.mk hl521_0
      clear hi521_0 hl521_0
      replace p521:=eq_true p521
      replace q521:=eq_true q521
      go_wp2
      go_roundg k2
      case measure=>have:=HK1.out;have:=HK2.out;omega
      case rel=>exact ⟨(x5_2),(wrap64 (x6_1 + 1)),zo,H',⟨zz9⟩,⟨zR HO_5.out⟩,⟨zb⟩⟩
     rw [if_pos c10] at H
     have c10b0:=decide_eq_true c10
     clear c10
     by_cases c11:0≤x8_2
     rotate_left
     ·rw [if_neg c11] at H
      exact absurd H (by simp)
     rw [if_pos c11] at H
     have c11b0:=decide_eq_true c11
     clear c11
     have HC12:=Aside0.mk H
     clear H
     have p521:0≤(x6_1:Int):=of_decide_eq_true za
     have q521:x6_1<(l1.length:Int):=of_decide_eq_true za
     obtain ⟨ad521,A521_0,c521_0,e521,hx521_0,hl521_0,hi521_0⟩:=at_L7 HR1.out x6_1 p521 q521
     cases e521
     replace hx521_0:=zh_ HB hx521_0
     have HR521_0:=Aside0.mk hi521_0
     have HC521_0:=Aside0.mk hl521_0
     clear hi521_0 hl521_0
     replace p521:=eq_true p521
     replace q521:=eq_true q521
     have p522:0≤(x6_1:Int):=of_decide_eq_true za
     have q522:x6_1<(l1.length:Int):=of_decide_eq_true za
     obtain ⟨ad522,A522_0,c522_0,e522,hx522_0,hl522_0,hi522_0⟩:=at_L7 HR1.out x6_1 p522 q522
     obtain rfl:ad521=ad522:=(by injection e522)
     replace hx522_0:=zh_ HB hx522_0
     have HR522_0:=Aside0.mk hi522_0
     have HC522_0:=Aside0.mk hl522_0
     clear hi522_0 hl522_0
     replace p522:=eq_true p522
     replace q522:=eq_true q522
     have ea_:=Option.some.inj (hx521_0.symm.trans hx522_0)
     injection ea_ with ea_ en_ ec_
     subst ea_
     subst ec_
     clear en_
     have p523:0≤(x8_2:Int):=of_decide_eq_true za
     have q523:x8_2<((rd_L7 l1 x6_1).length:Int):=of_decide_eq_true za
     obtain ⟨ad523,e523,hx523_0,hx523_1,hx523_2⟩:=at_T116 HR522_0.out x8_2 p523 q523
     cases e523
     replace hx523_0:=zh_ HB hx523_0
     replace hx523_1:=zh_ HB hx523_1
     replace hx523_2:=zh_ HB hx523_2
     replace p523:=eq_true p523
     replace q523:=eq_true q523
     go_upto_region 10 with (first|((with_reducible refine gate_dst (N:=9) rfl ?_);refine box_event ?hg (N:=9) ?hd (cs:=#[.int .i64 0,.int .i64 0,.int .i64 0]) (t:=116) ?hr ?_;(case hd=>rfl);(case hg=>rfl);(case hr=>first|(go_simp;done)|(go_simp;rfl));intro gb524 hg w13 hbox hb;have n0_:=zRb HO_5 hb;have n1_:=zb1 hb;have n2_:=Aside0.mk (hbox);have n3_:=Aside0.mk ((by rw [hg];exact (below_size zb):w.heap.size≤gb524));have n4_:=Aside0.mk ((by rw [hg];exact (below_size zb):w.heap.size≤gb524));clear HO_5;clear HB;have HO_5:=n0_;have HB:=n1_;have BK524:=n2_;have GW524:=n3_;have GE524:=n4_;clear n0_ n1_ n2_ n3_ n4_;clear hb hbox hg;obtain ⟨hcz14_0,hcz14_1,hcz14_2,hfz14_0,hfz14_1,hfz14_2⟩:=zk3 BK524.out))
     (try simp only [Act.put,List.setIfInBounds_toArray,List.set_cons_zero,List.set_cons_succ])
     go_cut [59] (fun v59 wc=>∃ (kq:Nat) (x59_11:Bool),v59=.bool x59_11∧Aside0 (spec_l7Shared.j2 kq l0 l1 x5_2 x6_1 x8_2 x59_11 ((rd_T116 (rd_L7 l1 x6_1) x8_2).f0) ((rd_T116 (rd_L7 l1 x6_1) x8_2).f1) ((rd_T116 (rd_L7 l1 x6_1) x8_2).f2)=some r)∧Aside0 (kq≤k2)∧Aside0 (Kd.R (Kd.int .i64) 3 wc w.heap.size (fun _=>True) v519 x5_2)∧Aside0 (wc.heap[gb524]?=some (.cells #[.int .i64 ((rd_T116 (rd_L7 l1 x6_1) x8_2).f0),.int .i64 ((rd_T116 (rd_L7 l1 x6_1) x8_2).f1),.int .i64 ((rd_T116 (rd_L7 l1 x6_1) x8_2).f2)] 116 (0,0)))∧Aside0 (Below w.heap.size w wc))
     case first=>
      have H:=HC12.out
      clear HC12
      replace H:=Option.bind_eq_some_iff.mp H
      obtain ⟨t525,A150,H⟩:=H
      try dsimp only at H
      have A15:=Aside0.mk A150
      clear A150
      by_cases c16:t525=true
      rotate_left
      ·replace c16:=Bool.eq_false_iff.mpr c16
       subst c16
       rw [if_neg (show ¬ (false=true) by decide)] at H
       have H':=Aside0.mk H
       clear H
       obtain ⟨hcz22_0,hcz22_1,hcz22_2,hfz22_0,hfz22_1,hfz22_2⟩:=zk3 BK524.out
       go_wp2_with (first|((with_reducible refine gate_callee (f:=140) rfl ?_);refine zgo 40 Try.func140 #[.slice A0 l0.length c0,.int .i64 ((rd_T116 (rd_L7 l1 x6_1) x8_2).f0)] ?_;(with_reducible refine (spec_l3Job.calls _ _ l0 ((rd_T116 (rd_L7 l1 x6_1) x8_2).f0) false _ ?side1 ?side2 A15.out).mono ?_);(case side1=>exact Kd.C_below HR0.out zz18);(case side2=>exact HC0.out);rintro e w' ⟨rfl,⟨nd,rfl⟩⟩;refine ⟨_,rfl,?_⟩))
       go_meet
       case rel=>exact ⟨_,(true),zo,H',⟨by have:=HK1.out;have:=HK2.out;first|omega|exact Nat.le_refl _⟩,⟨zz43⟩,⟨zz44⟩,⟨zz18⟩⟩
      subst c16
      rw [if_pos rfl] at H
      by_cases c17:((rd_T116 (rd_L7 l1 x6_1) x8_2).f1)<x7_2
      ·rw [if_pos c17] at H
       have c17b0:=decide_eq_true c17
       clear c17
       (first|rw [c17b0]|(simp only [i64_w,i32_w];rw [c17b0])|skip)
       have H':=Aside0.mk H
       clear H
       obtain ⟨hcz18_0,hcz18_1,hcz18_2,hfz18_0,hfz18_1,hfz18_2⟩:=zk3 BK524.out
       go_wp2_with (first|((with_reducible refine gate_callee (f:=140) rfl ?_);refine zgo 40 Try.func140 #[.slice A0 l0.length c0,.int .i64 ((rd_T116 (rd_L7 l1 x6_1) x8_2).f0)] ?_;(with_reducible refine (spec_l3Job.calls _ _ l0 ((rd_T116 (rd_L7 l1 x6_1) x8_2).f0) true _ ?side1 ?side2 A15.out).mono ?_);(case side1=>exact Kd.C_below HR0.out zz18);(case side2=>exact HC0.out);rintro e w' ⟨rfl,⟨nd,rfl⟩⟩;refine ⟨_,rfl,?_⟩))
       go_meet
       case rel=>exact ⟨_,(true),zo,H',⟨by have:=HK1.out;have:=HK2.out;first|omega|exact Nat.le_refl _⟩,⟨zz43⟩,⟨zz44⟩,⟨zz18⟩⟩
      rw [if_neg c17] at H
      have c17b0:=decide_eq_false c17
      clear c17
      (first|rw [c17b0]|(simp only [i64_w,i32_w];rw [c17b0])|skip)
      by_cases c19:((rd_T116 (rd_L7 l1 x6_1) x8_2).f2)≤((rd_T116 (rd_L7 l1 x6_1) x8_2).f1)
      ·rw [if_pos c19] at H
       have c19b0:=decide_eq_true c19
       clear c19
       have H':=Aside0.mk H
       clear H
       obtain ⟨hcz20_0,hcz20_1,hcz20_2,hfz20_0,hfz20_1,hfz20_2⟩:=zk3 BK524.out
       go_wp2_with (first|((with_reducible refine gate_callee (f:=140) rfl ?_);refine zgo 40 Try.func140 #[.slice A0 l0.length c0,.int .i64 ((rd_T116 (rd_L7 l1 x6_1) x8_2).f0)] ?_;(with_reducible refine (spec_l3Job.calls _ _ l0 ((rd_T116 (rd_L7 l1 x6_1) x8_2).f0) true _ ?side1 ?side2 A15.out).mono ?_);(case side1=>exact Kd.C_below HR0.out zz18);(case side2=>exact HC0.out);rintro e w' ⟨rfl,⟨nd,rfl⟩⟩;refine ⟨_,rfl,?_⟩))
       go_meet
       case rel=>exact ⟨_,(true),zo,H',⟨by have:=HK1.out;have:=HK2.out;first|omega|exact Nat.le_refl _⟩,⟨zz43⟩,⟨zz44⟩,⟨zz18⟩⟩
      rw [if_neg c19] at H
      have c19b0:=decide_eq_false c19
      clear c19
      have H':=Aside0.mk H
      clear H
      obtain ⟨hcz21_0,hcz21_1,hcz21_2,hfz21_0,hfz21_1,hfz21_2⟩:=zk3 BK524.out
      go_wp2_with (first|((with_reducible refine gate_callee (f:=140) rfl ?_);refine zgo 40 Try.func140 #[.slice A0 l0.length c0,.int .i64 ((rd_T116 (rd_L7 l1 x6_1) x8_2).f0)] ?_;(with_reducible refine (spec_l3Job.calls _ _ l0 ((rd_T116 (rd_L7 l1 x6_1) x8_2).f0) true _ ?side1 ?side2 A15.out).mono ?_);(case side1=>exact Kd.C_below HR0.out zz18);(case side2=>exact HC0.out);rintro e w' ⟨rfl,⟨nd,rfl⟩⟩;refine ⟨_,rfl,?_⟩))
      go_meet
      case rel=>exact ⟨_,(decide (((rd_T116 (rd_L7 l1 x6_1) x8_2).f2)>1000)),zo,H',⟨by have:=HK1.out;have:=HK2.out;first|omega|exact Nat.le_refl _⟩,⟨zz43⟩,⟨zz44⟩,⟨zz18⟩⟩
     case rest=>
      clear HC12
      obtain ⟨kq,x59_11,rfl,HA,HJ11,HO_5,BK524,HB⟩:=hcut
      cases kq with
      | zero=>exact absurd HA.out (by simp [spec_l7Shared.j2])
      | succ kj11=>
       have H:=HA.out
       clear HA
       simp only [spec_l7Shared.j2] at H
       by_cases c23:x59_11=true
       ·subst c23
        rw [if_pos rfl] at H
        obtain rfl:=Option.some.inj H
        go_wp2
        go_ret
        exact ⟨zz1,zz18⟩
       replace c23:=Bool.eq_false_iff.mpr c23
       subst c23
       rw [if_neg (show ¬ (false=true) by decide)] at H
       have H':=Aside0.mk H
       clear H
       go_wp2
       go_loopg [10] kj11 (fun kq v10 w'=>∃ (x10_4:Int),v10=.int .i64 x10_4∧Aside0 (spec_l7Shared.l2 kq l0 l1 x5_2 x6_1 x8_2 x10_4 ((rd_T116 (rd_L7 l1 x6_1) x8_2).f0) ((rd_T116 (rd_L7 l1 x6_1) x8_2).f1) ((rd_T116 (rd_L7 l1 x6_1) x8_2).f2)=some r)∧Aside0 (kq≤kj11)∧Aside0 (Kd.R (Kd.int .i64) 3 w' w.heap.size (fun _=>True) v519 x5_2)∧Aside0 (w'.heap[gb524]?=some (.cells #[.int .i64 ((rd_T116 (rd_L7 l1 x6_1) x8_2).f0),.int .i64 ((rd_T116 (rd_L7 l1 x6_1) x8_2).f1),.int .i64 ((rd_T116 (rd_L7 l1 x6_1) x8_2).f2)] 116 (0,0)))∧Aside0 (Below w.heap.size w w'))
       case atStart=>exact ⟨(0),zo,H',⟨Nat.le_refl _⟩,⟨zR HO_5.out⟩,⟨zz45⟩,⟨zz18⟩⟩
       case round=>
        clear H'
        obtain ⟨x10_4,rfl,HA,HK4,HO_5,BK524,HB⟩:=hrel
        cases gk with
        | zero=>exact absurd HA.out (by simp [spec_l7Shared.l2])
        | succ k4=>
         have H:=HA.out
         clear HA
         simp only [spec_l7Shared.l2] at H
         by_cases c24:x10_4<x6_1
         rotate_left
         ·rw [if_neg c24] at H
          have c24b0:=decide_eq_false c24
          clear c24
          by_cases c33:0≤((rd_T116 (rd_L7 l1 x6_1) x8_2).f0)
          rotate_left
          ·rw [if_neg c33] at H
           exact absurd H (by simp)
          rw [if_pos c33] at H
          have c33b0:=decide_eq_true c33
          clear c33
          by_cases c34:((rd_T116 (rd_L7 l1 x6_1) x8_2).f0)<(x5_2.length:Int)
          rotate_left
          ·rw [if_neg c34] at H
           exact absurd H (by simp)
          rw [if_pos c34] at H
          have c34b0:=decide_eq_true c34
          clear c34
          obtain ⟨y529,hy529⟩:∃ y_:List Int,y_=(x5_2.set (((rd_T116 (rd_L7 l1 x6_1) x8_2).f0):Int).toNat (wrap64 ((wrap64 ((rd x5_2 ((rd_T116 (rd_L7 l1 x6_1) x8_2).f0)) + ((rd_T116 (rd_L7 l1 x6_1) x8_2).f2))) - ((rd_T116 (rd_L7 l1 x6_1) x8_2).f1)))):=⟨_,rfl⟩
          replace H:(spec_l7Shared.l1 k4 l0 l1 y529 x6_1 ((rd_T116 (rd_L7 l1 x6_1) x8_2).f2) (wrap64 (x8_2 + 1)))=some r:=by first|(rw [hy529];with_reducible exact H)|(have H2_:=(Option.bind_some _ _).symm.trans H;rw [hy529];with_reducible exact H2_)|(have H2_:=(Option.bind_some _ _).symm.trans H;with_reducible exact H2_)|with_reducible exact H|(rw [hy529];exact H)|exact H
          have Ny529:=Aside0.mk hy529
          clear hy529
          have H':=Aside0.mk H
          clear H
          try go_wp2
          replace HO_5:=Aside0.mk (Kd.R_drew HO_5.out)
          replace BK524:=Aside0.mk (blk_drew BK524.out)
          replace HB:=Aside0.mk (below_drew1 HB.out)
          obtain ⟨Ao37,co37,eo37⟩:=Kd.R_slice HO_5.out
          (first|subst eo37|(injection eo37 with f1_ f2_ f3_;have f4_:=f1_.symm;have f5_:=f3_.symm;clear f1_ f2_ f3_;subst f4_;subst f5_))
          have p528:0≤(((rd_T116 (rd_L7 l1 x6_1) x8_2).f0):Int):=of_decide_eq_true za
          have q528:((rd_T116 (rd_L7 l1 x6_1) x8_2).f0)<(x5_2.length:Int):=of_decide_eq_true za
          obtain ⟨ad528,e528,hx528_0⟩:=Kd.at_int (Kd.R_reads' HO_5.out).2.2 ((rd_T116 (rd_L7 l1 x6_1) x8_2).f0) p528 q528
          cases e528
          replace p528:=eq_true p528
          replace q528:=eq_true q528
          have p35:0≤(((rd_T116 (rd_L7 l1 x6_1) x8_2).f0):Int):=of_decide_eq_true za
          have q35:(((rd_T116 (rd_L7 l1 x6_1) x8_2).f0):Int)<((x5_2.length:Int):Int):=of_decide_eq_true za
          obtain ⟨go35,co35,eo35,gb35,gl35,cl35,HG35⟩:=Kd.R_form HO_5.out (by omega)
          (first|cases eo35|(injection eo35 with ea_ en_ ec_;(first|subst ea_|(injection ea_ with ea_;subst ea_));subst ec_;clear en_))
          have GB35:=Aside0.mk gb35
          have GG35:=Aside0.mk HG35
          clear gb35 gl35 HG35
          (first|simp only [add_plain] at hx528_0|skip)
          obtain ⟨hx35_0,hf35_0⟩:=Kd.R_celln 0 HO_5.out (((rd_T116 (rd_L7 l1 x6_1) x8_2).f0):Int) p35 q35
          replace p35:=eq_true p35
          replace q35:=eq_true q35
          have HP38:=Kd.R_putn HO_5.out (((rd_T116 (rd_L7 l1 x6_1) x8_2).f0):Int) (wrap64 ((wrap64 ((rd x5_2 ((rd_T116 (rd_L7 l1 x6_1) x8_2).f0)) + ((rd_T116 (rd_L7 l1 x6_1) x8_2).f2))) - ((rd_T116 (rd_L7 l1 x6_1) x8_2).f1)))
          rw [←Ny529.out] at HP38
          have HQ38:=Aside0.mk HP38
          clear HP38
          refine start_ (n:=16) (S:=fun w'=>w'.cell? ⟨gb524,0,none⟩=some (.int .i64 ((rd_T116 (rd_L7 l1 x6_1) x8_2).f0))∧w'.cell? ⟨gb524,1,none⟩=some (.int .i64 ((rd_T116 (rd_L7 l1 x6_1) x8_2).f1))∧w'.cell? ⟨gb524,2,none⟩=some (.int .i64 ((rd_T116 (rd_L7 l1 x6_1) x8_2).f2))∧w'.cell? ⟨go35,(((rd_T116 (rd_L7 l1 x6_1) x8_2).f0)).toNat,none⟩=some (.int .i64 (rd x5_2 ((rd_T116 (rd_L7 l1 x6_1) x8_2).f0)))) (ds:=[15]) #[false,false,false,false,false,false,false,false,false,false,false,false,false,false,false,false] (by kernel_rfl) rfl rfl ⟨(blk_cell BK524.out 0).trans rfl,(blk_cell BK524.out 1).trans rfl,(blk_cell BK524.out 2).trans rfl,hx528_0⟩ (fun hHeld=>?_);refine with_tabW spec_l7Shared.tab17 spec_l7Shared.bits17 (fun HT_ HW_=>?_)
          generalize wr.drew=w36 at HO_5 BK524 HB GG35 HQ38 hf35_0 hx35_0 hx528_0 hHeld ⊢
          refine pu_ 0 72 ?_
          refine pu_ 1 73 ?_
          refine pu_ 3 75 ?_
          refine pu_ 4 76 ?_
          refine pu_ 8 80 ?_
          refine pu_ 11 83 ?_
          refine tk_ 2 74 hHeld ?_
          refine tk_ 5 77 hHeld ?_
          refine pu_ 6 78 ?_
          refine tk_ 7 79 hHeld ?_
          refine tk_ 9 81 hHeld ?_
          refine pu_ 10 82 ?_
          refine tk_ 12 84 hHeld ?_
          refine pu_ 13 85 ?_
          refine pu_ 14 86 ?_
          refine last_ (i:=15) (N:=none) #[true,true,true,true,true,true,true,true,true,true,true,true,true,true,true,true] rfl rfl (one_of HT_.out (by kernel_rfl)) (by decide) (fun K hK=>?_)
          refine skip_ (w1:=?_) (by rfl) rfl ?_ ?_
          rotate_left
          ·go_simp
           rfl
          refine hK.out _ _ ?_
          clear hK K
          refine done_ (done_of HT_.out (by kernel_rfl)) ?_
          have hcz39_0:w36.cell? ⟨gb524,0,none⟩=some (.int .i64 ((rd_T116 (rd_L7 l1 x6_1) x8_2).f0)):=(blk_cell BK524.out 0).trans rfl
          have hcz39_0s:∀ (i_:Nat) (u_:Value),(w36.setCell ⟨go35,i_,none⟩ u_).cell? ⟨gb524,0,none⟩=some (.int .i64 ((rd_T116 (rd_L7 l1 x6_1) x8_2).f0)):=fun i_ u_=>(blk_cell (blk_far BK524.out (blk_ne BK524.out GG35.out (by decide)) u_) 0).trans rfl
          have hcz39_1:w36.cell? ⟨gb524,1,none⟩=some (.int .i64 ((rd_T116 (rd_L7 l1 x6_1) x8_2).f1)):=(blk_cell BK524.out 1).trans rfl
          have hcz39_1s:∀ (i_:Nat) (u_:Value),(w36.setCell ⟨go35,i_,none⟩ u_).cell? ⟨gb524,1,none⟩=some (.int .i64 ((rd_T116 (rd_L7 l1 x6_1) x8_2).f1)):=fun i_ u_=>(blk_cell (blk_far BK524.out (blk_ne BK524.out GG35.out (by decide)) u_) 1).trans rfl
          have hcz39_2:w36.cell? ⟨gb524,2,none⟩=some (.int .i64 ((rd_T116 (rd_L7 l1 x6_1) x8_2).f2)):=(blk_cell BK524.out 2).trans rfl
          have hcz39_2s:∀ (i_:Nat) (u_:Value),(w36.setCell ⟨go35,i_,none⟩ u_).cell? ⟨gb524,2,none⟩=some (.int .i64 ((rd_T116 (rd_L7 l1 x6_1) x8_2).f2)):=fun i_ u_=>(blk_cell (blk_far BK524.out (blk_ne BK524.out GG35.out (by decide)) u_) 2).trans rfl
          have hfz39_0:=blk_frozen BK524.out 0
          have hfz39_1:=blk_frozen BK524.out 1
          have hfz39_2:=blk_frozen BK524.out 2
          try go_wp2
          go_roundg k4
          case measure=>have:=HK1.out;have:=HK2.out;have:=HJ11.out;have:=HK4.out;omega
          case rel=>exact ⟨(y529),(((rd_T116 (rd_L7 l1 x6_1) x8_2).f2)),(wrap64 (x8_2 + 1)),zo,zo,H',⟨by have:=HK1.out;have:=HK2.out;have:=HJ11.out;have:=HK4.out;omega⟩,⟨by (with_reducible repeat (first|apply Kd.R_alloc|apply Kd.R_drewN|apply Kd.R_drew));exact HQ38.out⟩,⟨by repeat (first|(with_reducible first|exact HB.out|apply below_alloc|apply pw_below_drewN|apply below_drew1|refine below_set ?_ GB35.out|refine below_set ?_ GE524.out)|exact HB.out)⟩⟩
         rw [if_pos c24] at H
         have c24b0:=decide_eq_true c24
         clear c24
         by_cases c25:0≤x10_4
         rotate_left
         ·rw [if_neg c25] at H
          exact absurd H (by simp)
         rw [if_pos c25] at H
         have c25b0:=decide_eq_true c25
         clear c25
         by_cases c26:x10_4<(l1.length:Int)
         rotate_left
         ·rw [if_neg c26] at H
          exact absurd H (by simp)
         rw [if_pos c26] at H
         have c26b0:=decide_eq_true c26
         clear c26
         replace H:=Option.bind_eq_some_iff.mp H
         obtain ⟨t527,A270,H⟩:=H
         try dsimp only at H
         have A27:=Aside0.mk A270
         clear A270
         by_cases c28:t527=true
         rotate_left
         ·replace c28:=Bool.eq_false_iff.mpr c28
          subst c28
          rw [if_neg (show ¬ (false=true) by decide)] at H
          obtain rfl:=Option.some.inj H
          try go_wp2
          replace HO_5:=Aside0.mk (Kd.R_drew HO_5.out)
          replace BK524:=Aside0.mk (blk_drew BK524.out)
          replace HB:=Aside0.mk (below_drew1 HB.out)
          have p526:0≤(x10_4:Int):=of_decide_eq_true za
          have q526:x10_4<(l1.length:Int):=of_decide_eq_true za
          obtain ⟨ad526,A526_0,c526_0,e526,hx526_0,hl526_0,hi526_0⟩:=at_L7 HR1.out x10_4 p526 q526
          have hw526_0:=hx526_0
          obtain rfl:ad521=ad526:=(by injection e526)
          replace hx526_0:=zh_ HB hx526_0
          have HR526_0:=Aside0.mk hi526_0
          have HC526_0:=Aside0.mk hl526_0
          clear hi526_0 hl526_0
          replace p526:=eq_true p526
          replace q526:=eq_true q526
          refine start_ (n:=7) (S:=fun w'=>w'.cell? ⟨gb524,0,none⟩=some (.int .i64 ((rd_T116 (rd_L7 l1 x6_1) x8_2).f0))∧w'.cell? ⟨gb524,1,none⟩=some (.int .i64 ((rd_T116 (rd_L7 l1 x6_1) x8_2).f1))∧w'.cell? ⟨gb524,2,none⟩=some (.int .i64 ((rd_T116 (rd_L7 l1 x6_1) x8_2).f2))∧w'.cell? (ad521.add (x10_4).toNat)=some (.slice A526_0 (rd_L7 l1 x10_4).length c526_0)) (ds:=[]) #[false,false,false,false,false,false,false] (by kernel_rfl) rfl rfl ⟨(blk_cell BK524.out 0).trans rfl,(blk_cell BK524.out 1).trans rfl,(blk_cell BK524.out 2).trans rfl,((HB.out.cell (World.block_lt_of_cell? w _ hw526_0)).trans hw526_0)⟩ (fun hHeld=>?_)
          generalize wr.drew=w31 at HO_5 BK524 HB HR526_0 hx526_0 hHeld ⊢
          refine pu_ 1 66 ?_
          refine pu_ 2 67 ?_
          refine pu_ 3 68 ?_
          refine tk_ 0 65 hHeld ?_
          refine tk_ 4 69 hHeld ?_
          refine one_ (i:=5) (N:=some 70) #[true,true,true,true,true,true,false] rfl rfl (by kernel_rfl) (by decide) (fun K hK=>?_)
          refine goes_ Try.func141 (by kernel_rfl) rfl #[.agg #[.int .i64 ((rd_T116 (rd_L7 l1 x6_1) x8_2).f0),.int .i64 ((rd_T116 (rd_L7 l1 x6_1) x8_2).f1),.int .i64 ((rd_T116 (rd_L7 l1 x6_1) x8_2).f2)],.slice A526_0 (rd_L7 l1 x10_4).length c526_0] (by rfl) rfl rfl zl ?_
          with_reducible refine (spec_l7Apart.calls k4 ((rd_T116 (rd_L7 l1 x6_1) x8_2).f0) ((rd_T116 (rd_L7 l1 x6_1) x8_2).f1) ((rd_T116 (rd_L7 l1 x6_1) x8_2).f2) _ _ (rd_L7 l1 x10_4) false _ ?side1 ?side2 A27.out).mono ?_
          (case side1=>exact zC (Kd.C_below HR526_0.out HB.out))
          (case side2=>exact HC526_0.out)
          rintro e w32 ⟨rfl,hb⟩
          refine ⟨_,rfl,?_⟩
          replace HO_5:=zRb HO_5 hb
          replace BK524:=Aside0.mk (blk_below (g:=gb524) (o:=.cells #[.int .i64 ((rd_T116 (rd_L7 l1 x6_1) x8_2).f0),.int .i64 ((rd_T116 (rd_L7 l1 x6_1) x8_2).f1),.int .i64 ((rd_T116 (rd_L7 l1 x6_1) x8_2).f2)] 116 (0,0)) zz45 hb)
          replace HB:=Aside0.mk (below_step zz18 hb)
          refine hK.out _ _ ⟨(blk_cell BK524.out 0).trans rfl,(blk_cell BK524.out 1).trans rfl,(blk_cell BK524.out 2).trans rfl,((HB.out.cell (World.block_lt_of_cell? w _ hw526_0)).trans hw526_0)⟩ (fun hHeld=>?_)
          clear hK K
          refine norm_ (a':=?_) ?_ ?_
          rotate_left
          ·show Act.put _ (some 70) _=_
           simp only [Act.put,List.setIfInBounds_toArray,List.set_cons_zero,List.set_cons_succ,i64_w,i32_w]
           rfl
          refine pu_ 6 71 ?_
          refine done_ (by kernel_rfl) ?_
          try go_wp2
          go_ret
          exact ⟨zz1,zz18⟩
         subst c28
         rw [if_pos rfl] at H
         have H':=Aside0.mk H
         clear H
         try go_wp2
         replace HO_5:=Aside0.mk (Kd.R_drew HO_5.out)
         replace BK524:=Aside0.mk (blk_drew BK524.out)
         replace HB:=Aside0.mk (below_drew1 HB.out)
         have p526:0≤(x10_4:Int):=of_decide_eq_true za
         have q526:x10_4<(l1.length:Int):=of_decide_eq_true za
         obtain ⟨ad526,A526_0,c526_0,e526,hx526_0,hl526_0,hi526_0⟩:=at_L7 HR1.out x10_4 p526 q526
         have hw526_0:=hx526_0
         obtain rfl:ad521=ad526:=(by injection e526)
         replace hx526_0:=zh_ HB hx526_0
         have HR526_0:=Aside0.mk hi526_0
         have HC526_0:=Aside0.mk hl526_0
         clear hi526_0 hl526_0
         replace p526:=eq_true p526
         replace q526:=eq_true q526
         refine start_ (n:=7) (S:=fun w'=>w'.cell? ⟨gb524,0,none⟩=some (.int .i64 ((rd_T116 (rd_L7 l1 x6_1) x8_2).f0))∧w'.cell? ⟨gb524,1,none⟩=some (.int .i64 ((rd_T116 (rd_L7 l1 x6_1) x8_2).f1))∧w'.cell? ⟨gb524,2,none⟩=some (.int .i64 ((rd_T116 (rd_L7 l1 x6_1) x8_2).f2))∧w'.cell? (ad521.add (x10_4).toNat)=some (.slice A526_0 (rd_L7 l1 x10_4).length c526_0)) (ds:=[]) #[false,false,false,false,false,false,false] (by kernel_rfl) rfl rfl ⟨(blk_cell BK524.out 0).trans rfl,(blk_cell BK524.out 1).trans rfl,(blk_cell BK524.out 2).trans rfl,((HB.out.cell (World.block_lt_of_cell? w _ hw526_0)).trans hw526_0)⟩ (fun hHeld=>?_)
         generalize wr.drew=w29 at HO_5 BK524 HB HR526_0 hx526_0 hHeld ⊢
         refine pu_ 1 66 ?_
         refine pu_ 2 67 ?_
         refine pu_ 3 68 ?_
         refine tk_ 0 65 hHeld ?_
         refine tk_ 4 69 hHeld ?_
         refine one_ (i:=5) (N:=some 70) #[true,true,true,true,true,true,false] rfl rfl (by kernel_rfl) (by decide) (fun K hK=>?_)
         refine goes_ Try.func141 (by kernel_rfl) rfl #[.agg #[.int .i64 ((rd_T116 (rd_L7 l1 x6_1) x8_2).f0),.int .i64 ((rd_T116 (rd_L7 l1 x6_1) x8_2).f1),.int .i64 ((rd_T116 (rd_L7 l1 x6_1) x8_2).f2)],.slice A526_0 (rd_L7 l1 x10_4).length c526_0] (by rfl) rfl rfl zl ?_
         with_reducible refine (spec_l7Apart.calls k4 ((rd_T116 (rd_L7 l1 x6_1) x8_2).f0) ((rd_T116 (rd_L7 l1 x6_1) x8_2).f1) ((rd_T116 (rd_L7 l1 x6_1) x8_2).f2) _ _ (rd_L7 l1 x10_4) true _ ?side1 ?side2 A27.out).mono ?_
         (case side1=>exact zC (Kd.C_below HR526_0.out HB.out))
         (case side2=>exact HC526_0.out)
         rintro e w30 ⟨rfl,hb⟩
         refine ⟨_,rfl,?_⟩
         replace HO_5:=zRb HO_5 hb
         replace BK524:=Aside0.mk (blk_below (g:=gb524) (o:=.cells #[.int .i64 ((rd_T116 (rd_L7 l1 x6_1) x8_2).f0),.int .i64 ((rd_T116 (rd_L7 l1 x6_1) x8_2).f1),.int .i64 ((rd_T116 (rd_L7 l1 x6_1) x8_2).f2)] 116 (0,0)) zz45 hb)
         replace HB:=Aside0.mk (below_step zz18 hb)
         refine hK.out _ _ ⟨(blk_cell BK524.out 0).trans rfl,(blk_cell BK524.out 1).trans rfl,(blk_cell BK524.out 2).trans rfl,((HB.out.cell (World.block_lt_of_cell? w _ hw526_0)).trans hw526_0)⟩ (fun hHeld=>?_)
         clear hK K
         refine norm_ (a':=?_) ?_ ?_
         rotate_left
         ·show Act.put _ (some 70) _=_
          simp only [Act.put,List.setIfInBounds_toArray,List.set_cons_zero,List.set_cons_succ,i64_w,i32_w]
          rfl
         refine pu_ 6 71 ?_
         refine done_ (by kernel_rfl) ?_
         try go_wp2
         go_roundg k4
         case measure=>have:=HK1.out;have:=HK2.out;have:=HJ11.out;have:=HK4.out;omega
         case rel=>exact ⟨(wrap64 (x10_4 + 1)),zo,H',⟨by have:=HK1.out;have:=HK2.out;have:=HJ11.out;have:=HK4.out;omega⟩,⟨zR HO_5.out⟩,⟨zz45⟩,⟨zz18⟩⟩

end Go.Proofs.Ytbcfmegepkhlpaa.XFnShared
-- minified
