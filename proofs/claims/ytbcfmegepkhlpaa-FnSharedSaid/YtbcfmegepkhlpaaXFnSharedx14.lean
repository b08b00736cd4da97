-- Written by a program of this session (the kit's print, widened). Proved here: what each function answers, for the arguments that its contract names.
import Derived.Test.YtbcfmegepkhlpaaXFnSharedx0
import Derived.Test.YtbcfmegepkhlpaaXFnSharedx11
namespace Go.Proofs.Ytbcfmegepkhlpaa.XFnShared
open Go.RowKit Go.Proofs.YtbcfmegepkhlpaaW.PrintWords Go.Proofs.YtbcfmegepkhlpaaW.PrintLast Go.Proofs.YtbcfmegepkhlpaaW.PrintMore
attribute [local go_sem] max2_int min2_int max_two min_two max_three min_three max_four min_four   -- for this text's walks alone
attribute [local go_sem] idxA_72_0 idxA_72_1 fldS_96_0 fldS_96_1 fldS_96_2 fldS_111_0 fldS_111_1 fldS_111_2
set_option linter.unusedVariables false
set_option linter.unusedSimpArgs false

/-! ### impl_isShared: function 88 -/
mutual
def impl_isShared.l0:Nat→List (S76)→List (List (S116))→List Int→List (List (S116))→Int→Int→Option (Bool)
 | 0,_,_,_,_,_,_=>none
 | k + 1,x0,x1,x5,x23,x24,x25=>if x25<x24 then (if 0≤x25 then (if x25<(x23.length:Int) then (impl_isShared.l1 k x0 x1 x5 (rd_L7 x23 x25) x23 x24 x25 (rd_L7 x23 x25) ((rd_L7 x23 x25).length:Int) 0) else (none)) else (none)) else (impl_isShared.l2 k x1 x5 x0 (x0.length:Int) 0)
def impl_isShared.l1:Nat→List (S76)→List (List (S116))→List Int→List (S116)→List (List (S116))→Int→Int→List (S116)→Int→Int→Option (Bool)
 | 0,_,_,_,_,_,_,_,_,_,_=>none
 | k + 1,x0,x1,x5,x7,x23,x24,x25,x29,x30,x31=>if x31<x30 then (if 0≤x31 then (if x31<(x29.length:Int) then ((impl_isNumber.f ((rd_T116 x29 x31).f0) (x0.length:Int)).bind fun t493=>(if t493=true then (if ((rd_T116 x29 x31).f1)<0 then (some false) else (if ((rd_T116 x29 x31).f1)≥((rd_T116 x29 x31).f2) then (some false) else (if ((rd_T116 x29 x31).f2)>1000 then (some false) else (if x31>0 then (if 0≤(wrap64 (x31 - 1)) then (if (wrap64 (x31 - 1))<(x7.length:Int) then (if ((rd_T116 x29 x31).f1)<((rd_T116 x7 (wrap64 (x31 - 1))).f2) then (some false) else (if 0≤((rd_T116 x29 x31).f0) then (if ((rd_T116 x29 x31).f0)<(x5.length:Int) then (impl_isShared.l1 k x0 x1 (x5.set (((rd_T116 x29 x31).f0):Int).toNat (wrap64 ((rd x5 ((rd_T116 x29 x31).f0)) + (wrap64 (((rd_T116 x29 x31).f2) - ((rd_T116 x29 x31).f1)))))) x7 x23 x24 x25 x29 x30 (wrap64 (x31 + 1))) else (none)) else (none))) else (none)) else (none)) else (if 0≤((rd_T116 x29 x31).f0) then (if ((rd_T116 x29 x31).f0)<(x5.length:Int) then (impl_isShared.l1 k x0 x1 (x5.set (((rd_T116 x29 x31).f0):Int).toNat (wrap64 ((rd x5 ((rd_T116 x29 x31).f0)) + (wrap64 (((rd_T116 x29 x31).f2) - ((rd_T116 x29 x31).f1)))))) x7 x23 x24 x25 x29 x30 (wrap64 (x31 + 1))) else (none)) else (none)))))) else (some false))) else (none)) else (none)) else (impl_isShared.l0 k x0 x1 x5 x23 x24 (wrap64 (x25 + 1)))
def impl_isShared.l2:Nat→List (List (S116))→List Int→List (S76)→Int→Int→Option (Bool)
 | 0,_,_,_,_,_=>none
 | k + 1,x1,x5,x88,x89,x90=>if x90<x89 then (if 0≤x90 then (if x90<(x88.length:Int) then (if x90<(x5.length:Int) then (if (rd x5 x90)=((rd_T76 x88 x90).f0) then (impl_isShared.l2 k x1 x5 x88 x89 (wrap64 (x90 + 1))) else (some false)) else (none)) else (none)) else (none)) else (impl_isShared.l3 k x1 x1 (x1.length:Int) 0)
def impl_isShared.l3:Nat→List (List (S116))→List (List (S116))→Int→Int→Option (Bool)
 | 0,_,_,_,_=>none
 | k + 1,x1,x103,x104,x105=>if x105<x104 then (if 0≤x105 then (if x105<(x103.length:Int) then (if x105≤(x1.length:Int) then ((some (x1.take (x105:Int).toNat:List (List (S116)))).bind fun y503=>(impl_isShared.l4 k x1 (rd_L7 x103 x105) x103 x104 x105 y503 (y503.length:Int) 0)) else (none)) else (none)) else (none)) else (some true)
def impl_isShared.l4:Nat→List (List (S116))→List (S116)→List (List (S116))→Int→Int→List (List (S116))→Int→Int→Option (Bool)
 | 0,_,_,_,_,_,_,_,_=>none
 | k + 1,x1,x13,x103,x104,x105,x112,x113,x114=>if x114<x113 then (if 0≤x114 then (if x114<(x112.length:Int) then (impl_isShared.l5 k x1 x13 (rd_L7 x112 x114) x103 x104 x105 x112 x113 x114 x13 (x13.length:Int) 0) else (none)) else (none)) else (impl_isShared.l3 k x1 x103 x104 (wrap64 (x105 + 1)))
def impl_isShared.l5:Nat→List (List (S116))→List (S116)→List (S116)→List (List (S116))→Int→Int→List (List (S116))→Int→Int→List (S116)→Int→Int→Option (Bool)
 | 0,_,_,_,_,_,_,_,_,_,_,_,_=>none
 | k + 1,x1,x13,x15,x103,x104,x105,x112,x113,x114,x118,x119,x120=>if x120<x119 then (if 0≤x120 then (if x120<(x118.length:Int) then (impl_isShared.l6 k x1 x13 x15 x103 x104 x105 x112 x113 x114 x118 x119 x120 x15 (x15.length:Int) 0 ((rd_T116 x118 x120).f0) ((rd_T116 x118 x120).f1) ((rd_T116 x118 x120).f2)) else (none)) else (none)) else (impl_isShared.l4 k x1 x13 x103 x104 x105 x112 x113 (wrap64 (x114 + 1)))
def impl_isShared.l6:Nat→List (List (S116))→List (S116)→List (S116)→List (List (S116))→Int→Int→List (List (S116))→Int→Int→List (S116)→Int→Int→List (S116)→Int→Int→Int→Int→Int→Option (Bool)
 | 0,_,_,_,_,_,_,_,_,_,_,_,_,_,_,_,_,_,_=>none
 | k + 1,x1,x13,x15,x103,x104,x105,x112,x113,x114,x118,x119,x120,x124,x125,x126,x510000,x510001,x510002=>if x126<x125 then (if 0≤x126 then (if x126<(x124.length:Int) then (if x510000=((rd_T116 x124 x126).f0) then (if x510002>((rd_T116 x124 x126).f1) then (if ((rd_T116 x124 x126).f2)>x510001 then (some false) else (impl_isShared.l6 k x1 x13 x15 x103 x104 x105 x112 x113 x114 x118 x119 x120 x124 x125 (wrap64 (x126 + 1)) x510000 x510001 x510002)) else (impl_isShared.l6 k x1 x13 x15 x103 x104 x105 x112 x113 x114 x118 x119 x120 x124 x125 (wrap64 (x126 + 1)) x510000 x510001 x510002)) else (impl_isShared.l6 k x1 x13 x15 x103 x104 x105 x112 x113 x114 x118 x119 x120 x124 x125 (wrap64 (x126 + 1)) x510000 x510001 x510002)) else (none)) else (none)) else (impl_isShared.l5 k x1 x13 x15 x103 x104 x105 x112 x113 x114 x118 x119 (wrap64 (x120 + 1)))
end
def impl_isShared.f (k:Nat) (l0:List (S76)) (l1:List (List (S116))):Option (Bool):=if 0≤(l0.length:Int) then (if ((l0.length:Int):Int).toNat≤35184372088832 then (impl_isShared.l0 k l0 l1 (List.replicate ((l0.length:Int):Int).toNat 0) l1 (l1.length:Int) 0) else (none)) else (none)
theorem impl_isShared.mono_l:∀ k,(∀ y0 y1 y2 y3 y4 y5,LeO (impl_isShared.l0 k y0 y1 y2 y3 y4 y5) (impl_isShared.l0 (k + 1) y0 y1 y2 y3 y4 y5))∧(∀ y0 y1 y2 y3 y4 y5 y6 y7 y8 y9,LeO (impl_isShared.l1 k y0 y1 y2 y3 y4 y5 y6 y7 y8 y9) (impl_isShared.l1 (k + 1) y0 y1 y2 y3 y4 y5 y6 y7 y8 y9))∧(∀ y0 y1 y2 y3 y4,LeO (impl_isShared.l2 k y0 y1 y2 y3 y4) (impl_isShared.l2 (k + 1) y0 y1 y2 y3 y4))∧(∀ y0 y1 y2 y3,LeO (impl_isShared.l3 k y0 y1 y2 y3) (impl_isShared.l3 (k + 1) y0 y1 y2 y3))∧(∀ y0 y1 y2 y3 y4 y5 y6 y7,LeO (impl_isShared.l4 k y0 y1 y2 y3 y4 y5 y6 y7) (impl_isShared.l4 (k + 1) y0 y1 y2 y3 y4 y5 y6 y7))∧(∀ y0 y1 y2 y3 y4 y5 y6 y7 y8 y9 y10 y11,LeO (impl_isShared.l5 k y0 y1 y2 y3 y4 y5 y6 y7 y8 y9 y10 y11) (impl_isShared.l5 (k + 1) y0 y1 y2 y3 y4 y5 y6 y7 y8 y9 y10 y11))∧(∀ y0 y1 y2 y3 y4 y5 y6 y7 y8 y9 y10 y11 y12 y13 y14 y15 y16 y17,LeO (impl_isShared.l6 k y0 y1 y2 y3 y4 y5 y6 y7 y8 y9 y10 y11 y12 y13 y14 y15 y16 y17) (impl_isShared.l6 (k + 1) y0 y1 y2 y3 y4 y5 y6 y7 y8 y9 y10 y11 y12 y13 y14 y15 y16 y17))
 | 0=>⟨fun _ _ _ _ _ _ r h=>by simp [impl_isShared.l0] at h,fun _ _ _ _ _ _ _ _ _ _ r h=>by simp [impl_isShared.l1] at h,fun _ _ _ _ _ r h=>by simp [impl_isShared.l2] at h,fun _ _ _ _ r h=>by simp [impl_isShared.l3] at h,fun _ _ _ _ _ _ _ _ r h=>by simp [impl_isShared.l4] at h,fun _ _ _ _ _ _ _ _ _ _ _ _ r h=>by simp [impl_isShared.l5] at h,fun _ _ _ _ _ _ _ _ _ _ _ _ _ _ _ _ _ _ r h=>by simp [impl_isShared.l6] at h⟩
 | k + 1=>by
  obtain ⟨ih0,ih1,ih2,ih3,ih4,ih5,ih6⟩:=impl_isShared.mono_l k
  refine ⟨?_,?_,?_,?_,?_,?_,?_⟩ <;> intros <;> first|unfold impl_isShared.l0|unfold impl_isShared.l1|unfold impl_isShared.l2|unfold impl_isShared.l3|unfold impl_isShared.l4|unfold impl_isShared.l5|unfold impl_isShared.l6
  all_goals repeat' first|(with_reducible first|apply ih0|apply ih1|apply ih2|apply ih3|apply ih4|apply ih5|apply ih6|exact LeO.refl _|exact LeO.none _|refine LeO.ite ?_ ?_|refine LeO.bind ?_ (fun _=>?_))|apply ih0|apply ih1|apply ih2|apply ih3|apply ih4|apply ih5|apply ih6|exact LeO.none _|refine LeO.ite ?_ ?_|refine LeO.bind ?_ (fun _=>?_)
theorem impl_isShared.mono:∀ a0 a1 k,LeO (impl_isShared.f k a0 a1) (impl_isShared.f (k + 1) a0 a1):=by
 intro a0 a1 k
 obtain ⟨ih0,ih1,ih2,ih3,ih4,ih5,ih6⟩:=impl_isShared.mono_l k
 unfold impl_isShared.f
 repeat' first|(with_reducible first|apply ih0|apply ih1|apply ih2|apply ih3|apply ih4|apply ih5|apply ih6|exact LeO.refl _|exact LeO.none _|refine LeO.ite ?_ ?_|refine LeO.bind ?_ (fun _=>?_))|apply ih0|apply ih1|apply ih2|apply ih3|apply ih4|apply ih5|apply ih6|exact LeO.none _|refine LeO.ite ?_ ?_|refine LeO.bind ?_ (fun _=>?_)
def impl_isShared.T8:Bool × List (List Nat × List Nat):=(true,[([],[]),([0],[0]),([],[]),([2],[2]),([1,3],[1,3]),([4],[4]),([5,4],[5]),([6],[6]),([7,6],[6,7]),([8,6],[6,8]),([6,9],[6,9]),([10,6],[10]),([11],[11]),([12,11],[11,12]),([11],[11]),([14,11],[11,14]),([13,15,11],[11,13,15]),([11,16],[11,16]),([17,11],[17]),([18],[18]),([19,18],[18,19]),([20,18],[18,20]),([18,21],[18,21]),([22,18],[22]),([23],[23]),([24,23],[23,24]),([25,23,23],[23,25]),([26],[26]),([27,26],[26,27]),([26],[26]),([26],[26]),([30,26],[26,30]),([29,31,26],[26,29,31]),([32,26],[26,32]),([33,26],[26,33]),([28,34,26],[26,28,34]),([26,35,23],[23,26,35]),([23,36],[23,36])])
def impl_isShared.B8:List Nat:=[0,1,0,4,15,31,63,127,255,511,1023,2047,4095,8191,4095,20479,65535,131071,262143,524287,1048575,2097151,4194303,8388607,16777215,33554431,67108863,134217727,268435455,134217727,134217727,1207959551,3892314111,8187281407,16777215999,34359738367,68719476735,137438953471]
theorem impl_isShared.tab8:rtab .any (opsOf Try.f88 8)=impl_isShared.T8:=by kernel_rfl
theorem impl_isShared.bits8:waitsOk impl_isShared.T8.2 impl_isShared.B8=true:=by kernel_rfl
def impl_isShared.T10:Bool × List (List Nat × List Nat):=(true,[([],[]),([],[]),([1],[1]),([0,2],[0,2]),([3],[3]),([],[]),([5],[5]),([],[]),([7],[7]),([6,8],[6,8]),([4,9],[4,9]),([0,2,0,1,2,3,4,5,6,7,8,9,10],[0,2]),([11,10,0,1,2,3,4,5,6,7,8,9,10],[10,11])])
def impl_isShared.B10:List Nat:=[0,0,2,7,15,0,32,0,128,480,1023,2047,4095]
theorem impl_isShared.tab10:rtab .any (opsOf Try.f88 10)=impl_isShared.T10:=by kernel_rfl
theorem impl_isShared.bits10:waitsOk impl_isShared.T10.2 impl_isShared.B10=true:=by kernel_rfl
set_option maxHeartbeats 8000000 in
set_option maxRecDepth 100000 in
theorem impl_isShared.calls (k:Nat) (A0:Option Addr) (c0:Nat) (l0:List (S76)) (A1:Option Addr) (c1:Nat) (l1:List (List (S116))) (r:Bool) (w:World) (hr0:Kd.C k76 w A0 l0.length l0) (hc0:l0.length≤c0) (hr1:Kd.C (Kd.slice 116 k116) w A1 l1.length l1) (hc1:l1.length≤c1) (h:impl_isShared.f k l0 l1=some r) :
  Calls Try.prog 88 #[.slice A0 l0.length c0,.slice A1 l1.length c1] w fun e w'=>e=.returned (.bool r)∧Below w.heap.size w w':=by
 have hu116:=Try.underlying116
 have hu76:=Try.underlying76
 have HR0:=Aside0.mk hr0
 have HC0:=Aside0.mk hc0
 clear hr0 hc0
 have HR1:=Aside0.mk hr1
 have HC1:=Aside0.mk hc1
 clear hr1 hc1
 have HB:=Aside0.mk (Below.refl w.heap.size w)
 have H:(if 0≤(l0.length:Int) then (if ((l0.length:Int):Int).toNat≤35184372088832 then (impl_isShared.l0 k l0 l1 (List.replicate ((l0.length:Int):Int).toNat 0) l1 (l1.length:Int) 0) else (none)) else (none))=some r:=h
 clear h
 by_cases c3:0≤(l0.length:Int)
 rotate_left
 ·rw [if_neg c3] at H
  exact absurd H (by simp)
 rw [if_pos c3] at H
 have c3b0:=eq_true c3
 have c3b1:=decide_eq_true c3
 clear c3
 by_cases c4:((l0.length:Int):Int).toNat≤35184372088832
 rotate_left
 ·rw [if_neg c4] at H
  exact absurd H (by simp)
 rw [if_pos c4] at H
 have c4b0:=eq_true c4
 have c4b1:=decide_eq_true c4
 clear c4
 obtain ⟨y487,hy487⟩:∃ y_:List Int,y_=(List.replicate ((l0.length:Int):Int).toNat 0):=⟨_,rfl⟩
 replace H:(impl_isShared.l0 k l0 l1 y487 l1 (l1.length:Int) 0)=some r:=by first|(rw [hy487];with_reducible exact H)|(have H2_:=(Option.bind_some _ _).symm.trans H;rw [hy487];with_reducible exact H2_)|(have H2_:=(Option.bind_some _ _).symm.trans H;with_reducible exact H2_)|with_reducible exact H|(rw [hy487];exact H)|exact H
 have Ny487:=Aside0.mk hy487
 clear hy487
 have H':=Aside0.mk H
 clear H
 go_enter Try.func88,Try.ntmps88
 go_wp2_with (first|((with_reducible refine gate_dst (N:=22) rfl ?_);refine Kd.R_make (Kd.int .i64) _ 3 rfl (N:=22) rfl 43 _ _ rfl (l0.length:Int) rfl rfl Try.underlying43 (.int .i64 0) 8 info3 rfl (by decide) (by omega) 0 (ok:=fun _=>True) (okp:=fun _=>True) rfl (fun _ hk=>hk) trivial (of_decide_eq_true za) (Nat.le_trans (Nat.mul_le_mul_right _ (of_decide_eq_true za:(l0.length:Int).toNat≤35184372088832)) (by omega)) (Below.refl _ _) (Nat.le_refl _) ?_;intro v488 w5 ho6 hb hg_ hnew_;clear hg_ hnew_;(first|rw [←Ny487.out] at ho6|(simp only [Int.reduceToNat] at ho6;rw [←Ny487.out] at ho6));have HO489:=Aside0.mk (Kd.R_lower ho6 (below_size zb));replace HB:=zb1 hb;clear hb ho6))
 go_loopg [25] k (fun kq v25 w'=>∃ (x5_1:List Int) (x25_1:Int),v25=.int .i64 x25_1∧Aside0 (impl_isShared.l0 kq l0 l1 x5_1 l1 (l1.length:Int) x25_1=some r)∧Aside0 (kq≤k)∧Aside0 (Kd.R (Kd.int .i64) 3 w' w.heap.size (fun _=>True) v488 x5_1)∧Aside0 (Below w.heap.size w w'))
 case atStart=>exact ⟨(y487),(0),zo,H',⟨Nat.le_refl _⟩,⟨zR HO489.out⟩,⟨zb⟩⟩
 case round=>
  clear H'
  obtain ⟨x5_1,x25_1,rfl,HA,HK1,HO_5,HB⟩:=hrel
  cases gk with
  | zero=>exact absurd HA.out (by simp [impl_isShared.l0])
  | succ k1=>
   have H:=HA.out
   clear HA
   simp only [impl_isShared.l0] at H
   by_cases c7:x25_1<(l1.length:Int)
   rotate_left
   ·rw [if_neg c7] at H
    have c7b0:=decide_eq_false c7
    clear c7
    have H':=Aside0.mk H
    clear H
    go_wp2
    go_loopg [90] k1 (fun kq v90 w'=>∃ (x90_2:Int),v90=.int .i64 x90_2∧Aside0 (impl_isShared.l2 kq l1 x5_1 l0 (l0.length:Int) x90_2=some r)∧Aside0 (kq≤k1)∧Aside0 (Kd.R (Kd.int .i64) 3 w' w.heap.size (fun _=>True) v488 x5_1)∧Aside0 (Below w.heap.size w w'))
    case atStart=>exact ⟨(0),zo,H',⟨Nat.le_refl _⟩,⟨zR HO_5.out⟩,⟨zb⟩⟩
    case round=>
     clear H'
     obtain ⟨x90_2,rfl,HA,HK2,HO_5,HB⟩:=hrel
     cases gk with
     | zero=>exact absurd HA.out (by simp [impl_isShared.l2])
     | succ k2=>
      have H:=HA.out
      clear HA
      simp only [impl_isShared.l2] at H
      by_cases c63:x90_2<(l0.length:Int)
      ·rw [if_pos c63] at H
       have c63b0:=decide_eq_true c63
       clear c63
       by_cases c64:0≤x90_2
       rotate_left
       ·rw [if_neg c64] at H
        exact absurd H (by simp)
       rw [if_pos c64] at H
       have c64b0:=decide_eq_true c64
       clear c64
       by_cases c65:x90_2<(l0.length:Int)
       rotate_left
       ·rw [if_neg c65] at H
        exact absurd H (by simp)
       rw [if_pos c65] at H
       have c65b0:=decide_eq_true c65
       clear c65
       by_cases c66:x90_2<(x5_1.length:Int)
       rotate_left
       ·rw [if_neg c66] at H
        exact absurd H (by simp)
       rw [if_pos c66] at H
       have c66b0:=decide_eq_true c66
       clear c66
       by_cases c67:(rd x5_1 x90_2)=((rd_T76 l0 x90_2).f0)
       rotate_left
       ·rw [if_neg c67] at H
        have c67b0:((rd x5_1 x90_2) == ((rd_T76 l0 x90_2).f0))=false:=beq_eq_false_iff_ne.mpr c67
        have c67b1:((rd x5_1 x90_2) != ((rd_T76 l0 x90_2).f0))=true:=bne_iff_ne.mpr c67
        obtain rfl:=Option.some.inj H
        have p499:0≤(x90_2:Int):=of_decide_eq_true za
        have q499:x90_2<(l0.length:Int):=of_decide_eq_true za
        obtain ⟨ad499,e499,hx499_0,hx499_1,hx499_2,hx499_3⟩:=at_T76 HR0.out x90_2 p499 q499
        cases e499
        replace hx499_0:=zh_ HB hx499_0
        replace hx499_1:=zh_ HB hx499_1
        replace hx499_2:=zh_ HB hx499_2
        replace hx499_3:=zh_ HB hx499_3
        replace p499:=eq_true p499
        replace q499:=eq_true q499
        try go_wp2_with (first|((with_reducible refine gate_dst (N:=11) rfl ?_);refine box_event ?hg (N:=11) ?hd (cs:=#[.int .i64 0,.int .i64 0,.int .i64 0,.int .i64 0]) (t:=76) ?hr ?_;(case hd=>rfl);(case hg=>rfl);(case hr=>first|(go_simp;done)|(go_simp;rfl));intro gb500 hg w73 hbox hb;have n0_:=zRb HO_5 hb;have n1_:=zb1 hb;have n2_:=Aside0.mk (hbox);have n3_:=Aside0.mk ((by rw [hg];exact (below_size zb):w.heap.size≤gb500));have n4_:=Aside0.mk ((by rw [hg];exact (below_size zb):w.heap.size≤gb500));clear HO_5;clear HB;have HO_5:=n0_;have HB:=n1_;have BK500:=n2_;have GW500:=n3_;have GE500:=n4_;clear n0_ n1_ n2_ n3_ n4_;clear hb hbox hg;obtain ⟨hcz74_0,hcz74_1,hcz74_2,hcz74_3,hfz74_0,hfz74_1,hfz74_2,hfz74_3⟩:=zk4 BK500.out))
        have n0_:Aside0 (Kd.R (Kd.int .i64) 3 ((((w73.setCell ⟨gb500,0,none⟩ (.int .i64 ((rd_T76 l0 x90_2).f0))).setCell ⟨gb500,1,none⟩ (.int .i64 ((rd_T76 l0 x90_2).f1))).setCell ⟨gb500,2,none⟩ (.int .i64 ((rd_T76 l0 x90_2).f2))).setCell ⟨gb500,3,none⟩ (.int .i64 ((rd_T76 l0 x90_2).f3))) w.heap.size (fun _=>True) v488 x5_1):=⟨zz62⟩
        have n1_:Aside0 (((((w73.setCell ⟨gb500,0,none⟩ (.int .i64 ((rd_T76 l0 x90_2).f0))).setCell ⟨gb500,1,none⟩ (.int .i64 ((rd_T76 l0 x90_2).f1))).setCell ⟨gb500,2,none⟩ (.int .i64 ((rd_T76 l0 x90_2).f2))).setCell ⟨gb500,3,none⟩ (.int .i64 ((rd_T76 l0 x90_2).f3))).heap[gb500]?=some (.cells #[.int .i64 ((rd_T76 l0 x90_2).f0),.int .i64 ((rd_T76 l0 x90_2).f1),.int .i64 ((rd_T76 l0 x90_2).f2),.int .i64 ((rd_T76 l0 x90_2).f3)] 76 (0,0))):=⟨zz63⟩
        have n2_:Aside0 (Below w.heap.size w ((((w73.setCell ⟨gb500,0,none⟩ (.int .i64 ((rd_T76 l0 x90_2).f0))).setCell ⟨gb500,1,none⟩ (.int .i64 ((rd_T76 l0 x90_2).f1))).setCell ⟨gb500,2,none⟩ (.int .i64 ((rd_T76 l0 x90_2).f2))).setCell ⟨gb500,3,none⟩ (.int .i64 ((rd_T76 l0 x90_2).f3)))):=⟨zz39⟩
        (try simp only [show ∀ (W_:World) (n_:Nat) (a_:Addr) (v_:Value),(W_.drewN n_).setCell a_ v_=(W_.setCell a_ v_).drewN n_ from fun _ _ _ _=>rfl])
        generalize ((((w73.setCell ⟨gb500,0,none⟩ (.int .i64 ((rd_T76 l0 x90_2).f0))).setCell ⟨gb500,1,none⟩ (.int .i64 ((rd_T76 l0 x90_2).f1))).setCell ⟨gb500,2,none⟩ (.int .i64 ((rd_T76 l0 x90_2).f2))).setCell ⟨gb500,3,none⟩ (.int .i64 ((rd_T76 l0 x90_2).f3)))=w75 at n0_ n1_ n2_ ⊢
        have HO_5:=n0_
        have BK500:=n1_
        have HB:=n2_
        clear n0_ n1_ n2_
        replace HO_5:=Aside0.mk (Kd.R_drew HO_5.out)
        replace BK500:=Aside0.mk (blk_drew BK500.out)
        replace HB:=Aside0.mk (below_drew1 HB.out)
        obtain ⟨Ao77,co77,eo77⟩:=Kd.R_slice HO_5.out
        (first|subst eo77|(injection eo77 with f1_ f2_ f3_;have f4_:=f1_.symm;have f5_:=f3_.symm;clear f1_ f2_ f3_;subst f4_;subst f5_))
        have p501:0≤(x90_2:Int):=of_decide_eq_true za
        have q501:x90_2<(x5_1.length:Int):=of_decide_eq_true za
        obtain ⟨ad501,e501,hx501_0⟩:=Kd.at_int (Kd.R_reads' HO_5.out).2.2 x90_2 p501 q501
        cases e501
        replace p501:=eq_true p501
        replace q501:=eq_true q501
        refine start_ (n:=7) (S:=fun w'=>w'.cell? ⟨gb500,0,none⟩=some (.int .i64 ((rd_T76 l0 x90_2).f0))∧w'.cell? ⟨gb500,1,none⟩=some (.int .i64 ((rd_T76 l0 x90_2).f1))∧w'.cell? ⟨gb500,2,none⟩=some (.int .i64 ((rd_T76 l0 x90_2).f2))∧w'.cell? ⟨gb500,3,none⟩=some (.int .i64 ((rd_T76 l0 x90_2).f3))∧w'.cell? (ad501.add (x90_2).toNat)=some (.int .i64 (rd x5_1 x90_2))) (ds:=[]) ba119_ (by kernel_rfl) rfl rfl ⟨(blk_cell BK500.out 0).trans rfl,(blk_cell BK500.out 1).trans rfl,(blk_cell BK500.out 2).trans rfl,(blk_cell BK500.out 3).trans rfl,hx501_0⟩ (fun hHeld=>?_)
        generalize w75.drew=w76 at HO_5 BK500 HB hx501_0 hHeld ⊢
        refine pu_ 0 95 ?_
        refine pu_ 1 96 ?_
        refine pu_ 2 97 ?_
        refine pu_ 4 99 ?_
        refine tk_ 3 98 hHeld ?_
        refine tk_ 5 100 hHeld ?_
        refine pu_ 6 101 ?_
        refine done_ (by kernel_rfl) ?_
        try go_wp2
        go_ret
        exact ⟨zz1,zz39⟩
       rw [if_pos c67] at H
       have c67b0:((rd x5_1 x90_2) == ((rd_T76 l0 x90_2).f0))=true:=beq_iff_eq.mpr c67
       have c67b1:((rd x5_1 x90_2) != ((rd_T76 l0 x90_2).f0))=false:=bne_eq_false_iff_eq.mpr c67
       clear c67
       have H':=Aside0.mk H
       clear H
       have p499:0≤(x90_2:Int):=of_decide_eq_true za
       have q499:x90_2<(l0.length:Int):=of_decide_eq_true za
       obtain ⟨ad499,e499,hx499_0,hx499_1,hx499_2,hx499_3⟩:=at_T76 HR0.out x90_2 p499 q499
       cases e499
       replace hx499_0:=zh_ HB hx499_0
       replace hx499_1:=zh_ HB hx499_1
       replace hx499_2:=zh_ HB hx499_2
       replace hx499_3:=zh_ HB hx499_3
       replace p499:=eq_true p499
       replace q499:=eq_true q499
       try go_wp2_with (first|((with_reducible refine gate_dst (N:=11) rfl ?_);refine box_event ?hg (N:=11) ?hd (cs:=#[.int .i64 0,.int .i64 0,.int .i64 0,.int .i64 0]) (t:=76) ?hr ?_;(case hd=>rfl);(case hg=>rfl);(case hr=>first|(go_simp;done)|(go_simp;rfl));intro gb500 hg w68 hbox hb;have n0_:=zRb HO_5 hb;have n1_:=zb1 hb;have n2_:=Aside0.mk (hbox);have n3_:=Aside0.mk ((by rw [hg];exact (below_size zb):w.heap.size≤gb500));have n4_:=Aside0.mk ((by rw [hg];exact (below_size zb):w.heap.size≤gb500));clear HO_5;clear HB;have HO_5:=n0_;have HB:=n1_;have BK500:=n2_;have GW500:=n3_;have GE500:=n4_;clear n0_ n1_ n2_ n3_ n4_;clear hb hbox hg;obtain ⟨hcz69_0,hcz69_1,hcz69_2,hcz69_3,hfz69_0,hfz69_1,hfz69_2,hfz69_3⟩:=zk4 BK500.out))
       have n0_:Aside0 (Kd.R (Kd.int .i64) 3 ((((w68.setCell ⟨gb500,0,none⟩ (.int .i64 ((rd_T76 l0 x90_2).f0))).setCell ⟨gb500,1,none⟩ (.int .i64 ((rd_T76 l0 x90_2).f1))).setCell ⟨gb500,2,none⟩ (.int .i64 ((rd_T76 l0 x90_2).f2))).setCell ⟨gb500,3,none⟩ (.int .i64 ((rd_T76 l0 x90_2).f3))) w.heap.size (fun _=>True) v488 x5_1):=⟨zz62⟩
       have n1_:Aside0 (((((w68.setCell ⟨gb500,0,none⟩ (.int .i64 ((rd_T76 l0 x90_2).f0))).setCell ⟨gb500,1,none⟩ (.int .i64 ((rd_T76 l0 x90_2).f1))).setCell ⟨gb500,2,none⟩ (.int .i64 ((rd_T76 l0 x90_2).f2))).setCell ⟨gb500,3,none⟩ (.int .i64 ((rd_T76 l0 x90_2).f3))).heap[gb500]?=some (.cells #[.int .i64 ((rd_T76 l0 x90_2).f0),.int .i64 ((rd_T76 l0 x90_2).f1),.int .i64 ((rd_T76 l0 x90_2).f2),.int .i64 ((rd_T76 l0 x90_2).f3)] 76 (0,0))):=⟨zz63⟩
       have n2_:Aside0 (Below w.heap.size w ((((w68.setCell ⟨gb500,0,none⟩ (.int .i64 ((rd_T76 l0 x90_2).f0))).setCell ⟨gb500,1,none⟩ (.int .i64 ((rd_T76 l0 x90_2).f1))).setCell ⟨gb500,2,none⟩ (.int .i64 ((rd_T76 l0 x90_2).f2))).setCell ⟨gb500,3,none⟩ (.int .i64 ((rd_T76 l0 x90_2).f3)))):=⟨zz39⟩
       (try simp only [show ∀ (W_:World) (n_:Nat) (a_:Addr) (v_:Value),(W_.drewN n_).setCell a_ v_=(W_.setCell a_ v_).drewN n_ from fun _ _ _ _=>rfl])
       generalize ((((w68.setCell ⟨gb500,0,none⟩ (.int .i64 ((rd_T76 l0 x90_2).f0))).setCell ⟨gb500,1,none⟩ (.int .i64 ((rd_T76 l0 x90_2).f1))).setCell ⟨gb500,2,none⟩ (.int .i64 ((rd_T76 l0 x90_2).f2))).setCell ⟨gb500,3,none⟩ (.int .i64 ((rd_T76 l0 x90_2).f3)))=w70 at n0_ n1_ n2_ ⊢
       have HO_5:=n0_
       have BK500:=n1_
       have HB:=n2_
       clear n0_ n1_ n2_
       replace HO_5:=Aside0.mk (Kd.R_drew HO_5.out)
       replace BK500:=Aside0.mk (blk_drew BK500.out)
       replace HB:=Aside0.mk (below_drew1 HB.out)
       obtain ⟨Ao72,co72,eo72⟩:=Kd.R_slice HO_5.out
       (first|subst eo72|(injection eo72 with f1_ f2_ f3_;have f4_:=f1_.symm;have f5_:=f3_.symm;clear f1_ f2_ f3_;subst f4_;subst f5_))
       have p501:0≤(x90_2:Int):=of_decide_eq_true za
       have q501:x90_2<(x5_1.length:Int):=of_decide_eq_true za
       obtain ⟨ad501,e501,hx501_0⟩:=Kd.at_int (Kd.R_reads' HO_5.out).2.2 x90_2 p501 q501
       cases e501
       replace p501:=eq_true p501
       replace q501:=eq_true q501
       refine start_ (n:=7) (S:=fun w'=>w'.cell? ⟨gb500,0,none⟩=some (.int .i64 ((rd_T76 l0 x90_2).f0))∧w'.cell? ⟨gb500,1,none⟩=some (.int .i64 ((rd_T76 l0 x90_2).f1))∧w'.cell? ⟨gb500,2,none⟩=some (.int .i64 ((rd_T76 l0 x90_2).f2))∧w'.cell? ⟨gb500,3,none⟩=some (.int .i64 ((rd_T76 l0 x90_2).f3))∧w'.cell? (ad501.add (x90_2).toNat)=some (.int .i64 (rd x5_1 x90_2))) (ds:=[]) ba119_ (by kernel_rfl) rfl rfl ⟨(blk_cell BK500.out 0).trans rfl,(blk_cell BK500.out 1).trans rfl,(blk_cell BK500.out 2).trans rfl,(blk_cell BK500.out 3).trans rfl,hx501_0⟩ (fun hHeld=>?_)
       generalize w70.drew=w71 at HO_5 BK500 HB hx501_0 hHeld ⊢
       refine pu_ 0 95 ?_
       refine pu_ 1 96 ?_
       refine pu_ 2 97 ?_
       refine pu_ 4 99 ?_
       refine tk_ 3 98 hHeld ?_
       refine tk_ 5 100 hHeld ?_
       refine pu_ 6 101 ?_
       refine done_ (by kernel_rfl) ?_
       try go_wp2
       go_roundg k2
       case measure=>have:=HK1.out;have:=HK2.out;omega
       case rel=>exact ⟨(wrap64 (x90_2 + 1)),zo,H',⟨zz9⟩,⟨zR HO_5.out⟩,⟨zz39⟩⟩
      rw [if_neg c63] at H
      have c63b0:=decide_eq_false c63
      clear c63
      have H':=Aside0.mk H
      clear H
      go_wp2
      go_loopg [105] k2 (fun kq v105 w'=>∃ (x105_3:Int),v105=.int .i64 x105_3∧Aside0 (impl_isShared.l3 kq l1 l1 (l1.length:Int) x105_3=some r)∧Aside0 (kq≤k2)∧Aside0 (Below w.heap.size w w'))
      case atStart=>exact ⟨(0),zo,H',⟨Nat.le_refl _⟩,⟨zb⟩⟩
      case round=>
       clear H'
       obtain ⟨x105_3,rfl,HA,HK3,HB⟩:=hrel
       cases gk with
       | zero=>exact absurd HA.out (by simp [impl_isShared.l3])
       | succ k3=>
        have H:=HA.out
        clear HA
        simp only [impl_isShared.l3] at H
        by_cases c78:x105_3<(l1.length:Int)
        rotate_left
        ·rw [if_neg c78] at H
         have c78b0:=decide_eq_false c78
         clear c78
         obtain rfl:=Option.some.inj H
         go_wp2
         go_ret
         exact ⟨zz1,zb⟩
        rw [if_pos c78] at H
        have c78b0:=decide_eq_true c78
        clear c78
        by_cases c79:0≤x105_3
        rotate_left
        ·rw [if_neg c79] at H
         exact absurd H (by simp)
        rw [if_pos c79] at H
        have c79b0:=decide_eq_true c79
        clear c79
        by_cases c80:x105_3<(l1.length:Int)
        rotate_left
        ·rw [if_neg c80] at H
         exact absurd H (by simp)
        rw [if_pos c80] at H
        have c80b0:=decide_eq_true c80
        clear c80
        have c81b0:=eq_true (of_decide_eq_true za:0≤x105_3)
        by_cases c82:x105_3≤(l1.length:Int)
        rotate_left
        ·rw [if_neg c82] at H
         exact absurd H (by simp)
        rw [if_pos c82] at H
        have c82b0:=eq_true c82
        have c82b1:=decide_eq_true c82
        clear c82
        obtain ⟨y503,hy503⟩:∃ y_:List (List (S116)),y_=(l1.take (x105_3:Int).toNat):=⟨_,rfl⟩
        replace H:(impl_isShared.l4 k3 l1 (rd_L7 l1 x105_3) l1 (l1.length:Int) x105_3 y503 (y503.length:Int) 0)=some r:=by first|(rw [hy503];with_reducible exact H)|(have H2_:=(Option.bind_some _ _).symm.trans H;rw [hy503];with_reducible exact H2_)|(have H2_:=(Option.bind_some _ _).symm.trans H;with_reducible exact H2_)|with_reducible exact H|(rw [hy503];exact H)|exact H
        have Ny503:=Aside0.mk hy503
        clear hy503
        have H':=Aside0.mk H
        clear H
        have p502:0≤(x105_3:Int):=of_decide_eq_true za
        have q502:x105_3<(l1.length:Int):=of_decide_eq_true za
        obtain ⟨ad502,A502_0,c502_0,e502,hx502_0,hl502_0,hi502_0⟩:=at_L7 HR1.out x105_3 p502 q502
        cases e502
        replace hx502_0:=zh_ HB hx502_0
        have HR502_0:=Aside0.mk hi502_0
        have HC502_0:=Aside0.mk hl502_0
        clear hi502_0 hl502_0
        replace p502:=eq_true p502
        replace q502:=eq_true q502
        have q83:(x105_3:Int)≤((l1.length:Int):Int):=of_decide_eq_true za
        obtain ⟨i083,hi083,_,hsz83,_⟩:=info_parts info65
        have hroom83:l1.length≤c1:=HC1.out
        have hC83:Kd.C (Kd.slice 116 k116) _ (some ad502) l1.length l1:=HR1.out
        have hcut83:=cut_to (P:=Try.prog) 57 65 .i64 Try.underlying57 hi083 (some ad502) l1.length c1 x105_3 (of_decide_eq_true za) q83 hroom83
        have hr83:=Kd.C_take (m:=(x105_3:Int).toNat) hC83 (by omega)
        have hy83:y503.length=(x105_3:Int).toNat:=(by rw [Ny503.out,List.length_take];omega)
        rw [←Ny503.out] at hr83
        rw [←hy83] at hcut83
        have HR506:=Aside0.mk hr83
        have HC506:=Aside0.mk (show y503.length≤c1 from by omega)
        clear hr83 hC83 hroom83 hi083 hsz83
        have KY83:=Aside0.mk hy83
        clear hy83
        replace q83:=eq_true q83
        go_wp2
        go_loopg [114] k3 (fun kq v114 w'=>∃ (x114_4:Int),v114=.int .i64 x114_4∧Aside0 (impl_isShared.l4 kq l1 (rd_L7 l1 x105_3) l1 (l1.length:Int) x105_3 y503 (y503.length:Int) x114_4=some r)∧Aside0 (kq≤k3)∧Aside0 (Below w.heap.size w w'))
        case atStart=>exact ⟨(0),zo,H',⟨Nat.le_refl _⟩,⟨zb⟩⟩
        case round=>
         clear H'
         obtain ⟨x114_4,rfl,HA,HK4,HB⟩:=hrel
         cases gk with
         | zero=>exact absurd HA.out (by simp [impl_isShared.l4])
         | succ k4=>
          have H:=HA.out
          clear HA
          simp only [impl_isShared.l4] at H
          by_cases c84:x114_4<(y503.length:Int)
          rotate_left
          ·rw [if_neg c84] at H
           have c84b0:=decide_eq_false c84
           clear c84
           have H':=Aside0.mk H
           clear H
           go_wp2
           go_roundg k4
           case measure=>have:=HK1.out;have:=HK2.out;have:=HK3.out;have:=HK4.out;omega
           case rel=>exact ⟨(wrap64 (x105_3 + 1)),zo,H',⟨by have:=HK1.out;have:=HK2.out;have:=HK3.out;have:=HK4.out;omega⟩,⟨zb⟩⟩
          rw [if_pos c84] at H
          have c84b0:=decide_eq_true c84
          clear c84
          by_cases c85:0≤x114_4
          rotate_left
          ·rw [if_neg c85] at H
           exact absurd H (by simp)
          rw [if_pos c85] at H
          have c85b0:=decide_eq_true c85
          clear c85
          by_cases c86:x114_4<(y503.length:Int)
          rotate_left
          ·rw [if_neg c86] at H
           exact absurd H (by simp)
          rw [if_pos c86] at H
          have c86b0:=decide_eq_true c86
          clear c86
          have H':=Aside0.mk H
          clear H
          have p507:0≤(x114_4:Int):=of_decide_eq_true za
          have q507:x114_4<(y503.length:Int):=of_decide_eq_true za
          obtain ⟨ad507,A507_0,c507_0,e507,hx507_0,hl507_0,hi507_0⟩:=at_L7 HR506.out x114_4 p507 q507
          obtain rfl:ad502=ad507:=(by injection e507)
          replace hx507_0:=zh_ HB hx507_0
          have HR507_0:=Aside0.mk hi507_0
          have HC507_0:=Aside0.mk hl507_0
          clear hi507_0 hl507_0
          replace p507:=eq_true p507
          replace q507:=eq_true q507
          go_wp2
          go_loopg [120] k4 (fun kq v120 w'=>∃ (x120_5:Int),v120=.int .i64 x120_5∧Aside0 (impl_isShared.l5 kq l1 (rd_L7 l1 x105_3) (rd_L7 y503 x114_4) l1 (l1.length:Int) x105_3 y503 (y503.length:Int) x114_4 (rd_L7 l1 x105_3) ((rd_L7 l1 x105_3).length:Int) x120_5=some r)∧Aside0 (kq≤k4)∧Aside0 (Below w.heap.size w w'))
          case atStart=>exact ⟨(0),zo,H',⟨Nat.le_refl _⟩,⟨zb⟩⟩
          case round=>
           clear H'
           obtain ⟨x120_5,rfl,HA,HK5,HB⟩:=hrel
           cases gk with
           | zero=>exact absurd HA.out (by simp [impl_isShared.l5])
           | succ k5=>
            have H:=HA.out
            clear HA
            simp only [impl_isShared.l5] at H
            by_cases c87:x120_5<((rd_L7 l1 x105_3).length:Int)
            rotate_left
            ·rw [if_neg c87] at H
             have c87b0:=decide_eq_false c87
             clear c87
             have H':=Aside0.mk H
             clear H
             go_wp2
             go_roundg k5
             case measure=>have:=HK1.out;have:=HK2.out;have:=HK3.out;have:=HK4.out;have:=HK5.out;omega
             case rel=>exact ⟨(wrap64 (x114_4 + 1)),zo,H',⟨zz25⟩,⟨zb⟩⟩
            rw [if_pos c87] at H
            have c87b0:=decide_eq_true c87
            clear c87
            by_cases c88:0≤x120_5
            rotate_left
            ·rw [if_neg c88] at H
             exact absurd H (by simp)
            rw [if_pos c88] at H
            have c88b0:=decide_eq_true c88
            clear c88
            by_cases c89:x120_5<((rd_L7 l1 x105_3).length:Int)
            rotate_left
            ·rw [if_neg c89] at H
             exact absurd H (by simp)
            rw [if_pos c89] at H
            have c89b0:=decide_eq_true c89
            clear c89
            have H':=Aside0.mk H
            clear H
            have p508:0≤(x120_5:Int):=of_decide_eq_true za
            have q508:x120_5<((rd_L7 l1 x105_3).length:Int):=of_decide_eq_true za
            obtain ⟨ad508,e508,hx508_0,hx508_1,hx508_2⟩:=at_T116 HR502_0.out x120_5 p508 q508
            cases e508
            replace hx508_0:=zh_ HB hx508_0
            replace hx508_1:=zh_ HB hx508_1
            replace hx508_2:=zh_ HB hx508_2
            replace p508:=eq_true p508
            replace q508:=eq_true q508
            go_wp2_with (first|((with_reducible refine gate_dst (N:=17) rfl ?_);refine box_event ?hg (N:=17) ?hd (cs:=#[.int .i64 0,.int .i64 0,.int .i64 0]) (t:=116) ?hr ?_;(case hd=>rfl);(case hg=>rfl);(case hr=>first|(go_simp;done)|(go_simp;rfl));intro gb509 hg w90 hbox hb;have n0_:=zb1 hb;have n1_:=Aside0.mk (hbox);have n2_:=Aside0.mk ((by rw [hg];exact (below_size zb):w.heap.size≤gb509));have n3_:=Aside0.mk ((by rw [hg];exact (below_size zb):w.heap.size≤gb509));clear HB;have HB:=n0_;have BK509:=n1_;have GW509:=n2_;have GE509:=n3_;clear n0_ n1_ n2_ n3_;clear hb hbox hg;obtain ⟨hcz91_0,hcz91_1,hcz91_2,hfz91_0,hfz91_1,hfz91_2⟩:=zk3 BK509.out))
            go_loopg [126] k5 (fun kq v126 w'=>∃ (x126_6:Int),v126=.int .i64 x126_6∧Aside0 (impl_isShared.l6 kq l1 (rd_L7 l1 x105_3) (rd_L7 y503 x114_4) l1 (l1.length:Int) x105_3 y503 (y503.length:Int) x114_4 (rd_L7 l1 x105_3) ((rd_L7 l1 x105_3).length:Int) x120_5 (rd_L7 y503 x114_4) ((rd_L7 y503 x114_4).length:Int) x126_6 ((rd_T116 (rd_L7 l1 x105_3) x120_5).f0) ((rd_T116 (rd_L7 l1 x105_3) x120_5).f1) ((rd_T116 (rd_L7 l1 x105_3) x120_5).f2)=some r)∧Aside0 (kq≤k5)∧Aside0 (w'.heap[gb509]?=some (.cells #[.int .i64 ((rd_T116 (rd_L7 l1 x105_3) x120_5).f0),.int .i64 ((rd_T116 (rd_L7 l1 x105_3) x120_5).f1),.int .i64 ((rd_T116 (rd_L7 l1 x105_3) x120_5).f2)] 116 (0,0)))∧Aside0 (Below w.heap.size w w'))
            case atStart=>exact ⟨(0),zo,H',⟨Nat.le_refl _⟩,⟨by (with_reducible repeat (first|refine blk_drewN ?_ _|refine blk_drew ?_|refine blk_alloc ?_ _));refine blk_put (cs:=#[.int .i64 ((rd_T116 (rd_L7 l1 x105_3) x120_5).f0),.int .i64 ((rd_T116 (rd_L7 l1 x105_3) x120_5).f1),.int .i64 0]) ?_ 2 _ rfl;(with_reducible repeat (first|refine blk_drewN ?_ _|refine blk_drew ?_|refine blk_alloc ?_ _));refine blk_put (cs:=#[.int .i64 ((rd_T116 (rd_L7 l1 x105_3) x120_5).f0),.int .i64 0,.int .i64 0]) ?_ 1 _ rfl;(with_reducible repeat (first|refine blk_drewN ?_ _|refine blk_drew ?_|refine blk_alloc ?_ _));refine blk_put (cs:=#[.int .i64 0,.int .i64 0,.int .i64 0]) ?_ 0 _ rfl;(with_reducible repeat (first|refine blk_drewN ?_ _|refine blk_drew ?_|refine blk_alloc ?_ _));exact BK509.out⟩,⟨zz15⟩⟩
            case round=>
             clear H'
             obtain ⟨x126_6,rfl,HA,HK6,BK509,HB⟩:=hrel
             cases gk with
             | zero=>exact absurd HA.out (by simp [impl_isShared.l6])
             | succ k6=>
              have H:=HA.out
              clear HA
              simp only [impl_isShared.l6] at H
              by_cases c92:x126_6<((rd_L7 y503 x114_4).length:Int)
              rotate_left
              ·rw [if_neg c92] at H
               have c92b0:=decide_eq_false c92
               clear c92
               have H':=Aside0.mk H
               clear H
               go_wp2
               go_roundg k6
               case measure=>have:=HK1.out;have:=HK2.out;have:=HK3.out;have:=HK4.out;have:=HK5.out;have:=HK6.out;omega
               case rel=>exact ⟨(wrap64 (x120_5 + 1)),zo,H',⟨zz40⟩,⟨zz15⟩⟩
              rw [if_pos c92] at H
              have c92b0:=decide_eq_true c92
              clear c92
              by_cases c93:0≤x126_6
              rotate_left
              ·rw [if_neg c93] at H
               exact absurd H (by simp)
              rw [if_pos c93] at H
              have c93b0:=decide_eq_true c93
              clear c93
              by_cases c94:x126_6<((rd_L7 y503 x114_4).length:Int)
              rotate_left
              ·rw [if_neg c94] at H
               exact absurd H (by simp)
              rw [if_pos c94] at H
              have c94b0:=decide_eq_true c94
              clear c94
              by_cases c95:((rd_T116 (rd_L7 l1 x105_3) x120_5).f0)=((rd_T116 (rd_L7 y503 x114_4) x126_6).f0)
              rotate_left
              ·rw [if_neg c95] at H
               have c95b0:(((rd_T116 (rd_L7 l1 x105_3) x120_5).f0) == ((rd_T116 (rd_L7 y503 x114_4) x126_6).f0))=false:=beq_eq_false_iff_ne.mpr c95
               have c95b1:(((rd_T116 (rd_L7 l1 x105_3) x120_5).f0) != ((rd_T116 (rd_L7 y503 x114_4) x126_6).f0))=true:=bne_iff_ne.mpr c95
               have H':=Aside0.mk H
               clear H
               have p510:0≤(x126_6:Int):=of_decide_eq_true za
               have q510:x126_6<((rd_L7 y503 x114_4).length:Int):=of_decide_eq_true za
               obtain ⟨ad510,e510,hx510_0,hx510_1,hx510_2⟩:=at_T116 HR507_0.out x126_6 p510 q510
               cases e510
               replace hx510_0:=zh_ HB hx510_0
               replace hx510_1:=zh_ HB hx510_1
               replace hx510_2:=zh_ HB hx510_2
               replace p510:=eq_true p510
               replace q510:=eq_true q510
               go_wp2_with (first|((with_reducible refine gate_dst (N:=19) rfl ?_);refine box_event ?hg (N:=19) ?hd (cs:=#[.int .i64 0,.int .i64 0,.int .i64 0]) (t:=116) ?hr ?_;(case hd=>rfl);(case hg=>rfl);(case hr=>first|(go_simp;done)|(go_simp;rfl));intro gb511 hg w110 hbox hb;have n0_:=Aside0.mk (blk_below (g:=gb509) (o:=.cells #[.int .i64 ((rd_T116 (rd_L7 l1 x105_3) x120_5).f0),.int .i64 ((rd_T116 (rd_L7 l1 x105_3) x120_5).f1),.int .i64 ((rd_T116 (rd_L7 l1 x105_3) x120_5).f2)] 116 (0,0)) zz20 hb);have n1_:=Aside0.mk (below_step zz15 hb);have n2_:=Aside0.mk (hbox);have n3_:=Aside0.mk ((by rw [hg];exact (below_size zz15):w.heap.size≤gb511));have n4_:=Aside0.mk ((by rw [hg];exact (below_size zz15):w.heap.size≤gb511));have n5_:=Aside0.mk ((by rw [hg];exact Nat.ne_of_lt (blk_lt (g:=gb509) (o:=.cells #[.int .i64 ((rd_T116 (rd_L7 l1 x105_3) x120_5).f0),.int .i64 ((rd_T116 (rd_L7 l1 x105_3) x120_5).f1),.int .i64 ((rd_T116 (rd_L7 l1 x105_3) x120_5).f2)] 116 (0,0)) zz20):gb509≠gb511));have n6_:=Aside0.mk ((by rw [hg];exact Nat.ne_of_gt (blk_lt (g:=gb509) (o:=.cells #[.int .i64 ((rd_T116 (rd_L7 l1 x105_3) x120_5).f0),.int .i64 ((rd_T116 (rd_L7 l1 x105_3) x120_5).f1),.int .i64 ((rd_T116 (rd_L7 l1 x105_3) x120_5).f2)] 116 (0,0)) zz20):gb511≠gb509));clear BK509;clear HB;have BK509:=n0_;have HB:=n1_;have BK511:=n2_;have GW511:=n3_;have GE511:=n4_;have NB509_511:=n5_;have NB511_509:=n6_;clear n0_ n1_ n2_ n3_ n4_ n5_ n6_;clear hb hbox hg;have hnb111:=NB511_509.out;have hnc111:=NB509_511.out;obtain ⟨hcz112_0,hcz112_1,hcz112_2,hfz112_0,hfz112_1,hfz112_2⟩:=zk3 BK511.out;obtain ⟨hcz113_0,hcz113_1,hcz113_2,hfz113_0,hfz113_1,hfz113_2⟩:=zk3 BK509.out))
               go_roundg k6
               case measure=>have:=HK1.out;have:=HK2.out;have:=HK3.out;have:=HK4.out;have:=HK5.out;have:=HK6.out;omega
               case rel=>exact ⟨(wrap64 (x126_6 + 1)),zo,H',⟨zz40⟩,⟨zz54⟩,⟨zz41⟩⟩
              rw [if_pos c95] at H
              have c95b0:(((rd_T116 (rd_L7 l1 x105_3) x120_5).f0) == ((rd_T116 (rd_L7 y503 x114_4) x126_6).f0))=true:=beq_iff_eq.mpr c95
              have c95b1:(((rd_T116 (rd_L7 l1 x105_3) x120_5).f0) != ((rd_T116 (rd_L7 y503 x114_4) x126_6).f0))=false:=bne_eq_false_iff_eq.mpr c95
              clear c95
              by_cases c96:((rd_T116 (rd_L7 l1 x105_3) x120_5).f2)>((rd_T116 (rd_L7 y503 x114_4) x126_6).f1)
              rotate_left
              ·rw [if_neg c96] at H
               have c96b0:=decide_eq_false c96
               clear c96
               have H':=Aside0.mk H
               clear H
               have p510:0≤(x126_6:Int):=of_decide_eq_true za
               have q510:x126_6<((rd_L7 y503 x114_4).length:Int):=of_decide_eq_true za
               obtain ⟨ad510,e510,hx510_0,hx510_1,hx510_2⟩:=at_T116 HR507_0.out x126_6 p510 q510
               cases e510
               replace hx510_0:=zh_ HB hx510_0
               replace hx510_1:=zh_ HB hx510_1
               replace hx510_2:=zh_ HB hx510_2
               replace p510:=eq_true p510
               replace q510:=eq_true q510
               go_wp2_with (first|((with_reducible refine gate_dst (N:=19) rfl ?_);refine box_event ?hg (N:=19) ?hd (cs:=#[.int .i64 0,.int .i64 0,.int .i64 0]) (t:=116) ?hr ?_;(case hd=>rfl);(case hg=>rfl);(case hr=>first|(go_simp;done)|(go_simp;rfl));intro gb511 hg w106 hbox hb;have n0_:=Aside0.mk (blk_below (g:=gb509) (o:=.cells #[.int .i64 ((rd_T116 (rd_L7 l1 x105_3) x120_5).f0),.int .i64 ((rd_T116 (rd_L7 l1 x105_3) x120_5).f1),.int .i64 ((rd_T116 (rd_L7 l1 x105_3) x120_5).f2)] 116 (0,0)) zz20 hb);have n1_:=Aside0.mk (below_step zz15 hb);have n2_:=Aside0.mk (hbox);have n3_:=Aside0.mk ((by rw [hg];exact (below_size zz15):w.heap.size≤gb511));have n4_:=Aside0.mk ((by rw [hg];exact (below_size zz15):w.heap.size≤gb511));have n5_:=Aside0.mk ((by rw [hg];exact Nat.ne_of_lt (blk_lt (g:=gb509) (o:=.cells #[.int .i64 ((rd_T116 (rd_L7 l1 x105_3) x120_5).f0),.int .i64 ((rd_T116 (rd_L7 l1 x105_3) x120_5).f1),.int .i64 ((rd_T116 (rd_L7 l1 x105_3) x120_5).f2)] 116 (0,0)) zz20):gb509≠gb511));have n6_:=Aside0.mk ((by rw [hg];exact Nat.ne_of_gt (blk_lt (g:=gb509) (o:=.cells #[.int .i64 ((rd_T116 (rd_L7 l1 x105_3) x120_5).f0),.int .i64 ((rd_T116 (rd_L7 l1 x105_3) x120_5).f1),.int .i64 ((rd_T116 (rd_L7 l1 x105_3) x120_5).f2)] 116 (0,0)) zz20):gb511≠gb509));clear BK509;clear HB;have BK509:=n0_;have HB:=n1_;have BK511:=n2_;have GW511:=n3_;have GE511:=n4_;have NB509_511:=n5_;have NB511_509:=n6_;clear n0_ n1_ n2_ n3_ n4_ n5_ n6_;clear hb hbox hg;have hnb107:=NB511_509.out;have hnc107:=NB509_511.out;obtain ⟨hcz108_0,hcz108_1,hcz108_2,hfz108_0,hfz108_1,hfz108_2⟩:=zk3 BK511.out;obtain ⟨hcz109_0,hcz109_1,hcz109_2,hfz109_0,hfz109_1,hfz109_2⟩:=zk3 BK509.out))
               go_roundg k6
               case measure=>have:=HK1.out;have:=HK2.out;have:=HK3.out;have:=HK4.out;have:=HK5.out;have:=HK6.out;omega
               case rel=>exact ⟨(wrap64 (x126_6 + 1)),zo,H',⟨zz40⟩,⟨zz54⟩,⟨zz41⟩⟩
              rw [if_pos c96] at H
              have c96b0:=decide_eq_true c96
              clear c96
              by_cases c97:((rd_T116 (rd_L7 y503 x114_4) x126_6).f2)>((rd_T116 (rd_L7 l1 x105_3) x120_5).f1)
              ·rw [if_pos c97] at H
               have c97b0:=decide_eq_true c97
               clear c97
               obtain rfl:=Option.some.inj H
               have p510:0≤(x126_6:Int):=of_decide_eq_true za
               have q510:x126_6<((rd_L7 y503 x114_4).length:Int):=of_decide_eq_true za
               obtain ⟨ad510,e510,hx510_0,hx510_1,hx510_2⟩:=at_T116 HR507_0.out x126_6 p510 q510
               cases e510
               replace hx510_0:=zh_ HB hx510_0
               replace hx510_1:=zh_ HB hx510_1
               replace hx510_2:=zh_ HB hx510_2
               replace p510:=eq_true p510
               replace q510:=eq_true q510
               go_wp2_with (first|((with_reducible refine gate_dst (N:=19) rfl ?_);refine box_event ?hg (N:=19) ?hd (cs:=#[.int .i64 0,.int .i64 0,.int .i64 0]) (t:=116) ?hr ?_;(case hd=>rfl);(case hg=>rfl);(case hr=>first|(go_simp;done)|(go_simp;rfl));intro gb511 hg w98 hbox hb;have n0_:=Aside0.mk (blk_below (g:=gb509) (o:=.cells #[.int .i64 ((rd_T116 (rd_L7 l1 x105_3) x120_5).f0),.int .i64 ((rd_T116 (rd_L7 l1 x105_3) x120_5).f1),.int .i64 ((rd_T116 (rd_L7 l1 x105_3) x120_5).f2)] 116 (0,0)) zz20 hb);have n1_:=Aside0.mk (below_step zz15 hb);have n2_:=Aside0.mk (hbox);have n3_:=Aside0.mk ((by rw [hg];exact (below_size zz15):w.heap.size≤gb511));have n4_:=Aside0.mk ((by rw [hg];exact (below_size zz15):w.heap.size≤gb511));have n5_:=Aside0.mk ((by rw [hg];exact Nat.ne_of_lt (blk_lt (g:=gb509) (o:=.cells #[.int .i64 ((rd_T116 (rd_L7 l1 x105_3) x120_5).f0),.int .i64 ((rd_T116 (rd_L7 l1 x105_3) x120_5).f1),.int .i64 ((rd_T116 (rd_L7 l1 x105_3) x120_5).f2)] 116 (0,0)) zz20):gb509≠gb511));have n6_:=Aside0.mk ((by rw [hg];exact Nat.ne_of_gt (blk_lt (g:=gb509) (o:=.cells #[.int .i64 ((rd_T116 (rd_L7 l1 x105_3) x120_5).f0),.int .i64 ((rd_T116 (rd_L7 l1 x105_3) x120_5).f1),.int .i64 ((rd_T116 (rd_L7 l1 x105_3) x120_5).f2)] 116 (0,0)) zz20):gb511≠gb509));clear BK509;clear HB;have BK509:=n0_;have HB:=n1_;have BK511:=n2_;have GW511:=n3_;have GE511:=n4_;have NB509_511:=n5_;have NB511_509:=n6_;clear n0_ n1_ n2_ n3_ n4_ n5_ n6_;clear hb hbox hg;have hnb99:=NB511_509.out;have hnc99:=NB509_511.out;obtain ⟨hcz100_0,hcz100_1,hcz100_2,hfz100_0,hfz100_1,hfz100_2⟩:=zk3 BK511.out;obtain ⟨hcz101_0,hcz101_1,hcz101_2,hfz101_0,hfz101_1,hfz101_2⟩:=zk3 BK509.out))
               go_ret
               exact ⟨zz1,zz41⟩
              rw [if_neg c97] at H
              have c97b0:=decide_eq_false c97
              clear c97
              have H':=Aside0.mk H
              clear H
              have p510:0≤(x126_6:Int):=of_decide_eq_true za
              have q510:x126_6<((rd_L7 y503 x114_4).length:Int):=of_decide_eq_true za
              obtain ⟨ad510,e510,hx510_0,hx510_1,hx510_2⟩:=at_T116 HR507_0.out x126_6 p510 q510
              cases e510
              replace hx510_0:=zh_ HB hx510_0
              replace hx510_1:=zh_ HB hx510_1
              replace hx510_2:=zh_ HB hx510_2
              replace p510:=eq_true p510
              replace q510:=eq_true q510
              go_wp2_with (first|((with_reducible refine gate_dst (N:=19) rfl ?_);refine box_event ?hg (N:=19) ?hd (cs:=#[.int .i64 0,.int .i64 0,.int .i64 0]) (t:=116) ?hr ?_;(case hd=>rfl);(case hg=>rfl);(case hr=>first|(go_simp;done)|(go_simp;rfl));intro gb511 hg w102 hbox hb;have n0_:=Aside0.mk (blk_below (g:=gb509) (o:=.cells #[.int .i64 ((rd_T116 (rd_L7 l1 x105_3) x120_5).f0),.int .i64 ((rd_T116 (rd_L7 l1 x105_3) x120_5).f1),.int .i64 ((rd_T116 (rd_L7 l1 x105_3) x120_5).f2)] 116 (0,0)) zz20 hb);have n1_:=Aside0.mk (below_step zz15 hb);have n2_:=Aside0.mk (hbox);have n3_:=Aside0.mk ((by rw [hg];exact (below_size zz15):w.heap.size≤gb511));have n4_:=Aside0.mk ((by rw [hg];exact (below_size zz15):w.heap.size≤gb511));have n5_:=Aside0.mk ((by rw [hg];exact Nat.ne_of_lt (blk_lt (g:=gb509) (o:=.cells #[.int .i64 ((rd_T116 (rd_L7 l1 x105_3) x120_5).f0),.int .i64 ((rd_T116 (rd_L7 l1 x105_3) x120_5).f1),.int .i64 ((rd_T116 (rd_L7 l1 x105_3) x120_5).f2)] 116 (0,0)) zz20):gb509≠gb511));have n6_:=Aside0.mk ((by rw [hg];exact Nat.ne_of_gt (blk_lt (g:=gb509) (o:=.cells #[.int .i64 ((rd_T116 (rd_L7 l1 x105_3) x120_5).f0),.int .i64 ((rd_T116 (rd_L7 l1 x105_3) x120_5).f1),.int .i64 ((rd_T116 (rd_L7 l1 x105_3) x120_5).f2)] 116 (0,0)) zz20):gb511≠gb509));clear BK509;clear HB;have BK509:=n0_;have HB:=n1_;have BK511:=n2_;have GW511:=n3_;have GE511:=n4_;have NB509_511:=n5_;have NB511_509:=n6_;clear n0_ n1_ n2_ n3_ n4_ n5_ n6_;clear hb hbox hg;have hnb103:=NB511_509.out;have hnc103:=NB509_511.out;obtain ⟨hcz104_0,hcz104_1,hcz104_2,hfz104_0,hfz104_1,hfz104_2⟩:=zk3 BK511.out;obtain ⟨hcz105_0,hcz105_1,hcz105_2,hfz105_0,hfz105_1,hfz105_2⟩:=zk3 BK509.out))
              go_roundg k6
              case measure=>have:=HK1.out;have:=HK2.out;have:=HK3.out;have:=HK4.out;have:=HK5.out;have:=HK6.out;omega
              case rel=>exact ⟨(wrap64 (x126_6 + 1)),zo,H',⟨zz40⟩,⟨zz54⟩,⟨zz41⟩⟩
   rw [if_pos c7] at H
   have c7b0:=decide_eq_true c7
   clear c7
   by_cases c8:0≤x25_1
   rotate_left
   ·rw [if_neg c8] at H
    exact absurd H (by simp)
   rw [if_pos c8] at H
   have c8b0:=decide_eq_true c8
   clear c8
   by_cases c9:x25_1<(l1.length:Int)
   rotate_left
   ·rw [if_neg c9] at H
    exact absurd H (by simp)
   rw [if_pos c9] at H
   have c9b0:=decide_eq_true c9
   clear c9
   have H':=Aside0.mk H
   clear H
   have p490:0≤(x25_1:Int):=of_decide_eq_true za
   have q490:x25_1<(l1.length:Int):=of_decide_eq_true za
   obtain ⟨ad490,A490_0,c490_0,e490,hx490_0,hl490_0,hi490_0⟩:=at_L7 HR1.out x25_1 p490 q490
   cases e490
   replace hx490_0:=zh_ HB hx490_0
   have HR490_0:=Aside0.mk hi490_0
   have HC490_0:=Aside0.mk hl490_0
   clear hi490_0 hl490_0
   replace p490:=eq_true p490
   replace q490:=eq_true q490
   go_wp2
   go_loopg [31] k1 (fun kq v31 w'=>∃ (x5_2:List Int) (x31_2:Int),v31=.int .i64 x31_2∧Aside0 (impl_isShared.l1 kq l0 l1 x5_2 (rd_L7 l1 x25_1) l1 (l1.length:Int) x25_1 (rd_L7 l1 x25_1) ((rd_L7 l1 x25_1).length:Int) x31_2=some r)∧Aside0 (kq≤k1)∧Aside0 (Kd.R (Kd.int .i64) 3 w' w.heap.size (fun _=>True) v488 x5_2)∧Aside0 (Below w.heap.size w w'))
   case atStart=>exact ⟨(x5_1),(0),zo,H',⟨Nat.le_refl _⟩,⟨zR HO_5.out⟩,⟨zb⟩⟩
   case round=>
    clear H'
    obtain ⟨x5_2,x31_2,rfl,HA,HK2,HO_5,HB⟩:=hrel
    cases gk with
    | zero=>exact absurd HA.out (by simp [impl_isShared.l1])
    | succ k2=>
     have H:=HA.out
     clear HA
     simp only [impl_isShared.l1] at H
     by_cases c10:x31_2<((rd_L7 l1 x25_1).length:Int)
     rotate_left
     ·rw [if_neg c10] at H
      have c10b0:=decide_eq_false c10
      clear c10
      have H':=Aside0.mk H
      clear H
      go_wp2
      go_roundg k2
      case measure=>have:=HK1.out;have:=HK2.out;omega
      case rel=>exact ⟨(x5_2),(wrap64 (x25_1 + 1)),zo,H',⟨zz9⟩,⟨zR HO_5.out⟩,⟨zb⟩⟩
     rw [if_pos c10] at H
     have c10b0:=decide_eq_true c10
     clear c10
     by_cases c11:0≤x31_2
     rotate_left
     ·rw [if_neg c11] at H
      exact absurd H (by simp)
     rw [if_pos c11] at H
     have c11b0:=decide_eq_true c11
     clear c11
     by_cases c12:x31_2<((rd_L7 l1 x25_1).length:Int)
     rotate_left
     ·rw [if_neg c12] at H
      exact absurd H (by simp)
     rw [if_pos c12] at H
     have c12b0:=decide_eq_true c12
     clear c12
     replace H:=Option.bind_eq_some_iff.mp H
     obtain ⟨t493,A130,H⟩:=H
     try dsimp only at H
     have A13:=Aside0.mk A130
     clear A130
     by_cases c14:t493=true
     rotate_left
     ·replace c14:=Bool.eq_false_iff.mpr c14
      subst c14
      rw [if_neg (show ¬ (false=true) by decide)] at H
      obtain rfl:=Option.some.inj H
      have p491:0≤(x31_2:Int):=of_decide_eq_true za
      have q491:x31_2<((rd_L7 l1 x25_1).length:Int):=of_decide_eq_true za
      obtain ⟨ad491,e491,hx491_0,hx491_1,hx491_2⟩:=at_T116 HR490_0.out x31_2 p491 q491
      cases e491
      replace hx491_0:=zh_ HB hx491_0
      replace hx491_1:=zh_ HB hx491_1
      replace hx491_2:=zh_ HB hx491_2
      replace p491:=eq_true p491
      replace q491:=eq_true q491
      try go_wp2_with (first|((with_reducible refine gate_dst (N:=9) rfl ?_);refine box_event ?hg (N:=9) ?hd (cs:=#[.int .i64 0,.int .i64 0,.int .i64 0]) (t:=116) ?hr ?_;(case hd=>rfl);(case hg=>rfl);(case hr=>first|(go_simp;done)|(go_simp;rfl));intro gb492 hg w59 hbox hb;have n0_:=zRb HO_5 hb;have n1_:=zb1 hb;have n2_:=Aside0.mk (hbox);have n3_:=Aside0.mk ((by rw [hg];exact (below_size zb):w.heap.size≤gb492));have n4_:=Aside0.mk ((by rw [hg];exact (below_size zb):w.heap.size≤gb492));clear HO_5;clear HB;have HO_5:=n0_;have HB:=n1_;have BK492:=n2_;have GW492:=n3_;have GE492:=n4_;clear n0_ n1_ n2_ n3_ n4_;clear hb hbox hg;obtain ⟨hcz60_0,hcz60_1,hcz60_2,hfz60_0,hfz60_1,hfz60_2⟩:=zk3 BK492.out))
      have n0_:Aside0 (Kd.R (Kd.int .i64) 3 (((w59.setCell ⟨gb492,0,none⟩ (.int .i64 ((rd_T116 (rd_L7 l1 x25_1) x31_2).f0))).setCell ⟨gb492,1,none⟩ (.int .i64 ((rd_T116 (rd_L7 l1 x25_1) x31_2).f1))).setCell ⟨gb492,2,none⟩ (.int .i64 ((rd_T116 (rd_L7 l1 x25_1) x31_2).f2))) w.heap.size (fun _=>True) v488 x5_2):=⟨zz31⟩
      have n1_:Aside0 ((((w59.setCell ⟨gb492,0,none⟩ (.int .i64 ((rd_T116 (rd_L7 l1 x25_1) x31_2).f0))).setCell ⟨gb492,1,none⟩ (.int .i64 ((rd_T116 (rd_L7 l1 x25_1) x31_2).f1))).setCell ⟨gb492,2,none⟩ (.int .i64 ((rd_T116 (rd_L7 l1 x25_1) x31_2).f2))).heap[gb492]?=some (.cells #[.int .i64 ((rd_T116 (rd_L7 l1 x25_1) x31_2).f0),.int .i64 ((rd_T116 (rd_L7 l1 x25_1) x31_2).f1),.int .i64 ((rd_T116 (rd_L7 l1 x25_1) x31_2).f2)] 116 (0,0))):=⟨zz32⟩
      have n2_:Aside0 (Below w.heap.size w (((w59.setCell ⟨gb492,0,none⟩ (.int .i64 ((rd_T116 (rd_L7 l1 x25_1) x31_2).f0))).setCell ⟨gb492,1,none⟩ (.int .i64 ((rd_T116 (rd_L7 l1 x25_1) x31_2).f1))).setCell ⟨gb492,2,none⟩ (.int .i64 ((rd_T116 (rd_L7 l1 x25_1) x31_2).f2)))):=⟨zz16⟩
      (try simp only [show ∀ (W_:World) (n_:Nat) (a_:Addr) (v_:Value),(W_.drewN n_).setCell a_ v_=(W_.setCell a_ v_).drewN n_ from fun _ _ _ _=>rfl])
      generalize (((w59.setCell ⟨gb492,0,none⟩ (.int .i64 ((rd_T116 (rd_L7 l1 x25_1) x31_2).f0))).setCell ⟨gb492,1,none⟩ (.int .i64 ((rd_T116 (rd_L7 l1 x25_1) x31_2).f1))).setCell ⟨gb492,2,none⟩ (.int .i64 ((rd_T116 (rd_L7 l1 x25_1) x31_2).f2)))=w61 at n0_ n1_ n2_ ⊢
      have HO_5:=n0_
      have BK492:=n1_
      have HB:=n2_
      clear n0_ n1_ n2_
      replace HO_5:=Aside0.mk (Kd.R_drew HO_5.out)
      replace BK492:=Aside0.mk (blk_drew BK492.out)
      replace HB:=Aside0.mk (below_drew1 HB.out)
      refine start_ (n:=38) (S:=fun w'=>w'.cell? ⟨gb492,0,none⟩=some (.int .i64 ((rd_T116 (rd_L7 l1 x25_1) x31_2).f0))∧w'.cell? ⟨gb492,1,none⟩=some (.int .i64 ((rd_T116 (rd_L7 l1 x25_1) x31_2).f1))∧w'.cell? ⟨gb492,2,none⟩=some (.int .i64 ((rd_T116 (rd_L7 l1 x25_1) x31_2).f2))) (ds:=[]) ba60_ (by kernel_rfl) rfl rfl ⟨(blk_cell BK492.out 0).trans rfl,(blk_cell BK492.out 1).trans rfl,(blk_cell BK492.out 2).trans rfl⟩ (fun hHeld=>?_);refine with_tabW impl_isShared.tab8 impl_isShared.bits8 (fun HT_ HW_=>?_)
      generalize w61.drew=w62 at HO_5 BK492 HB hHeld ⊢
      refine pu_ 0 36 ?_
      refine pu_ 2 38 ?_
      refine pu_ 3 39 ?_
      refine tk_ 1 37 hHeld ?_
      refine one_ (i:=4) (N:=some 40) ba65_ rfl rfl (one_of HT_.out (by kernel_rfl)) (by decide) (fun K hK=>?_)
      refine goes_ Try.func114 (by kernel_rfl) rfl #[.int .i64 ((rd_T116 (rd_L7 l1 x25_1) x31_2).f0),.int .i64 (l0.length:Int)] (by rfl) rfl rfl zl ?_
      with_reducible refine (impl_isNumber.calls ((rd_T116 (rd_L7 l1 x25_1) x31_2).f0) (l0.length:Int) false _ A13.out).mono ?_
      rintro e w' ⟨rfl,⟨nd,rfl⟩⟩
      refine ⟨_,rfl,?_⟩
      refine hK.out _ _ ⟨(blk_cell BK492.out 0).trans rfl,(blk_cell BK492.out 1).trans rfl,(blk_cell BK492.out 2).trans rfl⟩ (fun hHeld=>?_)
      clear hK K
      refine norm_ (a':=?_) ?_ ?_
      rotate_left
      ·show Act.put _ (some 40) _=_
       simp only [Act.put,z0_,z1_,z2_,i64_w,i32_w]
       rfl
      refine pu_ 5 41 ?_
      refine pu_ 6 42 ?_
      refine pv_ 7 43 ?_
      refine pv_ 8 44 ?_
      refine pv_ 9 45 ?_
      refine pu_ 10 46 ?_
      refine pu_ 11 47 ?_
      refine pv_ 12 48 ?_
      refine pv_ 13 49 ?_
      refine pv_ 14 50 ?_
      refine pv_ 15 51 ?_
      refine pv_ 16 52 ?_
      refine pu_ 17 53 ?_
      refine pu_ 18 54 ?_
      refine pv_ 19 55 ?_
      refine pv_ 20 56 ?_
      refine pv_ 21 57 ?_
      refine pu_ 22 58 ?_
      refine pu_ 23 59 ?_
      refine pv_ 24 60 ?_
      refine pv_ 25 61 ?_
      refine pv_ 26 62 ?_
      refine pv_ 27 63 ?_
      refine pv_ 28 64 ?_
      refine pv_ 29 65 ?_
      refine pv_ 30 66 ?_
      refine pv_ 31 67 ?_
      refine pv_ 32 68 ?_
      refine pv_ 33 69 ?_
      refine pv_ 34 70 ?_
      refine pv_ 35 71 ?_
      refine pv_ 36 72 ?_
      refine pu_ 37 73 ?_
      refine done_ (done_of HT_.out (by kernel_rfl)) ?_
      try go_wp2
      go_ret
      exact ⟨zz1,zz16⟩
     subst c14
     rw [if_pos rfl] at H
     by_cases c15:((rd_T116 (rd_L7 l1 x25_1) x31_2).f1)<0
     ·rw [if_pos c15] at H
      have c15b0:=decide_eq_true c15
      clear c15
      obtain rfl:=Option.some.inj H
      have p491:0≤(x31_2:Int):=of_decide_eq_true za
      have q491:x31_2<((rd_L7 l1 x25_1).length:Int):=of_decide_eq_true za
      obtain ⟨ad491,e491,hx491_0,hx491_1,hx491_2⟩:=at_T116 HR490_0.out x31_2 p491 q491
      cases e491
      replace hx491_0:=zh_ HB hx491_0
      replace hx491_1:=zh_ HB hx491_1
      replace hx491_2:=zh_ HB hx491_2
      replace p491:=eq_true p491
      replace q491:=eq_true q491
      try go_wp2_with (first|((with_reducible refine gate_dst (N:=9) rfl ?_);refine box_event ?hg (N:=9) ?hd (cs:=#[.int .i64 0,.int .i64 0,.int .i64 0]) (t:=116) ?hr ?_;(case hd=>rfl);(case hg=>rfl);(case hr=>first|(go_simp;done)|(go_simp;rfl));intro gb492 hg w16 hbox hb;have n0_:=zRb HO_5 hb;have n1_:=zb1 hb;have n2_:=Aside0.mk (hbox);have n3_:=Aside0.mk ((by rw [hg];exact (below_size zb):w.heap.size≤gb492));have n4_:=Aside0.mk ((by rw [hg];exact (below_size zb):w.heap.size≤gb492));clear HO_5;clear HB;have HO_5:=n0_;have HB:=n1_;have BK492:=n2_;have GW492:=n3_;have GE492:=n4_;clear n0_ n1_ n2_ n3_ n4_;clear hb hbox hg;obtain ⟨hcz17_0,hcz17_1,hcz17_2,hfz17_0,hfz17_1,hfz17_2⟩:=zk3 BK492.out))
      have n0_:Aside0 (Kd.R (Kd.int .i64) 3 (((w16.setCell ⟨gb492,0,none⟩ (.int .i64 ((rd_T116 (rd_L7 l1 x25_1) x31_2).f0))).setCell ⟨gb492,1,none⟩ (.int .i64 ((rd_T116 (rd_L7 l1 x25_1) x31_2).f1))).setCell ⟨gb492,2,none⟩ (.int .i64 ((rd_T116 (rd_L7 l1 x25_1) x31_2).f2))) w.heap.size (fun _=>True) v488 x5_2):=⟨zz31⟩
      have n1_:Aside0 ((((w16.setCell ⟨gb492,0,none⟩ (.int .i64 ((rd_T116 (rd_L7 l1 x25_1) x31_2).f0))).setCell ⟨gb492,1,none⟩ (.int .i64 ((rd_T116 (rd_L7 l1 x25_1) x31_2).f1))).setCell ⟨gb492,2,none⟩ (.int .i64 ((rd_T116 (rd_L7 l1 x25_1) x31_2).f2))).heap[gb492]?=some (.cells #[.int .i64 ((rd_T116 (rd_L7 l1 x25_1) x31_2).f0),.int .i64 ((rd_T116 (rd_L7 l1 x25_1) x31_2).f1),.int .i64 ((rd_T116 (rd_L7 l1 x25_1) x31_2).f2)] 116 (0,0))):=⟨zz32⟩
      have n2_:Aside0 (Below w.heap.size w (((w16.setCell ⟨gb492,0,none⟩ (.int .i64 ((rd_T116 (rd_L7 l1 x25_1) x31_2).f0))).setCell ⟨gb492,1,none⟩ (.int .i64 ((rd_T116 (rd_L7 l1 x25_1) x31_2).f1))).setCell ⟨gb492,2,none⟩ (.int .i64 ((rd_T116 (rd_L7 l1 x25_1) x31_2).f2)))):=⟨zz16⟩
      (try simp only [show ∀ (W_:World) (n_:Nat) (a_:Addr) (v_:Value),(W_.drewN n_).setCell a_ v_=(W_.setCell a_ v_).drewN n_ from fun _ _ _ _=>rfl])
      generalize (((w16.setCell ⟨gb492,0,none⟩ (.int .i64 ((rd_T116 (rd_L7 l1 x25_1) x31_2).f0))).setCell ⟨gb492,1,none⟩ (.int .i64 ((rd_T116 (rd_L7 l1 x25_1) x31_2).f1))).setCell ⟨gb492,2,none⟩ (.int .i64 ((rd_T116 (rd_L7 l1 x25_1) x31_2).f2)))=w18 at n0_ n1_ n2_ ⊢
      have HO_5:=n0_
      have BK492:=n1_
      have HB:=n2_
      clear n0_ n1_ n2_
      replace HO_5:=Aside0.mk (Kd.R_drew HO_5.out)
      replace BK492:=Aside0.mk (blk_drew BK492.out)
      replace HB:=Aside0.mk (below_drew1 HB.out)
      refine start_ (n:=38) (S:=fun w'=>w'.cell? ⟨gb492,0,none⟩=some (.int .i64 ((rd_T116 (rd_L7 l1 x25_1) x31_2).f0))∧w'.cell? ⟨gb492,1,none⟩=some (.int .i64 ((rd_T116 (rd_L7 l1 x25_1) x31_2).f1))∧w'.cell? ⟨gb492,2,none⟩=some (.int .i64 ((rd_T116 (rd_L7 l1 x25_1) x31_2).f2))) (ds:=[]) ba60_ (by kernel_rfl) rfl rfl ⟨(blk_cell BK492.out 0).trans rfl,(blk_cell BK492.out 1).trans rfl,(blk_cell BK492.out 2).trans rfl⟩ (fun hHeld=>?_);refine with_tabW impl_isShared.tab8 impl_isShared.bits8 (fun HT_ HW_=>?_)
      generalize w18.drew=w19 at HO_5 BK492 HB hHeld ⊢
      refine pu_ 0 36 ?_
      refine pu_ 2 38 ?_
      refine pu_ 3 39 ?_
      refine tk_ 1 37 hHeld ?_
      refine one_ (i:=4) (N:=some 40) ba65_ rfl rfl (one_of HT_.out (by kernel_rfl)) (by decide) (fun K hK=>?_)
      refine goes_ Try.func114 (by kernel_rfl) rfl #[.int .i64 ((rd_T116 (rd_L7 l1 x25_1) x31_2).f0),.int .i64 (l0.length:Int)] (by rfl) rfl rfl zl ?_
      with_reducible refine (impl_isNumber.calls ((rd_T116 (rd_L7 l1 x25_1) x31_2).f0) (l0.length:Int) true _ A13.out).mono ?_
      rintro e w' ⟨rfl,⟨nd,rfl⟩⟩
      refine ⟨_,rfl,?_⟩
      refine hK.out _ _ ⟨(blk_cell BK492.out 0).trans rfl,(blk_cell BK492.out 1).trans rfl,(blk_cell BK492.out 2).trans rfl⟩ (fun hHeld=>?_)
      clear hK K
      refine norm_ (a':=?_) ?_ ?_
      rotate_left
      ·show Act.put _ (some 40) _=_
       simp only [Act.put,z0_,z1_,z2_,i64_w,i32_w]
       rfl
      refine pu_ 5 41 ?_
      refine pu_ 6 42 ?_
      refine pu_ 7 43 ?_
      refine tk_ 8 44 hHeld ?_
      refine pu_ 9 45 ?_
      refine pu_ 10 46 ?_
      refine pu_ 11 47 ?_
      refine pv_ 12 48 ?_
      refine pv_ 13 49 ?_
      refine pv_ 14 50 ?_
      refine pv_ 15 51 ?_
      refine pv_ 16 52 ?_
      refine pu_ 17 53 ?_
      refine pu_ 18 54 ?_
      refine pv_ 19 55 ?_
      refine pv_ 20 56 ?_
      refine pv_ 21 57 ?_
      refine pu_ 22 58 ?_
      refine pu_ 23 59 ?_
      refine pv_ 24 60 ?_
      refine pv_ 25 61 ?_
      refine pv_ 26 62 ?_
      refine pv_ 27 63 ?_
      refine pv_ 28 64 ?_
      refine pv_ 29 65 ?_
      refine pv_ 30 66 ?_
      refine pv_ 31 67 ?_
      refine pv_ 32 68 ?_
      refine pv_ 33 69 ?_
      refine pv_ 34 70 ?_
      refine pv_ 35 71 ?_
      refine pv_ 36 72 ?_
      refine pu_ 37 73 ?_
      refine done_ (done_of HT_.out (by kernel_rfl)) ?_
      try go_wp2
      go_ret
      exact ⟨zz1,zz16⟩
     rw [if_neg c15] at H
     have c15b0:=decide_eq_false c15
     clear c15
     by_cases c20:((rd_T116 (rd_L7 l1 x25_1) x31_2).f1)≥((rd_T116 (rd_L7 l1 x25_1) x31_2).f2)
     ·rw [if_pos c20] at H
      have c20b0:=decide_eq_true c20
      clear c20
      obtain rfl:=Option.some.inj H
      have p491:0≤(x31_2:Int):=of_decide_eq_true za
      have q491:x31_2<((rd_L7 l1 x25_1).length:Int):=of_decide_eq_true za
      obtain ⟨ad491,e491,hx491_0,hx491_1,hx491_2⟩:=at_T116 HR490_0.out x31_2 p491 q491
      cases e491
      replace hx491_0:=zh_ HB hx491_0
      replace hx491_1:=zh_ HB hx491_1
      replace hx491_2:=zh_ HB hx491_2
      replace p491:=eq_true p491
      replace q491:=eq_true q491
      try go_wp2_with (first|((with_reducible refine gate_dst (N:=9) rfl ?_);refine box_event ?hg (N:=9) ?hd (cs:=#[.int .i64 0,.int .i64 0,.int .i64 0]) (t:=116) ?hr ?_;(case hd=>rfl);(case hg=>rfl);(case hr=>first|(go_simp;done)|(go_simp;rfl));intro gb492 hg w21 hbox hb;have n0_:=zRb HO_5 hb;have n1_:=zb1 hb;have n2_:=Aside0.mk (hbox);have n3_:=Aside0.mk ((by rw [hg];exact (below_size zb):w.heap.size≤gb492));have n4_:=Aside0.mk ((by rw [hg];exact (below_size zb):w.heap.size≤gb492));clear HO_5;clear HB;have HO_5:=n0_;have HB:=n1_;have BK492:=n2_;have GW492:=n3_;have GE492:=n4_;clear n0_ n1_ n2_ n3_ n4_;clear hb hbox hg;obtain ⟨hcz22_0,hcz22_1,hcz22_2,hfz22_0,hfz22_1,hfz22_2⟩:=zk3 BK492.out))
      have n0_:Aside0 (Kd.R (Kd.int .i64) 3 (((w21.setCell ⟨gb492,0,none⟩ (.int .i64 ((rd_T116 (rd_L7 l1 x25_1) x31_2).f0))).setCell ⟨gb492,1,none⟩ (.int .i64 ((rd_T116 (rd_L7 l1 x25_1) x31_2).f1))).setCell ⟨gb492,2,none⟩ (.int .i64 ((rd_T116 (rd_L7 l1 x25_1) x31_2).f2))) w.heap.size (fun _=>True) v488 x5_2):=⟨zz31⟩
      have n1_:Aside0 ((((w21.setCell ⟨gb492,0,none⟩ (.int .i64 ((rd_T116 (rd_L7 l1 x25_1) x31_2).f0))).setCell ⟨gb492,1,none⟩ (.int .i64 ((rd_T116 (rd_L7 l1 x25_1) x31_2).f1))).setCell ⟨gb492,2,none⟩ (.int .i64 ((rd_T116 (rd_L7 l1 x25_1) x31_2).f2))).heap[gb492]?=some (.cells #[.int .i64 ((rd_T116 (rd_L7 l1 x25_1) x31_2).f0),.int .i64 ((rd_T116 (rd_L7 l1 x25_1) x31_2).f1),.int .i64 ((rd_T116 (rd_L7 l1 x25_1) x31_2).f2)] 116 (0,0))):=⟨zz32⟩
      have n2_:Aside0 (Below w.heap.size w (((w21.setCell ⟨gb492,0,none⟩ (.int .i64 ((rd_T116 (rd_L7 l1 x25_1) x31_2).f0))).setCell ⟨gb492,1,none⟩ (.int .i64 ((rd_T116 (rd_L7 l1 x25_1) x31_2).f1))).setCell ⟨gb492,2,none⟩ (.int .i64 ((rd_T116 (rd_L7 l1 x25_1) x31_2).f2)))):=⟨zz16⟩
      (try simp only [show ∀ (W_:World) (n_:Nat) (a_:Addr) (v_:Value),(W_.drewN n_).setCell a_ v_=(W_.setCell a_ v_).drewN n_ from fun _ _ _ _=>rfl])
      generalize (((w21.setCell ⟨gb492,0,none⟩ (.int .i64 ((rd_T116 (rd_L7 l1 x25_1) x31_2).f0))).setCell ⟨gb492,1,none⟩ (.int .i64 ((rd_T116 (rd_L7 l1 x25_1) x31_2).f1))).setCell ⟨gb492,2,none⟩ (.int .i64 ((rd_T116 (rd_L7 l1 x25_1) x31_2).f2)))=w23 at n0_ n1_ n2_ ⊢
      have HO_5:=n0_
      have BK492:=n1_
      have HB:=n2_
      clear n0_ n1_ n2_
      replace HO_5:=Aside0.mk (Kd.R_drew HO_5.out)
      replace BK492:=Aside0.mk (blk_drew BK492.out)
      replace HB:=Aside0.mk (below_drew1 HB.out)
      refine start_ (n:=38) (S:=fun w'=>w'.cell? ⟨gb492,0,none⟩=some (.int .i64 ((rd_T116 (rd_L7 l1 x25_1) x31_2).f0))∧w'.cell? ⟨gb492,1,none⟩=some (.int .i64 ((rd_T116 (rd_L7 l1 x25_1) x31_2).f1))∧w'.cell? ⟨gb492,2,none⟩=some (.int .i64 ((rd_T116 (rd_L7 l1 x25_1) x31_2).f2))) (ds:=[]) ba60_ (by kernel_rfl) rfl rfl ⟨(blk_cell BK492.out 0).trans rfl,(blk_cell BK492.out 1).trans rfl,(blk_cell BK492.out 2).trans rfl⟩ (fun hHeld=>?_);refine with_tabW impl_isShared.tab8 impl_isShared.bits8 (fun HT_ HW_=>?_)
      generalize w23.drew=w24 at HO_5 BK492 HB hHeld ⊢
      refine pu_ 0 36 ?_
      refine pu_ 2 38 ?_
      refine pu_ 3 39 ?_
      refine tk_ 1 37 hHeld ?_
      refine one_ (i:=4) (N:=some 40) ba65_ rfl rfl (one_of HT_.out (by kernel_rfl)) (by decide) (fun K hK=>?_)
      refine goes_ Try.func114 (by kernel_rfl) rfl #[.int .i64 ((rd_T116 (rd_L7 l1 x25_1) x31_2).f0),.int .i64 (l0.length:Int)] (by rfl) rfl rfl zl ?_
      with_reducible refine (impl_isNumber.calls ((rd_T116 (rd_L7 l1 x25_1) x31_2).f0) (l0.length:Int) true _ A13.out).mono ?_
      rintro e w' ⟨rfl,⟨nd,rfl⟩⟩
      refine ⟨_,rfl,?_⟩
      refine hK.out _ _ ⟨(blk_cell BK492.out 0).trans rfl,(blk_cell BK492.out 1).trans rfl,(blk_cell BK492.out 2).trans rfl⟩ (fun hHeld=>?_)
      clear hK K
      refine norm_ (a':=?_) ?_ ?_
      rotate_left
      ·show Act.put _ (some 40) _=_
       simp only [Act.put,z0_,z1_,z2_,i64_w,i32_w]
       rfl
      refine pu_ 5 41 ?_
      refine pu_ 6 42 ?_
      refine pu_ 7 43 ?_
      refine tk_ 8 44 hHeld ?_
      refine pu_ 9 45 ?_
      refine pu_ 10 46 ?_
      refine pu_ 11 47 ?_
      refine pu_ 12 48 ?_
      refine pu_ 14 50 ?_
      refine tk_ 13 49 hHeld ?_
      refine tk_ 15 51 hHeld ?_
      refine pu_ 16 52 ?_
      refine pu_ 17 53 ?_
      refine pu_ 18 54 ?_
      refine pv_ 19 55 ?_
      refine pv_ 20 56 ?_
      refine pv_ 21 57 ?_
      refine pu_ 22 58 ?_
      refine pu_ 23 59 ?_
      refine pv_ 24 60 ?_
      refine pv_ 25 61 ?_
      refine pv_ 26 62 ?_
      refine pv_ 27 63 ?_
      refine pv_ 28 64 ?_
      refine pv_ 29 65 ?_
      refine pv_ 30 66 ?_
      refine pv_ 31 67 ?_
      refine pv_ 32 68 ?_
      refine pv_ 33 69 ?_
      refine pv_ 34 70 ?_
      refine pv_ 35 71 ?_
      refine pv_ 36 72 ?_
      refine pu_ 37 73 ?_
      refine done_ (done_of HT_.out (by kernel_rfl)) ?_
      try go_wp2
      go_ret
      exact ⟨zz1,zz16⟩
     rw [if_neg c20] at H
     have c20b0:=decide_eq_false c20
     clear c20
     by_cases c25:((rd_T116 (rd_L7 l1 x25_1) x31_2).f2)>1000
     ·rw [if_pos c25] at H
      have c25b0:=decide_eq_true c25
      clear c25
      obtain rfl:=Option.some.inj H
      have p491:0≤(x31_2:Int):=of_decide_eq_true za
      have q491:x31_2<((rd_L7 l1 x25_1).length:Int):=of_decide_eq_true za
      obtain ⟨ad491,e491,hx491_0,hx491_1,hx491_2⟩:=at_T116 HR490_0.out x31_2 p491 q491
      cases e491
      replace hx491_0:=zh_ HB hx491_0
      replace hx491_1:=zh_ HB hx491_1
      replace hx491_2:=zh_ HB hx491_2
      replace p491:=eq_true p491
      replace q491:=eq_true q491
      try go_wp2_with (first|((with_reducible refine gate_dst (N:=9) rfl ?_);refine box_event ?hg (N:=9) ?hd (cs:=#[.int .i64 0,.int .i64 0,.int .i64 0]) (t:=116) ?hr ?_;(case hd=>rfl);(case hg=>rfl);(case hr=>first|(go_simp;done)|(go_simp;rfl));intro gb492 hg w26 hbox hb;have n0_:=zRb HO_5 hb;have n1_:=zb1 hb;have n2_:=Aside0.mk (hbox);have n3_:=Aside0.mk ((by rw [hg];exact (below_size zb):w.heap.size≤gb492));have n4_:=Aside0.mk ((by rw [hg];exact (below_size zb):w.heap.size≤gb492));clear HO_5;clear HB;have HO_5:=n0_;have HB:=n1_;have BK492:=n2_;have GW492:=n3_;have GE492:=n4_;clear n0_ n1_ n2_ n3_ n4_;clear hb hbox hg;obtain ⟨hcz27_0,hcz27_1,hcz27_2,hfz27_0,hfz27_1,hfz27_2⟩:=zk3 BK492.out))
      have n0_:Aside0 (Kd.R (Kd.int .i64) 3 (((w26.setCell ⟨gb492,0,none⟩ (.int .i64 ((rd_T116 (rd_L7 l1 x25_1) x31_2).f0))).setCell ⟨gb492,1,none⟩ (.int .i64 ((rd_T116 (rd_L7 l1 x25_1) x31_2).f1))).setCell ⟨gb492,2,none⟩ (.int .i64 ((rd_T116 (rd_L7 l1 x25_1) x31_2).f2))) w.heap.size (fun _=>True) v488 x5_2):=⟨zz31⟩
      have n1_:Aside0 ((((w26.setCell ⟨gb492,0,none⟩ (.int .i64 ((rd_T116 (rd_L7 l1 x25_1) x31_2).f0))).setCell ⟨gb492,1,none⟩ (.int .i64 ((rd_T116 (rd_L7 l1 x25_1) x31_2).f1))).setCell ⟨gb492,2,none⟩ (.int .i64 ((rd_T116 (rd_L7 l1 x25_1) x31_2).f2))).heap[gb492]?=some (.cells #[.int .i64 ((rd_T116 (rd_L7 l1 x25_1) x31_2).f0),.int .i64 ((rd_T116 (rd_L7 l1 x25_1) x31_2).f1),.int .i64 ((rd_T116 (rd_L7 l1 x25_1) x31_2).f2)] 116 (0,0))):=⟨zz32⟩
      have n2_:Aside0 (Below w.heap.size w (((w26.setCell ⟨gb492,0,none⟩ (.int .i64 ((rd_T116 (rd_L7 l1 x25_1) x31_2).f0))).setCell ⟨gb492,1,none⟩ (.int .i64 ((rd_T116 (rd_L7 l1 x25_1) x31_2).f1))).setCell ⟨gb492,2,none⟩ (.int .i64 ((rd_T116 (rd_L7 l1 x25_1) x31_2).f2)))):=⟨zz16⟩
      (try simp only [show ∀ (W_:World) (n_:Nat) (a_:Addr) (v_:Value),(W_.drewN n_).setCell a_ v_=(W_.setCell a_ v_).drewN n_ from fun _ _ _ _=>rfl])
      generalize (((w26.setCell ⟨gb492,0,none⟩ (.int .i64 ((rd_T116 (rd_L7 l1 x25_1) x31_2).f0))).setCell ⟨gb492,1,none⟩ (.int .i64 ((rd_T116 (rd_L7 l1 x25_1) x31_2).f1))).setCell ⟨gb492,2,none⟩ (.int .i64 ((rd_T116 (rd_L7 l1 x25_1) x31_2).f2)))=w28 at n0_ n1_ n2_ ⊢
      have HO_5:=n0_
      have BK492:=n1_
      have HB:=n2_
      clear n0_ n1_ n2_
      replace HO_5:=Aside0.mk (Kd.R_drew HO_5.out)
      replace BK492:=Aside0.mk (blk_drew BK492.out)
      replace HB:=Aside0.mk (below_drew1 HB.out)
      refine start_ (n:=38) (S:=fun w'=>w'.cell? ⟨gb492,0,none⟩=some (.int .i64 ((rd_T116 (rd_L7 l1 x25_1) x31_2).f0))∧w'.cell? ⟨gb492,1,none⟩=some (.int .i64 ((rd_T116 (rd_L7 l1 x25_1) x31_2).f1))∧w'.cell? ⟨gb492,2,none⟩=some (.int .i64 ((rd_T116 (rd_L7 l1 x25_1) x31_2).f2))) (ds:=[]) ba60_ (by kernel_rfl) rfl rfl ⟨(blk_cell BK492.out 0).trans rfl,(blk_cell BK492.out 1).trans rfl,(blk_cell BK492.out 2).trans rfl⟩ (fun hHeld=>?_);refine with_tabW impl_isShared.tab8 impl_isShared.bits8 (fun HT_ HW_=>?_)
      generalize w28.drew=w29 at HO_5 BK492 HB hHeld ⊢
      refine pu_ 0 36 ?_
      refine pu_ 2 38 ?_
      refine pu_ 3 39 ?_
      refine tk_ 1 37 hHeld ?_
      refine one_ (i:=4) (N:=some 40) ba65_ rfl rfl (one_of HT_.out (by kernel_rfl)) (by decide) (fun K hK=>?_)
      refine goes_ Try.func114 (by kernel_rfl) rfl #[.int .i64 ((rd_T116 (rd_L7 l1 x25_1) x31_2).f0),.int .i64 (l0.length:Int)] (by rfl) rfl rfl zl ?_
      with_reducible refine (impl_isNumber.calls ((rd_T116 (rd_L7 l1 x25_1) x31_2).f0) (l0.length:Int) true _ A13.out).mono ?_
      rintro e w' ⟨rfl,⟨nd,rfl⟩⟩
      refine ⟨_,rfl,?_⟩
      refine hK.out _ _ ⟨(blk_cell BK492.out 0).trans rfl,(blk_cell BK492.out 1).trans rfl,(blk_cell BK492.out 2).trans rfl⟩ (fun hHeld=>?_)
      clear hK K
      refine norm_ (a':=?_) ?_ ?_
      rotate_left
      ·show Act.put _ (some 40) _=_
       simp only [Act.put,z0_,z1_,z2_,i64_w,i32_w]
       rfl
      refine pu_ 5 41 ?_
      refine pu_ 6 42 ?_
      refine pu_ 7 43 ?_
      refine tk_ 8 44 hHeld ?_
      refine pu_ 9 45 ?_
      refine pu_ 10 46 ?_
      refine pu_ 11 47 ?_
      refine pu_ 12 48 ?_
      refine pu_ 14 50 ?_
      refine tk_ 13 49 hHeld ?_
      refine tk_ 15 51 hHeld ?_
      refine pu_ 16 52 ?_
      refine pu_ 17 53 ?_
      refine pu_ 18 54 ?_
      refine pu_ 19 55 ?_
      refine tk_ 20 56 hHeld ?_
      refine pu_ 21 57 ?_
      refine pu_ 22 58 ?_
      refine pu_ 23 59 ?_
      refine pv_ 24 60 ?_
      refine pv_ 25 61 ?_
      refine pv_ 26 62 ?_
      refine pv_ 27 63 ?_
      refine pv_ 28 64 ?_
      refine pv_ 29 65 ?_
      refine pv_ 30 66 ?_
      refine pv_ 31 67 ?_
      refine pv_ 32 68 ?_
      refine pv_ 33 69 ?_
      refine pv_ 34 70 ?_
      refine pv_ 35 71 ?_
      refine pv_ 36 72 ?_
      refine pu_ 37 73 ?_
      refine done_ (done_of HT_.out (by kernel_rfl)) ?_
      try go_wp2
      go_ret
      exact ⟨zz1,zz16⟩
     rw [if_neg c25] at H
     have c25b0:=decide_eq_false c25
     clear c25
     by_cases c30:x31_2>0
     rotate_left
     ·rw [if_neg c30] at H
      have c30b0:=decide_eq_false c30
      clear c30
      by_cases c49:0≤((rd_T116 (rd_L7 l1 x25_1) x31_2).f0)
      rotate_left
      ·rw [if_neg c49] at H
       exact absurd H (by simp)
      rw [if_pos c49] at H
      have c49b0:=decide_eq_true c49
      clear c49
      by_cases c50:((rd_T116 (rd_L7 l1 x25_1) x31_2).f0)<(x5_2.length:Int)
      rotate_left
      ·rw [if_neg c50] at H
       exact absurd H (by simp)
      rw [if_pos c50] at H
      have c50b0:=decide_eq_true c50
      clear c50
      obtain ⟨y498,hy498⟩:∃ y_:List Int,y_=(x5_2.set (((rd_T116 (rd_L7 l1 x25_1) x31_2).f0):Int).toNat (wrap64 ((rd x5_2 ((rd_T116 (rd_L7 l1 x25_1) x31_2).f0)) + (wrap64 (((rd_T116 (rd_L7 l1 x25_1) x31_2).f2) - ((rd_T116 (rd_L7 l1 x25_1) x31_2).f1)))))):=⟨_,rfl⟩
      replace H:(impl_isShared.l1 k2 l0 l1 y498 (rd_L7 l1 x25_1) l1 (l1.length:Int) x25_1 (rd_L7 l1 x25_1) ((rd_L7 l1 x25_1).length:Int) (wrap64 (x31_2 + 1)))=some r:=by first|(rw [hy498];with_reducible exact H)|(have H2_:=(Option.bind_some _ _).symm.trans H;rw [hy498];with_reducible exact H2_)|(have H2_:=(Option.bind_some _ _).symm.trans H;with_reducible exact H2_)|with_reducible exact H|(rw [hy498];exact H)|exact H
      have Ny498:=Aside0.mk hy498
      clear hy498
      have H':=Aside0.mk H
      clear H
      have p491:0≤(x31_2:Int):=of_decide_eq_true za
      have q491:x31_2<((rd_L7 l1 x25_1).length:Int):=of_decide_eq_true za
      obtain ⟨ad491,e491,hx491_0,hx491_1,hx491_2⟩:=at_T116 HR490_0.out x31_2 p491 q491
      cases e491
      replace hx491_0:=zh_ HB hx491_0
      replace hx491_1:=zh_ HB hx491_1
      replace hx491_2:=zh_ HB hx491_2
      replace p491:=eq_true p491
      replace q491:=eq_true q491
      try go_wp2_with (first|((with_reducible refine gate_dst (N:=9) rfl ?_);refine box_event ?hg (N:=9) ?hd (cs:=#[.int .i64 0,.int .i64 0,.int .i64 0]) (t:=116) ?hr ?_;(case hd=>rfl);(case hg=>rfl);(case hr=>first|(go_simp;done)|(go_simp;rfl));intro gb492 hg w52 hbox hb;have n0_:=zRb HO_5 hb;have n1_:=zb1 hb;have n2_:=Aside0.mk (hbox);have n3_:=Aside0.mk ((by rw [hg];exact (below_size zb):w.heap.size≤gb492));have n4_:=Aside0.mk ((by rw [hg];exact (below_size zb):w.heap.size≤gb492));clear HO_5;clear HB;have HO_5:=n0_;have HB:=n1_;have BK492:=n2_;have GW492:=n3_;have GE492:=n4_;clear n0_ n1_ n2_ n3_ n4_;clear hb hbox hg;obtain ⟨hcz53_0,hcz53_1,hcz53_2,hfz53_0,hfz53_1,hfz53_2⟩:=zk3 BK492.out))
      have n0_:Aside0 (Kd.R (Kd.int .i64) 3 (((w52.setCell ⟨gb492,0,none⟩ (.int .i64 ((rd_T116 (rd_L7 l1 x25_1) x31_2).f0))).setCell ⟨gb492,1,none⟩ (.int .i64 ((rd_T116 (rd_L7 l1 x25_1) x31_2).f1))).setCell ⟨gb492,2,none⟩ (.int .i64 ((rd_T116 (rd_L7 l1 x25_1) x31_2).f2))) w.heap.size (fun _=>True) v488 x5_2):=⟨zz31⟩
      have n1_:Aside0 ((((w52.setCell ⟨gb492,0,none⟩ (.int .i64 ((rd_T116 (rd_L7 l1 x25_1) x31_2).f0))).setCell ⟨gb492,1,none⟩ (.int .i64 ((rd_T116 (rd_L7 l1 x25_1) x31_2).f1))).setCell ⟨gb492,2,none⟩ (.int .i64 ((rd_T116 (rd_L7 l1 x25_1) x31_2).f2))).heap[gb492]?=some (.cells #[.int .i64 ((rd_T116 (rd_L7 l1 x25_1) x31_2).f0),.int .i64 ((rd_T116 (rd_L7 l1 x25_1) x31_2).f1),.int .i64 ((rd_T116 (rd_L7 l1 x25_1) x31_2).f2)] 116 (0,0))):=⟨zz32⟩
      have n2_:Aside0 (Below w.heap.size w (((w52.setCell ⟨gb492,0,none⟩ (.int .i64 ((rd_T116 (rd_L7 l1 x25_1) x31_2).f0))).setCell ⟨gb492,1,none⟩ (.int .i64 ((rd_T116 (rd_L7 l1 x25_1) x31_2).f1))).setCell ⟨gb492,2,none⟩ (.int .i64 ((rd_T116 (rd_L7 l1 x25_1) x31_2).f2)))):=⟨zz16⟩
      (try simp only [show ∀ (W_:World) (n_:Nat) (a_:Addr) (v_:Value),(W_.drewN n_).setCell a_ v_=(W_.setCell a_ v_).drewN n_ from fun _ _ _ _=>rfl])
      generalize (((w52.setCell ⟨gb492,0,none⟩ (.int .i64 ((rd_T116 (rd_L7 l1 x25_1) x31_2).f0))).setCell ⟨gb492,1,none⟩ (.int .i64 ((rd_T116 (rd_L7 l1 x25_1) x31_2).f1))).setCell ⟨gb492,2,none⟩ (.int .i64 ((rd_T116 (rd_L7 l1 x25_1) x31_2).f2)))=w54 at n0_ n1_ n2_ ⊢
      have HO_5:=n0_
      have BK492:=n1_
      have HB:=n2_
      clear n0_ n1_ n2_
      replace HO_5:=Aside0.mk (Kd.R_drew HO_5.out)
      replace BK492:=Aside0.mk (blk_drew BK492.out)
      replace HB:=Aside0.mk (below_drew1 HB.out)
      refine start_ (n:=38) (S:=fun w'=>w'.cell? ⟨gb492,0,none⟩=some (.int .i64 ((rd_T116 (rd_L7 l1 x25_1) x31_2).f0))∧w'.cell? ⟨gb492,1,none⟩=some (.int .i64 ((rd_T116 (rd_L7 l1 x25_1) x31_2).f1))∧w'.cell? ⟨gb492,2,none⟩=some (.int .i64 ((rd_T116 (rd_L7 l1 x25_1) x31_2).f2))) (ds:=[]) ba60_ (by kernel_rfl) rfl rfl ⟨(blk_cell BK492.out 0).trans rfl,(blk_cell BK492.out 1).trans rfl,(blk_cell BK492.out 2).trans rfl⟩ (fun hHeld=>?_);refine with_tabW impl_isShared.tab8 impl_isShared.bits8 (fun HT_ HW_=>?_)
      generalize w54.drew=w55 at HO_5 BK492 HB hHeld ⊢
      refine pu_ 0 36 ?_
      refine pu_ 2 38 ?_
      refine pu_ 3 39 ?_
      refine tk_ 1 37 hHeld ?_
      refine one_ (i:=4) (N:=some 40) ba65_ rfl rfl (one_of HT_.out (by kernel_rfl)) (by decide) (fun K hK=>?_)
      refine goes_ Try.func114 (by kernel_rfl) rfl #[.int .i64 ((rd_T116 (rd_L7 l1 x25_1) x31_2).f0),.int .i64 (l0.length:Int)] (by rfl) rfl rfl zl ?_
      with_reducible refine (impl_isNumber.calls ((rd_T116 (rd_L7 l1 x25_1) x31_2).f0) (l0.length:Int) true _ A13.out).mono ?_
      rintro e w' ⟨rfl,⟨nd,rfl⟩⟩
      refine ⟨_,rfl,?_⟩
      refine hK.out _ _ ⟨(blk_cell BK492.out 0).trans rfl,(blk_cell BK492.out 1).trans rfl,(blk_cell BK492.out 2).trans rfl⟩ (fun hHeld=>?_)
      clear hK K
      refine norm_ (a':=?_) ?_ ?_
      rotate_left
      ·show Act.put _ (some 40) _=_
       simp only [Act.put,z0_,z1_,z2_,i64_w,i32_w]
       rfl
      refine pu_ 5 41 ?_
      refine pu_ 6 42 ?_
      refine pu_ 7 43 ?_
      refine tk_ 8 44 hHeld ?_
      refine pu_ 9 45 ?_
      refine pu_ 10 46 ?_
      refine pu_ 11 47 ?_
      refine pu_ 12 48 ?_
      refine pu_ 14 50 ?_
      refine tk_ 13 49 hHeld ?_
      refine tk_ 15 51 hHeld ?_
      refine pu_ 16 52 ?_
      refine pu_ 17 53 ?_
      refine pu_ 18 54 ?_
      refine pu_ 19 55 ?_
      refine tk_ 20 56 hHeld ?_
      refine pu_ 21 57 ?_
      refine pu_ 22 58 ?_
      refine pu_ 23 59 ?_
      refine pu_ 24 60 ?_
      refine pu_ 25 61 ?_
      refine pu_ 26 62 ?_
      refine pv_ 27 63 ?_
      refine pv_ 28 64 ?_
      refine pv_ 29 65 ?_
      refine pv_ 30 66 ?_
      refine pv_ 31 67 ?_
      refine pv_ 32 68 ?_
      refine pv_ 33 69 ?_
      refine pv_ 34 70 ?_
      refine pv_ 35 71 ?_
      refine pu_ 36 72 ?_
      refine pu_ 37 73 ?_
      refine done_ (done_of HT_.out (by kernel_rfl)) ?_
      try go_wp2
      (try (rw [drewN_self w55];generalize hq_:World.drewN w55 _=w55;have n0_:Aside0 (Kd.R (Kd.int .i64) 3 w55 w.heap.size (fun _=>True) v488 x5_2):=⟨by rw [←hq_];exact (zR HO_5.out)⟩;have n1_:Aside0 (w55.heap[gb492]?=some (.cells #[.int .i64 ((rd_T116 (rd_L7 l1 x25_1) x31_2).f0),.int .i64 ((rd_T116 (rd_L7 l1 x25_1) x31_2).f1),.int .i64 ((rd_T116 (rd_L7 l1 x25_1) x31_2).f2)] 116 (0,0))):=⟨by rw [←hq_];exact (by (with_reducible repeat (first|refine blk_drewN ?_ _|refine blk_drew ?_|refine blk_alloc ?_ _));exact BK492.out)⟩;have n2_:Aside0 (Below w.heap.size w w55):=⟨by rw [←hq_];exact zz16⟩;clear HO_5 BK492 HB hq_;have HO_5:=n0_;have BK492:=n1_;have HB:=n2_;clear n0_ n1_ n2_))
      replace HO_5:=Aside0.mk (Kd.R_drew HO_5.out)
      replace BK492:=Aside0.mk (blk_drew BK492.out)
      replace HB:=Aside0.mk (below_drew1 HB.out)
      obtain ⟨Ao57,co57,eo57⟩:=Kd.R_slice HO_5.out
      (first|subst eo57|(injection eo57 with f1_ f2_ f3_;have f4_:=f1_.symm;have f5_:=f3_.symm;clear f1_ f2_ f3_;subst f4_;subst f5_))
      have p497:0≤(((rd_T116 (rd_L7 l1 x25_1) x31_2).f0):Int):=of_decide_eq_true za
      have q497:((rd_T116 (rd_L7 l1 x25_1) x31_2).f0)<(x5_2.length:Int):=of_decide_eq_true za
      obtain ⟨ad497,e497,hx497_0⟩:=Kd.at_int (Kd.R_reads' HO_5.out).2.2 ((rd_T116 (rd_L7 l1 x25_1) x31_2).f0) p497 q497
      cases e497
      replace p497:=eq_true p497
      replace q497:=eq_true q497
      have p51:0≤(((rd_T116 (rd_L7 l1 x25_1) x31_2).f0):Int):=of_decide_eq_true za
      have q51:(((rd_T116 (rd_L7 l1 x25_1) x31_2).f0):Int)<((x5_2.length:Int):Int):=of_decide_eq_true za
      obtain ⟨go51,co51,eo51,gb51,gl51,cl51,HG51⟩:=Kd.R_form HO_5.out (by omega)
      (first|cases eo51|(injection eo51 with ea_ en_ ec_;(first|subst ea_|(injection ea_ with ea_;subst ea_));subst ec_;clear en_))
      have GB51:=Aside0.mk gb51
      have GG51:=Aside0.mk HG51
      clear gb51 gl51 HG51
      (first|simp only [add_plain] at hx497_0|skip)
      obtain ⟨hx51_0,hf51_0⟩:=Kd.R_celln 0 HO_5.out (((rd_T116 (rd_L7 l1 x25_1) x31_2).f0):Int) p51 q51
      replace p51:=eq_true p51
      replace q51:=eq_true q51
      have HP58:=Kd.R_putn HO_5.out (((rd_T116 (rd_L7 l1 x25_1) x31_2).f0):Int) (wrap64 ((rd x5_2 ((rd_T116 (rd_L7 l1 x25_1) x31_2).f0)) + (wrap64 (((rd_T116 (rd_L7 l1 x25_1) x31_2).f2) - ((rd_T116 (rd_L7 l1 x25_1) x31_2).f1)))))
      rw [←Ny498.out] at HP58
      have HQ58:=Aside0.mk HP58
      clear HP58
      refine start_ (n:=13) (S:=fun w'=>w'.cell? ⟨gb492,0,none⟩=some (.int .i64 ((rd_T116 (rd_L7 l1 x25_1) x31_2).f0))∧w'.cell? ⟨gb492,1,none⟩=some (.int .i64 ((rd_T116 (rd_L7 l1 x25_1) x31_2).f1))∧w'.cell? ⟨gb492,2,none⟩=some (.int .i64 ((rd_T116 (rd_L7 l1 x25_1) x31_2).f2))∧w'.cell? ⟨go51,(((rd_T116 (rd_L7 l1 x25_1) x31_2).f0)).toNat,none⟩=some (.int .i64 (rd x5_2 ((rd_T116 (rd_L7 l1 x25_1) x31_2).f0)))) (ds:=[12]) ba105_ (by kernel_rfl) rfl rfl ⟨(blk_cell BK492.out 0).trans rfl,(blk_cell BK492.out 1).trans rfl,(blk_cell BK492.out 2).trans rfl,hx497_0⟩ (fun hHeld=>?_);refine with_tabW impl_isShared.tab10 impl_isShared.bits10 (fun HT_ HW_=>?_)
      generalize w55.drew=w56 at HO_5 BK492 HB GG51 HQ58 hf51_0 hx497_0 hx51_0 hHeld ⊢
      refine pu_ 0 74 ?_
      refine pu_ 1 75 ?_
      refine pu_ 5 79 ?_
      refine pu_ 7 81 ?_
      refine tk_ 2 76 hHeld ?_
      refine pu_ 3 77 ?_
      refine tk_ 4 78 hHeld ?_
      refine tk_ 6 80 hHeld ?_
      refine tk_ 8 82 hHeld ?_
      refine pu_ 9 83 ?_
      refine pu_ 10 84 ?_
      refine pu_ 11 85 ?_
      refine last_ (i:=12) (N:=none) ba118_ rfl rfl (one_of HT_.out (by kernel_rfl)) (by decide) (fun K hK=>?_)
      refine skip_ (w1:=?_) (by rfl) rfl ?_ ?_
      rotate_left
      ·go_simp
       rfl
      refine hK.out _ _ ?_
      clear hK K
      refine done_ (done_of HT_.out (by kernel_rfl)) ?_
      try go_wp2
      go_roundg k2
      case measure=>have:=HK1.out;have:=HK2.out;omega
      case rel=>exact ⟨(y498),(wrap64 (x31_2 + 1)),zo,H',⟨zz9⟩,⟨by (with_reducible repeat (first|apply Kd.R_alloc|apply Kd.R_drewN|apply Kd.R_drew));exact HQ58.out⟩,⟨by repeat (first|(with_reducible first|exact HB.out|apply below_alloc|apply pw_below_drewN|apply below_drew1|refine below_set ?_ GB51.out|refine below_set ?_ GE492.out)|exact HB.out)⟩⟩
     rw [if_pos c30] at H
     have c30b0:=decide_eq_true c30
     clear c30
     obtain ⟨ji31,hji31⟩:∃ j_:Int,(wrap64 (x31_2 - 1))=j_:=⟨_,rfl⟩
     replace H:(if 0≤(ji31) then (if (ji31)<((rd_L7 l1 x25_1).length:Int) then (if ((rd_T116 (rd_L7 l1 x25_1) x31_2).f1)<((rd_T116 (rd_L7 l1 x25_1) (ji31)).f2) then (some false) else (if 0≤((rd_T116 (rd_L7 l1 x25_1) x31_2).f0) then (if ((rd_T116 (rd_L7 l1 x25_1) x31_2).f0)<(x5_2.length:Int) then (impl_isShared.l1 k2 l0 l1 (x5_2.set (((rd_T116 (rd_L7 l1 x25_1) x31_2).f0):Int).toNat (wrap64 ((rd x5_2 ((rd_T116 (rd_L7 l1 x25_1) x31_2).f0)) + (wrap64 (((rd_T116 (rd_L7 l1 x25_1) x31_2).f2) - ((rd_T116 (rd_L7 l1 x25_1) x31_2).f1)))))) (rd_L7 l1 x25_1) l1 (l1.length:Int) x25_1 (rd_L7 l1 x25_1) ((rd_L7 l1 x25_1).length:Int) (wrap64 (x31_2 + 1))) else (none)) else (none))) else (none)) else (none))=some r:=by first|(rw [hji31] at H;exact H)|(simp only [hji31] at H ⊢;exact H)
     (try rw [hji31] at A13)
     have hji31w:(IntKind.i64.wrap (x31_2 - 1))=ji31:=(i64_w _).trans hji31
     by_cases c32:0≤(ji31)
     rotate_left
     ·rw [if_neg c32] at H
      exact absurd H (by simp)
     rw [if_pos c32] at H
     have c32b0:=decide_eq_true c32
     clear c32
     by_cases c33:(ji31)<((rd_L7 l1 x25_1).length:Int)
     rotate_left
     ·rw [if_neg c33] at H
      exact absurd H (by simp)
     rw [if_pos c33] at H
     have c33b0:=decide_eq_true c33
     clear c33
     by_cases c34:((rd_T116 (rd_L7 l1 x25_1) x31_2).f1)<((rd_T116 (rd_L7 l1 x25_1) (ji31)).f2)
     ·rw [if_pos c34] at H
      have c34b0:=decide_eq_true c34
      clear c34
      obtain rfl:=Option.some.inj H
      have p491:0≤(x31_2:Int):=of_decide_eq_true za
      have q491:x31_2<((rd_L7 l1 x25_1).length:Int):=of_decide_eq_true za
      obtain ⟨ad491,e491,hx491_0,hx491_1,hx491_2⟩:=at_T116 HR490_0.out x31_2 p491 q491
      cases e491
      replace hx491_0:=zh_ HB hx491_0
      replace hx491_1:=zh_ HB hx491_1
      replace hx491_2:=zh_ HB hx491_2
      replace p491:=eq_true p491
      replace q491:=eq_true q491
      try go_wp2_with (first|((with_reducible refine gate_dst (N:=9) rfl ?_);refine box_event ?hg (N:=9) ?hd (cs:=#[.int .i64 0,.int .i64 0,.int .i64 0]) (t:=116) ?hr ?_;(case hd=>rfl);(case hg=>rfl);(case hr=>first|(go_simp;done)|(go_simp;rfl));intro gb492 hg w35 hbox hb;have n0_:=zRb HO_5 hb;have n1_:=zb1 hb;have n2_:=Aside0.mk (hbox);have n3_:=Aside0.mk ((by rw [hg];exact (below_size zb):w.heap.size≤gb492));have n4_:=Aside0.mk ((by rw [hg];exact (below_size zb):w.heap.size≤gb492));clear HO_5;clear HB;have HO_5:=n0_;have HB:=n1_;have BK492:=n2_;have GW492:=n3_;have GE492:=n4_;clear n0_ n1_ n2_ n3_ n4_;clear hb hbox hg;obtain ⟨hcz36_0,hcz36_1,hcz36_2,hfz36_0,hfz36_1,hfz36_2⟩:=zk3 BK492.out))
      have n0_:Aside0 (Kd.R (Kd.int .i64) 3 (((w35.setCell ⟨gb492,0,none⟩ (.int .i64 ((rd_T116 (rd_L7 l1 x25_1) x31_2).f0))).setCell ⟨gb492,1,none⟩ (.int .i64 ((rd_T116 (rd_L7 l1 x25_1) x31_2).f1))).setCell ⟨gb492,2,none⟩ (.int .i64 ((rd_T116 (rd_L7 l1 x25_1) x31_2).f2))) w.heap.size (fun _=>True) v488 x5_2):=⟨zz31⟩
      have n1_:Aside0 ((((w35.setCell ⟨gb492,0,none⟩ (.int .i64 ((rd_T116 (rd_L7 l1 x25_1) x31_2).f0))).setCell ⟨gb492,1,none⟩ (.int .i64 ((rd_T116 (rd_L7 l1 x25_1) x31_2).f1))).setCell ⟨gb492,2,none⟩ (.int .i64 ((rd_T116 (rd_L7 l1 x25_1) x31_2).f2))).heap[gb492]?=some (.cells #[.int .i64 ((rd_T116 (rd_L7 l1 x25_1) x31_2).f0),.int .i64 ((rd_T116 (rd_L7 l1 x25_1) x31_2).f1),.int .i64 ((rd_T116 (rd_L7 l1 x25_1) x31_2).f2)] 116 (0,0))):=⟨zz32⟩
      have n2_:Aside0 (Below w.heap.size w (((w35.setCell ⟨gb492,0,none⟩ (.int .i64 ((rd_T116 (rd_L7 l1 x25_1) x31_2).f0))).setCell ⟨gb492,1,none⟩ (.int .i64 ((rd_T116 (rd_L7 l1 x25_1) x31_2).f1))).setCell ⟨gb492,2,none⟩ (.int .i64 ((rd_T116 (rd_L7 l1 x25_1) x31_2).f2)))):=⟨zz16⟩
      (try simp only [show ∀ (W_:World) (n_:Nat) (a_:Addr) (v_:Value),(W_.drewN n_).setCell a_ v_=(W_.setCell a_ v_).drewN n_ from fun _ _ _ _=>rfl])
      generalize (((w35.setCell ⟨gb492,0,none⟩ (.int .i64 ((rd_T116 (rd_L7 l1 x25_1) x31_2).f0))).setCell ⟨gb492,1,none⟩ (.int .i64 ((rd_T116 (rd_L7 l1 x25_1) x31_2).f1))).setCell ⟨gb492,2,none⟩ (.int .i64 ((rd_T116 (rd_L7 l1 x25_1) x31_2).f2)))=w37 at n0_ n1_ n2_ ⊢
      have HO_5:=n0_
      have BK492:=n1_
      have HB:=n2_
      clear n0_ n1_ n2_
      replace HO_5:=Aside0.mk (Kd.R_drew HO_5.out)
      replace BK492:=Aside0.mk (blk_drew BK492.out)
      replace HB:=Aside0.mk (below_drew1 HB.out)
      have p494:0≤((ji31):Int):=of_decide_eq_true za
      have q494:(ji31)<((rd_L7 l1 x25_1).length:Int):=of_decide_eq_true za
      obtain ⟨ad494,e494,hx494_0,hx494_1,hx494_2⟩:=at_T116 HR490_0.out (ji31) p494 q494
      have hw494_2:=hx494_2
      have hw494_1:=hx494_1
      have hw494_0:=hx494_0
      obtain rfl:ad491=ad494:=(by injection e494)
      replace hx494_0:=zh_ HB hx494_0
      replace hx494_1:=zh_ HB hx494_1
      replace hx494_2:=zh_ HB hx494_2
      replace p494:=eq_true p494
      replace q494:=eq_true q494
      refine start_ (n:=38) (S:=fun w'=>w'.cell? ⟨gb492,0,none⟩=some (.int .i64 ((rd_T116 (rd_L7 l1 x25_1) x31_2).f0))∧w'.cell? ⟨gb492,1,none⟩=some (.int .i64 ((rd_T116 (rd_L7 l1 x25_1) x31_2).f1))∧w'.cell? ⟨gb492,2,none⟩=some (.int .i64 ((rd_T116 (rd_L7 l1 x25_1) x31_2).f2))∧w'.cell? (ad491.add (((ji31)).toNat * 3))=some (.int .i64 ((rd_T116 (rd_L7 l1 x25_1) (ji31)).f0))∧w'.cell? ⟨(ad491.add (((ji31)).toNat * 3)).block,(ad491.add (((ji31)).toNat * 3)).off + 1,none⟩=some (.int .i64 ((rd_T116 (rd_L7 l1 x25_1) (ji31)).f1))∧w'.cell? ⟨(ad491.add (((ji31)).toNat * 3)).block,(ad491.add (((ji31)).toNat * 3)).off + 2,none⟩=some (.int .i64 ((rd_T116 (rd_L7 l1 x25_1) (ji31)).f2))) (ds:=[]) ba60_ (by kernel_rfl) rfl rfl ⟨(blk_cell BK492.out 0).trans rfl,(blk_cell BK492.out 1).trans rfl,(blk_cell BK492.out 2).trans rfl,((HB.out.cell (World.block_lt_of_cell? w _ hw494_0)).trans hw494_0),((HB.out.cell (World.block_lt_of_cell? w _ hw494_1)).trans hw494_1),((HB.out.cell (World.block_lt_of_cell? w _ hw494_2)).trans hw494_2)⟩ (fun hHeld=>?_);refine with_tabW impl_isShared.tab8 impl_isShared.bits8 (fun HT_ HW_=>?_)
      generalize w37.drew=w38 at HO_5 BK492 HB hx494_0 hx494_1 hx494_2 hHeld ⊢
      refine pu_ 0 36 ?_
      refine pu_ 2 38 ?_
      refine pu_ 3 39 ?_
      refine tk_ 1 37 hHeld ?_
      refine one_ (i:=4) (N:=some 40) ba65_ rfl rfl (one_of HT_.out (by kernel_rfl)) (by decide) (fun K hK=>?_)
      refine goes_ Try.func114 (by kernel_rfl) rfl #[.int .i64 ((rd_T116 (rd_L7 l1 x25_1) x31_2).f0),.int .i64 (l0.length:Int)] (by rfl) rfl rfl zl ?_
      with_reducible refine (impl_isNumber.calls ((rd_T116 (rd_L7 l1 x25_1) x31_2).f0) (l0.length:Int) true _ A13.out).mono ?_
      rintro e w' ⟨rfl,⟨nd,rfl⟩⟩
      refine ⟨_,rfl,?_⟩
      refine hK.out _ _ ⟨(blk_cell BK492.out 0).trans rfl,(blk_cell BK492.out 1).trans rfl,(blk_cell BK492.out 2).trans rfl,((HB.out.cell (World.block_lt_of_cell? w _ hw494_0)).trans hw494_0),((HB.out.cell (World.block_lt_of_cell? w _ hw494_1)).trans hw494_1),((HB.out.cell (World.block_lt_of_cell? w _ hw494_2)).trans hw494_2)⟩ (fun hHeld=>?_)
      clear hK K
      refine norm_ (a':=?_) ?_ ?_
      rotate_left
      ·show Act.put _ (some 40) _=_
       simp only [Act.put,z0_,z1_,z2_,i64_w,i32_w]
       rfl
      refine pu_ 5 41 ?_
      refine pu_ 6 42 ?_
      refine pu_ 7 43 ?_
      refine tk_ 8 44 hHeld ?_
      refine pu_ 9 45 ?_
      refine pu_ 10 46 ?_
      refine pu_ 11 47 ?_
      refine pu_ 12 48 ?_
      refine pu_ 14 50 ?_
      refine tk_ 13 49 hHeld ?_
      refine tk_ 15 51 hHeld ?_
      refine pu_ 16 52 ?_
      refine pu_ 17 53 ?_
      refine pu_ 18 54 ?_
      refine pu_ 19 55 ?_
      refine tk_ 20 56 hHeld ?_
      refine pu_ 21 57 ?_
      refine pu_ 22 58 ?_
      refine pu_ 23 59 ?_
      refine pu_ 24 60 ?_
      refine pu_ 25 61 ?_
      refine pu_ 26 62 ?_
      refine pu_ 27 63 ?_
      refine pu_ 29 65 ?_
      refine pu_ 30 66 ?_
      refine pu_ 31 67 ?_
      refine pu_ 32 68 ?_
      refine pu_ 33 69 ?_
      refine tk_ 28 64 hHeld ?_
      refine tk_ 34 70 hHeld ?_
      refine pu_ 35 71 ?_
      refine pu_ 36 72 ?_
      refine pu_ 37 73 ?_
      refine done_ (done_of HT_.out (by kernel_rfl)) ?_
      try go_wp2
      go_ret
      exact ⟨by first|rfl|(simp [errW_none,errW_some] <;> rfl)|(simp only [←hji31];first|rfl|(simp [errW_none,errW_some] <;> rfl))|(simp [*,errW_none,errW_some] <;> rfl),zz16⟩
     rw [if_neg c34] at H
     have c34b0:=decide_eq_false c34
     clear c34
     by_cases c39:0≤((rd_T116 (rd_L7 l1 x25_1) x31_2).f0)
     rotate_left
     ·rw [if_neg c39] at H
      exact absurd H (by simp)
     rw [if_pos c39] at H
     have c39b0:=decide_eq_true c39
     clear c39
     by_cases c40:((rd_T116 (rd_L7 l1 x25_1) x31_2).f0)<(x5_2.length:Int)
     rotate_left
     ·rw [if_neg c40] at H
      exact absurd H (by simp)
     rw [if_pos c40] at H
     have c40b0:=decide_eq_true c40
     clear c40
     obtain ⟨y496,hy496⟩:∃ y_:List Int,y_=(x5_2.set (((rd_T116 (rd_L7 l1 x25_1) x31_2).f0):Int).toNat (wrap64 ((rd x5_2 ((rd_T116 (rd_L7 l1 x25_1) x31_2).f0)) + (wrap64 (((rd_T116 (rd_L7 l1 x25_1) x31_2).f2) - ((rd_T116 (rd_L7 l1 x25_1) x31_2).f1)))))):=⟨_,rfl⟩
     replace H:(impl_isShared.l1 k2 l0 l1 y496 (rd_L7 l1 x25_1) l1 (l1.length:Int) x25_1 (rd_L7 l1 x25_1) ((rd_L7 l1 x25_1).length:Int) (wrap64 (x31_2 + 1)))=some r:=by first|(rw [hy496];with_reducible exact H)|(have H2_:=(Option.bind_some _ _).symm.trans H;rw [hy496];with_reducible exact H2_)|(have H2_:=(Option.bind_some _ _).symm.trans H;with_reducible exact H2_)|with_reducible exact H|(rw [hy496];exact H)|exact H
     have Ny496:=Aside0.mk hy496
     clear hy496
     have H':=Aside0.mk H
     clear H
     have p491:0≤(x31_2:Int):=of_decide_eq_true za
     have q491:x31_2<((rd_L7 l1 x25_1).length:Int):=of_decide_eq_true za
     obtain ⟨ad491,e491,hx491_0,hx491_1,hx491_2⟩:=at_T116 HR490_0.out x31_2 p491 q491
     cases e491
     replace hx491_0:=zh_ HB hx491_0
     replace hx491_1:=zh_ HB hx491_1
     replace hx491_2:=zh_ HB hx491_2
     replace p491:=eq_true p491
     replace q491:=eq_true q491
     try go_wp2_with (first|((with_reducible refine gate_dst (N:=9) rfl ?_);refine box_event ?hg (N:=9) ?hd (cs:=#[.int .i64 0,.int .i64 0,.int .i64 0]) (t:=116) ?hr ?_;(case hd=>rfl);(case hg=>rfl);(case hr=>first|(go_simp;done)|(go_simp;rfl));intro gb492 hg w42 hbox hb;have n0_:=zRb HO_5 hb;have n1_:=zb1 hb;have n2_:=Aside0.mk (hbox);have n3_:=Aside0.mk ((by rw [hg];exact (below_size zb):w.heap.size≤gb492));have n4_:=Aside0.mk ((by rw [hg];exact (below_size zb):w.heap.size≤gb492));clear HO_5;clear HB;have HO_5:=n0_;have HB:=n1_;have BK492:=n2_;have GW492:=n3_;have GE492:=n4_;clear n0_ n1_ n2_ n3_ n4_;clear hb hbox hg;obtain ⟨hcz43_0,hcz43_1,hcz43_2,hfz43_0,hfz43_1,hfz43_2⟩:=zk3 BK492.out))
     have n0_:Aside0 (Kd.R (Kd.int .i64) 3 (((w42.setCell ⟨gb492,0,none⟩ (.int .i64 ((rd_T116 (rd_L7 l1 x25_1) x31_2).f0))).setCell ⟨gb492,1,none⟩ (.int .i64 ((rd_T116 (rd_L7 l1 x25_1) x31_2).f1))).setCell ⟨gb492,2,none⟩ (.int .i64 ((rd_T116 (rd_L7 l1 x25_1) x31_2).f2))) w.heap.size (fun _=>True) v488 x5_2):=⟨zz31⟩
     have n1_:Aside0 ((((w42.setCell ⟨gb492,0,none⟩ (.int .i64 ((rd_T116 (rd_L7 l1 x25_1) x31_2).f0))).setCell ⟨gb492,1,none⟩ (.int .i64 ((rd_T116 (rd_L7 l1 x25_1) x31_2).f1))).setCell ⟨gb492,2,none⟩ (.int .i64 ((rd_T116 (rd_L7 l1 x25_1) x31_2).f2))).heap[gb492]?=some (.cells #[.int .i64 ((rd_T116 (rd_L7 l1 x25_1) x31_2).f0),.int .i64 ((rd_T116 (rd_L7 l1 x25_1) x31_2).f1),.int .i64 ((rd_T116 (rd_L7 l1 x25_1) x31_2).f2)] 116 (0,0))):=⟨zz32⟩
     have n2_:Aside0 (Below w.heap.size w (((w42.setCell ⟨gb492,0,none⟩ (.int .i64 ((rd_T116 (rd_L7 l1 x25_1) x31_2).f0))).setCell ⟨gb492,1,none⟩ (.int .i64 ((rd_T116 (rd_L7 l1 x25_1) x31_2).f1))).setCell ⟨gb492,2,none⟩ (.int .i64 ((rd_T116 (rd_L7 l1 x25_1) x31_2).f2)))):=⟨zz16⟩
     (try simp only [show ∀ (W_:World) (n_:Nat) (a_:Addr) (v_:Value),(W_.drewN n_).setCell a_ v_=(W_.setCell a_ v_).drewN n_ from fun _ _ _ _=>rfl])
     generalize (((w42.setCell ⟨gb492,0,none⟩ (.int .i64 ((rd_T116 (rd_L7 l1 x25_1) x31_2).f0))).setCell ⟨gb492,1,none⟩ (.int .i64 ((rd_T116 (rd_L7 l1 x25_1) x31_2).f1))).setCell ⟨gb492,2,none⟩ (.int .i64 ((rd_T116 (rd_L7 l1 x25_1) x31_2).f2)))=w44 at n0_ n1_ n2_ ⊢
     have HO_5:=n0_
     have BK492:=n1_
     have HB:=n2_
     clear n0_ n1_ n2_
     replace HO_5:=Aside0.mk (Kd.R_drew HO_5.out)
     replace BK492:=Aside0.mk (blk_drew BK492.out)
     replace HB:=Aside0.mk (below_drew1 HB.out)
     have p494:0≤((ji31):Int):=of_decide_eq_true za
     have q494:(ji31)<((rd_L7 l1 x25_1).length:Int):=of_decide_eq_true za
     obtain ⟨ad494,e494,hx494_0,hx494_1,hx494_2⟩:=at_T116 HR490_0.out (ji31) p494 q494
     have hw494_2:=hx494_2
     have hw494_1:=hx494_1
     have hw494_0:=hx494_0
     obtain rfl:ad491=ad494:=(by injection e494)
     replace hx494_0:=zh_ HB hx494_0
     replace hx494_1:=zh_ HB hx494_1
     replace hx494_2:=zh_ HB hx494_2
     replace p494:=eq_true p494
     replace q494:=eq_true q494
     refine start_ (n:=38) (S:=fun w'=>w'.cell? ⟨gb492,0,none⟩=some (.int .i64 ((rd_T116 (rd_L7 l1 x25_1) x31_2).f0))∧w'.cell? ⟨gb492,1,none⟩=some (.int .i64 ((rd_T116 (rd_L7 l1 x25_1) x31_2).f1))∧w'.cell? ⟨gb492,2,none⟩=some (.int .i64 ((rd_T116 (rd_L7 l1 x25_1) x31_2).f2))∧w'.cell? (ad491.add (((ji31)).toNat * 3))=some (.int .i64 ((rd_T116 (rd_L7 l1 x25_1) (ji31)).f0))∧w'.cell? ⟨(ad491.add (((ji31)).toNat * 3)).block,(ad491.add (((ji31)).toNat * 3)).off + 1,none⟩=some (.int .i64 ((rd_T116 (rd_L7 l1 x25_1) (ji31)).f1))∧w'.cell? ⟨(ad491.add (((ji31)).toNat * 3)).block,(ad491.add (((ji31)).toNat * 3)).off + 2,none⟩=some (.int .i64 ((rd_T116 (rd_L7 l1 x25_1) (ji31)).f2))) (ds:=[]) ba60_ (by kernel_rfl) rfl rfl ⟨(blk_cell BK492.out 0).trans rfl,(blk_cell BK492.out 1).trans rfl,(blk_cell BK492.out 2).trans rfl,((HB.out.cell (World.block_lt_of_cell? w _ hw494_0)).trans hw494_0),((HB.out.cell (World.block_lt_of_cell? w _ hw494_1)).trans hw494_1),((HB.out.cell (World.block_lt_of_cell? w _ hw494_2)).trans hw494_2)⟩ (fun hHeld=>?_);refine with_tabW impl_isShared.tab8 impl_isShared.bits8 (fun HT_ HW_=>?_)
     generalize w44.drew=w45 at HO_5 BK492 HB hx494_0 hx494_1 hx494_2 hHeld ⊢
     refine pu_ 0 36 ?_
     refine pu_ 2 38 ?_
     refine pu_ 3 39 ?_
     refine tk_ 1 37 hHeld ?_
     refine one_ (i:=4) (N:=some 40) ba65_ rfl rfl (one_of HT_.out (by kernel_rfl)) (by decide) (fun K hK=>?_)
     refine goes_ Try.func114 (by kernel_rfl) rfl #[.int .i64 ((rd_T116 (rd_L7 l1 x25_1) x31_2).f0),.int .i64 (l0.length:Int)] (by rfl) rfl rfl zl ?_
     with_reducible refine (impl_isNumber.calls ((rd_T116 (rd_L7 l1 x25_1) x31_2).f0) (l0.length:Int) true _ A13.out).mono ?_
     rintro e w' ⟨rfl,⟨nd,rfl⟩⟩
     refine ⟨_,rfl,?_⟩
     refine hK.out _ _ ⟨(blk_cell BK492.out 0).trans rfl,(blk_cell BK492.out 1).trans rfl,(blk_cell BK492.out 2).trans rfl,((HB.out.cell (World.block_lt_of_cell? w _ hw494_0)).trans hw494_0),((HB.out.cell (World.block_lt_of_cell? w _ hw494_1)).trans hw494_1),((HB.out.cell (World.block_lt_of_cell? w _ hw494_2)).trans hw494_2)⟩ (fun hHeld=>?_)
     clear hK K
     refine norm_ (a':=?_) ?_ ?_
     rotate_left
     ·show Act.put _ (some 40) _=_
      simp only [Act.put,z0_,z1_,z2_,i64_w,i32_w]
      rfl
     refine pu_ 5 41 ?_
     refine pu_ 6 42 ?_
     refine pu_ 7 43 ?_
     refine tk_ 8 44 hHeld ?_
     refine pu_ 9 45 ?_
     refine pu_ 10 46 ?_
     refine pu_ 11 47 ?_
     refine pu_ 12 48 ?_
     refine pu_ 14 50 ?_
     refine tk_ 13 49 hHeld ?_
     refine tk_ 15 51 hHeld ?_
     refine pu_ 16 52 ?_
     refine pu_ 17 53 ?_
     refine pu_ 18 54 ?_
     refine pu_ 19 55 ?_
     refine tk_ 20 56 hHeld ?_
     refine pu_ 21 57 ?_
     refine pu_ 22 58 ?_
     refine pu_ 23 59 ?_
     refine pu_ 24 60 ?_
     refine pu_ 25 61 ?_
     refine pu_ 26 62 ?_
     refine pu_ 27 63 ?_
     refine pu_ 29 65 ?_
     refine pu_ 30 66 ?_
     refine pu_ 31 67 ?_
     refine pu_ 32 68 ?_
     refine pu_ 33 69 ?_
     refine tk_ 28 64 hHeld ?_
     refine tk_ 34 70 hHeld ?_
     refine pu_ 35 71 ?_
     refine pu_ 36 72 ?_
     refine pu_ 37 73 ?_
     refine done_ (done_of HT_.out (by kernel_rfl)) ?_
     try go_wp2
     (try (rw [drewN_self w45];generalize hq_:World.drewN w45 _=w45;have n0_:Aside0 (Kd.R (Kd.int .i64) 3 w45 w.heap.size (fun _=>True) v488 x5_2):=⟨by rw [←hq_];exact (zR HO_5.out)⟩;have n1_:Aside0 (w45.heap[gb492]?=some (.cells #[.int .i64 ((rd_T116 (rd_L7 l1 x25_1) x31_2).f0),.int .i64 ((rd_T116 (rd_L7 l1 x25_1) x31_2).f1),.int .i64 ((rd_T116 (rd_L7 l1 x25_1) x31_2).f2)] 116 (0,0))):=⟨by rw [←hq_];exact (by (with_reducible repeat (first|refine blk_drewN ?_ _|refine blk_drew ?_|refine blk_alloc ?_ _));exact BK492.out)⟩;have n2_:Aside0 (Below w.heap.size w w45):=⟨by rw [←hq_];exact zz16⟩;clear HO_5 BK492 HB hq_;have HO_5:=n0_;have BK492:=n1_;have HB:=n2_;clear n0_ n1_ n2_))
     replace HO_5:=Aside0.mk (Kd.R_drew HO_5.out)
     replace BK492:=Aside0.mk (blk_drew BK492.out)
     replace HB:=Aside0.mk (below_drew1 HB.out)
     obtain ⟨Ao47,co47,eo47⟩:=Kd.R_slice HO_5.out
     (first|subst eo47|(injection eo47 with f1_ f2_ f3_;have f4_:=f1_.symm;have f5_:=f3_.symm;clear f1_ f2_ f3_;subst f4_;subst f5_))
     have p495:0≤(((rd_T116 (rd_L7 l1 x25_1) x31_2).f0):Int):=of_decide_eq_true za
     have q495:((rd_T116 (rd_L7 l1 x25_1) x31_2).f0)<(x5_2.length:Int):=of_decide_eq_true za
     obtain ⟨ad495,e495,hx495_0⟩:=Kd.at_int (Kd.R_reads' HO_5.out).2.2 ((rd_T116 (rd_L7 l1 x25_1) x31_2).f0) p495 q495
     cases e495
     replace p495:=eq_true p495
     replace q495:=eq_true q495
     have p41:0≤(((rd_T116 (rd_L7 l1 x25_1) x31_2).f0):Int):=of_decide_eq_true za
     have q41:(((rd_T116 (rd_L7 l1 x25_1) x31_2).f0):Int)<((x5_2.length:Int):Int):=of_decide_eq_true za
     obtain ⟨go41,co41,eo41,gb41,gl41,cl41,HG41⟩:=Kd.R_form HO_5.out (by omega)
     (first|cases eo41|(injection eo41 with ea_ en_ ec_;(first|subst ea_|(injection ea_ with ea_;subst ea_));subst ec_;clear en_))
     have GB41:=Aside0.mk gb41
     have GG41:=Aside0.mk HG41
     clear gb41 gl41 HG41
     (first|simp only [add_plain] at hx495_0|skip)
     obtain ⟨hx41_0,hf41_0⟩:=Kd.R_celln 0 HO_5.out (((rd_T116 (rd_L7 l1 x25_1) x31_2).f0):Int) p41 q41
     replace p41:=eq_true p41
     replace q41:=eq_true q41
     have HP48:=Kd.R_putn HO_5.out (((rd_T116 (rd_L7 l1 x25_1) x31_2).f0):Int) (wrap64 ((rd x5_2 ((rd_T116 (rd_L7 l1 x25_1) x31_2).f0)) + (wrap64 (((rd_T116 (rd_L7 l1 x25_1) x31_2).f2) - ((rd_T116 (rd_L7 l1 x25_1) x31_2).f1)))))
     rw [←Ny496.out] at HP48
     have HQ48:=Aside0.mk HP48
     clear HP48
     refine start_ (n:=13) (S:=fun w'=>w'.cell? ⟨gb492,0,none⟩=some (.int .i64 ((rd_T116 (rd_L7 l1 x25_1) x31_2).f0))∧w'.cell? ⟨gb492,1,none⟩=some (.int .i64 ((rd_T116 (rd_L7 l1 x25_1) x31_2).f1))∧w'.cell? ⟨gb492,2,none⟩=some (.int .i64 ((rd_T116 (rd_L7 l1 x25_1) x31_2).f2))∧w'.cell? ⟨go41,(((rd_T116 (rd_L7 l1 x25_1) x31_2).f0)).toNat,none⟩=some (.int .i64 (rd x5_2 ((rd_T116 (rd_L7 l1 x25_1) x31_2).f0)))) (ds:=[12]) ba105_ (by kernel_rfl) rfl rfl ⟨(blk_cell BK492.out 0).trans rfl,(blk_cell BK492.out 1).trans rfl,(blk_cell BK492.out 2).trans rfl,hx495_0⟩ (fun hHeld=>?_);refine with_tabW impl_isShared.tab10 impl_isShared.bits10 (fun HT_ HW_=>?_)
     generalize w45.drew=w46 at HO_5 BK492 HB GG41 HQ48 hf41_0 hx41_0 hx495_0 hHeld ⊢
     refine pu_ 0 74 ?_
     refine pu_ 1 75 ?_
     refine pu_ 5 79 ?_
     refine pu_ 7 81 ?_
     refine tk_ 2 76 hHeld ?_
     refine pu_ 3 77 ?_
     refine tk_ 4 78 hHeld ?_
     refine tk_ 6 80 hHeld ?_
     refine tk_ 8 82 hHeld ?_
     refine pu_ 9 83 ?_
     refine pu_ 10 84 ?_
     refine pu_ 11 85 ?_
     refine last_ (i:=12) (N:=none) ba118_ rfl rfl (one_of HT_.out (by kernel_rfl)) (by decide) (fun K hK=>?_)
     refine skip_ (w1:=?_) (by rfl) rfl ?_ ?_
     rotate_left
     ·go_simp
      rfl
     refine hK.out _ _ ?_
     clear hK K
     refine done_ (done_of HT_.out (by kernel_rfl)) ?_
     try go_wp2
     go_roundg k2
     case measure=>have:=HK1.out;have:=HK2.out;omega
     case rel=>exact ⟨(y496),(wrap64 (x31_2 + 1)),zo,H',⟨zz9⟩,⟨by (with_reducible repeat (first|apply Kd.R_alloc|apply Kd.R_drewN|apply Kd.R_drew));exact HQ48.out⟩,⟨by repeat (first|(with_reducible first|exact HB.out|apply below_alloc|apply pw_below_drewN|apply below_drew1|refine below_set ?_ GB41.out|refine below_set ?_ GE492.out)|exact HB.out)⟩⟩

end Go.Proofs.Ytbcfmegepkhlpaa.XFnShared
-- minified
