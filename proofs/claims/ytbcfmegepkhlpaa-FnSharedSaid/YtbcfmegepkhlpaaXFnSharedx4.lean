-- Written by a program of this session (the kit's print, widened). Proved here: what each function answers, for the arguments that its contract names.
import Derived.Test.YtbcfmegepkhlpaaXFnSharedx0
namespace Go.Proofs.Ytbcfmegepkhlpaa.XFnShared
open Go.RowKit Go.Proofs.YtbcfmegepkhlpaaW.PrintWords Go.Proofs.YtbcfmegepkhlpaaW.PrintLast Go.Proofs.YtbcfmegepkhlpaaW.PrintMore
attribute [local go_sem] max2_int min2_int max_two min_two max_three min_three max_four min_four   -- for this text's walks alone
attribute [local go_sem] idxA_72_0 idxA_72_1 fldS_96_0 fldS_96_1 fldS_96_2 fldS_111_0 fldS_111_1 fldS_111_2
set_option linter.unusedVariables false
set_option linter.unusedSimpArgs false

/-! ### spec_l4Table: function 107 -/
mutual
def spec_l4Table.l0:Nat→Int→List (S72)→List (List Bool)→Int→Option ((List (List Bool)))
 | 0,_,_,_,_=>none
 | k + 1,x0,x1,x5,x6=>if x6<x0 then (if 0≤x0 then (if (x0:Int).toNat≤281474976710656 then (if x5.length<5864062014805 then (spec_l4Table.l0 k x0 x1 (x5++[(List.replicate (x0:Int).toNat false)]) (wrap64 (x6 + 1))) else (none)) else (none)) else (none)) else (spec_l4Table.l1 k x0 x1 x5 0)
def spec_l4Table.l1:Nat→Int→List (S72)→List (List Bool)→Int→Option ((List (List Bool)))
 | 0,_,_,_,_=>none
 | k + 1,x0,x1,x5,x7=>if x7<(x1.length:Int) then (if 0≤x7 then (if 0≤((rd_T72 x1 x7).f0) then (if ((rd_T72 x1 x7).f0)<(x5.length:Int) then (if 0≤((rd_T72 x1 x7).f1) then (if ((rd_T72 x1 x7).f1)<((rd_L4 x5 ((rd_T72 x1 x7).f0)).length:Int) then (spec_l4Table.l1 k x0 x1 (x5.set (((rd_T72 x1 x7).f0):Int).toNat ((rd_L4 x5 ((rd_T72 x1 x7).f0)).set (((rd_T72 x1 x7).f1):Int).toNat true)) (wrap64 (x7 + 1))) else (none)) else (none)) else (none)) else (none)) else (none)) else (spec_l4Table.l2 k x0 x5 0)
def spec_l4Table.l2:Nat→Int→List (List Bool)→Int→Option ((List (List Bool)))
 | 0,_,_,_=>none
 | k + 1,x0,x5,x8=>if x8<x0 then (spec_l4Table.l3 k x0 x5 x8 0) else (some x5)
def spec_l4Table.l3:Nat→Int→List (List Bool)→Int→Int→Option ((List (List Bool)))
 | 0,_,_,_,_=>none
 | k + 1,x0,x5,x8,x9=>if x9<x0 then (spec_l4Table.l4 k x0 x5 x8 x9 0) else (spec_l4Table.l2 k x0 x5 (wrap64 (x8 + 1)))
def spec_l4Table.l4:Nat→Int→List (List Bool)→Int→Int→Int→Option ((List (List Bool)))
 | 0,_,_,_,_,_=>none
 | k + 1,x0,x5,x8,x9,x10=>if x10<x0 then (if 0≤x9 then (if x9<(x5.length:Int) then (if 0≤x8 then (if x8<((rd_L4 x5 x9).length:Int) then (if rdOf false (rd_L4 x5 x9) x8=true then (if x8<(x5.length:Int) then (if 0≤x10 then (if x10<((rd_L4 x5 x8).length:Int) then (if rdOf false (rd_L4 x5 x8) x10=true then (if x10<((rd_L4 x5 x9).length:Int) then (spec_l4Table.l4 k x0 (x5.set (x9:Int).toNat ((rd_L4 x5 x9).set (x10:Int).toNat true)) x8 x9 (wrap64 (x10 + 1))) else (none)) else (spec_l4Table.l4 k x0 x5 x8 x9 (wrap64 (x10 + 1)))) else (none)) else (none)) else (none)) else (spec_l4Table.l4 k x0 x5 x8 x9 (wrap64 (x10 + 1)))) else (none)) else (none)) else (none)) else (none)) else (spec_l4Table.l3 k x0 x5 x8 (wrap64 (x9 + 1)))
end
def spec_l4Table.f (k:Nat) (a0:Int) (l1:List (S72)):Option ((List (List Bool))):=spec_l4Table.l0 k a0 l1 (([]:List (List Bool))) 0
theorem spec_l4Table.mono_l:∀ k,(∀ y0 y1 y2 y3,LeO (spec_l4Table.l0 k y0 y1 y2 y3) (spec_l4Table.l0 (k + 1) y0 y1 y2 y3))∧(∀ y0 y1 y2 y3,LeO (spec_l4Table.l1 k y0 y1 y2 y3) (spec_l4Table.l1 (k + 1) y0 y1 y2 y3))∧(∀ y0 y1 y2,LeO (spec_l4Table.l2 k y0 y1 y2) (spec_l4Table.l2 (k + 1) y0 y1 y2))∧(∀ y0 y1 y2 y3,LeO (spec_l4Table.l3 k y0 y1 y2 y3) (spec_l4Table.l3 (k + 1) y0 y1 y2 y3))∧(∀ y0 y1 y2 y3 y4,LeO (spec_l4Table.l4 k y0 y1 y2 y3 y4) (spec_l4Table.l4 (k + 1) y0 y1 y2 y3 y4))
 | 0=>⟨fun _ _ _ _ r h=>by simp [spec_l4Table.l0] at h,fun _ _ _ _ r h=>by simp [spec_l4Table.l1] at h,fun _ _ _ r h=>by simp [spec_l4Table.l2] at h,fun _ _ _ _ r h=>by simp [spec_l4Table.l3] at h,fun _ _ _ _ _ r h=>by simp [spec_l4Table.l4] at h⟩
 | k + 1=>by
  obtain ⟨ih0,ih1,ih2,ih3,ih4⟩:=spec_l4Table.mono_l k
  refine ⟨?_,?_,?_,?_,?_⟩ <;> intros <;> first|unfold spec_l4Table.l0|unfold spec_l4Table.l1|unfold spec_l4Table.l2|unfold spec_l4Table.l3|unfold spec_l4Table.l4
  all_goals repeat' first|(with_reducible first|apply ih0|apply ih1|apply ih2|apply ih3|apply ih4|exact LeO.refl _|exact LeO.none _|refine LeO.ite ?_ ?_|refine LeO.bind ?_ (fun _=>?_))|apply ih0|apply ih1|apply ih2|apply ih3|apply ih4|exact LeO.none _|refine LeO.ite ?_ ?_|refine LeO.bind ?_ (fun _=>?_)
theorem spec_l4Table.mono:∀ a0 a1 k,LeO (spec_l4Table.f k a0 a1) (spec_l4Table.f (k + 1) a0 a1):=by
 intro a0 a1 k
 obtain ⟨ih0,ih1,ih2,ih3,ih4⟩:=spec_l4Table.mono_l k
 unfold spec_l4Table.f
 repeat' first|(with_reducible first|apply ih0|apply ih1|apply ih2|apply ih3|apply ih4|exact LeO.refl _|exact LeO.none _|refine LeO.ite ?_ ?_|refine LeO.bind ?_ (fun _=>?_))|apply ih0|apply ih1|apply ih2|apply ih3|apply ih4|exact LeO.none _|refine LeO.ite ?_ ?_|refine LeO.bind ?_ (fun _=>?_)
def spec_l4Table.T9:Bool × List (List Nat × List Nat):=(true,[([],[]),([],[]),([],[]),([1,2],[1,2]),([3],[3]),([4],[4]),([0,5],[0,5]),([6],[6]),([],[]),([],[]),([8,9],[8,9]),([10],[10]),([11],[11]),([7,12,0,1,2,3,4,5,6,7,8,9,10,11,12],[7,12]),([13,0,1,2,3,4,5,6,7,8,9,10,11,12],[13])])
def spec_l4Table.B9:List Nat:=[0,0,0,6,14,30,63,127,0,0,768,1792,3840,8191,16383]
theorem spec_l4Table.tab9:rtab .any (opsOf Try.f107 9)=spec_l4Table.T9:=by kernel_rfl
theorem spec_l4Table.bits9:waitsOk spec_l4Table.T9.2 spec_l4Table.B9=true:=by kernel_rfl
set_option maxHeartbeats 8000000 in
set_option maxRecDepth 100000 in
theorem spec_l4Table.calls (k:Nat) (a0:Int) (A1:Option Addr) (c1:Nat) (l1:List (S72)) (r:List (List Bool)) (w:World) (hr1:Kd.C k72 w A1 l1.length l1) (hc1:l1.length≤c1) (h:spec_l4Table.f k a0 l1=some r) :
  Calls Try.prog 107 #[.int .i64 a0,.slice A1 l1.length c1] w fun e w'=>∃ v0_:Value,e=.returned (v0_)∧Kd.S (Kd.slice 4 Kd.bool) 127 w' w.heap.size (fun _=>True) v0_ r∧Below w.heap.size w w':=by
 have HR1:=Aside0.mk hr1
 have HC1:=Aside0.mk hc1
 clear hr1 hc1
 have HB:=Aside0.mk (Below.refl w.heap.size w)
 have H:(spec_l4Table.l0 k a0 l1 (([]:List (List Bool))) 0)=some r:=h
 clear h
 obtain ⟨y113,hy113⟩:∃ y_:List (List Bool),y_=(([]:List (List Bool))):=⟨_,rfl⟩
 replace H:(spec_l4Table.l0 k a0 l1 y113 0)=some r:=by first|(rw [hy113];with_reducible exact H)|(have H2_:=(Option.bind_some _ _).symm.trans H;rw [hy113];with_reducible exact H2_)|(have H2_:=(Option.bind_some _ _).symm.trans H;with_reducible exact H2_)|with_reducible exact H|(rw [hy113];exact H)|exact H
 have Ny113:=Aside0.mk hy113
 clear hy113
 have H':=Aside0.mk H
 clear H
 go_enter Try.func107,Try.ntmps107
 go_wp2_with (first|((with_reducible refine gate_dst (N:=11) rfl ?_);refine Kd.S_lit (Kd.slice 4 Kd.bool) _ 127 ?hg (N:=11) ?hd (xs:=([]:List (List Bool))) (inner:=[]) (ok:=fun _=>True) (okp:=fun _=>True) ?hr ?hp (fun _ hk=>hk) trivial (Below.refl _ _) (Nat.le_refl _) (by simp) ?_;(case hd=>rfl);(case hg=>rfl);(case hr=>first|(go_simp;done)|(go_simp;rfl));(case hp=>exact (Reps.none _ _));intro v114 w3 ho4 hb hg_ hnew_;clear hg_ hnew_;(first|rw [←Ny113.out] at ho4|(simp only [Int.reduceToNat] at ho4;rw [←Ny113.out] at ho4));have HO115:=Aside0.mk (Kd.S_lower ho4 (below_size zb));replace HB:=zb1 hb;clear hb ho4))
 go_loopg [5,6] k (fun kq v5 v6 w'=>∃ (x5_1:List (List Bool)) (x6_1:Int),v6=.int .i64 x6_1∧Aside0 (spec_l4Table.l0 kq a0 l1 x5_1 x6_1=some r)∧Aside0 (kq≤k)∧Aside0 (Kd.S (Kd.slice 4 Kd.bool) 127 w' w.heap.size (fun _=>True) v5 x5_1)∧Aside0 (Below w.heap.size w w'))
 case atStart=>exact ⟨(y113),(0),zo,H',⟨Nat.le_refl _⟩,⟨zS HO115.out⟩,⟨zb⟩⟩
 case round=>
  clear H'
  obtain ⟨x5_1,x6_1,rfl,HA,HK1,HO_5,HB⟩:=hrel
  cases gk with
  | zero=>exact absurd HA.out (by simp [spec_l4Table.l0])
  | succ k1=>
   have H:=HA.out
   clear HA
   simp only [spec_l4Table.l0] at H
   by_cases c5:x6_1<a0
   ·rw [if_pos c5] at H
    have c5b0:=decide_eq_true c5
    clear c5
    by_cases c6:0≤a0
    rotate_left
    ·rw [if_neg c6] at H
     exact absurd H (by simp)
    rw [if_pos c6] at H
    have c6b0:=eq_true c6
    have c6b1:=decide_eq_true c6
    clear c6
    by_cases c7:(a0:Int).toNat≤281474976710656
    rotate_left
    ·rw [if_neg c7] at H
     exact absurd H (by simp)
    rw [if_pos c7] at H
    have c7b0:=eq_true c7
    have c7b1:=decide_eq_true c7
    clear c7
    obtain ⟨y116,hy116⟩:∃ y_:List Bool,y_=(List.replicate (a0:Int).toNat false):=⟨_,rfl⟩
    replace H:(if x5_1.length<5864062014805 then (spec_l4Table.l0 k1 a0 l1 (x5_1++[y116]) (wrap64 (x6_1 + 1))) else (none))=some r:=by first|(rw [hy116];with_reducible exact H)|(have H2_:=(Option.bind_some _ _).symm.trans H;rw [hy116];with_reducible exact H2_)|(have H2_:=(Option.bind_some _ _).symm.trans H;with_reducible exact H2_)|with_reducible exact H|(rw [hy116];exact H)|exact H
    have Ny116:=Aside0.mk hy116
    clear hy116
    by_cases c8:x5_1.length<5864062014805
    rotate_left
    ·rw [if_neg c8] at H
     exact absurd H (by simp)
    rw [if_pos c8] at H
    have LMc8:=Aside0.mk c8
    clear c8
    obtain ⟨y119,hy119⟩:∃ y_:List (List Bool),y_=(x5_1++[y116]):=⟨_,rfl⟩
    replace H:(spec_l4Table.l0 k1 a0 l1 y119 (wrap64 (x6_1 + 1)))=some r:=by first|(rw [hy119];with_reducible exact H)|(have H2_:=(Option.bind_some _ _).symm.trans H;rw [hy119];with_reducible exact H2_)|(have H2_:=(Option.bind_some _ _).symm.trans H;with_reducible exact H2_)|with_reducible exact H|(rw [hy119];exact H)|exact H
    have Ny119:=Aside0.mk hy119
    clear hy119
    have H':=Aside0.mk H
    clear H
    go_wp2_with (first|((with_reducible refine gate_dst (N:=19) rfl ?_);refine Kd.R_make Kd.bool _ 4 rfl (N:=19) rfl 127 _ _ rfl a0 rfl rfl Try.underlying127 (.bool false) 1 info4 rfl (by decide) (by omega) false (ok:=fun _=>True) (okp:=fun _=>True) rfl (fun _ hk=>hk) trivial (of_decide_eq_true za) (Nat.le_trans (Nat.mul_le_mul_right _ (of_decide_eq_true za:a0.toNat≤281474976710656)) (by omega)) (Below.refl _ _) (Nat.le_refl _) ?_;intro v117 w9 ho10 hb hg_ hnew_;clear hg_ hnew_;(first|rw [←Ny116.out] at ho10|(simp only [Int.reduceToNat] at ho10;rw [←Ny116.out] at ho10));replace HO_5:=Aside0.mk (Kd.S_elder' (zS HO_5.out) (Kd.R_base ho10) hb);have HO118:=Aside0.mk (Kd.R_lower ho10 (below_size zb));replace HB:=zb1 hb;clear hb ho10;obtain ⟨Ao12,co12,eo12⟩:=Kd.R_slice HO118.out;subst eo12)|((with_reducible refine gate_builtin (b:=.append) (xs:=#[.tmp 17,.tmp 20]) rfl ?_);at_builtin;refine Kd.S_append (Kd.slice 4 Kd.bool) (w0:=w) w.heap.size rfl (.tmp 17) (.tmp 20) 125 127 (.slice none 0 0) 24 rfl Try.underlying125 info127 rfl (by decide) (by omega) u5 x5_1 y116 [.slice Ao12 y116.length co12] (fun _=>True) (fun k_=>some k_=(.slice Ao12 y116.length co12:Value).ownBlock) rfl rfl ?aP (fun k_ hk_=>((Kd.R_mono (ok':=fun k_=>((fun _=>True)) k_∧some k_≠(u5:Value).ownBlock) (Kd.R_apart' (HO118.out) (Kd.S_typed HO_5.out) (by decide)) (fun k_ hk=>⟨trivial,hk.2⟩))).1 k_ hk_.symm) ?aF ?aO ?aB ?aS ?aL ?_;(case aP=>exact Kd.M_row (Kd.R_mono (Kd.R_tight rfl (Kd.R_mono (ok':=fun k_=>((fun _=>True)) k_∧some k_≠(u5:Value).ownBlock) (Kd.R_apart' (HO118.out) (Kd.S_typed HO_5.out) (by decide)) (fun k_ hk=>⟨trivial,hk.2⟩))) (fun _ h_=>h_)));(case aB=>exact zb);(case aF=>exact (fun _ _=>trivial));(case aO=>exact (zS (Kd.S_mono HO_5.out (fun k_ hk=>⟨trivial,fun e_=>hk.2 e_⟩))));(case aS=>exact (below_size zb));(case aL=>have:=LMc8.out;omega);intro v120 w11 ho hb hg hat;rw [←Ny119.out] at ho;replace HB:=Aside0.mk (hb);have HO121:=Aside0.mk (ho);clear HO_5 HO118;clear ho hb hg hat))
    go_roundg k1
    case measure=>have:=HK1.out;omega
    case rel=>exact ⟨(y119),(wrap64 (x6_1 + 1)),zo,H',⟨by have:=HK1.out;omega⟩,⟨zS HO121.out⟩,⟨zb⟩⟩
   rw [if_neg c5] at H
   have c5b0:=decide_eq_false c5
   clear c5
   have H':=Aside0.mk H
   clear H
   go_wp2
   go_loopg [7] k1 (fun kq v7 w'=>∃ (x5_2:List (List Bool)) (x7_2:Int),v7=.int .i64 x7_2∧Aside0 (spec_l4Table.l1 kq a0 l1 x5_2 x7_2=some r)∧Aside0 (kq≤k1)∧Aside0 (Kd.S (Kd.slice 4 Kd.bool) 127 w' w.heap.size (fun _=>True) u5 x5_2)∧Aside0 (Below w.heap.size w w'))
   case atStart=>exact ⟨(x5_1),(0),zo,H',⟨Nat.le_refl _⟩,⟨zS HO_5.out⟩,⟨zb⟩⟩
   case round=>
    clear H'
    obtain ⟨x5_2,x7_2,rfl,HA,HK2,HO_5,HB⟩:=hrel
    cases gk with
    | zero=>exact absurd HA.out (by simp [spec_l4Table.l1])
    | succ k2=>
     have H:=HA.out
     clear HA
     simp only [spec_l4Table.l1] at H
     by_cases c13:x7_2<(l1.length:Int)
     ·rw [if_pos c13] at H
      have c13b0:=decide_eq_true c13
      clear c13
      by_cases c14:0≤x7_2
      rotate_left
      ·rw [if_neg c14] at H
       exact absurd H (by simp)
      rw [if_pos c14] at H
      have c14b0:=decide_eq_true c14
      clear c14
      by_cases c15:0≤((rd_T72 l1 x7_2).f0)
      rotate_left
      ·rw [if_neg c15] at H
       exact absurd H (by simp)
      rw [if_pos c15] at H
      have c15b0:=decide_eq_true c15
      clear c15
      by_cases c16:((rd_T72 l1 x7_2).f0)<(x5_2.length:Int)
      rotate_left
      ·rw [if_neg c16] at H
       exact absurd H (by simp)
      rw [if_pos c16] at H
      have c16b0:=decide_eq_true c16
      clear c16
      by_cases c17:0≤((rd_T72 l1 x7_2).f1)
      rotate_left
      ·rw [if_neg c17] at H
       exact absurd H (by simp)
      rw [if_pos c17] at H
      have c17b0:=decide_eq_true c17
      clear c17
      by_cases c18:((rd_T72 l1 x7_2).f1)<((rd_L4 x5_2 ((rd_T72 l1 x7_2).f0)).length:Int)
      rotate_left
      ·rw [if_neg c18] at H
       exact absurd H (by simp)
      rw [if_pos c18] at H
      have c18b0:=decide_eq_true c18
      clear c18
      obtain ⟨y125,hy125⟩:∃ y_:List Bool,y_=((rd_L4 x5_2 ((rd_T72 l1 x7_2).f0)).set (((rd_T72 l1 x7_2).f1):Int).toNat true):=⟨_,rfl⟩
      replace H:(spec_l4Table.l1 k2 a0 l1 (x5_2.set (((rd_T72 l1 x7_2).f0):Int).toNat y125) (wrap64 (x7_2 + 1)))=some r:=by first|(rw [hy125];with_reducible exact H)|(have H2_:=(Option.bind_some _ _).symm.trans H;rw [hy125];with_reducible exact H2_)|(have H2_:=(Option.bind_some _ _).symm.trans H;with_reducible exact H2_)|with_reducible exact H|(rw [hy125];exact H)|exact H
      have Ny125:=Aside0.mk hy125
      clear hy125
      obtain ⟨y127,hy127⟩:∃ y_:List (List Bool),y_=(x5_2.set (((rd_T72 l1 x7_2).f0):Int).toNat y125):=⟨_,rfl⟩
      replace H:(spec_l4Table.l1 k2 a0 l1 y127 (wrap64 (x7_2 + 1)))=some r:=by first|(rw [hy127];with_reducible exact H)|(have H2_:=(Option.bind_some _ _).symm.trans H;rw [hy127];with_reducible exact H2_)|(have H2_:=(Option.bind_some _ _).symm.trans H;with_reducible exact H2_)|with_reducible exact H|(rw [hy127];exact H)|exact H
      have Ny127:=Aside0.mk hy127
      clear hy127
      have H':=Aside0.mk H
      clear H
      try go_wp2
      replace HO_5:=Aside0.mk (Kd.S_drew HO_5.out)
      replace HB:=Aside0.mk (below_drew1 HB.out)
      have p122:0≤(x7_2:Int):=of_decide_eq_true za
      have q122:x7_2<(l1.length:Int):=of_decide_eq_true za
      obtain ⟨ad122,e122,hx122_0,hx122_1⟩:=at_T72 HR1.out x7_2 p122 q122
      have hw122_1:=hx122_1
      have hw122_0:=hx122_0
      cases e122
      replace hx122_0:=zh_ HB hx122_0
      replace hx122_1:=zh_ HB hx122_1
      replace p122:=eq_true p122
      replace q122:=eq_true q122
      obtain ⟨Ao21,co21,eo21⟩:=Kd.S_slice HO_5.out
      (first|subst eo21|(injection eo21 with f1_ f2_ f3_;have f4_:=f1_.symm;have f5_:=f3_.symm;clear f1_ f2_ f3_;subst f4_;subst f5_))
      have p123:0≤(((rd_T72 l1 x7_2).f0):Int):=of_decide_eq_true za
      have q123:((rd_T72 l1 x7_2).f0)<(x5_2.length:Int):=of_decide_eq_true za
      obtain ⟨ad123,A123_0,c123_0,e123,hx123_0,hl123_0,hi123_0⟩:=at_L4 (Kd.S_reads' HO_5.out).2.2 ((rd_T72 l1 x7_2).f0) p123 q123
      cases e123
      obtain ⟨ce123,hce123,hMe123,hcc123⟩:=Kd.S_get HO_5.out [] ((rd_T72 l1 x7_2).f0) p123 (by first|exact q123|exact of_decide_eq_true za|(have e_:=(Kd.S_reads' HO_5.out).1;omega))
      obtain ⟨ve123_0,rfl,ge123_0⟩:=hMe123
      have hv123_0:=hcc123 0 _ rfl
      rw [Nat.add_zero,show ((Kd.slice 4 Kd.bool)).sz=1 from rfl,Nat.mul_one] at hv123_0
      replace hv123_0:=Option.some.inj (hv123_0.symm.trans hx123_0)
      rw [hv123_0] at ge123_0
      have HL123_0:=Aside0.mk (show Kd.R Kd.bool 4 _ _ _ _ (rd_L4 x5_2 ((rd_T72 l1 x7_2).f0)) from ge123_0)
      clear hv123_0 ge123_0
      have HX123_0:=Aside0.mk hx123_0
      clear hcc123 hce123
      have HR123_0:=Aside0.mk hi123_0
      have HC123_0:=Aside0.mk hl123_0
      clear hi123_0 hl123_0
      replace p123:=eq_true p123
      replace q123:=eq_true q123
      have p124:0≤(x7_2:Int):=of_decide_eq_true za
      have q124:x7_2<(l1.length:Int):=of_decide_eq_true za
      obtain ⟨ad124,e124,hx124_0,hx124_1⟩:=at_T72 HR1.out x7_2 p124 q124
      have hw124_1:=hx124_1
      have hw124_0:=hx124_0
      obtain rfl:ad122=ad124:=(by injection e124)
      replace hx124_0:=zh_ HB hx124_0
      replace hx124_1:=zh_ HB hx124_1
      replace p124:=eq_true p124
      replace q124:=eq_true q124
      have p19:0≤(((rd_T72 l1 x7_2).f1):Int):=of_decide_eq_true za
      have q19:(((rd_T72 l1 x7_2).f1):Int)<(((rd_L4 x5_2 ((rd_T72 l1 x7_2).f0)).length:Int):Int):=of_decide_eq_true za
      obtain ⟨go19,co19,eo19,gb19,gl19,cl19,HG19⟩:=Kd.R_form HL123_0.out (by omega)
      (first|cases eo19|(injection eo19 with ea_ en_ ec_;(first|subst ea_|(injection ea_ with ea_;subst ea_));subst ec_;clear en_))
      have GB19:=Aside0.mk gb19
      have GG19:=Aside0.mk HG19
      clear gb19 gl19 HG19
      obtain ⟨hx19_0,hf19_0⟩:=Kd.R_celln false HL123_0.out (((rd_T72 l1 x7_2).f1):Int) p19 q19
      replace p19:=eq_true p19
      replace q19:=eq_true q19
      have hq22:(((rd_T72 l1 x7_2).f0):Int)<(x5_2.length:Int):=(by have h_:(((rd_T72 l1 x7_2).f0):Int)<((x5_2.length:Int):Int):=of_decide_eq_true za;first|exact h_|(have e_:=(Kd.S_reads' HO_5.out).1;omega)|simpa only [List.length_set,List.length_set] using h_)
      obtain ⟨oki22,ce22,hcl22,hM22,hcc22,hok22,hbk22⟩:=Kd.S_borrow HO_5.out [] (((rd_T72 l1 x7_2).f0):Int) (of_decide_eq_true za) hq22
      obtain ⟨ve22_0,rfl,ge22_0⟩:=hM22
      have hv22:=hcc22 0 _ rfl
      rw [Nat.add_zero,show ((Kd.slice 4 Kd.bool)).sz=1 from rfl,Nat.mul_one] at hv22
      replace hv22:=Option.some.inj (hv22.symm.trans HX123_0.out)
      subst hv22
      clear hcc22 hcl22
      replace ge22_0:=(show Kd.R Kd.bool 4 _ _ _ _ (rd_L4 x5_2 ((rd_T72 l1 x7_2).f0)) from ge22_0)
      have HP22:=Kd.R_putg ge22_0 (((rd_T72 l1 x7_2).f1):Int) true
      rw [←Ny125.out] at HP22
      have HS22:=hbk22 HP22.2 (fun k_ e_=>by injection e_ with e_;subst e_;exact ge22_0.1 _ rfl) (x':=y125) (Kd.M_row HP22.1)
      rw [←Ny127.out] at HS22
      have HQ22:=Aside0.mk HS22
      clear HP22 HS22 hbk22 hok22
      refine start_ (n:=15) (S:=fun w'=>w'.cell? (ad122.add ((x7_2).toNat * 2))=some (.int .i64 ((rd_T72 l1 x7_2).f0))∧w'.cell? ⟨(ad122.add ((x7_2).toNat * 2)).block,(ad122.add ((x7_2).toNat * 2)).off + 1,none⟩=some (.int .i64 ((rd_T72 l1 x7_2).f1))∧w'.cell? (ad123.add (((rd_T72 l1 x7_2).f0)).toNat)=some (.slice (some ⟨go19,0,none⟩) (rd_L4 x5_2 ((rd_T72 l1 x7_2).f0)).length c123_0)∧w'.cell? (ad122.add ((x7_2).toNat * 2))=some (.int .i64 ((rd_T72 l1 x7_2).f0))∧w'.cell? ⟨(ad122.add ((x7_2).toNat * 2)).block,(ad122.add ((x7_2).toNat * 2)).off + 1,none⟩=some (.int .i64 ((rd_T72 l1 x7_2).f1))) (ds:=[14]) #[false,false,false,false,false,false,false,false,false,false,false,false,false,false,false] (by kernel_rfl) rfl rfl ⟨((HB.out.cell (World.block_lt_of_cell? w _ hw122_0)).trans hw122_0),((HB.out.cell (World.block_lt_of_cell? w _ hw122_1)).trans hw122_1),hx123_0,((HB.out.cell (World.block_lt_of_cell? w _ hw124_0)).trans hw124_0),((HB.out.cell (World.block_lt_of_cell? w _ hw124_1)).trans hw124_1)⟩ (fun hHeld=>?_);refine with_tabW spec_l4Table.tab9 spec_l4Table.bits9 (fun HT_ HW_=>?_)
      generalize wr.drew=w20 at HO_5 HB GG19 HL123_0 HQ22 HR123_0 HX123_0 hf19_0 hx122_0 hx122_1 hx123_0 hx124_0 hx124_1 hx19_0 hHeld ⊢
      refine pu_ 0 28 ?_
      refine pu_ 1 29 ?_
      refine pu_ 2 30 ?_
      refine pu_ 3 31 ?_
      refine pu_ 4 32 ?_
      refine pu_ 8 36 ?_
      refine pu_ 9 37 ?_
      refine pu_ 10 38 ?_
      refine pu_ 11 39 ?_
      refine tk_ 5 33 hHeld ?_
      refine pu_ 6 34 ?_
      refine tk_ 7 35 hHeld ?_
      refine tk_ 12 40 hHeld ?_
      refine pu_ 13 41 ?_
      refine last_ (i:=14) (N:=none) #[true,true,true,true,true,true,true,true,true,true,true,true,true,true,true] rfl rfl (one_of HT_.out (by kernel_rfl)) (by decide) (fun K hK=>?_)
      refine skip_ (w1:=?_) (by rfl) rfl ?_ ?_
      rotate_left
      ·go_simp
       rfl
      refine hK.out _ _ ?_
      clear hK K
      refine done_ (done_of HT_.out (by kernel_rfl)) ?_
      try go_wp2
      go_roundg k2
      case measure=>have:=HK1.out;have:=HK2.out;omega
      case rel=>exact ⟨(y127),(wrap64 (x7_2 + 1)),zo,H',⟨zz9⟩,⟨by (with_reducible repeat (first|apply Kd.S_alloc|apply Kd.S_drewN|apply Kd.S_drew));exact HQ22.out⟩,⟨by repeat (first|(with_reducible first|exact HB.out|apply below_alloc|apply pw_below_drewN|apply below_drew1|refine below_set ?_ GB19.out)|exact HB.out)⟩⟩
     rw [if_neg c13] at H
     have c13b0:=decide_eq_false c13
     clear c13
     have H':=Aside0.mk H
     clear H
     go_wp2
     go_loopg [8] k2 (fun kq v8 w'=>∃ (x5_3:List (List Bool)) (x8_3:Int),v8=.int .i64 x8_3∧Aside0 (spec_l4Table.l2 kq a0 x5_3 x8_3=some r)∧Aside0 (kq≤k2)∧Aside0 (Kd.S (Kd.slice 4 Kd.bool) 127 w' w.heap.size (fun _=>True) u5 x5_3)∧Aside0 (Below w.heap.size w w'))
     case atStart=>exact ⟨(x5_2),(0),zo,H',⟨Nat.le_refl _⟩,⟨zS HO_5.out⟩,⟨zb⟩⟩
     case round=>
      clear H'
      obtain ⟨x5_3,x8_3,rfl,HA,HK3,HO_5,HB⟩:=hrel
      cases gk with
      | zero=>exact absurd HA.out (by simp [spec_l4Table.l2])
      | succ k3=>
       have H:=HA.out
       clear HA
       simp only [spec_l4Table.l2] at H
       by_cases c24:x8_3<a0
       rotate_left
       ·rw [if_neg c24] at H
        have c24b0:=decide_eq_false c24
        clear c24
        obtain rfl:=Option.some.inj H
        go_wp2
        go_ret
        exact ⟨_,zz1,zS HO_5.out,zb⟩
       rw [if_pos c24] at H
       have c24b0:=decide_eq_true c24
       clear c24
       have H':=Aside0.mk H
       clear H
       go_wp2
       go_loopg [9] k3 (fun kq v9 w'=>∃ (x5_4:List (List Bool)) (x9_4:Int),v9=.int .i64 x9_4∧Aside0 (spec_l4Table.l3 kq a0 x5_4 x8_3 x9_4=some r)∧Aside0 (kq≤k3)∧Aside0 (Kd.S (Kd.slice 4 Kd.bool) 127 w' w.heap.size (fun _=>True) u5 x5_4)∧Aside0 (Below w.heap.size w w'))
       case atStart=>exact ⟨(x5_3),(0),zo,H',⟨Nat.le_refl _⟩,⟨zS HO_5.out⟩,⟨zb⟩⟩
       case round=>
        clear H'
        obtain ⟨x5_4,x9_4,rfl,HA,HK4,HO_5,HB⟩:=hrel
        cases gk with
        | zero=>exact absurd HA.out (by simp [spec_l4Table.l3])
        | succ k4=>
         have H:=HA.out
         clear HA
         simp only [spec_l4Table.l3] at H
         by_cases c25:x9_4<a0
         rotate_left
         ·rw [if_neg c25] at H
          have c25b0:=decide_eq_false c25
          clear c25
          have H':=Aside0.mk H
          clear H
          go_wp2
          go_roundg k4
          case measure=>have:=HK1.out;have:=HK2.out;have:=HK3.out;have:=HK4.out;omega
          case rel=>exact ⟨(x5_4),(wrap64 (x8_3 + 1)),zo,H',⟨by have:=HK1.out;have:=HK2.out;have:=HK3.out;have:=HK4.out;omega⟩,⟨zS HO_5.out⟩,⟨zb⟩⟩
         rw [if_pos c25] at H
         have c25b0:=decide_eq_true c25
         clear c25
         have H':=Aside0.mk H
         clear H
         go_wp2
         go_loopg [10] k4 (fun kq v10 w'=>∃ (x5_5:List (List Bool)) (x10_5:Int),v10=.int .i64 x10_5∧Aside0 (spec_l4Table.l4 kq a0 x5_5 x8_3 x9_4 x10_5=some r)∧Aside0 (kq≤k4)∧Aside0 (Kd.S (Kd.slice 4 Kd.bool) 127 w' w.heap.size (fun _=>True) u5 x5_5)∧Aside0 (Below w.heap.size w w'))
         case atStart=>exact ⟨(x5_4),(0),zo,H',⟨Nat.le_refl _⟩,⟨zS HO_5.out⟩,⟨zb⟩⟩
         case round=>
          clear H'
          obtain ⟨x5_5,x10_5,rfl,HA,HK5,HO_5,HB⟩:=hrel
          cases gk with
          | zero=>exact absurd HA.out (by simp [spec_l4Table.l4])
          | succ k5=>
           have H:=HA.out
           clear HA
           simp only [spec_l4Table.l4] at H
           by_cases c26:x10_5<a0
           rotate_left
           ·rw [if_neg c26] at H
            have c26b0:=decide_eq_false c26
            clear c26
            have H':=Aside0.mk H
            clear H
            go_wp2
            go_roundg k5
            case measure=>have:=HK1.out;have:=HK2.out;have:=HK3.out;have:=HK4.out;have:=HK5.out;omega
            case rel=>exact ⟨(x5_5),(wrap64 (x9_4 + 1)),zo,H',⟨zz25⟩,⟨zS HO_5.out⟩,⟨zb⟩⟩
           rw [if_pos c26] at H
           have c26b0:=decide_eq_true c26
           clear c26
           by_cases c27:0≤x9_4
           rotate_left
           ·rw [if_neg c27] at H
            exact absurd H (by simp)
           rw [if_pos c27] at H
           have c27b0:=decide_eq_true c27
           clear c27
           by_cases c28:x9_4<(x5_5.length:Int)
           rotate_left
           ·rw [if_neg c28] at H
            exact absurd H (by simp)
           rw [if_pos c28] at H
           have c28b0:=decide_eq_true c28
           clear c28
           by_cases c29:0≤x8_3
           rotate_left
           ·rw [if_neg c29] at H
            exact absurd H (by simp)
           rw [if_pos c29] at H
           have c29b0:=decide_eq_true c29
           clear c29
           by_cases c30:x8_3<((rd_L4 x5_5 x9_4).length:Int)
           rotate_left
           ·rw [if_neg c30] at H
            exact absurd H (by simp)
           rw [if_pos c30] at H
           have c30b0:=decide_eq_true c30
           clear c30
           obtain ⟨bq31,hbq31⟩:∃ b_:Bool,b_=(rdOf false (rd_L4 x5_5 x9_4) x8_3):=⟨_,rfl⟩
           replace H:(if bq31=true then (if x8_3<(x5_5.length:Int) then (if 0≤x10_5 then (if x10_5<((rd_L4 x5_5 x8_3).length:Int) then (if rdOf false (rd_L4 x5_5 x8_3) x10_5=true then (if x10_5<((rd_L4 x5_5 x9_4).length:Int) then (spec_l4Table.l4 k5 a0 (x5_5.set (x9_4:Int).toNat ((rd_L4 x5_5 x9_4).set (x10_5:Int).toNat true)) x8_3 x9_4 (wrap64 (x10_5 + 1))) else (none)) else (spec_l4Table.l4 k5 a0 x5_5 x8_3 x9_4 (wrap64 (x10_5 + 1)))) else (none)) else (none)) else (none)) else (spec_l4Table.l4 k5 a0 x5_5 x8_3 x9_4 (wrap64 (x10_5 + 1))))=some r:=by rw [←hbq31] at H;exact H
           have Nbq31:=Aside0.mk hbq31
           clear hbq31
           by_cases c32:bq31=true
           rotate_left
           ·replace c32:=Bool.eq_false_iff.mpr c32
            subst c32
            rw [if_neg (show ¬ (false=true) by decide)] at H
            have H':=Aside0.mk H
            clear H
            obtain ⟨Ao44,co44,eo44⟩:=Kd.S_slice HO_5.out
            subst eo44
            have p128:0≤(x9_4:Int):=of_decide_eq_true za
            have q128:x9_4<(x5_5.length:Int):=of_decide_eq_true za
            obtain ⟨ad128,A128_0,c128_0,e128,hx128_0,hl128_0,hi128_0⟩:=at_L4 (Kd.S_reads' HO_5.out).2.2 x9_4 p128 q128
            cases e128
            obtain ⟨ce128,hce128,hMe128,hcc128⟩:=Kd.S_get HO_5.out [] x9_4 p128 (by first|exact q128|exact of_decide_eq_true za|(have e_:=(Kd.S_reads' HO_5.out).1;omega))
            obtain ⟨ve128_0,rfl,ge128_0⟩:=hMe128
            have hv128_0:=hcc128 0 _ rfl
            rw [Nat.add_zero,show ((Kd.slice 4 Kd.bool)).sz=1 from rfl,Nat.mul_one] at hv128_0
            replace hv128_0:=Option.some.inj (hv128_0.symm.trans hx128_0)
            rw [hv128_0] at ge128_0
            have HL128_0:=Aside0.mk (show Kd.R Kd.bool 4 _ _ _ _ (rd_L4 x5_5 x9_4) from ge128_0)
            clear hv128_0 ge128_0
            have HX128_0:=Aside0.mk hx128_0
            clear hcc128 hce128
            have HR128_0:=Aside0.mk hi128_0
            have HC128_0:=Aside0.mk hl128_0
            clear hi128_0 hl128_0
            replace p128:=eq_true p128
            replace q128:=eq_true q128
            have p129:0≤(x8_3:Int):=of_decide_eq_true za
            have q129:x8_3<((rd_L4 x5_5 x9_4).length:Int):=of_decide_eq_true za
            obtain ⟨ad129,e129,hx129_0⟩:=Kd.at_bool zz58 x8_3 p129 q129
            (try rw [←Nbq31.out] at hx129_0)
            cases e129
            replace p129:=eq_true p129
            replace q129:=eq_true q129
            go_wp2
            go_roundg k5
            case measure=>have:=HK1.out;have:=HK2.out;have:=HK3.out;have:=HK4.out;have:=HK5.out;omega
            case rel=>exact ⟨(x5_5),(wrap64 (x10_5 + 1)),zo,H',⟨zz25⟩,⟨zS HO_5.out⟩,⟨zb⟩⟩
           subst c32
           rw [if_pos rfl] at H
           by_cases c33:x8_3<(x5_5.length:Int)
           rotate_left
           ·rw [if_neg c33] at H
            exact absurd H (by simp)
           rw [if_pos c33] at H
           have c33b0:=decide_eq_true c33
           clear c33
           by_cases c34:0≤x10_5
           rotate_left
           ·rw [if_neg c34] at H
            exact absurd H (by simp)
           rw [if_pos c34] at H
           have c34b0:=decide_eq_true c34
           clear c34
           by_cases c35:x10_5<((rd_L4 x5_5 x8_3).length:Int)
           rotate_left
           ·rw [if_neg c35] at H
            exact absurd H (by simp)
           rw [if_pos c35] at H
           have c35b0:=decide_eq_true c35
           clear c35
           obtain ⟨bq36,hbq36⟩:∃ b_:Bool,b_=(rdOf false (rd_L4 x5_5 x8_3) x10_5):=⟨_,rfl⟩
           replace H:(if bq36=true then (if x10_5<((rd_L4 x5_5 x9_4).length:Int) then (spec_l4Table.l4 k5 a0 (x5_5.set (x9_4:Int).toNat ((rd_L4 x5_5 x9_4).set (x10_5:Int).toNat true)) x8_3 x9_4 (wrap64 (x10_5 + 1))) else (none)) else (spec_l4Table.l4 k5 a0 x5_5 x8_3 x9_4 (wrap64 (x10_5 + 1))))=some r:=by rw [←hbq36] at H;exact H
           have Nbq36:=Aside0.mk hbq36
           clear hbq36
           by_cases c37:bq36=true
           rotate_left
           ·replace c37:=Bool.eq_false_iff.mpr c37
            subst c37
            rw [if_neg (show ¬ (false=true) by decide)] at H
            have H':=Aside0.mk H
            clear H
            obtain ⟨Ao43,co43,eo43⟩:=Kd.S_slice HO_5.out
            subst eo43
            have p128:0≤(x9_4:Int):=of_decide_eq_true za
            have q128:x9_4<(x5_5.length:Int):=of_decide_eq_true za
            obtain ⟨ad128,A128_0,c128_0,e128,hx128_0,hl128_0,hi128_0⟩:=at_L4 (Kd.S_reads' HO_5.out).2.2 x9_4 p128 q128
            cases e128
            obtain ⟨ce128,hce128,hMe128,hcc128⟩:=Kd.S_get HO_5.out [] x9_4 p128 (by first|exact q128|exact of_decide_eq_true za|(have e_:=(Kd.S_reads' HO_5.out).1;omega))
            obtain ⟨ve128_0,rfl,ge128_0⟩:=hMe128
            have hv128_0:=hcc128 0 _ rfl
            rw [Nat.add_zero,show ((Kd.slice 4 Kd.bool)).sz=1 from rfl,Nat.mul_one] at hv128_0
            replace hv128_0:=Option.some.inj (hv128_0.symm.trans hx128_0)
            rw [hv128_0] at ge128_0
            have HL128_0:=Aside0.mk (show Kd.R Kd.bool 4 _ _ _ _ (rd_L4 x5_5 x9_4) from ge128_0)
            clear hv128_0 ge128_0
            have HX128_0:=Aside0.mk hx128_0
            clear hcc128 hce128
            have HR128_0:=Aside0.mk hi128_0
            have HC128_0:=Aside0.mk hl128_0
            clear hi128_0 hl128_0
            replace p128:=eq_true p128
            replace q128:=eq_true q128
            have p129:0≤(x8_3:Int):=of_decide_eq_true za
            have q129:x8_3<((rd_L4 x5_5 x9_4).length:Int):=of_decide_eq_true za
            obtain ⟨ad129,e129,hx129_0⟩:=Kd.at_bool zz58 x8_3 p129 q129
            (try rw [←Nbq31.out] at hx129_0)
            (try rw [←Nbq36.out] at hx129_0)
            cases e129
            replace p129:=eq_true p129
            replace q129:=eq_true q129
            have p130:0≤(x8_3:Int):=of_decide_eq_true za
            have q130:x8_3<(x5_5.length:Int):=of_decide_eq_true za
            obtain ⟨ad130,A130_0,c130_0,e130,hx130_0,hl130_0,hi130_0⟩:=at_L4 (Kd.S_reads' HO_5.out).2.2 x8_3 p130 q130
            obtain rfl:ad128=ad130:=(by injection e130)
            obtain ⟨ce130,hce130,hMe130,hcc130⟩:=Kd.S_get HO_5.out [] x8_3 p130 (by first|exact q130|exact of_decide_eq_true za|(have e_:=(Kd.S_reads' HO_5.out).1;omega))
            obtain ⟨ve130_0,rfl,ge130_0⟩:=hMe130
            have hv130_0:=hcc130 0 _ rfl
            rw [Nat.add_zero,show ((Kd.slice 4 Kd.bool)).sz=1 from rfl,Nat.mul_one] at hv130_0
            replace hv130_0:=Option.some.inj (hv130_0.symm.trans hx130_0)
            rw [hv130_0] at ge130_0
            have HL130_0:=Aside0.mk (show Kd.R Kd.bool 4 _ _ _ _ (rd_L4 x5_5 x8_3) from ge130_0)
            clear hv130_0 ge130_0
            have HX130_0:=Aside0.mk hx130_0
            clear hcc130 hce130
            have HR130_0:=Aside0.mk hi130_0
            have HC130_0:=Aside0.mk hl130_0
            clear hi130_0 hl130_0
            replace p130:=eq_true p130
            replace q130:=eq_true q130
            have p131:0≤(x10_5:Int):=of_decide_eq_true za
            have q131:x10_5<((rd_L4 x5_5 x8_3).length:Int):=of_decide_eq_true za
            obtain ⟨ad131,e131,hx131_0⟩:=Kd.at_bool (by repeat (first|(with_reducible exact HR130_0.out)|(with_reducible refine Kd.C_alloc ?_ _)|(with_reducible refine Kd.C_drewN ?_ _)|(with_reducible refine Kd.C_drew ?_)|exact HR130_0.out)) x10_5 p131 q131
            (try rw [←Nbq31.out] at hx131_0)
            (try rw [←Nbq36.out] at hx131_0)
            cases e131
            replace p131:=eq_true p131
            replace q131:=eq_true q131
            go_wp2
            go_roundg k5
            case measure=>have:=HK1.out;have:=HK2.out;have:=HK3.out;have:=HK4.out;have:=HK5.out;omega
            case rel=>exact ⟨(x5_5),(wrap64 (x10_5 + 1)),zo,H',⟨zz25⟩,⟨zS HO_5.out⟩,⟨zb⟩⟩
           subst c37
           rw [if_pos rfl] at H
           by_cases c38:x10_5<((rd_L4 x5_5 x9_4).length:Int)
           rotate_left
           ·rw [if_neg c38] at H
            exact absurd H (by simp)
           rw [if_pos c38] at H
           have c38b0:=decide_eq_true c38
           clear c38
           obtain ⟨y133,hy133⟩:∃ y_:List Bool,y_=((rd_L4 x5_5 x9_4).set (x10_5:Int).toNat true):=⟨_,rfl⟩
           replace H:(spec_l4Table.l4 k5 a0 (x5_5.set (x9_4:Int).toNat y133) x8_3 x9_4 (wrap64 (x10_5 + 1)))=some r:=by first|(rw [hy133];with_reducible exact H)|(have H2_:=(Option.bind_some _ _).symm.trans H;rw [hy133];with_reducible exact H2_)|(have H2_:=(Option.bind_some _ _).symm.trans H;with_reducible exact H2_)|with_reducible exact H|(rw [hy133];exact H)|exact H
           have Ny133:=Aside0.mk hy133
           clear hy133
           obtain ⟨y135,hy135⟩:∃ y_:List (List Bool),y_=(x5_5.set (x9_4:Int).toNat y133):=⟨_,rfl⟩
           replace H:(spec_l4Table.l4 k5 a0 y135 x8_3 x9_4 (wrap64 (x10_5 + 1)))=some r:=by first|(rw [hy135];with_reducible exact H)|(have H2_:=(Option.bind_some _ _).symm.trans H;rw [hy135];with_reducible exact H2_)|(have H2_:=(Option.bind_some _ _).symm.trans H;with_reducible exact H2_)|with_reducible exact H|(rw [hy135];exact H)|exact H
           have Ny135:=Aside0.mk hy135
           clear hy135
           have H':=Aside0.mk H
           clear H
           obtain ⟨Ao40,co40,eo40⟩:=Kd.S_slice HO_5.out
           subst eo40
           have p128:0≤(x9_4:Int):=of_decide_eq_true za
           have q128:x9_4<(x5_5.length:Int):=of_decide_eq_true za
           obtain ⟨ad128,A128_0,c128_0,e128,hx128_0,hl128_0,hi128_0⟩:=at_L4 (Kd.S_reads' HO_5.out).2.2 x9_4 p128 q128
           cases e128
           obtain ⟨ce128,hce128,hMe128,hcc128⟩:=Kd.S_get HO_5.out [] x9_4 p128 (by first|exact q128|exact of_decide_eq_true za|(have e_:=(Kd.S_reads' HO_5.out).1;omega))
           obtain ⟨ve128_0,rfl,ge128_0⟩:=hMe128
           have hv128_0:=hcc128 0 _ rfl
           rw [Nat.add_zero,show ((Kd.slice 4 Kd.bool)).sz=1 from rfl,Nat.mul_one] at hv128_0
           replace hv128_0:=Option.some.inj (hv128_0.symm.trans hx128_0)
           rw [hv128_0] at ge128_0
           have HL128_0:=Aside0.mk (show Kd.R Kd.bool 4 _ _ _ _ (rd_L4 x5_5 x9_4) from ge128_0)
           clear hv128_0 ge128_0
           have HX128_0:=Aside0.mk hx128_0
           clear hcc128 hce128
           have HR128_0:=Aside0.mk hi128_0
           have HC128_0:=Aside0.mk hl128_0
           clear hi128_0 hl128_0
           replace p128:=eq_true p128
           replace q128:=eq_true q128
           have p129:0≤(x8_3:Int):=of_decide_eq_true za
           have q129:x8_3<((rd_L4 x5_5 x9_4).length:Int):=of_decide_eq_true za
           obtain ⟨ad129,e129,hx129_0⟩:=Kd.at_bool zz58 x8_3 p129 q129
           (try rw [←Nbq31.out] at hx129_0)
           (try rw [←Nbq36.out] at hx129_0)
           cases e129
           replace p129:=eq_true p129
           replace q129:=eq_true q129
           have p130:0≤(x8_3:Int):=of_decide_eq_true za
           have q130:x8_3<(x5_5.length:Int):=of_decide_eq_true za
           obtain ⟨ad130,A130_0,c130_0,e130,hx130_0,hl130_0,hi130_0⟩:=at_L4 (Kd.S_reads' HO_5.out).2.2 x8_3 p130 q130
           obtain rfl:ad128=ad130:=(by injection e130)
           obtain ⟨ce130,hce130,hMe130,hcc130⟩:=Kd.S_get HO_5.out [] x8_3 p130 (by first|exact q130|exact of_decide_eq_true za|(have e_:=(Kd.S_reads' HO_5.out).1;omega))
           obtain ⟨ve130_0,rfl,ge130_0⟩:=hMe130
           have hv130_0:=hcc130 0 _ rfl
           rw [Nat.add_zero,show ((Kd.slice 4 Kd.bool)).sz=1 from rfl,Nat.mul_one] at hv130_0
           replace hv130_0:=Option.some.inj (hv130_0.symm.trans hx130_0)
           rw [hv130_0] at ge130_0
           have HL130_0:=Aside0.mk (show Kd.R Kd.bool 4 _ _ _ _ (rd_L4 x5_5 x8_3) from ge130_0)
           clear hv130_0 ge130_0
           have HX130_0:=Aside0.mk hx130_0
           clear hcc130 hce130
           have HR130_0:=Aside0.mk hi130_0
           have HC130_0:=Aside0.mk hl130_0
           clear hi130_0 hl130_0
           replace p130:=eq_true p130
           replace q130:=eq_true q130
           have p131:0≤(x10_5:Int):=of_decide_eq_true za
           have q131:x10_5<((rd_L4 x5_5 x8_3).length:Int):=of_decide_eq_true za
           obtain ⟨ad131,e131,hx131_0⟩:=Kd.at_bool (by repeat (first|(with_reducible exact HR130_0.out)|(with_reducible refine Kd.C_alloc ?_ _)|(with_reducible refine Kd.C_drewN ?_ _)|(with_reducible refine Kd.C_drew ?_)|exact HR130_0.out)) x10_5 p131 q131
           (try rw [←Nbq31.out] at hx131_0)
           (try rw [←Nbq36.out] at hx131_0)
           cases e131
           replace p131:=eq_true p131
           replace q131:=eq_true q131
           have p132:0≤(x9_4:Int):=of_decide_eq_true za
           have q132:x9_4<(x5_5.length:Int):=of_decide_eq_true za
           obtain ⟨ad132,A132_0,c132_0,e132,hx132_0,hl132_0,hi132_0⟩:=at_L4 (Kd.S_reads' HO_5.out).2.2 x9_4 p132 q132
           obtain rfl:ad128=ad132:=(by injection e132)
           obtain ⟨ce132,hce132,hMe132,hcc132⟩:=Kd.S_get HO_5.out [] x9_4 p132 (by first|exact q132|exact of_decide_eq_true za|(have e_:=(Kd.S_reads' HO_5.out).1;omega))
           obtain ⟨ve132_0,rfl,ge132_0⟩:=hMe132
           have hv132_0:=hcc132 0 _ rfl
           rw [Nat.add_zero,show ((Kd.slice 4 Kd.bool)).sz=1 from rfl,Nat.mul_one] at hv132_0
           replace hv132_0:=Option.some.inj (hv132_0.symm.trans hx132_0)
           rw [hv132_0] at ge132_0
           have HL132_0:=Aside0.mk (show Kd.R Kd.bool 4 _ _ _ _ (rd_L4 x5_5 x9_4) from ge132_0)
           clear hv132_0 ge132_0
           have HX132_0:=Aside0.mk hx132_0
           clear hcc132 hce132
           have HR132_0:=Aside0.mk hi132_0
           have HC132_0:=Aside0.mk hl132_0
           clear hi132_0 hl132_0
           replace p132:=eq_true p132
           replace q132:=eq_true q132
           have ea_:=Option.some.inj (hx128_0.symm.trans hx132_0)
           injection ea_ with ea_ en_ ec_
           subst ea_
           subst ec_
           clear en_
           have p39:0≤(x10_5:Int):=of_decide_eq_true za
           have q39:(x10_5:Int)<(((rd_L4 x5_5 x9_4).length:Int):Int):=of_decide_eq_true za
           obtain ⟨go39,co39,eo39,gb39,gl39,cl39,HG39⟩:=Kd.R_form HL132_0.out (by omega)
           (first|cases eo39|(injection eo39 with ea_ en_ ec_;(first|subst ea_|(injection ea_ with ea_;subst ea_));subst ec_;clear en_))
           have GB39:=Aside0.mk gb39
           have GG39:=Aside0.mk HG39
           clear gb39 gl39 HG39
           (first|simp only [add_plain] at hx129_0|skip)
           obtain ⟨hx39_0,hf39_0⟩:=Kd.R_celln false HL132_0.out (x10_5:Int) p39 q39
           replace p39:=eq_true p39
           replace q39:=eq_true q39
           have hq41:(x9_4:Int)<(x5_5.length:Int):=(by have h_:(x9_4:Int)<((x5_5.length:Int):Int):=of_decide_eq_true za;first|exact h_|(have e_:=(Kd.S_reads' HO_5.out).1;omega)|simpa only [List.length_set,List.length_set] using h_)
           obtain ⟨oki41,ce41,hcl41,hM41,hcc41,hok41,hbk41⟩:=Kd.S_borrow HO_5.out [] (x9_4:Int) (of_decide_eq_true za) hq41
           obtain ⟨ve41_0,rfl,ge41_0⟩:=hM41
           have hv41:=hcc41 0 _ rfl
           rw [Nat.add_zero,show ((Kd.slice 4 Kd.bool)).sz=1 from rfl,Nat.mul_one] at hv41
           replace hv41:=Option.some.inj (hv41.symm.trans HX132_0.out)
           subst hv41
           clear hcc41 hcl41
           replace ge41_0:=(show Kd.R Kd.bool 4 _ _ _ _ (rd_L4 x5_5 x9_4) from ge41_0)
           have HP41:=Kd.R_putg ge41_0 (x10_5:Int) true
           go_wp2_with (first|((with_reducible refine gate_store (t:=4) (p:=78) rfl ?_);(try (rw [drewN_self wr];generalize hq_:World.drewN wr _=wr;have n0_:=Aside0.mk (Kd.S_at hq_ HO_5.out);have n1_:=Aside0.mk (Kd.R_at hq_ HL136.out);have n2_:=Aside0.mk (below_at hq_ HB.out);(try replace hx39_0:=cell_at hq_ hx39_0);(try replace hf39_0:=(fun {W_ W2_:World} {n_:Nat} {a_:Addr} {b_:Bool} (h_:W_.drewN n_=W2_) (e_:W_.frozen? a_=b_)=>(by subst h_;exact e_:W2_.frozen? a_=b_)) hq_ hf39_0);clear hq_ HO_5 HL136 HB;have HO_5:=n0_;have HL136:=n1_;have HB:=n2_;clear n0_ n1_ n2_;(try (have hq41:(x9_4:Int)<(x5_5.length:Int):=(by have h_:(x9_4:Int)<((x5_5.length:Int):Int):=of_decide_eq_true za;first|exact h_|(have e_:=(Kd.S_reads' HO_5.out).1;omega)|simpa only [List.length_set,List.length_set] using h_)));(try (obtain ⟨oki41,ce41,hcl41,hM41,hcc41,hok41,hbk41⟩:=Kd.S_borrow HO_5.out [] (x9_4:Int) (of_decide_eq_true za) hq41));(try (obtain ⟨ve41_0,rfl,ge41_0⟩:=hM41));(try (have hv41:=hcc41 0 _ rfl));(try (rw [Nat.add_zero,show ((Kd.slice 4 Kd.bool)).sz=1 from rfl,Nat.mul_one] at hv41));(try (replace hv41:=Option.some.inj (hv41.symm.trans HX132_0.out)));(try (subst hv41));(try (clear hcc41 hcl41));(try (replace ge41_0:=(show Kd.R Kd.bool 4 _ _ _ _ (rd_L4 x5_5 x9_4) from ge41_0)));(try (have HP41:=Kd.R_putg ge41_0 (x10_5:Int) true))));refine store_event (t:=4) (p:=78) (v:=?vo_w42) (w1:=(wr.setCell ⟨go39,(x10_5:Int).toNat,none⟩ (.bool true))) ?hg ?ho ?hn ?hr ?_;(case ho=>rfl);(case hg=>rfl);(case hn=>rfl);(case hr=>first|(go_simp;done)|(go_simp;rfl));intro w42 hw;have hg:wr.grownBy w42 (some go39):=(by rw [hw];exact HP41.2);have hz_:Kd.R Kd.bool 4 w42 w.heap.size oki41 (.slice (some ⟨go39,0,none⟩) (rd_L4 x5_5 x9_4).length c128_0) y133:=(by rw [hw,Ny133.out];exact HP41.1);have hp_:Kd.S (Kd.slice 4 Kd.bool) 127 w42 w.heap.size (fun _=>True) (.slice (some ad128) x5_5.length co40) y135:=(by rw [Ny135.out];exact hbk41 hg (fun k_ e_=>by injection e_ with e_;subst e_;exact ge41_0.1 _ rfl) (Kd.M_row hz_));have hm_:=Kd.R_mono hz_ hok41;clear HP41 hbk41;replace HO_5:=Aside0.mk (hp_);replace HB:=Aside0.mk ((by rw [hw];exact below_set (HB.out) GB39.out:Below w.heap.size w w42));have HL136:=Aside0.mk (hm_);have HC134:=Aside0.mk ((Kd.R_reads' hm_).2.1);clear HL128_0 HL130_0 HL132_0;clear hg hw hp_ hz_ hm_ hok41))
           go_roundg k5
           case measure=>have:=HK1.out;have:=HK2.out;have:=HK3.out;have:=HK4.out;have:=HK5.out;omega
           case rel=>exact ⟨(y135),(wrap64 (x10_5 + 1)),zo,H',⟨zz25⟩,⟨zS HO_5.out⟩,⟨zb⟩⟩

end Go.Proofs.Ytbcfmegepkhlpaa.XFnShared
-- minified
