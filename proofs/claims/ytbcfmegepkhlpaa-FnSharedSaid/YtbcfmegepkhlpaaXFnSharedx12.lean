-- Written by a program of this session (the kit's print, widened). Proved here: what each function answers, for the arguments that its contract names.
import Derived.Test.YtbcfmegepkhlpaaXFnSharedx0
namespace Go.Proofs.Ytbcfmegepkhlpaa.XFnShared
open Go.RowKit Go.Proofs.YtbcfmegepkhlpaaW.PrintWords Go.Proofs.YtbcfmegepkhlpaaW.PrintLast Go.Proofs.YtbcfmegepkhlpaaW.PrintMore
attribute [local go_sem] max2_int min2_int max_two min_two max_three min_three max_four min_four   -- for this text's walks alone
attribute [local go_sem] idxA_72_0 idxA_72_1 fldS_96_0 fldS_96_1 fldS_96_2 fldS_111_0 fldS_111_1 fldS_111_2
set_option linter.unusedVariables false
set_option linter.unusedSimpArgs false

/-! ### impl_closure: function 115 -/
mutual
def impl_closure.l0:Nat→Int→List (S72)→List (List Bool)→Int→Int→Option ((List (List Bool)))
 | 0,_,_,_,_,_=>none
 | k + 1,x0,x1,x5,x15,x16=>if x16<x15 then (if 0≤x0 then (if (x0:Int).toNat≤281474976710656 then (if 0≤x16 then (if x16<(x5.length:Int) then (impl_closure.l0 k x0 x1 (x5.set (x16:Int).toNat (List.replicate (x0:Int).toNat false)) x15 (wrap64 (x16 + 1))) else (none)) else (none)) else (none)) else (none)) else (impl_closure.l1 k x0 x5 x1 (x1.length:Int) 0)
def impl_closure.l1:Nat→Int→List (List Bool)→List (S72)→Int→Int→Option ((List (List Bool)))
 | 0,_,_,_,_,_=>none
 | k + 1,x0,x5,x25,x26,x27=>if x27<x26 then (if 0≤x27 then (if x27<(x25.length:Int) then (if 0≤((rd_T72 x25 x27).f0) then (if ((rd_T72 x25 x27).f0)<(x5.length:Int) then (if 0≤((rd_T72 x25 x27).f1) then (if ((rd_T72 x25 x27).f1)<((rd_L4 x5 ((rd_T72 x25 x27).f0)).length:Int) then (impl_closure.l1 k x0 (x5.set (((rd_T72 x25 x27).f0):Int).toNat ((rd_L4 x5 ((rd_T72 x25 x27).f0)).set (((rd_T72 x25 x27).f1):Int).toNat true)) x25 x26 (wrap64 (x27 + 1))) else (none)) else (none)) else (none)) else (none)) else (none)) else (none)) else (impl_closure.l2 k x0 x5 0)
def impl_closure.l2:Nat→Int→List (List Bool)→Int→Option ((List (List Bool)))
 | 0,_,_,_=>none
 | k + 1,x0,x5,x9=>if x9<x0 then (impl_closure.l3 k x0 x5 x9 0) else (some x5)
def impl_closure.l3:Nat→Int→List (List Bool)→Int→Int→Option ((List (List Bool)))
 | 0,_,_,_,_=>none
 | k + 1,x0,x5,x9,x10=>if x10<x0 then (impl_closure.l4 k x0 x5 x9 x10 0) else (impl_closure.l2 k x0 x5 (wrap64 (x9 + 1)))
def impl_closure.l4:Nat→Int→List (List Bool)→Int→Int→Int→Option ((List (List Bool)))
 | 0,_,_,_,_,_=>none
 | k + 1,x0,x5,x9,x10,x11=>if x11<x0 then (if 0≤x10 then (if x10<(x5.length:Int) then (if 0≤x11 then (if x11<((rd_L4 x5 x10).length:Int) then (if rdOf false (rd_L4 x5 x10) x11=true then (impl_closure.l4 k x0 (x5.set (x10:Int).toNat ((rd_L4 x5 x10).set (x11:Int).toNat true)) x9 x10 (wrap64 (x11 + 1))) else (if 0≤x9 then (if x9<((rd_L4 x5 x10).length:Int) then (if rdOf false (rd_L4 x5 x10) x9=true then (if x9<(x5.length:Int) then (if x11<((rd_L4 x5 x9).length:Int) then (impl_closure.l4 k x0 (x5.set (x10:Int).toNat ((rd_L4 x5 x10).set (x11:Int).toNat (rdOf false (rd_L4 x5 x9) x11))) x9 x10 (wrap64 (x11 + 1))) else (none)) else (none)) else (impl_closure.l4 k x0 (x5.set (x10:Int).toNat ((rd_L4 x5 x10).set (x11:Int).toNat false)) x9 x10 (wrap64 (x11 + 1)))) else (none)) else (none))) else (none)) else (none)) else (none)) else (none)) else (impl_closure.l3 k x0 x5 x9 (wrap64 (x10 + 1)))
end
def impl_closure.f (k:Nat) (a0:Int) (l1:List (S72)):Option ((List (List Bool))):=if 0≤a0 then (if (a0:Int).toNat≤11728124029610 then ((some (List.replicate (a0:Int).toNat []:List (List Bool))).bind fun y442=>(impl_closure.l0 k a0 l1 y442 (y442.length:Int) 0)) else (none)) else (none)
theorem impl_closure.mono_l:∀ k,(∀ y0 y1 y2 y3 y4,LeO (impl_closure.l0 k y0 y1 y2 y3 y4) (impl_closure.l0 (k + 1) y0 y1 y2 y3 y4))∧(∀ y0 y1 y2 y3 y4,LeO (impl_closure.l1 k y0 y1 y2 y3 y4) (impl_closure.l1 (k + 1) y0 y1 y2 y3 y4))∧(∀ y0 y1 y2,LeO (impl_closure.l2 k y0 y1 y2) (impl_closure.l2 (k + 1) y0 y1 y2))∧(∀ y0 y1 y2 y3,LeO (impl_closure.l3 k y0 y1 y2 y3) (impl_closure.l3 (k + 1) y0 y1 y2 y3))∧(∀ y0 y1 y2 y3 y4,LeO (impl_closure.l4 k y0 y1 y2 y3 y4) (impl_closure.l4 (k + 1) y0 y1 y2 y3 y4))
 | 0=>⟨fun _ _ _ _ _ r h=>by simp [impl_closure.l0] at h,fun _ _ _ _ _ r h=>by simp [impl_closure.l1] at h,fun _ _ _ r h=>by simp [impl_closure.l2] at h,fun _ _ _ _ r h=>by simp [impl_closure.l3] at h,fun _ _ _ _ _ r h=>by simp [impl_closure.l4] at h⟩
 | k + 1=>by
  obtain ⟨ih0,ih1,ih2,ih3,ih4⟩:=impl_closure.mono_l k
  refine ⟨?_,?_,?_,?_,?_⟩ <;> intros <;> first|unfold impl_closure.l0|unfold impl_closure.l1|unfold impl_closure.l2|unfold impl_closure.l3|unfold impl_closure.l4
  all_goals repeat' first|(with_reducible first|apply ih0|apply ih1|apply ih2|apply ih3|apply ih4|exact LeO.refl _|exact LeO.none _|refine LeO.ite ?_ ?_|refine LeO.bind ?_ (fun _=>?_))|apply ih0|apply ih1|apply ih2|apply ih3|apply ih4|exact LeO.none _|refine LeO.ite ?_ ?_|refine LeO.bind ?_ (fun _=>?_)
theorem impl_closure.mono:∀ a0 a1 k,LeO (impl_closure.f k a0 a1) (impl_closure.f (k + 1) a0 a1):=by
 intro a0 a1 k
 obtain ⟨ih0,ih1,ih2,ih3,ih4⟩:=impl_closure.mono_l k
 unfold impl_closure.f
 repeat' first|(with_reducible first|apply ih0|apply ih1|apply ih2|apply ih3|apply ih4|exact LeO.refl _|exact LeO.none _|refine LeO.ite ?_ ?_|refine LeO.bind ?_ (fun _=>?_))|apply ih0|apply ih1|apply ih2|apply ih3|apply ih4|exact LeO.none _|refine LeO.ite ?_ ?_|refine LeO.bind ?_ (fun _=>?_)
def impl_closure.T10:Bool × List (List Nat × List Nat):=(true,[([],[]),([],[]),([1],[1]),([0,2],[0,2]),([3],[3]),([],[]),([5],[5]),([4,6,0,1,2,3,4,5,6],[4,6]),([7,0,1,2,3,4,5,6],[7])])
def impl_closure.B10:List Nat:=[0,0,2,7,15,0,32,127,255]
theorem impl_closure.tab10:rtab .any (opsOf Try.f115 10)=impl_closure.T10:=by kernel_rfl
theorem impl_closure.bits10:waitsOk impl_closure.T10.2 impl_closure.B10=true:=by kernel_rfl
def impl_closure.T21:Bool × List (List Nat × List Nat):=(true,[([],[]),([],[]),([0,1],[0,1]),([2],[2]),([],[]),([],[]),([],[]),([5,6],[5,6]),([7],[7]),([],[]),([8,9],[8,9]),([10],[10]),([11],[11]),([12],[12]),([12],[12]),([13,14,12],[12,13,14]),([15,12],[12,15]),([12],[12]),([16,17,12],[12,16,17]),([18,12],[12,18]),([19,12,12],[12,19]),([20],[20]),([20],[20]),([21,22,20],[20,21,22]),([23,20],[20,23]),([20],[20]),([24,25,20],[20,24,25]),([26,20],[20,26]),([20,27,12],[12,20,27]),([12,28],[12,28]),([3,4,0,1,2,3,4,5,6,7,8,9,10,11,12,13,14,15,16,17,18,19,20,21,22,23,24,25,26,27,28,29],[3,4]),([30,29,20,0,1,2,3,4,5,6,7,8,9,10,11,12,13,14,15,16,17,18,19,20,21,22,23,24,25,26,27,28,29],[29,30])])
def impl_closure.B21:List Nat:=[0,0,3,7,0,0,0,96,224,0,992,2016,4064,8160,8160,32736,65504,8160,262112,524256,1048544,2097120,2097120,8388576,16777184,2097120,67108832,134217696,268435424,536870880,1073741823,2147483647]
theorem impl_closure.tab21:rtab .any (opsOf Try.f115 21)=impl_closure.T21:=by kernel_rfl
theorem impl_closure.bits21:waitsOk impl_closure.T21.2 impl_closure.B21=true:=by kernel_rfl
set_option maxHeartbeats 8000000 in
set_option maxRecDepth 100000 in
theorem impl_closure.calls (k:Nat) (a0:Int) (A1:Option Addr) (c1:Nat) (l1:List (S72)) (r:List (List Bool)) (w:World) (hr1:Kd.C k72 w A1 l1.length l1) (hc1:l1.length≤c1) (h:impl_closure.f k a0 l1=some r) :
  Calls Try.prog 115 #[.int .i64 a0,.slice A1 l1.length c1] w fun e w'=>∃ v0_:Value,e=.returned (v0_)∧Kd.S (Kd.slice 4 Kd.bool) 127 w' w.heap.size (fun _=>True) v0_ r∧Below w.heap.size w w':=by
 have hu72:=Try.underlying72
 have HR1:=Aside0.mk hr1
 have HC1:=Aside0.mk hc1
 clear hr1 hc1
 have HB:=Aside0.mk (Below.refl w.heap.size w)
 have H:(if 0≤a0 then (if (a0:Int).toNat≤11728124029610 then ((some (List.replicate (a0:Int).toNat []:List (List Bool))).bind fun y442=>(impl_closure.l0 k a0 l1 y442 (y442.length:Int) 0)) else (none)) else (none))=some r:=h
 clear h
 by_cases c3:0≤a0
 rotate_left
 ·rw [if_neg c3] at H
  exact absurd H (by simp)
 rw [if_pos c3] at H
 have c3b0:=eq_true c3
 have c3b1:=decide_eq_true c3
 clear c3
 by_cases c4:(a0:Int).toNat≤11728124029610
 rotate_left
 ·rw [if_neg c4] at H
  exact absurd H (by simp)
 rw [if_pos c4] at H
 have c4b0:=eq_true c4
 have c4b1:=decide_eq_true c4
 clear c4
 obtain ⟨y442,hy442⟩:∃ y_:List (List Bool),y_=(List.replicate (a0:Int).toNat []):=⟨_,rfl⟩
 replace H:(impl_closure.l0 k a0 l1 y442 (y442.length:Int) 0)=some r:=by first|(rw [hy442];with_reducible exact H)|(have H2_:=(Option.bind_some _ _).symm.trans H;rw [hy442];with_reducible exact H2_)|(have H2_:=(Option.bind_some _ _).symm.trans H;with_reducible exact H2_)|with_reducible exact H|(rw [hy442];exact H)|exact H
 have Ny442:=Aside0.mk hy442
 clear hy442
 have H':=Aside0.mk H
 clear H
 go_enter Try.func115,Try.ntmps115
 go_wp2_with (first|((with_reducible refine gate_dst (N:=13) rfl ?_);refine Kd.S_make (Kd.slice 4 Kd.bool) _ 127 rfl (N:=13) rfl 125 _ _ rfl a0 rfl rfl Try.underlying125 (.slice none 0 0) 24 info127 rfl (by decide) (by omega) [] (ok:=fun _=>True) (okp:=fun _=>True) ⟨_,rfl,Kd.R_nil _ _ _ _ _⟩ (fun _ hk=>hk) trivial (of_decide_eq_true za) (Nat.le_trans (Nat.mul_le_mul_right _ (of_decide_eq_true za:a0.toNat≤11728124029610)) (by omega)) (Below.refl _ _) (Nat.le_refl _) ?_;intro v443 w5 ho6 hb hg_ hnew_;clear hg_ hnew_;(first|rw [←Ny442.out] at ho6|(simp only [Int.reduceToNat] at ho6;rw [←Ny442.out] at ho6));have HO444:=Aside0.mk (Kd.S_lower ho6 (below_size zb));replace HB:=zb1 hb;clear hb ho6;obtain ⟨Ao7,co7,eo7⟩:=Kd.S_slice HO444.out;subst eo7))
 go_loopg [16] k (fun kq v16 w'=>∃ (x5_1:List (List Bool)) (x16_1:Int),v16=.int .i64 x16_1∧Aside0 (impl_closure.l0 kq a0 l1 x5_1 (y442.length:Int) x16_1=some r)∧Aside0 (kq≤k)∧Aside0 (Kd.S (Kd.slice 4 Kd.bool) 127 w' w.heap.size (fun _=>True) (.slice Ao7 y442.length co7) x5_1)∧Aside0 (Below w.heap.size w w'))
 case atStart=>exact ⟨(y442),(0),zo,H',⟨Nat.le_refl _⟩,⟨zS HO444.out⟩,⟨zb⟩⟩
 case round=>
  clear H'
  obtain ⟨x5_1,x16_1,rfl,HA,HK1,HO_5,HB⟩:=hrel
  have hl5_1:=(Kd.S_reads' HO_5.out).1
  rw [hl5_1] at HO_5
  (try simp only [hl5_1])
  cases gk with
  | zero=>exact absurd HA.out (by simp [impl_closure.l0])
  | succ k1=>
   have H:=HA.out
   clear HA
   simp only [impl_closure.l0] at H
   by_cases c8:x16_1<(y442.length:Int)
   ·rw [if_pos c8] at H
    have c8b0:=decide_eq_true c8
    try have c8b0z:=c8b0
    try rw [hl5_1] at c8b0z
    clear c8
    by_cases c9:0≤a0
    rotate_left
    ·rw [if_neg c9] at H
     exact absurd H (by simp)
    rw [if_pos c9] at H
    have c9b0:=eq_true c9
    have c9b1:=decide_eq_true c9
    clear c9
    by_cases c10:(a0:Int).toNat≤281474976710656
    rotate_left
    ·rw [if_neg c10] at H
     exact absurd H (by simp)
    rw [if_pos c10] at H
    have c10b0:=eq_true c10
    have c10b1:=decide_eq_true c10
    clear c10
    obtain ⟨y445,hy445⟩:∃ y_:List Bool,y_=(List.replicate (a0:Int).toNat false):=⟨_,rfl⟩
    replace H:(if 0≤x16_1 then (if x16_1<(x5_1.length:Int) then (impl_closure.l0 k1 a0 l1 (x5_1.set (x16_1:Int).toNat y445) (y442.length:Int) (wrap64 (x16_1 + 1))) else (none)) else (none))=some r:=by first|(rw [hy445];with_reducible exact H)|(have H2_:=(Option.bind_some _ _).symm.trans H;rw [hy445];with_reducible exact H2_)|(have H2_:=(Option.bind_some _ _).symm.trans H;with_reducible exact H2_)|with_reducible exact H|(rw [hy445];exact H)|exact H
    have Ny445:=Aside0.mk hy445
    clear hy445
    by_cases c11:0≤x16_1
    rotate_left
    ·rw [if_neg c11] at H
     exact absurd H (by simp)
    rw [if_pos c11] at H
    have c11b0:=decide_eq_true c11
    clear c11
    by_cases c12:x16_1<(x5_1.length:Int)
    rotate_left
    ·rw [if_neg c12] at H
     exact absurd H (by simp)
    rw [if_pos c12] at H
    have c12b0:=decide_eq_true c12
    clear c12
    obtain ⟨y448,hy448⟩:∃ y_:List (List Bool),y_=(x5_1.set (x16_1:Int).toNat y445):=⟨_,rfl⟩
    replace H:(impl_closure.l0 k1 a0 l1 y448 (y442.length:Int) (wrap64 (x16_1 + 1)))=some r:=by first|(rw [hy448];with_reducible exact H)|(have H2_:=(Option.bind_some _ _).symm.trans H;rw [hy448];with_reducible exact H2_)|(have H2_:=(Option.bind_some _ _).symm.trans H;with_reducible exact H2_)|with_reducible exact H|(rw [hy448];exact H)|exact H
    have Ny448:=Aside0.mk hy448
    clear hy448
    have H':=Aside0.mk H
    clear H
    go_wp2_with (first|((with_reducible refine gate_dst (N:=22) rfl ?_);refine Kd.R_make Kd.bool _ 4 rfl (N:=22) rfl 127 _ _ rfl a0 rfl rfl Try.underlying127 (.bool false) 1 info4 rfl (by decide) (by omega) false (ok:=fun _=>True) (okp:=fun _=>True) rfl (fun _ hk=>hk) trivial (of_decide_eq_true za) (Nat.le_trans (Nat.mul_le_mul_right _ (of_decide_eq_true za:a0.toNat≤281474976710656)) (by omega)) (Below.refl _ _) (Nat.le_refl _) ?_;intro v446 w14 ho15 hb hg_ hnew_;clear hg_ hnew_;(first|rw [←Ny445.out] at ho15|(simp only [Int.reduceToNat] at ho15;rw [←Ny445.out] at ho15));replace HO_5:=Aside0.mk (Kd.S_elder' (zS HO_5.out) (Kd.R_base ho15) hb);have HO447:=Aside0.mk (Kd.R_lower ho15 (below_size zb));replace HB:=zb1 hb;clear hb ho15;have p13:0≤(x16_1:Int):=of_decide_eq_true za;have q13:(x16_1:Int)<((x5_1.length:Int):Int):=of_decide_eq_true za;obtain ⟨go13,co13,eo13,gb13,gl13,cl13,HG13⟩:=Kd.S_form HO_5.out (by omega);(first|cases eo13|(injection eo13 with ea_ en_ ec_;(first|subst ea_|(injection ea_ with ea_;subst ea_));subst ec_;clear en_));have GB13:=Aside0.mk gb13;have GG13:=Aside0.mk HG13;clear gb13 gl13 HG13;obtain ⟨_,ce13,hcl13,hM13,hcc13,hfr13,_,_⟩:=Kd.S_elem HO_5.out [] (x16_1:Int) p13 q13;obtain ⟨ve13_0,rfl,ge13_0⟩:=hM13;have hx13_0:=hcc13 0 _ rfl;have hf13_0:=hfr13 0;(try simp only [show ((Kd.slice 4 Kd.bool)).sz=1 from rfl,Nat.mul_one,Nat.add_zero] at hx13_0);(try simp only [show ((Kd.slice 4 Kd.bool)).sz=1 from rfl,Nat.mul_one,Nat.add_zero] at hf13_0);(clear hcl13 hcc13 hfr13;(try clear hM13));replace p13:=eq_true p13;replace q13:=eq_true q13;have n_:=Aside0.mk (Kd.S_mono (ok':=(fun k_=>some k_≠(v446:Value).ownBlock)) HO_5.out (fun k_ hk=>hk.2));clear HO_5;have HO_5:=n_;clear n_;have HX16:=Aside0.mk (show Kd.S (Kd.slice 4 Kd.bool) 127 w14 w.heap.size (fun k_=>((fun _=>True)) k_∧¬ ((fun k_=>some k_=(v446:Value).ownBlock)) k_) (.slice (some ⟨go13,0,none⟩) x5_1.length co7) x5_1 from (zS (Kd.S_mono HO_5.out (fun k_ hk=>⟨trivial,fun e_=>hk e_⟩))));obtain ⟨oki16,ce16,hcl16,hM16,hcc16,hfr16,hoki16,hH16⟩:=Kd.S_elem HX16.out [] (x16_1:Int) (of_decide_eq_true za) (by have h_:(x16_1:Int)<((x5_1.length:Int):Int):=of_decide_eq_true za;first|exact h_|(have e_:=(Kd.S_reads' HO_5.out).1;omega)|simpa using h_);obtain ⟨ve16_0,rfl,ge16_0⟩:=hM16;have HP16:=Kd.S_seg hH16 (of_decide_eq_true za) (by have h_:(x16_1:Int)<((x5_1.length:Int):Int):=of_decide_eq_true za;first|exact h_|(have e_:=(Kd.S_reads' HO_5.out).1;omega)|simpa using h_) (seg:=[v446]) (j:=0) (show 1≤1 from by decide) (x':=y445) (Kd.M_row (Kd.R_mono (Kd.R_tight rfl (Kd.R_mono (ok':=fun k_=>((fun _=>True)) k_∧k_≠go13) (Kd.R_apart' (HO447.out) (Kd.S_typed HO_5.out) (by decide)) (fun k_ hk=>⟨trivial,fun e_=>(hk.2) (by rw [e_];rfl)⟩))) (fun _ h_=>Or.inr (h_)))) (fun _ hk=>hk) (fun k_ hk_=>((Kd.R_mono (ok':=fun k_=>((fun _=>True)) k_∧k_≠go13) (Kd.R_apart' (HO447.out) (Kd.S_typed HO_5.out) (by decide)) (fun k_ hk=>⟨trivial,fun e_=>(hk.2) (by rw [e_];rfl)⟩))).1 k_ hk_.symm);have hx16_0:=hcc16 0 _ rfl;(try simp only [show ((Kd.slice 4 Kd.bool)).sz=1 from rfl,Nat.mul_one,Nat.add_zero] at hx16_0);have hf16_0:=hfr16 0;(try simp only [show ((Kd.slice 4 Kd.bool)).sz=1 from rfl,Nat.mul_one,Nat.add_zero] at hf16_0);(clear hcl16 hcc16 hfr16;(try clear hM16);clear hoki16 hH16);(try simp only [show ((Kd.slice 4 Kd.bool)).sz=1 from rfl,Nat.mul_one,Nat.add_zero] at HP16))|((with_reducible refine gate_store (t:=127) (p:=23) rfl ?_);(try (rw [drewN_self w14];generalize hq_:World.drewN w14 _=w14;have n0_:=Aside0.mk (Kd.S_at hq_ HO_5.out);have n1_:=Aside0.mk (below_at hq_ HB.out);(try replace hx13_0:=cell_at hq_ hx13_0);(try replace hf13_0:=(fun {W_ W2_:World} {n_:Nat} {a_:Addr} {b_:Bool} (h_:W_.drewN n_=W2_) (e_:W_.frozen? a_=b_)=>(by subst h_;exact e_:W2_.frozen? a_=b_)) hq_ hf13_0);(try replace hx16_0:=cell_at hq_ hx16_0);(try replace hf16_0:=(fun {W_ W2_:World} {n_:Nat} {a_:Addr} {b_:Bool} (h_:W_.drewN n_=W2_) (e_:W_.frozen? a_=b_)=>(by subst h_;exact e_:W2_.frozen? a_=b_)) hq_ hf16_0);clear hq_ HO_5 HB;have HO_5:=n0_;have HB:=n1_;clear n0_ n1_;(try (have n_:=Aside0.mk (Kd.S_mono (ok':=(fun k_=>some k_≠(v446:Value).ownBlock)) HO_5.out (fun k_ hk=>hk.2));clear HO_5;have HO_5:=n_;clear n_));(try (have HX16:=Aside0.mk (show Kd.S (Kd.slice 4 Kd.bool) 127 w14 w.heap.size (fun k_=>((fun _=>True)) k_∧¬ ((fun k_=>some k_=(v446:Value).ownBlock)) k_) (.slice (some ⟨go13,0,none⟩) x5_1.length co7) x5_1 from (zS (Kd.S_mono HO_5.out (fun k_ hk=>⟨trivial,fun e_=>hk e_⟩))))));(try (obtain ⟨oki16,ce16,hcl16,hM16,hcc16,hfr16,hoki16,hH16⟩:=Kd.S_elem HX16.out [] (x16_1:Int) (of_decide_eq_true za) (by have h_:(x16_1:Int)<((x5_1.length:Int):Int):=of_decide_eq_true za;first|exact h_|(have e_:=(Kd.S_reads' HO_5.out).1;omega)|simpa using h_)));(try (obtain ⟨ve16_0,rfl,ge16_0⟩:=hM16));(try (have HP16:=Kd.S_seg hH16 (of_decide_eq_true za) (by have h_:(x16_1:Int)<((x5_1.length:Int):Int):=of_decide_eq_true za;first|exact h_|(have e_:=(Kd.S_reads' HO_5.out).1;omega)|simpa using h_) (seg:=[v446]) (j:=0) (show 1≤1 from by decide) (x':=y445) (Kd.M_row (Kd.R_mono (Kd.R_tight rfl (Kd.R_mono (ok':=fun k_=>((fun _=>True)) k_∧k_≠go13) (Kd.R_apart' (HO447.out) (Kd.S_typed HO_5.out) (by decide)) (fun k_ hk=>⟨trivial,fun e_=>(hk.2) (by rw [e_];rfl)⟩))) (fun _ h_=>Or.inr (h_)))) (fun _ hk=>hk) (fun k_ hk_=>((Kd.R_mono (ok':=fun k_=>((fun _=>True)) k_∧k_≠go13) (Kd.R_apart' (HO447.out) (Kd.S_typed HO_5.out) (by decide)) (fun k_ hk=>⟨trivial,fun e_=>(hk.2) (by rw [e_];rfl)⟩))).1 k_ hk_.symm)));(try (have hx16_0:=hcc16 0 _ rfl));(try (try simp only [show ((Kd.slice 4 Kd.bool)).sz=1 from rfl,Nat.mul_one,Nat.add_zero] at hx16_0));(try (have hf16_0:=hfr16 0));(try (try simp only [show ((Kd.slice 4 Kd.bool)).sz=1 from rfl,Nat.mul_one,Nat.add_zero] at hf16_0));(try (clear hcl16 hcc16 hfr16;(try clear hM16);clear hoki16 hH16));(try (try simp only [show ((Kd.slice 4 Kd.bool)).sz=1 from rfl,Nat.mul_one,Nat.add_zero] at HP16))));refine store_event (t:=127) (p:=23) (v:=?vo_w17) (w1:=(w14.setCell ⟨go13,(x16_1:Int).toNat,none⟩ (v446))) ?hg ?ho ?hn ?hr ?_;(case ho=>rfl);(case hg=>rfl);(case hn=>rfl);(case hr=>first|(go_simp;done)|(go_simp;rfl)|(obtain ⟨Ag_,cg_,eg_⟩:=Kd.R_slice HO447.out;subst eg_;first|(go_simp;done)|(go_simp;rfl)));intro w17 hw;have hg:w14.grownBy w17 (some go13):=(by rw [hw];exact HP16.2);have hp_:Kd.S (Kd.slice 4 Kd.bool) 127 w17 w.heap.size (fun _=>True) (.slice (some ⟨go13,0,none⟩) x5_1.length co7) y448:=(by rw [hw,Ny448.out];exact HP16.1);clear HP16;replace HO_5:=Aside0.mk (hp_);replace HB:=Aside0.mk ((by rw [hw];exact below_set (HB.out) GB13.out:Below w.heap.size w w17));clear HO447;clear hg hw hp_))
    (try simp only [←hl5_1])
    go_roundg k1
    case measure=>have:=HK1.out;omega
    case rel=>exact ⟨(y448),(wrap64 (x16_1 + 1)),zo,H',⟨by have:=HK1.out;omega⟩,⟨by (try simp only [hl5_1]);(with_reducible repeat (first|apply Kd.S_alloc|apply Kd.S_drewN|apply Kd.S_drew));exact HO_5.out⟩,⟨zb⟩⟩
   rw [if_neg c8] at H
   have c8b0:=decide_eq_false c8
   try have c8b0z:=c8b0
   try rw [hl5_1] at c8b0z
   clear c8
   have H':=Aside0.mk H
   clear H
   go_wp2
   go_loopg [27] k1 (fun kq v27 w'=>∃ (x5_2:List (List Bool)) (x27_2:Int),v27=.int .i64 x27_2∧Aside0 (impl_closure.l1 kq a0 x5_2 l1 (l1.length:Int) x27_2=some r)∧Aside0 (kq≤k1)∧Aside0 (Kd.S (Kd.slice 4 Kd.bool) 127 w' w.heap.size (fun _=>True) (.slice Ao7 x5_1.length co7) x5_2)∧Aside0 (Below w.heap.size w w'))
   case atStart=>exact ⟨(x5_1),(0),zo,H',⟨Nat.le_refl _⟩,⟨by (try simp only [hl5_1]);(with_reducible repeat (first|apply Kd.S_alloc|apply Kd.S_drewN|apply Kd.S_drew));exact HO_5.out⟩,⟨zb⟩⟩
   case round=>
    clear H'
    obtain ⟨x5_2,x27_2,rfl,HA,HK2,HO_5,HB⟩:=hrel
    have hl5_2:=(Kd.S_reads' HO_5.out).1
    rw [hl5_2] at HO_5
    (try simp only [hl5_2])
    cases gk with
    | zero=>exact absurd HA.out (by simp [impl_closure.l1])
    | succ k2=>
     have H:=HA.out
     clear HA
     simp only [impl_closure.l1] at H
     by_cases c18:x27_2<(l1.length:Int)
     ·rw [if_pos c18] at H
      have c18b0:=decide_eq_true c18
      clear c18
      by_cases c19:0≤x27_2
      rotate_left
      ·rw [if_neg c19] at H
       exact absurd H (by simp)
      rw [if_pos c19] at H
      have c19b0:=decide_eq_true c19
      clear c19
      by_cases c20:x27_2<(l1.length:Int)
      rotate_left
      ·rw [if_neg c20] at H
       exact absurd H (by simp)
      rw [if_pos c20] at H
      have c20b0:=decide_eq_true c20
      clear c20
      by_cases c21:0≤((rd_T72 l1 x27_2).f0)
      rotate_left
      ·rw [if_neg c21] at H
       exact absurd H (by simp)
      rw [if_pos c21] at H
      have c21b0:=decide_eq_true c21
      clear c21
      by_cases c22:((rd_T72 l1 x27_2).f0)<(x5_2.length:Int)
      rotate_left
      ·rw [if_neg c22] at H
       exact absurd H (by simp)
      rw [if_pos c22] at H
      have c22b0:=decide_eq_true c22
      clear c22
      by_cases c23:0≤((rd_T72 l1 x27_2).f1)
      rotate_left
      ·rw [if_neg c23] at H
       exact absurd H (by simp)
      rw [if_pos c23] at H
      have c23b0:=decide_eq_true c23
      clear c23
      by_cases c24:((rd_T72 l1 x27_2).f1)<((rd_L4 x5_2 ((rd_T72 l1 x27_2).f0)).length:Int)
      rotate_left
      ·rw [if_neg c24] at H
       exact absurd H (by simp)
      rw [if_pos c24] at H
      have c24b0:=decide_eq_true c24
      clear c24
      obtain ⟨y452,hy452⟩:∃ y_:List Bool,y_=((rd_L4 x5_2 ((rd_T72 l1 x27_2).f0)).set (((rd_T72 l1 x27_2).f1):Int).toNat true):=⟨_,rfl⟩
      replace H:(impl_closure.l1 k2 a0 (x5_2.set (((rd_T72 l1 x27_2).f0):Int).toNat y452) l1 (l1.length:Int) (wrap64 (x27_2 + 1)))=some r:=by first|(rw [hy452];with_reducible exact H)|(have H2_:=(Option.bind_some _ _).symm.trans H;rw [hy452];with_reducible exact H2_)|(have H2_:=(Option.bind_some _ _).symm.trans H;with_reducible exact H2_)|with_reducible exact H|(rw [hy452];exact H)|exact H
      have Ny452:=Aside0.mk hy452
      clear hy452
      obtain ⟨y454,hy454⟩:∃ y_:List (List Bool),y_=(x5_2.set (((rd_T72 l1 x27_2).f0):Int).toNat y452):=⟨_,rfl⟩
      replace H:(impl_closure.l1 k2 a0 y454 l1 (l1.length:Int) (wrap64 (x27_2 + 1)))=some r:=by first|(rw [hy454];with_reducible exact H)|(have H2_:=(Option.bind_some _ _).symm.trans H;rw [hy454];with_reducible exact H2_)|(have H2_:=(Option.bind_some _ _).symm.trans H;with_reducible exact H2_)|with_reducible exact H|(rw [hy454];exact H)|exact H
      have Ny454:=Aside0.mk hy454
      clear hy454
      have H':=Aside0.mk H
      clear H
      have p449:0≤(x27_2:Int):=of_decide_eq_true za
      have q449:x27_2<(l1.length:Int):=of_decide_eq_true za
      obtain ⟨ad449,e449,hx449_0,hx449_1⟩:=at_T72 HR1.out x27_2 p449 q449
      cases e449
      replace hx449_0:=zh_ HB hx449_0
      replace hx449_1:=zh_ HB hx449_1
      replace p449:=eq_true p449
      replace q449:=eq_true q449
      try go_wp2_with (first|((with_reducible refine gate_dst (N:=8) rfl ?_);refine box_event ?hg (N:=8) ?hd (cs:=#[.int .i64 0,.int .i64 0]) (t:=72) ?hr ?_;(case hd=>rfl);(case hg=>rfl);(case hr=>first|(go_simp;done)|(go_simp;rfl));intro gb450 hg w26 hbox hb;have n0_:=zSb HO_5 hb;have n1_:=zb1 hb;have n2_:=Aside0.mk (hbox);have n3_:=Aside0.mk ((by rw [hg];exact (below_size zb):w.heap.size≤gb450));have n4_:=Aside0.mk ((by rw [hg];exact (below_size zb):w.heap.size≤gb450));clear HO_5;clear HB;have HO_5:=n0_;have HB:=n1_;have BK450:=n2_;have GW450:=n3_;have GE450:=n4_;clear n0_ n1_ n2_ n3_ n4_;clear hb hbox hg;obtain ⟨hcz27_0,hcz27_1,hfz27_0,hfz27_1⟩:=zk2 BK450.out))
      have n0_:Aside0 (Kd.S (Kd.slice 4 Kd.bool) 127 ((w26.setCell ⟨gb450,0,none⟩ (.int .i64 ((rd_T72 l1 x27_2).f0))).setCell ⟨gb450,1,none⟩ (.int .i64 ((rd_T72 l1 x27_2).f1))) w.heap.size (fun _=>True) (.slice Ao7 x5_2.length co7) x5_2):=⟨by (with_reducible repeat (first|apply Kd.S_alloc|apply Kd.S_drewN|apply Kd.S_drew));exact Kd.S_mono (Kd.S_far (p:=⟨gb450,1,none⟩) (Kd.S_far (p:=⟨gb450,0,none⟩) (Kd.S_types HO_5.out BK450.out (by decide)) (fun _ hk=>hk.2) (.int .i64 ((rd_T72 l1 x27_2).f0))) (fun _ hk=>hk.2) (.int .i64 ((rd_T72 l1 x27_2).f1))) (fun _ hk=>trivial)⟩
      have n1_:Aside0 (((w26.setCell ⟨gb450,0,none⟩ (.int .i64 ((rd_T72 l1 x27_2).f0))).setCell ⟨gb450,1,none⟩ (.int .i64 ((rd_T72 l1 x27_2).f1))).heap[gb450]?=some (.cells #[.int .i64 ((rd_T72 l1 x27_2).f0),.int .i64 ((rd_T72 l1 x27_2).f1)] 72 (0,0))):=⟨by (with_reducible repeat (first|refine blk_drewN ?_ _|refine blk_drew ?_|refine blk_alloc ?_ _));refine blk_put (cs:=#[.int .i64 ((rd_T72 l1 x27_2).f0),.int .i64 0]) ?_ 1 _ rfl;(with_reducible repeat (first|refine blk_drewN ?_ _|refine blk_drew ?_|refine blk_alloc ?_ _));refine blk_put (cs:=#[.int .i64 0,.int .i64 0]) ?_ 0 _ rfl;(with_reducible repeat (first|refine blk_drewN ?_ _|refine blk_drew ?_|refine blk_alloc ?_ _));exact BK450.out⟩
      have n2_:Aside0 (Below w.heap.size w ((w26.setCell ⟨gb450,0,none⟩ (.int .i64 ((rd_T72 l1 x27_2).f0))).setCell ⟨gb450,1,none⟩ (.int .i64 ((rd_T72 l1 x27_2).f1)))):=⟨by repeat (first|(with_reducible first|exact HB.out|apply below_alloc|apply pw_below_drewN|apply below_drew1|refine below_set ?_ GE450.out)|exact HB.out)⟩
      (try simp only [show ∀ (W_:World) (n_:Nat) (a_:Addr) (v_:Value),(W_.drewN n_).setCell a_ v_=(W_.setCell a_ v_).drewN n_ from fun _ _ _ _=>rfl])
      generalize ((w26.setCell ⟨gb450,0,none⟩ (.int .i64 ((rd_T72 l1 x27_2).f0))).setCell ⟨gb450,1,none⟩ (.int .i64 ((rd_T72 l1 x27_2).f1)))=w28 at n0_ n1_ n2_ ⊢
      have HO_5:=n0_
      have BK450:=n1_
      have HB:=n2_
      clear n0_ n1_ n2_
      replace HO_5:=Aside0.mk (Kd.S_drew HO_5.out)
      replace BK450:=Aside0.mk (blk_drew BK450.out)
      replace HB:=Aside0.mk (below_drew1 HB.out)
      have p451:0≤(((rd_T72 l1 x27_2).f0):Int):=of_decide_eq_true za
      have q451:((rd_T72 l1 x27_2).f0)<(x5_2.length:Int):=of_decide_eq_true za
      obtain ⟨ad451,A451_0,c451_0,e451,hx451_0,hl451_0,hi451_0⟩:=at_L4 (Kd.S_reads' HO_5.out).2.2 ((rd_T72 l1 x27_2).f0) p451 q451
      cases e451
      obtain ⟨ce451,hce451,hMe451,hcc451⟩:=Kd.S_get HO_5.out [] ((rd_T72 l1 x27_2).f0) p451 (by first|exact q451|exact of_decide_eq_true za|(have e_:=(Kd.S_reads' HO_5.out).1;omega))
      obtain ⟨ve451_0,rfl,ge451_0⟩:=hMe451
      have hv451_0:=hcc451 0 _ rfl
      rw [Nat.add_zero,show ((Kd.slice 4 Kd.bool)).sz=1 from rfl,Nat.mul_one] at hv451_0
      replace hv451_0:=Option.some.inj (hv451_0.symm.trans hx451_0)
      rw [hv451_0] at ge451_0
      have HL451_0:=Aside0.mk (show Kd.R Kd.bool 4 _ _ _ _ (rd_L4 x5_2 ((rd_T72 l1 x27_2).f0)) from ge451_0)
      clear hv451_0 ge451_0
      have HX451_0:=Aside0.mk hx451_0
      clear hcc451 hce451
      have HR451_0:=Aside0.mk hi451_0
      have HC451_0:=Aside0.mk hl451_0
      clear hi451_0 hl451_0
      replace p451:=eq_true p451
      replace q451:=eq_true q451
      have p25:0≤(((rd_T72 l1 x27_2).f1):Int):=of_decide_eq_true za
      have q25:(((rd_T72 l1 x27_2).f1):Int)<(((rd_L4 x5_2 ((rd_T72 l1 x27_2).f0)).length:Int):Int):=of_decide_eq_true za
      obtain ⟨go25,co25,eo25,gb25,gl25,cl25,HG25⟩:=Kd.R_form HL451_0.out (by omega)
      (first|cases eo25|(injection eo25 with ea_ en_ ec_;(first|subst ea_|(injection ea_ with ea_;subst ea_));subst ec_;clear en_))
      have GB25:=Aside0.mk gb25
      have GG25:=Aside0.mk HG25
      clear gb25 gl25 HG25
      obtain ⟨hx25_0,hf25_0⟩:=Kd.R_celln false HL451_0.out (((rd_T72 l1 x27_2).f1):Int) p25 q25
      replace p25:=eq_true p25
      replace q25:=eq_true q25
      have hq30:(((rd_T72 l1 x27_2).f0):Int)<(x5_2.length:Int):=(by have h_:(((rd_T72 l1 x27_2).f0):Int)<((x5_2.length:Int):Int):=of_decide_eq_true za;first|exact h_|(have e_:=(Kd.S_reads' HO_5.out).1;omega)|simpa only [List.length_set,List.length_set] using h_)
      obtain ⟨oki30,ce30,hcl30,hM30,hcc30,hok30,hbk30⟩:=Kd.S_borrow HO_5.out [] (((rd_T72 l1 x27_2).f0):Int) (of_decide_eq_true za) hq30
      obtain ⟨ve30_0,rfl,ge30_0⟩:=hM30
      have hv30:=hcc30 0 _ rfl
      rw [Nat.add_zero,show ((Kd.slice 4 Kd.bool)).sz=1 from rfl,Nat.mul_one] at hv30
      replace hv30:=Option.some.inj (hv30.symm.trans HX451_0.out)
      subst hv30
      clear hcc30 hcl30
      replace ge30_0:=(show Kd.R Kd.bool 4 _ _ _ _ (rd_L4 x5_2 ((rd_T72 l1 x27_2).f0)) from ge30_0)
      have HP30:=Kd.R_putg ge30_0 (((rd_T72 l1 x27_2).f1):Int) true
      rw [←Ny452.out] at HP30
      have HS30:=hbk30 HP30.2 (fun k_ e_=>by injection e_ with e_;subst e_;exact ge30_0.1 _ rfl) (x':=y452) (Kd.M_row HP30.1)
      rw [←Ny454.out] at HS30
      have HQ30:=Aside0.mk HS30
      clear HP30 HS30 hbk30 hok30
      refine start_ (n:=9) (S:=fun w'=>w'.cell? ⟨gb450,0,none⟩=some (.int .i64 ((rd_T72 l1 x27_2).f0))∧w'.cell? ⟨gb450,1,none⟩=some (.int .i64 ((rd_T72 l1 x27_2).f1))∧w'.cell? (ad451.add (((rd_T72 l1 x27_2).f0)).toNat)=some (.slice (some ⟨go25,0,none⟩) (rd_L4 x5_2 ((rd_T72 l1 x27_2).f0)).length c451_0)) (ds:=[8]) #[false,false,false,false,false,false,false,false,false] (by kernel_rfl) rfl rfl ⟨(blk_cell BK450.out 0).trans rfl,(blk_cell BK450.out 1).trans rfl,hx451_0⟩ (fun hHeld=>?_);refine with_tabW impl_closure.tab10 impl_closure.bits10 (fun HT_ HW_=>?_)
      generalize w28.drew=w29 at HO_5 BK450 HB GG25 HL451_0 HQ30 HR451_0 HX451_0 hf25_0 hx25_0 hx451_0 hHeld ⊢
      refine pu_ 0 31 ?_
      refine pu_ 1 32 ?_
      refine pu_ 5 36 ?_
      refine tk_ 2 33 hHeld ?_
      refine pu_ 3 34 ?_
      refine tk_ 4 35 hHeld ?_
      refine tk_ 6 37 hHeld ?_
      refine pu_ 7 38 ?_
      refine last_ (i:=8) (N:=none) #[true,true,true,true,true,true,true,true,true] rfl rfl (one_of HT_.out (by kernel_rfl)) (by decide) (fun K hK=>?_)
      refine skip_ (w1:=?_) (by rfl) rfl ?_ ?_
      rotate_left
      ·go_simp
       rfl
      refine hK.out _ _ ?_
      clear hK K
      refine done_ (done_of HT_.out (by kernel_rfl)) ?_
      try go_wp2
      (try simp only [←hl5_2])
      go_roundg k2
      case measure=>have:=HK1.out;have:=HK2.out;omega
      case rel=>exact ⟨(y454),(wrap64 (x27_2 + 1)),zo,H',⟨zz9⟩,⟨by (try simp only [hl5_1]);(try simp only [hl5_2]);(with_reducible repeat (first|apply Kd.S_alloc|apply Kd.S_drewN|apply Kd.S_drew));exact HQ30.out⟩,⟨by repeat (first|(with_reducible first|exact HB.out|apply below_alloc|apply pw_below_drewN|apply below_drew1|refine below_set ?_ GB25.out|refine below_set ?_ GE450.out)|exact HB.out)⟩⟩
     rw [if_neg c18] at H
     have c18b0:=decide_eq_false c18
     clear c18
     have H':=Aside0.mk H
     clear H
     go_wp2
     go_loopg [9] k2 (fun kq v9 w'=>∃ (x5_3:List (List Bool)) (x9_3:Int),v9=.int .i64 x9_3∧Aside0 (impl_closure.l2 kq a0 x5_3 x9_3=some r)∧Aside0 (kq≤k2)∧Aside0 (Kd.S (Kd.slice 4 Kd.bool) 127 w' w.heap.size (fun _=>True) (.slice Ao7 x5_2.length co7) x5_3)∧Aside0 (Below w.heap.size w w'))
     case atStart=>exact ⟨(x5_2),(0),zo,H',⟨Nat.le_refl _⟩,⟨by (try simp only [hl5_1]);(try simp only [hl5_2]);(with_reducible repeat (first|apply Kd.S_alloc|apply Kd.S_drewN|apply Kd.S_drew));exact HO_5.out⟩,⟨zb⟩⟩
     case round=>
      clear H'
      obtain ⟨x5_3,x9_3,rfl,HA,HK3,HO_5,HB⟩:=hrel
      have hl5_3:=(Kd.S_reads' HO_5.out).1
      rw [hl5_3] at HO_5
      (try simp only [hl5_3])
      cases gk with
      | zero=>exact absurd HA.out (by simp [impl_closure.l2])
      | succ k3=>
       have H:=HA.out
       clear HA
       simp only [impl_closure.l2] at H
       by_cases c32:x9_3<a0
       rotate_left
       ·rw [if_neg c32] at H
        have c32b0:=decide_eq_false c32
        clear c32
        obtain rfl:=Option.some.inj H
        go_wp2
        go_ret
        exact ⟨_,zz1,zS HO_5.out,zb⟩
       rw [if_pos c32] at H
       have c32b0:=decide_eq_true c32
       clear c32
       have H':=Aside0.mk H
       clear H
       go_wp2
       go_loopg [10] k3 (fun kq v10 w'=>∃ (x5_4:List (List Bool)) (x10_4:Int),v10=.int .i64 x10_4∧Aside0 (impl_closure.l3 kq a0 x5_4 x9_3 x10_4=some r)∧Aside0 (kq≤k3)∧Aside0 (Kd.S (Kd.slice 4 Kd.bool) 127 w' w.heap.size (fun _=>True) (.slice Ao7 x5_3.length co7) x5_4)∧Aside0 (Below w.heap.size w w'))
       case atStart=>exact ⟨(x5_3),(0),zo,H',⟨Nat.le_refl _⟩,⟨by (try simp only [hl5_1]);(try simp only [hl5_2]);(try simp only [hl5_3]);(with_reducible repeat (first|apply Kd.S_alloc|apply Kd.S_drewN|apply Kd.S_drew));exact HO_5.out⟩,⟨zb⟩⟩
       case round=>
        clear H'
        obtain ⟨x5_4,x10_4,rfl,HA,HK4,HO_5,HB⟩:=hrel
        have hl5_4:=(Kd.S_reads' HO_5.out).1
        rw [hl5_4] at HO_5
        (try simp only [hl5_4])
        cases gk with
        | zero=>exact absurd HA.out (by simp [impl_closure.l3])
        | succ k4=>
         have H:=HA.out
         clear HA
         simp only [impl_closure.l3] at H
         by_cases c33:x10_4<a0
         rotate_left
         ·rw [if_neg c33] at H
          have c33b0:=decide_eq_false c33
          clear c33
          have H':=Aside0.mk H
          clear H
          go_wp2
          (try simp only [←hl5_3,←hl5_4])
          go_roundg k4
          case measure=>have:=HK1.out;have:=HK2.out;have:=HK3.out;have:=HK4.out;omega
          case rel=>exact ⟨(x5_4),(wrap64 (x9_3 + 1)),zo,H',⟨by have:=HK1.out;have:=HK2.out;have:=HK3.out;have:=HK4.out;omega⟩,⟨by (try simp only [hl5_1]);(try simp only [hl5_2]);(try simp only [hl5_3]);(try simp only [hl5_4]);(with_reducible repeat (first|apply Kd.S_alloc|apply Kd.S_drewN|apply Kd.S_drew));exact HO_5.out⟩,⟨zb⟩⟩
         rw [if_pos c33] at H
         have c33b0:=decide_eq_true c33
         clear c33
         have H':=Aside0.mk H
         clear H
         go_wp2
         go_loopg [11] k4 (fun kq v11 w'=>∃ (x5_5:List (List Bool)) (x11_5:Int),v11=.int .i64 x11_5∧Aside0 (impl_closure.l4 kq a0 x5_5 x9_3 x10_4 x11_5=some r)∧Aside0 (kq≤k4)∧Aside0 (Kd.S (Kd.slice 4 Kd.bool) 127 w' w.heap.size (fun _=>True) (.slice Ao7 x5_4.length co7) x5_5)∧Aside0 (Below w.heap.size w w'))
         case atStart=>exact ⟨(x5_4),(0),zo,H',⟨Nat.le_refl _⟩,⟨by (try simp only [hl5_1]);(try simp only [hl5_2]);(try simp only [hl5_3]);(try simp only [hl5_4]);(with_reducible repeat (first|apply Kd.S_alloc|apply Kd.S_drewN|apply Kd.S_drew));exact HO_5.out⟩,⟨zb⟩⟩
         case round=>
          clear H'
          obtain ⟨x5_5,x11_5,rfl,HA,HK5,HO_5,HB⟩:=hrel
          have hl5_5:=(Kd.S_reads' HO_5.out).1
          rw [hl5_5] at HO_5
          (try simp only [hl5_5])
          cases gk with
          | zero=>exact absurd HA.out (by simp [impl_closure.l4])
          | succ k5=>
           have H:=HA.out
           clear HA
           simp only [impl_closure.l4] at H
           by_cases c34:x11_5<a0
           rotate_left
           ·rw [if_neg c34] at H
            have c34b0:=decide_eq_false c34
            clear c34
            have H':=Aside0.mk H
            clear H
            go_wp2
            (try simp only [←hl5_4,←hl5_5])
            go_roundg k5
            case measure=>have:=HK1.out;have:=HK2.out;have:=HK3.out;have:=HK4.out;have:=HK5.out;omega
            case rel=>exact ⟨(x5_5),(wrap64 (x10_4 + 1)),zo,H',⟨zz25⟩,⟨by (try simp only [hl5_1]);(try simp only [hl5_2]);(try simp only [hl5_3]);(try simp only [hl5_4]);(try simp only [hl5_5]);(with_reducible repeat (first|apply Kd.S_alloc|apply Kd.S_drewN|apply Kd.S_drew));exact HO_5.out⟩,⟨zb⟩⟩
           rw [if_pos c34] at H
           have c34b0:=decide_eq_true c34
           clear c34
           by_cases c35:0≤x10_4
           rotate_left
           ·rw [if_neg c35] at H
            exact absurd H (by simp)
           rw [if_pos c35] at H
           have c35b0:=decide_eq_true c35
           clear c35
           by_cases c36:x10_4<(x5_5.length:Int)
           rotate_left
           ·rw [if_neg c36] at H
            exact absurd H (by simp)
           rw [if_pos c36] at H
           have c36b0:=decide_eq_true c36
           clear c36
           by_cases c37:0≤x11_5
           rotate_left
           ·rw [if_neg c37] at H
            exact absurd H (by simp)
           rw [if_pos c37] at H
           have c37b0:=decide_eq_true c37
           clear c37
           by_cases c38:x11_5<((rd_L4 x5_5 x10_4).length:Int)
           rotate_left
           ·rw [if_neg c38] at H
            exact absurd H (by simp)
           rw [if_pos c38] at H
           have c38b0:=decide_eq_true c38
           clear c38
           obtain ⟨bq39,hbq39⟩:∃ b_:Bool,b_=(rdOf false (rd_L4 x5_5 x10_4) x11_5):=⟨_,rfl⟩
           replace H:(if bq39=true then (impl_closure.l4 k5 a0 (x5_5.set (x10_4:Int).toNat ((rd_L4 x5_5 x10_4).set (x11_5:Int).toNat true)) x9_3 x10_4 (wrap64 (x11_5 + 1))) else (if 0≤x9_3 then (if x9_3<((rd_L4 x5_5 x10_4).length:Int) then (if rdOf false (rd_L4 x5_5 x10_4) x9_3=true then (if x9_3<(x5_5.length:Int) then (if x11_5<((rd_L4 x5_5 x9_3).length:Int) then (impl_closure.l4 k5 a0 (x5_5.set (x10_4:Int).toNat ((rd_L4 x5_5 x10_4).set (x11_5:Int).toNat (rdOf false (rd_L4 x5_5 x9_3) x11_5))) x9_3 x10_4 (wrap64 (x11_5 + 1))) else (none)) else (none)) else (impl_closure.l4 k5 a0 (x5_5.set (x10_4:Int).toNat ((rd_L4 x5_5 x10_4).set (x11_5:Int).toNat false)) x9_3 x10_4 (wrap64 (x11_5 + 1)))) else (none)) else (none)))=some r:=by rw [←hbq39] at H;exact H
           have Nbq39:=Aside0.mk hbq39
           clear hbq39
           by_cases c40:bq39=true
           ·subst c40
            rw [if_pos rfl] at H
            obtain ⟨y458,hy458⟩:∃ y_:List Bool,y_=((rd_L4 x5_5 x10_4).set (x11_5:Int).toNat true):=⟨_,rfl⟩
            replace H:(impl_closure.l4 k5 a0 (x5_5.set (x10_4:Int).toNat y458) x9_3 x10_4 (wrap64 (x11_5 + 1)))=some r:=by first|(rw [hy458];with_reducible exact H)|(have H2_:=(Option.bind_some _ _).symm.trans H;rw [hy458];with_reducible exact H2_)|(have H2_:=(Option.bind_some _ _).symm.trans H;with_reducible exact H2_)|with_reducible exact H|(rw [hy458];exact H)|exact H
            have Ny458:=Aside0.mk hy458
            clear hy458
            obtain ⟨y460,hy460⟩:∃ y_:List (List Bool),y_=(x5_5.set (x10_4:Int).toNat y458):=⟨_,rfl⟩
            replace H:(impl_closure.l4 k5 a0 y460 x9_3 x10_4 (wrap64 (x11_5 + 1)))=some r:=by first|(rw [hy460];with_reducible exact H)|(have H2_:=(Option.bind_some _ _).symm.trans H;rw [hy460];with_reducible exact H2_)|(have H2_:=(Option.bind_some _ _).symm.trans H;with_reducible exact H2_)|with_reducible exact H|(rw [hy460];exact H)|exact H
            have Ny460:=Aside0.mk hy460
            clear hy460
            have H':=Aside0.mk H
            clear H
            try go_wp2
            have n0_:=Aside0.mk (Kd.S_drew HO_5.out)
            have HBo:=Aside0.mk HB.out
            have n1_:=Aside0.mk (below_drew1 HB.out)
            clear HO_5
            clear HB
            have HO_5:=n0_
            have HB:=n1_
            clear n0_ n1_
            have p455:0≤(x10_4:Int):=of_decide_eq_true za
            have q455:x10_4<(x5_5.length:Int):=of_decide_eq_true za
            obtain ⟨ad455,A455_0,c455_0,e455,hx455_0,hl455_0,hi455_0⟩:=at_L4 (Kd.S_reads' HO_5.out).2.2 x10_4 p455 q455
            cases e455
            obtain ⟨ce455,hce455,hMe455,hcc455⟩:=Kd.S_get HO_5.out [] x10_4 p455 (by first|exact q455|exact of_decide_eq_true za|(have e_:=(Kd.S_reads' HO_5.out).1;omega))
            obtain ⟨ve455_0,rfl,ge455_0⟩:=hMe455
            have hv455_0:=hcc455 0 _ rfl
            rw [Nat.add_zero,show ((Kd.slice 4 Kd.bool)).sz=1 from rfl,Nat.mul_one] at hv455_0
            replace hv455_0:=Option.some.inj (hv455_0.symm.trans hx455_0)
            rw [hv455_0] at ge455_0
            have HL455_0:=Aside0.mk (show Kd.R Kd.bool 4 _ _ _ _ (rd_L4 x5_5 x10_4) from ge455_0)
            clear hv455_0 ge455_0
            have HX455_0:=Aside0.mk hx455_0
            clear hcc455 hce455
            have HR455_0:=Aside0.mk hi455_0
            have HC455_0:=Aside0.mk hl455_0
            clear hi455_0 hl455_0
            replace p455:=eq_true p455
            replace q455:=eq_true q455
            have p456:0≤(x10_4:Int):=of_decide_eq_true za
            have q456:x10_4<(x5_5.length:Int):=of_decide_eq_true za
            obtain ⟨ad456,A456_0,c456_0,e456,hx456_0,hl456_0,hi456_0⟩:=at_L4 (Kd.S_reads' HO_5.out).2.2 x10_4 p456 q456
            obtain rfl:ad455=ad456:=(by injection e456)
            obtain ⟨ce456,hce456,hMe456,hcc456⟩:=Kd.S_get HO_5.out [] x10_4 p456 (by first|exact q456|exact of_decide_eq_true za|(have e_:=(Kd.S_reads' HO_5.out).1;omega))
            obtain ⟨ve456_0,rfl,ge456_0⟩:=hMe456
            have hv456_0:=hcc456 0 _ rfl
            rw [Nat.add_zero,show ((Kd.slice 4 Kd.bool)).sz=1 from rfl,Nat.mul_one] at hv456_0
            replace hv456_0:=Option.some.inj (hv456_0.symm.trans hx456_0)
            rw [hv456_0] at ge456_0
            have HL456_0:=Aside0.mk (show Kd.R Kd.bool 4 _ _ _ _ (rd_L4 x5_5 x10_4) from ge456_0)
            clear hv456_0 ge456_0
            have HX456_0:=Aside0.mk hx456_0
            clear hcc456 hce456
            have HR456_0:=Aside0.mk hi456_0
            have HC456_0:=Aside0.mk hl456_0
            clear hi456_0 hl456_0
            replace p456:=eq_true p456
            replace q456:=eq_true q456
            have ea_:=Option.some.inj (hx455_0.symm.trans hx456_0)
            injection ea_ with ea_ en_ ec_
            subst ea_
            subst ec_
            clear en_
            have p457:0≤(x11_5:Int):=of_decide_eq_true za
            have q457:x11_5<((rd_L4 x5_5 x10_4).length:Int):=of_decide_eq_true za
            obtain ⟨ad457,e457,hx457_0⟩:=Kd.at_bool zz52 x11_5 p457 q457
            (try rw [←Nbq39.out] at hx457_0)
            cases e457
            replace p457:=eq_true p457
            replace q457:=eq_true q457
            have p41:0≤(x11_5:Int):=of_decide_eq_true za
            have q41:(x11_5:Int)<(((rd_L4 x5_5 x10_4).length:Int):Int):=of_decide_eq_true za
            obtain ⟨go41,co41,eo41,gb41,gl41,cl41,HG41⟩:=Kd.R_form HL455_0.out (by omega)
            (first|cases eo41|(injection eo41 with ea_ en_ ec_;(first|subst ea_|(injection ea_ with ea_;subst ea_));subst ec_;clear en_))
            have GB41:=Aside0.mk gb41
            have GG41:=Aside0.mk HG41
            clear gb41 gl41 HG41
            (first|simp only [add_plain] at hx457_0|skip)
            obtain ⟨hx41_0,hf41_0⟩:=Kd.R_celln false HL455_0.out (x11_5:Int) p41 q41
            replace p41:=eq_true p41
            replace q41:=eq_true q41
            have hq43:(x10_4:Int)<(x5_5.length:Int):=(by have h_:(x10_4:Int)<((x5_5.length:Int):Int):=of_decide_eq_true za;first|exact h_|(have e_:=(Kd.S_reads' HO_5.out).1;omega)|simpa only [List.length_set,List.length_set] using h_)
            obtain ⟨oki43,ce43,hcl43,hM43,hcc43,hok43,hbk43⟩:=Kd.S_borrow HO_5.out [] (x10_4:Int) (of_decide_eq_true za) hq43
            obtain ⟨ve43_0,rfl,ge43_0⟩:=hM43
            have hv43:=hcc43 0 _ rfl
            rw [Nat.add_zero,show ((Kd.slice 4 Kd.bool)).sz=1 from rfl,Nat.mul_one] at hv43
            replace hv43:=Option.some.inj (hv43.symm.trans HX455_0.out)
            subst hv43
            clear hcc43 hcl43
            replace ge43_0:=(show Kd.R Kd.bool 4 _ _ _ _ (rd_L4 x5_5 x10_4) from ge43_0)
            have HP43:=Kd.R_putg ge43_0 (x11_5:Int) true
            rw [←Ny458.out] at HP43
            have HS43:=hbk43 HP43.2 (fun k_ e_=>by injection e_ with e_;subst e_;exact ge43_0.1 _ rfl) (x':=y458) (Kd.M_row HP43.1)
            rw [←Ny460.out] at HS43
            have HQ43:=Aside0.mk HS43
            clear HP43 HS43 hbk43 hok43
            (try rw [←Nbq39.out] at hx41_0)
            (try simp only [add_plain] at hx455_0)
            (try simp only [add_plain] at hx456_0)
            (try simp only [add_plain] at hx457_0)
            (try simp only [add_plain] at hx41_0)
            replace hx455_0:wr.cell? _=_:=hx455_0
            replace hx456_0:wr.cell? _=_:=hx456_0
            replace hx457_0:wr.cell? _=_:=hx457_0
            replace hx41_0:wr.cell? _=_:=hx41_0
            replace hf41_0:wr.frozen? _=false:=hf41_0
            have HQ_:=HQ43.out
            rw [World.setCell_drew] at HQ_
            clear HQ43
            have HQ43:=Aside0.mk HQ_
            clear HQ_
            go_region
            all_goals
              try go_wp2
              (try simp only [←hl5_5])
              go_roundg k5
              case measure=>have:=HK1.out;have:=HK2.out;have:=HK3.out;have:=HK4.out;have:=HK5.out;omega
              case rel=>exact ⟨(y460),(wrap64 (x11_5 + 1)),zo,H',⟨zz25⟩,⟨by (try simp only [hl5_1]);(try simp only [hl5_2]);(try simp only [hl5_3]);(try simp only [hl5_4]);(try simp only [hl5_5]);(with_reducible repeat (first|apply Kd.S_alloc|apply Kd.S_drewN|apply Kd.S_drew));exact HQ43.out⟩,⟨by repeat (first|(with_reducible first|exact HBo.out|exact HB.out|apply below_alloc|apply pw_below_drewN|apply below_drew1|refine below_set ?_ GB41.out)|exact HBo.out|exact HB.out)⟩⟩
           replace c40:=Bool.eq_false_iff.mpr c40
           subst c40
           rw [if_neg (show ¬ (false=true) by decide)] at H
           by_cases c45:0≤x9_3
           rotate_left
           ·rw [if_neg c45] at H
            exact absurd H (by simp)
           rw [if_pos c45] at H
           have c45b0:=decide_eq_true c45
           clear c45
           by_cases c46:x9_3<((rd_L4 x5_5 x10_4).length:Int)
           rotate_left
           ·rw [if_neg c46] at H
            exact absurd H (by simp)
           rw [if_pos c46] at H
           have c46b0:=decide_eq_true c46
           clear c46
           obtain ⟨bq47,hbq47⟩:∃ b_:Bool,b_=(rdOf false (rd_L4 x5_5 x10_4) x9_3):=⟨_,rfl⟩
           replace H:(if bq47=true then (if x9_3<(x5_5.length:Int) then (if x11_5<((rd_L4 x5_5 x9_3).length:Int) then (impl_closure.l4 k5 a0 (x5_5.set (x10_4:Int).toNat ((rd_L4 x5_5 x10_4).set (x11_5:Int).toNat (rdOf false (rd_L4 x5_5 x9_3) x11_5))) x9_3 x10_4 (wrap64 (x11_5 + 1))) else (none)) else (none)) else (impl_closure.l4 k5 a0 (x5_5.set (x10_4:Int).toNat ((rd_L4 x5_5 x10_4).set (x11_5:Int).toNat false)) x9_3 x10_4 (wrap64 (x11_5 + 1))))=some r:=by rw [←hbq47] at H;exact H
           have Nbq47:=Aside0.mk hbq47
           clear hbq47
           by_cases c48:bq47=true
           rotate_left
           ·replace c48:=Bool.eq_false_iff.mpr c48
            subst c48
            rw [if_neg (show ¬ (false=true) by decide)] at H
            obtain ⟨y468,hy468⟩:∃ y_:List Bool,y_=((rd_L4 x5_5 x10_4).set (x11_5:Int).toNat false):=⟨_,rfl⟩
            replace H:(impl_closure.l4 k5 a0 (x5_5.set (x10_4:Int).toNat y468) x9_3 x10_4 (wrap64 (x11_5 + 1)))=some r:=by first|(rw [hy468];with_reducible exact H)|(have H2_:=(Option.bind_some _ _).symm.trans H;rw [hy468];with_reducible exact H2_)|(have H2_:=(Option.bind_some _ _).symm.trans H;with_reducible exact H2_)|with_reducible exact H|(rw [hy468];exact H)|exact H
            have Ny468:=Aside0.mk hy468
            clear hy468
            obtain ⟨y470,hy470⟩:∃ y_:List (List Bool),y_=(x5_5.set (x10_4:Int).toNat y468):=⟨_,rfl⟩
            replace H:(impl_closure.l4 k5 a0 y470 x9_3 x10_4 (wrap64 (x11_5 + 1)))=some r:=by first|(rw [hy470];with_reducible exact H)|(have H2_:=(Option.bind_some _ _).symm.trans H;rw [hy470];with_reducible exact H2_)|(have H2_:=(Option.bind_some _ _).symm.trans H;with_reducible exact H2_)|with_reducible exact H|(rw [hy470];exact H)|exact H
            have Ny470:=Aside0.mk hy470
            clear hy470
            have H':=Aside0.mk H
            clear H
            try go_wp2
            have n0_:=Aside0.mk (Kd.S_drew HO_5.out)
            have HBo:=Aside0.mk HB.out
            have n1_:=Aside0.mk (below_drew1 HB.out)
            clear HO_5
            clear HB
            have HO_5:=n0_
            have HB:=n1_
            clear n0_ n1_
            have p455:0≤(x10_4:Int):=of_decide_eq_true za
            have q455:x10_4<(x5_5.length:Int):=of_decide_eq_true za
            obtain ⟨ad455,A455_0,c455_0,e455,hx455_0,hl455_0,hi455_0⟩:=at_L4 (Kd.S_reads' HO_5.out).2.2 x10_4 p455 q455
            cases e455
            obtain ⟨ce455,hce455,hMe455,hcc455⟩:=Kd.S_get HO_5.out [] x10_4 p455 (by first|exact q455|exact of_decide_eq_true za|(have e_:=(Kd.S_reads' HO_5.out).1;omega))
            obtain ⟨ve455_0,rfl,ge455_0⟩:=hMe455
            have hv455_0:=hcc455 0 _ rfl
            rw [Nat.add_zero,show ((Kd.slice 4 Kd.bool)).sz=1 from rfl,Nat.mul_one] at hv455_0
            replace hv455_0:=Option.some.inj (hv455_0.symm.trans hx455_0)
            rw [hv455_0] at ge455_0
            have HL455_0:=Aside0.mk (show Kd.R Kd.bool 4 _ _ _ _ (rd_L4 x5_5 x10_4) from ge455_0)
            clear hv455_0 ge455_0
            have HX455_0:=Aside0.mk hx455_0
            clear hcc455 hce455
            have HR455_0:=Aside0.mk hi455_0
            have HC455_0:=Aside0.mk hl455_0
            clear hi455_0 hl455_0
            replace p455:=eq_true p455
            replace q455:=eq_true q455
            have p456:0≤(x10_4:Int):=of_decide_eq_true za
            have q456:x10_4<(x5_5.length:Int):=of_decide_eq_true za
            obtain ⟨ad456,A456_0,c456_0,e456,hx456_0,hl456_0,hi456_0⟩:=at_L4 (Kd.S_reads' HO_5.out).2.2 x10_4 p456 q456
            obtain rfl:ad455=ad456:=(by injection e456)
            obtain ⟨ce456,hce456,hMe456,hcc456⟩:=Kd.S_get HO_5.out [] x10_4 p456 (by first|exact q456|exact of_decide_eq_true za|(have e_:=(Kd.S_reads' HO_5.out).1;omega))
            obtain ⟨ve456_0,rfl,ge456_0⟩:=hMe456
            have hv456_0:=hcc456 0 _ rfl
            rw [Nat.add_zero,show ((Kd.slice 4 Kd.bool)).sz=1 from rfl,Nat.mul_one] at hv456_0
            replace hv456_0:=Option.some.inj (hv456_0.symm.trans hx456_0)
            rw [hv456_0] at ge456_0
            have HL456_0:=Aside0.mk (show Kd.R Kd.bool 4 _ _ _ _ (rd_L4 x5_5 x10_4) from ge456_0)
            clear hv456_0 ge456_0
            have HX456_0:=Aside0.mk hx456_0
            clear hcc456 hce456
            have HR456_0:=Aside0.mk hi456_0
            have HC456_0:=Aside0.mk hl456_0
            clear hi456_0 hl456_0
            replace p456:=eq_true p456
            replace q456:=eq_true q456
            have ea_:=Option.some.inj (hx455_0.symm.trans hx456_0)
            injection ea_ with ea_ en_ ec_
            subst ea_
            subst ec_
            clear en_
            have p457:0≤(x11_5:Int):=of_decide_eq_true za
            have q457:x11_5<((rd_L4 x5_5 x10_4).length:Int):=of_decide_eq_true za
            obtain ⟨ad457,e457,hx457_0⟩:=Kd.at_bool zz52 x11_5 p457 q457
            (try rw [←Nbq39.out] at hx457_0)
            (try rw [←Nbq47.out] at hx457_0)
            cases e457
            replace p457:=eq_true p457
            replace q457:=eq_true q457
            have p461:0≤(x10_4:Int):=of_decide_eq_true za
            have q461:x10_4<(x5_5.length:Int):=of_decide_eq_true za
            obtain ⟨ad461,A461_0,c461_0,e461,hx461_0,hl461_0,hi461_0⟩:=at_L4 (Kd.S_reads' HO_5.out).2.2 x10_4 p461 q461
            obtain rfl:ad455=ad461:=(by injection e461)
            obtain ⟨ce461,hce461,hMe461,hcc461⟩:=Kd.S_get HO_5.out [] x10_4 p461 (by first|exact q461|exact of_decide_eq_true za|(have e_:=(Kd.S_reads' HO_5.out).1;omega))
            obtain ⟨ve461_0,rfl,ge461_0⟩:=hMe461
            have hv461_0:=hcc461 0 _ rfl
            rw [Nat.add_zero,show ((Kd.slice 4 Kd.bool)).sz=1 from rfl,Nat.mul_one] at hv461_0
            replace hv461_0:=Option.some.inj (hv461_0.symm.trans hx461_0)
            rw [hv461_0] at ge461_0
            have HL461_0:=Aside0.mk (show Kd.R Kd.bool 4 _ _ _ _ (rd_L4 x5_5 x10_4) from ge461_0)
            clear hv461_0 ge461_0
            have HX461_0:=Aside0.mk hx461_0
            clear hcc461 hce461
            have HR461_0:=Aside0.mk hi461_0
            have HC461_0:=Aside0.mk hl461_0
            clear hi461_0 hl461_0
            replace p461:=eq_true p461
            replace q461:=eq_true q461
            have ea_:=Option.some.inj (hx455_0.symm.trans hx461_0)
            injection ea_ with ea_ en_ ec_
            subst ea_
            subst ec_
            clear en_
            have p462:0≤(x9_3:Int):=of_decide_eq_true za
            have q462:x9_3<((rd_L4 x5_5 x10_4).length:Int):=of_decide_eq_true za
            obtain ⟨ad462,e462,hx462_0⟩:=Kd.at_bool (by repeat (first|(with_reducible exact HR461_0.out)|(with_reducible refine Kd.C_alloc ?_ _)|(with_reducible refine Kd.C_drewN ?_ _)|(with_reducible refine Kd.C_drew ?_)|exact HR461_0.out)) x9_3 p462 q462
            (try rw [←Nbq39.out] at hx462_0)
            (try rw [←Nbq47.out] at hx462_0)
            cases e462
            replace p462:=eq_true p462
            replace q462:=eq_true q462
            have p55:0≤(x11_5:Int):=of_decide_eq_true za
            have q55:(x11_5:Int)<(((rd_L4 x5_5 x10_4).length:Int):Int):=of_decide_eq_true za
            obtain ⟨go55,co55,eo55,gb55,gl55,cl55,HG55⟩:=Kd.R_form HL455_0.out (by omega)
            (first|cases eo55|(injection eo55 with ea_ en_ ec_;(first|subst ea_|(injection ea_ with ea_;subst ea_));subst ec_;clear en_))
            have GB55:=Aside0.mk gb55
            have GG55:=Aside0.mk HG55
            clear gb55 gl55 HG55
            (first|simp only [add_plain] at hx462_0|skip)
            obtain ⟨hx55_0,hf55_0⟩:=Kd.R_celln false HL455_0.out (x11_5:Int) p55 q55
            replace p55:=eq_true p55
            replace q55:=eq_true q55
            have hq57:(x10_4:Int)<(x5_5.length:Int):=(by have h_:(x10_4:Int)<((x5_5.length:Int):Int):=of_decide_eq_true za;first|exact h_|(have e_:=(Kd.S_reads' HO_5.out).1;omega)|simpa only [List.length_set,List.length_set] using h_)
            obtain ⟨oki57,ce57,hcl57,hM57,hcc57,hok57,hbk57⟩:=Kd.S_borrow HO_5.out [] (x10_4:Int) (of_decide_eq_true za) hq57
            obtain ⟨ve57_0,rfl,ge57_0⟩:=hM57
            have hv57:=hcc57 0 _ rfl
            rw [Nat.add_zero,show ((Kd.slice 4 Kd.bool)).sz=1 from rfl,Nat.mul_one] at hv57
            replace hv57:=Option.some.inj (hv57.symm.trans HX455_0.out)
            subst hv57
            clear hcc57 hcl57
            replace ge57_0:=(show Kd.R Kd.bool 4 _ _ _ _ (rd_L4 x5_5 x10_4) from ge57_0)
            have HP57:=Kd.R_putg ge57_0 (x11_5:Int) false
            rw [←Ny468.out] at HP57
            have HS57:=hbk57 HP57.2 (fun k_ e_=>by injection e_ with e_;subst e_;exact ge57_0.1 _ rfl) (x':=y468) (Kd.M_row HP57.1)
            rw [←Ny470.out] at HS57
            have HQ57:=Aside0.mk HS57
            clear HP57 HS57 hbk57 hok57
            (try rw [←Nbq39.out] at hx55_0)
            (try rw [←Nbq47.out] at hx55_0)
            (try simp only [add_plain] at hx455_0)
            (try simp only [add_plain] at hx456_0)
            (try simp only [add_plain] at hx457_0)
            (try simp only [add_plain] at hx461_0)
            (try simp only [add_plain] at hx462_0)
            (try simp only [add_plain] at hx55_0)
            replace hx455_0:wr.cell? _=_:=hx455_0
            replace hx456_0:wr.cell? _=_:=hx456_0
            replace hx457_0:wr.cell? _=_:=hx457_0
            replace hx461_0:wr.cell? _=_:=hx461_0
            replace hx462_0:wr.cell? _=_:=hx462_0
            replace hx55_0:wr.cell? _=_:=hx55_0
            replace hf55_0:wr.frozen? _=false:=hf55_0
            have HQ_:=HQ57.out
            rw [World.setCell_drew] at HQ_
            clear HQ57
            have HQ57:=Aside0.mk HQ_
            clear HQ_
            go_region
            all_goals
              try go_wp2
              (try simp only [←hl5_5])
              go_roundg k5
              case measure=>have:=HK1.out;have:=HK2.out;have:=HK3.out;have:=HK4.out;have:=HK5.out;omega
              case rel=>exact ⟨(y470),(wrap64 (x11_5 + 1)),zo,H',⟨zz25⟩,⟨by (try simp only [hl5_1]);(try simp only [hl5_2]);(try simp only [hl5_3]);(try simp only [hl5_4]);(try simp only [hl5_5]);(with_reducible repeat (first|apply Kd.S_alloc|apply Kd.S_drewN|apply Kd.S_drew));exact HQ57.out⟩,⟨by repeat (first|(with_reducible first|exact HBo.out|exact HB.out|apply below_alloc|apply pw_below_drewN|apply below_drew1|refine below_set ?_ GB55.out)|exact HBo.out|exact HB.out)⟩⟩
           subst c48
           rw [if_pos rfl] at H
           by_cases c49:x9_3<(x5_5.length:Int)
           rotate_left
           ·rw [if_neg c49] at H
            exact absurd H (by simp)
           rw [if_pos c49] at H
           have c49b0:=decide_eq_true c49
           clear c49
           by_cases c50:x11_5<((rd_L4 x5_5 x9_3).length:Int)
           rotate_left
           ·rw [if_neg c50] at H
            exact absurd H (by simp)
           rw [if_pos c50] at H
           have c50b0:=decide_eq_true c50
           clear c50
           obtain ⟨y465,hy465⟩:∃ y_:List Bool,y_=((rd_L4 x5_5 x10_4).set (x11_5:Int).toNat (rdOf false (rd_L4 x5_5 x9_3) x11_5)):=⟨_,rfl⟩
           replace H:(impl_closure.l4 k5 a0 (x5_5.set (x10_4:Int).toNat y465) x9_3 x10_4 (wrap64 (x11_5 + 1)))=some r:=by first|(rw [hy465];with_reducible exact H)|(have H2_:=(Option.bind_some _ _).symm.trans H;rw [hy465];with_reducible exact H2_)|(have H2_:=(Option.bind_some _ _).symm.trans H;with_reducible exact H2_)|with_reducible exact H|(rw [hy465];exact H)|exact H
           have Ny465:=Aside0.mk hy465
           clear hy465
           obtain ⟨y467,hy467⟩:∃ y_:List (List Bool),y_=(x5_5.set (x10_4:Int).toNat y465):=⟨_,rfl⟩
           replace H:(impl_closure.l4 k5 a0 y467 x9_3 x10_4 (wrap64 (x11_5 + 1)))=some r:=by first|(rw [hy467];with_reducible exact H)|(have H2_:=(Option.bind_some _ _).symm.trans H;rw [hy467];with_reducible exact H2_)|(have H2_:=(Option.bind_some _ _).symm.trans H;with_reducible exact H2_)|with_reducible exact H|(rw [hy467];exact H)|exact H
           have Ny467:=Aside0.mk hy467
           clear hy467
           have H':=Aside0.mk H
           clear H
           try go_wp2
           have n0_:=Aside0.mk (Kd.S_drew HO_5.out)
           have HBo:=Aside0.mk HB.out
           have n1_:=Aside0.mk (below_drew1 HB.out)
           clear HO_5
           clear HB
           have HO_5:=n0_
           have HB:=n1_
           clear n0_ n1_
           have p455:0≤(x10_4:Int):=of_decide_eq_true za
           have q455:x10_4<(x5_5.length:Int):=of_decide_eq_true za
           obtain ⟨ad455,A455_0,c455_0,e455,hx455_0,hl455_0,hi455_0⟩:=at_L4 (Kd.S_reads' HO_5.out).2.2 x10_4 p455 q455
           cases e455
           obtain ⟨ce455,hce455,hMe455,hcc455⟩:=Kd.S_get HO_5.out [] x10_4 p455 (by first|exact q455|exact of_decide_eq_true za|(have e_:=(Kd.S_reads' HO_5.out).1;omega))
           obtain ⟨ve455_0,rfl,ge455_0⟩:=hMe455
           have hv455_0:=hcc455 0 _ rfl
           rw [Nat.add_zero,show ((Kd.slice 4 Kd.bool)).sz=1 from rfl,Nat.mul_one] at hv455_0
           replace hv455_0:=Option.some.inj (hv455_0.symm.trans hx455_0)
           rw [hv455_0] at ge455_0
           have HL455_0:=Aside0.mk (show Kd.R Kd.bool 4 _ _ _ _ (rd_L4 x5_5 x10_4) from ge455_0)
           clear hv455_0 ge455_0
           have HX455_0:=Aside0.mk hx455_0
           clear hcc455 hce455
           have HR455_0:=Aside0.mk hi455_0
           have HC455_0:=Aside0.mk hl455_0
           clear hi455_0 hl455_0
           replace p455:=eq_true p455
           replace q455:=eq_true q455
           have p456:0≤(x10_4:Int):=of_decide_eq_true za
           have q456:x10_4<(x5_5.length:Int):=of_decide_eq_true za
           obtain ⟨ad456,A456_0,c456_0,e456,hx456_0,hl456_0,hi456_0⟩:=at_L4 (Kd.S_reads' HO_5.out).2.2 x10_4 p456 q456
           obtain rfl:ad455=ad456:=(by injection e456)
           obtain ⟨ce456,hce456,hMe456,hcc456⟩:=Kd.S_get HO_5.out [] x10_4 p456 (by first|exact q456|exact of_decide_eq_true za|(have e_:=(Kd.S_reads' HO_5.out).1;omega))
           obtain ⟨ve456_0,rfl,ge456_0⟩:=hMe456
           have hv456_0:=hcc456 0 _ rfl
           rw [Nat.add_zero,show ((Kd.slice 4 Kd.bool)).sz=1 from rfl,Nat.mul_one] at hv456_0
           replace hv456_0:=Option.some.inj (hv456_0.symm.trans hx456_0)
           rw [hv456_0] at ge456_0
           have HL456_0:=Aside0.mk (show Kd.R Kd.bool 4 _ _ _ _ (rd_L4 x5_5 x10_4) from ge456_0)
           clear hv456_0 ge456_0
           have HX456_0:=Aside0.mk hx456_0
           clear hcc456 hce456
           have HR456_0:=Aside0.mk hi456_0
           have HC456_0:=Aside0.mk hl456_0
           clear hi456_0 hl456_0
           replace p456:=eq_true p456
           replace q456:=eq_true q456
           have ea_:=Option.some.inj (hx455_0.symm.trans hx456_0)
           injection ea_ with ea_ en_ ec_
           subst ea_
           subst ec_
           clear en_
           have p457:0≤(x11_5:Int):=of_decide_eq_true za
           have q457:x11_5<((rd_L4 x5_5 x10_4).length:Int):=of_decide_eq_true za
           obtain ⟨ad457,e457,hx457_0⟩:=Kd.at_bool zz52 x11_5 p457 q457
           (try rw [←Nbq39.out] at hx457_0)
           (try rw [←Nbq47.out] at hx457_0)
           cases e457
           replace p457:=eq_true p457
           replace q457:=eq_true q457
           have p461:0≤(x10_4:Int):=of_decide_eq_true za
           have q461:x10_4<(x5_5.length:Int):=of_decide_eq_true za
           obtain ⟨ad461,A461_0,c461_0,e461,hx461_0,hl461_0,hi461_0⟩:=at_L4 (Kd.S_reads' HO_5.out).2.2 x10_4 p461 q461
           obtain rfl:ad455=ad461:=(by injection e461)
           obtain ⟨ce461,hce461,hMe461,hcc461⟩:=Kd.S_get HO_5.out [] x10_4 p461 (by first|exact q461|exact of_decide_eq_true za|(have e_:=(Kd.S_reads' HO_5.out).1;omega))
           obtain ⟨ve461_0,rfl,ge461_0⟩:=hMe461
           have hv461_0:=hcc461 0 _ rfl
           rw [Nat.add_zero,show ((Kd.slice 4 Kd.bool)).sz=1 from rfl,Nat.mul_one] at hv461_0
           replace hv461_0:=Option.some.inj (hv461_0.symm.trans hx461_0)
           rw [hv461_0] at ge461_0
           have HL461_0:=Aside0.mk (show Kd.R Kd.bool 4 _ _ _ _ (rd_L4 x5_5 x10_4) from ge461_0)
           clear hv461_0 ge461_0
           have HX461_0:=Aside0.mk hx461_0
           clear hcc461 hce461
           have HR461_0:=Aside0.mk hi461_0
           have HC461_0:=Aside0.mk hl461_0
           clear hi461_0 hl461_0
           replace p461:=eq_true p461
           replace q461:=eq_true q461
           have ea_:=Option.some.inj (hx455_0.symm.trans hx461_0)
           injection ea_ with ea_ en_ ec_
           subst ea_
           subst ec_
           clear en_
           have p462:0≤(x9_3:Int):=of_decide_eq_true za
           have q462:x9_3<((rd_L4 x5_5 x10_4).length:Int):=of_decide_eq_true za
           obtain ⟨ad462,e462,hx462_0⟩:=Kd.at_bool (by repeat (first|(with_reducible exact HR461_0.out)|(with_reducible refine Kd.C_alloc ?_ _)|(with_reducible refine Kd.C_drewN ?_ _)|(with_reducible refine Kd.C_drew ?_)|exact HR461_0.out)) x9_3 p462 q462
           (try rw [←Nbq39.out] at hx462_0)
           (try rw [←Nbq47.out] at hx462_0)
           cases e462
           replace p462:=eq_true p462
           replace q462:=eq_true q462
           have p463:0≤(x9_3:Int):=of_decide_eq_true za
           have q463:x9_3<(x5_5.length:Int):=of_decide_eq_true za
           obtain ⟨ad463,A463_0,c463_0,e463,hx463_0,hl463_0,hi463_0⟩:=at_L4 (Kd.S_reads' HO_5.out).2.2 x9_3 p463 q463
           obtain rfl:ad455=ad463:=(by injection e463)
           obtain ⟨ce463,hce463,hMe463,hcc463⟩:=Kd.S_get HO_5.out [] x9_3 p463 (by first|exact q463|exact of_decide_eq_true za|(have e_:=(Kd.S_reads' HO_5.out).1;omega))
           obtain ⟨ve463_0,rfl,ge463_0⟩:=hMe463
           have hv463_0:=hcc463 0 _ rfl
           rw [Nat.add_zero,show ((Kd.slice 4 Kd.bool)).sz=1 from rfl,Nat.mul_one] at hv463_0
           replace hv463_0:=Option.some.inj (hv463_0.symm.trans hx463_0)
           rw [hv463_0] at ge463_0
           have HL463_0:=Aside0.mk (show Kd.R Kd.bool 4 _ _ _ _ (rd_L4 x5_5 x9_3) from ge463_0)
           clear hv463_0 ge463_0
           have HX463_0:=Aside0.mk hx463_0
           clear hcc463 hce463
           have HR463_0:=Aside0.mk hi463_0
           have HC463_0:=Aside0.mk hl463_0
           clear hi463_0 hl463_0
           replace p463:=eq_true p463
           replace q463:=eq_true q463
           have p464:0≤(x11_5:Int):=of_decide_eq_true za
           have q464:x11_5<((rd_L4 x5_5 x9_3).length:Int):=of_decide_eq_true za
           obtain ⟨ad464,e464,hx464_0⟩:=Kd.at_bool (by repeat (first|(with_reducible exact HR463_0.out)|(with_reducible refine Kd.C_alloc ?_ _)|(with_reducible refine Kd.C_drewN ?_ _)|(with_reducible refine Kd.C_drew ?_)|exact HR463_0.out)) x11_5 p464 q464
           (try rw [←Nbq39.out] at hx464_0)
           (try rw [←Nbq47.out] at hx464_0)
           cases e464
           replace p464:=eq_true p464
           replace q464:=eq_true q464
           have p51:0≤(x11_5:Int):=of_decide_eq_true za
           have q51:(x11_5:Int)<(((rd_L4 x5_5 x10_4).length:Int):Int):=of_decide_eq_true za
           obtain ⟨go51,co51,eo51,gb51,gl51,cl51,HG51⟩:=Kd.R_form HL455_0.out (by omega)
           (first|cases eo51|(injection eo51 with ea_ en_ ec_;(first|subst ea_|(injection ea_ with ea_;subst ea_));subst ec_;clear en_))
           have GB51:=Aside0.mk gb51
           have GG51:=Aside0.mk HG51
           clear gb51 gl51 HG51
           (first|simp only [add_plain] at hx462_0|skip)
           obtain ⟨hx51_0,hf51_0⟩:=Kd.R_celln false HL455_0.out (x11_5:Int) p51 q51
           replace p51:=eq_true p51
           replace q51:=eq_true q51
           have hq53:(x10_4:Int)<(x5_5.length:Int):=(by have h_:(x10_4:Int)<((x5_5.length:Int):Int):=of_decide_eq_true za;first|exact h_|(have e_:=(Kd.S_reads' HO_5.out).1;omega)|simpa only [List.length_set,List.length_set] using h_)
           obtain ⟨oki53,ce53,hcl53,hM53,hcc53,hok53,hbk53⟩:=Kd.S_borrow HO_5.out [] (x10_4:Int) (of_decide_eq_true za) hq53
           obtain ⟨ve53_0,rfl,ge53_0⟩:=hM53
           have hv53:=hcc53 0 _ rfl
           rw [Nat.add_zero,show ((Kd.slice 4 Kd.bool)).sz=1 from rfl,Nat.mul_one] at hv53
           replace hv53:=Option.some.inj (hv53.symm.trans HX455_0.out)
           subst hv53
           clear hcc53 hcl53
           replace ge53_0:=(show Kd.R Kd.bool 4 _ _ _ _ (rd_L4 x5_5 x10_4) from ge53_0)
           have HP53:=Kd.R_putg ge53_0 (x11_5:Int) (rdOf false (rd_L4 x5_5 x9_3) x11_5)
           rw [←Ny465.out] at HP53
           have HS53:=hbk53 HP53.2 (fun k_ e_=>by injection e_ with e_;subst e_;exact ge53_0.1 _ rfl) (x':=y465) (Kd.M_row HP53.1)
           rw [←Ny467.out] at HS53
           have HQ53:=Aside0.mk HS53
           clear HP53 HS53 hbk53 hok53
           (try rw [←Nbq39.out] at hx51_0)
           (try rw [←Nbq47.out] at hx51_0)
           (try simp only [add_plain] at hx455_0)
           (try simp only [add_plain] at hx456_0)
           (try simp only [add_plain] at hx457_0)
           (try simp only [add_plain] at hx461_0)
           (try simp only [add_plain] at hx462_0)
           (try simp only [add_plain] at hx463_0)
           (try simp only [add_plain] at hx464_0)
           (try simp only [add_plain] at hx51_0)
           replace hx455_0:wr.cell? _=_:=hx455_0
           replace hx456_0:wr.cell? _=_:=hx456_0
           replace hx457_0:wr.cell? _=_:=hx457_0
           replace hx461_0:wr.cell? _=_:=hx461_0
           replace hx462_0:wr.cell? _=_:=hx462_0
           replace hx463_0:wr.cell? _=_:=hx463_0
           replace hx464_0:wr.cell? _=_:=hx464_0
           replace hx51_0:wr.cell? _=_:=hx51_0
           replace hf51_0:wr.frozen? _=false:=hf51_0
           have HQ_:=HQ53.out
           rw [World.setCell_drew] at HQ_
           clear HQ53
           have HQ53:=Aside0.mk HQ_
           clear HQ_
           go_region
           all_goals
             try go_wp2
             (try simp only [←hl5_5])
             go_roundg k5
             case measure=>have:=HK1.out;have:=HK2.out;have:=HK3.out;have:=HK4.out;have:=HK5.out;omega
             case rel=>exact ⟨(y467),(wrap64 (x11_5 + 1)),zo,H',⟨zz25⟩,⟨by (try simp only [hl5_1]);(try simp only [hl5_2]);(try simp only [hl5_3]);(try simp only [hl5_4]);(try simp only [hl5_5]);(with_reducible repeat (first|apply Kd.S_alloc|apply Kd.S_drewN|apply Kd.S_drew));exact HQ53.out⟩,⟨by repeat (first|(with_reducible first|exact HBo.out|exact HB.out|apply below_alloc|apply pw_below_drewN|apply below_drew1|refine below_set ?_ GB51.out)|exact HBo.out|exact HB.out)⟩⟩

end Go.Proofs.Ytbcfmegepkhlpaa.XFnShared
-- minified
