-- Written by a program of this session (the kit's print, widened). Proved here: what each function answers, for the arguments that its contract names.
import Derived.Test.YtkcfmaiknmfokaaXFnTiesx0
import Derived.Test.YtkcfmaiknmfokaaXFnTiesx11
import Derived.Test.YtkcfmaiknmfokaaXFnTiesx12
namespace Go.Proofs.Ytkcfmaiknmfokaa.XFnTies
open Go.RowKit Go.Proofs.YtkcfmaiknmfokaaW.PrintWords Go.Proofs.YtkcfmaiknmfokaaW.PrintLast Go.Proofs.YtkcfmaiknmfokaaW.PrintMore
attribute [local go_sem] max2_int min2_int max_two min_two max_three min_three max_four min_four   -- for this text's walks alone
attribute [local go_sem] fldS_52_0 fldS_52_1 fldS_52_2
set_option linter.unusedVariables false
set_option linter.unusedSimpArgs false

/-! ### spec_l3Order: function 32 -/
mutual
def spec_l3Order.l0:Nat→List (S44)→Int→List Int→Int→Option (List Int)
 | 0,_,_,_,_=>none
 | k + 1,x0,x1,x5,x6=>if x6<(x0.length:Int) then (spec_l3Order.l1 k x0 x1 x5 x6 0) else (some x5)
def spec_l3Order.l1:Nat→List (S44)→Int→List Int→Int→Int→Option (List Int)
 | 0,_,_,_,_,_=>none
 | k + 1,x0,x1,x5,x6,x7=>if x7<(x5.length:Int) then (if 0≤x7 then ((spec_l3Gap.f x0 x1 (rd x5 x7) x6).bind fun t346=>(if t346≤0 then (spec_l3Order.l1 k x0 x1 x5 x6 (wrap64 (x7 + 1))) else (if x7≤(x5.length:Int) then ((spec_l1Own.f (x5.take (x7:Int).toNat)).bind fun t351=>((some (([x6]:List Int):List Int)).bind fun y354=>(if t351.length + y354.length<17592186044416 then ((some (t351++y354:List Int)).bind fun y357=>((some (x5.drop (x7:Int).toNat:List Int)).bind fun y360=>(if y357.length + y360.length<17592186044416 then (spec_l3Order.l0 k x0 x1 (y357++y360) (wrap64 (x6 + 1))) else (none)))) else (none)))) else (none)))) else (none)) else (if 0≤x7 then (if x7≤(x5.length:Int) then ((spec_l1Own.f (x5.take (x7:Int).toNat)).bind fun t371=>((some (([x6]:List Int):List Int)).bind fun y374=>(if t371.length + y374.length<17592186044416 then ((some (t371++y374:List Int)).bind fun y377=>((some (x5.drop (x7:Int).toNat:List Int)).bind fun y380=>(if y377.length + y380.length<17592186044416 then (spec_l3Order.l0 k x0 x1 (y377++y380) (wrap64 (x6 + 1))) else (none)))) else (none)))) else (none)) else (none))
end
def spec_l3Order.f (k:Nat) (l0:List (S44)) (a1:Int):Option (List Int):=spec_l3Order.l0 k l0 a1 (([]:List Int)) 0
theorem spec_l3Order.mono_l:∀ k,(∀ y0 y1 y2 y3,LeO (spec_l3Order.l0 k y0 y1 y2 y3) (spec_l3Order.l0 (k + 1) y0 y1 y2 y3))∧(∀ y0 y1 y2 y3 y4,LeO (spec_l3Order.l1 k y0 y1 y2 y3 y4) (spec_l3Order.l1 (k + 1) y0 y1 y2 y3 y4))
 | 0=>⟨fun _ _ _ _ r h=>by simp [spec_l3Order.l0] at h,fun _ _ _ _ _ r h=>by simp [spec_l3Order.l1] at h⟩
 | k + 1=>by
  obtain ⟨ih0,ih1⟩:=spec_l3Order.mono_l k
  refine ⟨?_,?_⟩ <;> intros <;> first|unfold spec_l3Order.l0|unfold spec_l3Order.l1
  all_goals repeat' first|(with_reducible first|apply ih0|apply ih1|exact LeO.refl _|exact LeO.none _|refine LeO.ite ?_ ?_|refine LeO.bind ?_ (fun _=>?_))|apply ih0|apply ih1|exact LeO.none _|refine LeO.ite ?_ ?_|refine LeO.bind ?_ (fun _=>?_)
theorem spec_l3Order.mono:∀ a0 a1 k,LeO (spec_l3Order.f k a0 a1) (spec_l3Order.f (k + 1) a0 a1):=by
 intro a0 a1 k
 obtain ⟨ih0,ih1⟩:=spec_l3Order.mono_l k
 unfold spec_l3Order.f
 repeat' first|(with_reducible first|apply ih0|apply ih1|exact LeO.refl _|exact LeO.none _|refine LeO.ite ?_ ?_|refine LeO.bind ?_ (fun _=>?_))|apply ih0|apply ih1|exact LeO.none _|refine LeO.ite ?_ ?_|refine LeO.bind ?_ (fun _=>?_)
def spec_l3Order.T8:Bool × List (List Nat × List Nat):=(true,[([],[]),([],[]),([0,1],[0,1]),([2],[2]),([],[]),([4],[4]),([3,5,3],[3,5]),([],[]),([],[]),([7,8],[7,8]),([6,9,6],[6,9]),([10,10,0,1,2,3,4,5,6,7,8,9,10],[0,7,10])])
def spec_l3Order.B8:List Nat:=[0,0,3,7,0,16,63,0,0,384,1023,2047]
theorem spec_l3Order.tab8:rtab .any (opsOf Try.f32 8)=spec_l3Order.T8:=by kernel_rfl
theorem spec_l3Order.bits8:waitsOk spec_l3Order.T8.2 spec_l3Order.B8=true:=by kernel_rfl
set_option maxHeartbeats 8000000 in
set_option maxRecDepth 100000 in
theorem spec_l3Order.calls (k:Nat) (A0:Option Addr) (c0:Nat) (l0:List (S44)) (a1:Int) (r:List Int) (w:World) (hr0:Kd.C k44 w A0 l0.length l0) (hc0:l0.length≤c0) (h:spec_l3Order.f k l0 a1=some r) :
  Calls Try.prog 32 #[.slice A0 l0.length c0,.int .i64 a1] w fun e w'=>∃ v0_:Value,e=.returned (v0_)∧Kd.R (Kd.int .i64) 3 w' w.heap.size (fun _=>True) v0_ r∧Below w.heap.size w w':=by
 have HR0:=Aside0.mk hr0
 have HC0:=Aside0.mk hc0
 clear hr0 hc0
 have HB:=Aside0.mk (Below.refl w.heap.size w)
 have H:(spec_l3Order.l0 k l0 a1 (([]:List Int)) 0)=some r:=h
 clear h
 obtain ⟨y342,hy342⟩:∃ y_:List Int,y_=(([]:List Int)):=⟨_,rfl⟩
 replace H:(spec_l3Order.l0 k l0 a1 y342 0)=some r:=by first|(rw [hy342];with_reducible exact H)|(have H2_:=(Option.bind_some _ _).symm.trans H;rw [hy342];with_reducible exact H2_)|(have H2_:=(Option.bind_some _ _).symm.trans H;with_reducible exact H2_)|with_reducible exact H|(rw [hy342];exact H)|exact H
 have Ny342:=Aside0.mk hy342
 clear hy342
 have H':=Aside0.mk H
 clear H
 go_enter Try.func32,Try.ntmps32
 go_wp2_with (first|((with_reducible refine gate_dst (N:=8) rfl ?_);refine Kd.R_lit (Kd.int .i64) _ 3 ?hg (N:=8) ?hd (xs:=([]:List Int)) (inner:=[]) (ok:=fun _=>True) (okp:=fun _=>True) ?hr ?hp (fun _ hk=>hk) trivial (Below.refl _ _) (Nat.le_refl _) (by simp) ?_;(case hd=>rfl);(case hg=>rfl);(case hr=>first|(go_simp;done)|(go_simp;rfl));(case hp=>exact (Reps.none _ _));intro v343 w3 ho4 hb hg_ hnew_;clear hg_ hnew_;(first|rw [←Ny342.out] at ho4|(simp only [Int.reduceToNat] at ho4;rw [←Ny342.out] at ho4));have HO344:=Aside0.mk (Kd.R_lower ho4 (below_size zb));replace HB:=zb1 hb;clear hb ho4))
 go_loopg [5,6] k (fun kq v5 v6 w'=>∃ (x5_1:List Int) (x6_1:Int),v6=.int .i64 x6_1∧Aside0 (spec_l3Order.l0 kq l0 a1 x5_1 x6_1=some r)∧Aside0 (kq≤k)∧Aside0 (Kd.R (Kd.int .i64) 3 w' w.heap.size (fun _=>True) v5 x5_1)∧Aside0 (Below w.heap.size w w'))
 case atStart=>exact ⟨(y342),(0),zo,H',⟨Nat.le_refl _⟩,⟨zR HO344.out⟩,⟨zb⟩⟩
 case round=>
  clear H'
  obtain ⟨x5_1,x6_1,rfl,HA,HK1,HO_5,HB⟩:=hrel
  cases gk with
  | zero=>exact absurd HA.out (by simp [spec_l3Order.l0])
  | succ k1=>
   have H:=HA.out
   clear HA
   simp only [spec_l3Order.l0] at H
   by_cases c5:x6_1<(l0.length:Int)
   rotate_left
   ·rw [if_neg c5] at H
    have c5b0:=decide_eq_false c5
    clear c5
    obtain rfl:=Option.some.inj H
    go_wp2
    go_ret
    exact ⟨_,zz1,zR HO_5.out,zb⟩
   rw [if_pos c5] at H
   have c5b0:=decide_eq_true c5
   clear c5
   have H':=Aside0.mk H
   clear H
   go_wp2
   go_loopg [7] k1 (fun kq v7 w'=>∃ (x7_2:Int),v7=.int .i64 x7_2∧Aside0 (spec_l3Order.l1 kq l0 a1 x5_1 x6_1 x7_2=some r)∧Aside0 (kq≤k1)∧Aside0 (Kd.R (Kd.int .i64) 3 w' w.heap.size (fun _=>True) u5 x5_1)∧Aside0 (Below w.heap.size w w'))
   case atStart=>exact ⟨(0),zo,H',⟨Nat.le_refl _⟩,⟨zR HO_5.out⟩,⟨zb⟩⟩
   case round=>
    clear H'
    obtain ⟨x7_2,rfl,HA,HK2,HO_5,HB⟩:=hrel
    cases gk with
    | zero=>exact absurd HA.out (by simp [spec_l3Order.l1])
    | succ k2=>
     have H:=HA.out
     clear HA
     simp only [spec_l3Order.l1] at H
     by_cases c6:x7_2<(x5_1.length:Int)
     rotate_left
     ·rw [if_neg c6] at H
      have c6b0:=decide_eq_false c6
      clear c6
      by_cases c31:0≤x7_2
      rotate_left
      ·rw [if_neg c31] at H
       exact absurd H (by simp)
      rw [if_pos c31] at H
      have c31b0:=eq_true c31
      have c31b1:=decide_eq_true c31
      clear c31
      by_cases c32:x7_2≤(x5_1.length:Int)
      rotate_left
      ·rw [if_neg c32] at H
       exact absurd H (by simp)
      rw [if_pos c32] at H
      have c32b0:=eq_true c32
      have c32b1:=decide_eq_true c32
      clear c32
      obtain ⟨y367,hy367⟩:∃ y_:List Int,y_=(x5_1.take (x7_2:Int).toNat):=⟨_,rfl⟩
      replace H:((spec_l1Own.f y367).bind fun t371=>((some (([x6_1]:List Int):List Int)).bind fun y374=>(if t371.length + y374.length<17592186044416 then ((some (t371++y374:List Int)).bind fun y377=>((some (x5_1.drop (x7_2:Int).toNat:List Int)).bind fun y380=>(if y377.length + y380.length<17592186044416 then (spec_l3Order.l0 k2 l0 a1 (y377++y380) (wrap64 (x6_1 + 1))) else (none)))) else (none))))=some r:=by first|(rw [hy367];with_reducible exact H)|(have H2_:=(Option.bind_some _ _).symm.trans H;rw [hy367];with_reducible exact H2_)|(have H2_:=(Option.bind_some _ _).symm.trans H;with_reducible exact H2_)|with_reducible exact H|(rw [hy367];exact H)|exact H
      have Ny367:=Aside0.mk hy367
      clear hy367
      replace H:=Option.bind_eq_some_iff.mp H
      obtain ⟨t371,A330,H⟩:=H
      try dsimp only at H
      have A33:=Aside0.mk A330
      clear A330
      obtain ⟨y374,hy374⟩:∃ y_:List Int,y_=(([x6_1]:List Int)):=⟨_,rfl⟩
      replace H:(if t371.length + y374.length<17592186044416 then ((some (t371++y374:List Int)).bind fun y377=>((some (x5_1.drop (x7_2:Int).toNat:List Int)).bind fun y380=>(if y377.length + y380.length<17592186044416 then (spec_l3Order.l0 k2 l0 a1 (y377++y380) (wrap64 (x6_1 + 1))) else (none)))) else (none))=some r:=by first|(rw [hy374];with_reducible exact H)|(have H2_:=(Option.bind_some _ _).symm.trans H;rw [hy374];with_reducible exact H2_)|(have H2_:=(Option.bind_some _ _).symm.trans H;with_reducible exact H2_)|with_reducible exact H|(rw [hy374];exact H)|exact H
      have Ny374:=Aside0.mk hy374
      clear hy374
      by_cases c34:t371.length + y374.length<17592186044416
      rotate_left
      ·rw [if_neg c34] at H
       exact absurd H (by simp)
      rw [if_pos c34] at H
      have LMc34:=Aside0.mk c34
      clear c34
      obtain ⟨y377,hy377⟩:∃ y_:List Int,y_=(t371++y374):=⟨_,rfl⟩
      replace H:((some (x5_1.drop (x7_2:Int).toNat:List Int)).bind fun y380=>(if y377.length + y380.length<17592186044416 then (spec_l3Order.l0 k2 l0 a1 (y377++y380) (wrap64 (x6_1 + 1))) else (none)))=some r:=by first|(rw [hy377];with_reducible exact H)|(have H2_:=(Option.bind_some _ _).symm.trans H;rw [hy377];with_reducible exact H2_)|(have H2_:=(Option.bind_some _ _).symm.trans H;with_reducible exact H2_)|with_reducible exact H|(rw [hy377];exact H)|exact H
      have Ny377:=Aside0.mk hy377
      clear hy377
      have c35b0:=eq_true (of_decide_eq_true za:0≤x7_2)
      have c36b0:=eq_true (of_decide_eq_true za:x7_2≤(x5_1.length:Int))
      obtain ⟨y380,hy380⟩:∃ y_:List Int,y_=(x5_1.drop (x7_2:Int).toNat):=⟨_,rfl⟩
      replace H:(if y377.length + y380.length<17592186044416 then (spec_l3Order.l0 k2 l0 a1 (y377++y380) (wrap64 (x6_1 + 1))) else (none))=some r:=by first|(rw [hy380];with_reducible exact H)|(have H2_:=(Option.bind_some _ _).symm.trans H;rw [hy380];with_reducible exact H2_)|(have H2_:=(Option.bind_some _ _).symm.trans H;with_reducible exact H2_)|with_reducible exact H|(rw [hy380];exact H)|exact H
      have Ny380:=Aside0.mk hy380
      clear hy380
      by_cases c37:y377.length + y380.length<17592186044416
      rotate_left
      ·rw [if_neg c37] at H
       exact absurd H (by simp)
      rw [if_pos c37] at H
      have LMc37:=Aside0.mk c37
      clear c37
      obtain ⟨y384,hy384⟩:∃ y_:List Int,y_=(y377++y380):=⟨_,rfl⟩
      replace H:(spec_l3Order.l0 k2 l0 a1 y384 (wrap64 (x6_1 + 1)))=some r:=by first|(rw [hy384];with_reducible exact H)|(have H2_:=(Option.bind_some _ _).symm.trans H;rw [hy384];with_reducible exact H2_)|(have H2_:=(Option.bind_some _ _).symm.trans H;with_reducible exact H2_)|with_reducible exact H|(rw [hy384];exact H)|exact H
      have Ny384:=Aside0.mk hy384
      clear hy384
      have H':=Aside0.mk H
      clear H
      obtain ⟨Ao38,co38,eo38⟩:=Kd.R_slice HO_5.out
      subst eo38
      try go_wp2
      replace HO_5:=Aside0.mk (Kd.R_drew HO_5.out)
      replace HB:=Aside0.mk (below_drew1 HB.out)
      have q40:(x7_2:Int)≤((x5_1.length:Int):Int):=of_decide_eq_true za
      obtain ⟨i040,hi040,_,hsz40,_⟩:=info_parts info3
      have hroom40:x5_1.length≤co38:=(Kd.R_reads' HO_5.out).2.1
      have hC40:Kd.C (Kd.int .i64) _ Ao38 x5_1.length x5_1:=(Kd.R_reads' HO_5.out).2.2
      have hcut40:=cut_to (P:=Try.prog) 33 3 .i64 Try.underlying33 hi040 Ao38 x5_1.length co38 x7_2 (of_decide_eq_true za) q40 hroom40
      have hr40:=Kd.C_take (m:=(x7_2:Int).toNat) hC40 (by omega)
      have hy40:y367.length=(x7_2:Int).toNat:=(by rw [Ny367.out,List.length_take];omega)
      rw [←Ny367.out] at hr40
      rw [←hy40] at hcut40
      have HR370:=Aside0.mk hr40
      have HC370:=Aside0.mk (show y367.length≤co38 from by omega)
      clear hr40 hC40 hroom40 hi040 hsz40
      have KY40:=Aside0.mk hy40
      clear hy40
      have KL40:=Aside0.mk (show (x7_2:Int).toNat≤x5_1.length from by omega)
      replace q40:=eq_true q40
      have q41:(x7_2:Int)≤((x5_1.length:Int):Int):=of_decide_eq_true za
      obtain ⟨i041,hi041,_,hsz41,_⟩:=info_parts info3
      have hroom41:x5_1.length≤co38:=(Kd.R_reads' HO_5.out).2.1
      have hC41:Kd.C (Kd.int .i64) _ Ao38 x5_1.length x5_1:=(Kd.R_reads' HO_5.out).2.2
      have q041:(0:Int)≤(x7_2:Int):=of_decide_eq_true za
      have hcut41:=cut_from (P:=Try.prog) 33 3 .i64 Try.underlying33 hi041 1 hsz41 Ao38 x5_1.length co38 x7_2 q041 q41
      have hr41:=Kd.C_drop (m:=(x7_2:Int).toNat) (c:=co38) hC41 (by omega) hroom41
      obtain ⟨A41,hA41⟩:∃ Az_,Az_=(if co38=(x7_2:Int).toNat then Ao38 else (Ao38:Option Addr).map (·.add ((x7_2:Int).toNat * 1))):=⟨_,rfl⟩
      obtain ⟨c41,hc41⟩:∃ cz_,cz_=co38 - (x7_2:Int).toNat:=⟨_,rfl⟩
      have hy41:y380.length=x5_1.length - (x7_2:Int).toNat:=(by rw [Ny380.out,List.length_drop] <;> omega)
      rw [show (x5_1).drop (x7_2:Int).toNat=y380 from Ny380.out.symm] at hr41
      replace hr41:Kd.C (Kd.int .i64) _ A41 y380.length y380:=(by rw [hA41];exact hr41)
      rw [←hy41,←hA41,←hc41] at hcut41
      have HR383:=Aside0.mk hr41
      have HC383:=Aside0.mk (show y380.length≤c41 from by rw [hy41,hc41];exact Nat.sub_le_sub_right hroom41 _)
      clear hr41 hC41 hroom41 hi041 hsz41 hc41
      have KY41:=Aside0.mk hy41
      have KA41:=Aside0.mk hA41
      clear hy41 hA41
      have KL41:=Aside0.mk (show (x7_2:Int).toNat≤x5_1.length from by omega)
      replace q41:=eq_true q41
      refine start_ (n:=12) (S:=fun w'=>True) (ds:=[]) #[false,false,false,false,false,false,false,false,false,false,false,false] (by kernel_rfl) rfl rfl trivial (fun hHeld=>?_);refine with_tabW spec_l3Order.tab8 spec_l3Order.bits8 (fun HT_ HW_=>?_)
      generalize wr.drew=w39 at HO_5 HB HR370 HR383 hHeld ⊢
      refine pu_ 0 32 ?_
      refine pu_ 1 33 ?_
      refine pu_ 2 34 ?_
      refine pu_ 4 36 ?_
      refine pu_ 7 39 ?_
      refine pu_ 8 40 ?_
      refine pu_ 9 41 ?_
      refine join_ (σ:=Value × Value) 3 #[true,true,true,true,true,true,false,true,true,true,false,false] (fun s_=>[(35,s_.1),(37,s_.2)]) (fun s_ w'=>(Kd.R (Kd.int .i64) 3 w' w.heap.size (fun k_=>some k_≠(s_.2:Value).ownBlock∧some k_≠(.slice Ao38 x5_1.length co38:Value).ownBlock) s_.1 t371)∧(Kd.R (Kd.int .i64) 3 w' w.heap.size (fun k_=>some k_≠(s_.1:Value).ownBlock∧some k_≠(.slice Ao38 x5_1.length co38:Value).ownBlock) s_.2 y374)∧(Kd.R (Kd.int .i64) 3 w' w.heap.size (fun k_=>some k_≠(s_.1:Value).ownBlock∧some k_≠(s_.2:Value).ownBlock) (.slice Ao38 x5_1.length co38) x5_1)∧(Below w.heap.size w w')) ?_ ?_
      rotate_left
      ·intro hCont
       refine two_ (i:=3) (j:=5) (Ni:=some 35) (Nj:=some 37) #[true,true,true,true,true,false,false,true,true,true,false,false] #[true,true,true,false,true,true,false,true,true,true,false,false] rfl rfl rfl rfl (two_of HT_.out (by kernel_rfl)) (by decide) (by decide) (fun K hK=>?_) (fun K hK=>?_)
       ·skip
        refine goes_ Try.func48 (by kernel_rfl) rfl #[.slice Ao38 y367.length co38] (by rfl) rfl rfl zl ?_
        with_reducible refine (spec_l1Own.calls _ _ y367 t371 _ ?side1 ?side2 A33.out).mono ?_
        (case side1=>exact zz62)
        (case side2=>exact HC370.out)
        rintro e w42 ⟨v372,rfl,ho0,hb⟩
        refine ⟨_,rfl,?_⟩
        have n0_:=Aside0.mk (Kd.R_elder' (zR HO_5.out) (Kd.R_base ho0) hb)
        have n1_:=Aside0.mk (Kd.R_lower (Kd.R_new' ho0 (Kd.R_lt (zR HO_5.out))) (below_size zb))
        have n2_:=Aside0.mk (Kd.C_below zz44 hb)
        have n3_:=Aside0.mk (Kd.C_below zz52 hb)
        have n4_:=zb1 hb
        clear HO_5
        clear HR370
        clear HR383
        clear HB
        have HO_5:=n0_
        have HO373:=n1_
        have HR370:=n2_
        have HR383:=n3_
        have HB:=n4_
        clear n0_ n1_ n2_ n3_ n4_
        refine hK.out _ _ trivial (fun hHeld=>?_)
        clear hK K
        refine norm_ (a':=?_) ?_ ?_
        rotate_left
        ·show Act.put _ (some 35) _=_
         simp only [Act.put,List.setIfInBounds_toArray,List.set_cons_zero,List.set_cons_succ,i64_w,i32_w]
         rfl
        refine one_ (i:=5) (N:=some 37) #[true,true,true,true,true,true,false,true,true,true,false,false] rfl rfl (one_of HT_.out (by kernel_rfl)) (by decide) (fun K hK=>?_)
        refine Kd.R_lit_step (Kd.int .i64) _ 3 ?hg (N:=37) ?hd (xs:=([x6_1]:List Int)) (inner:=[.int .i64 x6_1]) (ok:=fun _=>True) (okp:=fun _=>True) ?hr ?hp (fun _ hk=>hk) trivial (Below.refl _ _) (Nat.le_refl _) (by simp) ?_;(case hd=>rfl);(case hg=>rfl);(case hr=>first|(go_simp;done)|(go_simp;rfl));(case hp=>exact (Reps.one (show Kd.M (Kd.int .i64) _ _ _ x6_1 [.int .i64 x6_1] from rfl) (Reps.none _ _)))
        intro v375 w43 ho44 hb hg_ hnew_
        clear hg_ hnew_
        (first|rw [←Ny374.out] at ho44|(simp only [Int.reduceToNat] at ho44;rw [←Ny374.out] at ho44))
        have n0_:=Aside0.mk (Kd.R_elder' (zR HO_5.out) (Kd.R_base ho44) hb)
        have n1_:=Aside0.mk (Kd.R_elder' (zR HO373.out) (Kd.R_base ho44) hb)
        have n2_:=Aside0.mk (Kd.R_lower (Kd.R_new' (Kd.R_new' ho44 (Kd.R_lt (zR HO_5.out))) (Kd.R_lt (zR HO373.out))) (below_size zb))
        have n3_:=Aside0.mk (Kd.C_below zz44 hb)
        have n4_:=Aside0.mk (Kd.C_below zz52 hb)
        have n5_:=zb1 hb
        clear HO_5
        clear HO373
        clear HR370
        clear HR383
        clear HB
        have HO_5:=n0_
        have HO373:=n1_
        have HO376:=n2_
        have HR370:=n3_
        have HR383:=n4_
        have HB:=n5_
        clear n0_ n1_ n2_ n3_ n4_ n5_
        clear hb ho44
        refine hK.out _ _ trivial (fun hHeld=>?_)
        clear hK K
        refine norm_ (a':=?_) ?_ ?_
        rotate_left
        ·show Act.put _ (some 37) _=_
         simp only [Act.put,List.setIfInBounds_toArray,List.set_cons_zero,List.set_cons_succ,i64_w,i32_w]
         rfl
        exact norm_ zz35 (hCont (v372,v375) _ ⟨(zR (Kd.R_mono HO373.out (fun _ hk=>⟨hk.2,hk.1.2⟩))),(zR (Kd.R_mono HO376.out (fun _ hk=>⟨hk.2,hk.1.2⟩))),(zR (Kd.R_mono HO_5.out (fun _ hk=>⟨hk.1.2,hk.2⟩))),zb⟩)
       ·skip
        refine Kd.R_lit_step (Kd.int .i64) _ 3 ?hg (N:=37) ?hd (xs:=([x6_1]:List Int)) (inner:=[.int .i64 x6_1]) (ok:=fun _=>True) (okp:=fun _=>True) ?hr ?hp (fun _ hk=>hk) trivial (Below.refl _ _) (Nat.le_refl _) (by simp) ?_;(case hd=>rfl);(case hg=>rfl);(case hr=>first|(go_simp;done)|(go_simp;rfl));(case hp=>exact (Reps.one (show Kd.M (Kd.int .i64) _ _ _ x6_1 [.int .i64 x6_1] from rfl) (Reps.none _ _)))
        intro v375 w42 ho43 hb hg_ hnew_
        clear hg_ hnew_
        (first|rw [←Ny374.out] at ho43|(simp only [Int.reduceToNat] at ho43;rw [←Ny374.out] at ho43))
        have n0_:=Aside0.mk (Kd.R_elder' (zR HO_5.out) (Kd.R_base ho43) hb)
        have n1_:=Aside0.mk (Kd.R_lower (Kd.R_new' ho43 (Kd.R_lt (zR HO_5.out))) (below_size zb))
        have n2_:=Aside0.mk (Kd.C_below zz44 hb)
        have n3_:=Aside0.mk (Kd.C_below zz52 hb)
        have n4_:=zb1 hb
        clear HO_5
        clear HR370
        clear HR383
        clear HB
        have HO_5:=n0_
        have HO376:=n1_
        have HR370:=n2_
        have HR383:=n3_
        have HB:=n4_
        clear n0_ n1_ n2_ n3_ n4_
        clear hb ho43
        refine hK.out _ _ trivial (fun hHeld=>?_)
        clear hK K
        refine norm_ (a':=?_) ?_ ?_
        rotate_left
        ·show Act.put _ (some 37) _=_
         simp only [Act.put,List.setIfInBounds_toArray,List.set_cons_zero,List.set_cons_succ,i64_w,i32_w]
         rfl
        refine one_ (i:=3) (N:=some 35) #[true,true,true,true,true,true,false,true,true,true,false,false] rfl rfl (one_of HT_.out (by kernel_rfl)) (by decide) (fun K hK=>?_)
        refine goes_ Try.func48 (by kernel_rfl) rfl #[.slice Ao38 y367.length co38] (by rfl) rfl rfl zl ?_
        with_reducible refine (spec_l1Own.calls _ _ y367 t371 _ ?side1 ?side2 A33.out).mono ?_
        (case side1=>exact zz62)
        (case side2=>exact HC370.out)
        rintro e w44 ⟨v372,rfl,ho0,hb⟩
        refine ⟨_,rfl,?_⟩
        have n0_:=Aside0.mk (Kd.R_elder' (zR HO_5.out) (Kd.R_base ho0) hb)
        have n1_:=Aside0.mk (Kd.R_elder' (zR HO376.out) (Kd.R_base ho0) hb)
        have n2_:=Aside0.mk (Kd.R_lower (Kd.R_new' (Kd.R_new' ho0 (Kd.R_lt (zR HO_5.out))) (Kd.R_lt (zR HO376.out))) (below_size zb))
        have n3_:=Aside0.mk (Kd.C_below zz44 hb)
        have n4_:=Aside0.mk (Kd.C_below zz52 hb)
        have n5_:=zb1 hb
        clear HO_5
        clear HO376
        clear HR370
        clear HR383
        clear HB
        have HO_5:=n0_
        have HO376:=n1_
        have HO373:=n2_
        have HR370:=n3_
        have HR383:=n4_
        have HB:=n5_
        clear n0_ n1_ n2_ n3_ n4_ n5_
        refine hK.out _ _ trivial (fun hHeld=>?_)
        clear hK K
        refine norm_ (a':=?_) ?_ ?_
        rotate_left
        ·show Act.put _ (some 35) _=_
         simp only [Act.put,List.setIfInBounds_toArray,List.set_cons_zero,List.set_cons_succ,i64_w,i32_w]
         rfl
        exact norm_ zz35 (hCont (v372,v375) _ ⟨(zR (Kd.R_mono HO373.out (fun _ hk=>⟨hk.2,hk.1.2⟩))),(zR (Kd.R_mono HO376.out (fun _ hk=>⟨hk.2,hk.1.2⟩))),(zR (Kd.R_mono HO_5.out (fun _ hk=>⟨hk.2,hk.1.2⟩))),zb⟩)
      rintro ⟨v372,v375⟩ w45 ⟨h0_,h1_,h2_,h3_⟩
      have n0_:Aside0 (Kd.R (Kd.int .i64) 3 w45 w.heap.size (fun k_=>some k_≠(v375:Value).ownBlock∧some k_≠(.slice Ao38 x5_1.length co38:Value).ownBlock) v372 t371):=⟨h0_⟩
      have n1_:Aside0 (Kd.R (Kd.int .i64) 3 w45 w.heap.size (fun k_=>some k_≠(v372:Value).ownBlock∧some k_≠(.slice Ao38 x5_1.length co38:Value).ownBlock) v375 y374):=⟨h1_⟩
      have n2_:Aside0 (Kd.R (Kd.int .i64) 3 w45 w.heap.size (fun k_=>some k_≠(v372:Value).ownBlock∧some k_≠(v375:Value).ownBlock) (.slice Ao38 x5_1.length co38) x5_1):=⟨h2_⟩
      have n3_:Aside0 (Below w.heap.size w w45):=⟨h3_⟩
      clear HO_5
      clear HB
      clear h0_ h1_ h2_ h3_
      have HO373:=n0_
      have HO376:=n1_
      have HO_5:=n2_
      have HB:=n3_
      clear n0_ n1_ n2_ n3_
      have hHeld:=trivial
      obtain ⟨Ao47,co47,eo47⟩:=Kd.R_slice HO376.out
      (first|subst eo47|(injection eo47 with f1_ f2_ f3_;have f4_:=f1_.symm;have f5_:=f3_.symm;clear f1_ f2_ f3_;subst f4_;subst f5_))
      refine norm_ (a':=?_) ?_ ?_
      rotate_left
      ·simp only [putAll,Act.put,List.setIfInBounds_toArray,List.set_cons_zero,List.set_cons_succ]
       rfl
      refine one_ (i:=6) (N:=some 38) #[true,true,true,true,true,true,true,true,true,true,false,false] rfl rfl (one_of HT_.out (by kernel_rfl)) (by decide) (fun K hK=>?_)
      refine Kd.R_append_rows_step (Kd.int .i64) (w0:=w) w.heap.size (by rfl) (.tmp 35) (.tmp 37) 33 3 (.int .i64 0) 8 rfl Try.underlying33 info3 rfl (by decide) (by omega) v372 t371 y374 _ _ _ (fun k_=>some k_≠(.slice Ao38 x5_1.length co38:Value).ownBlock∧some k_≠(.slice Ao47 y374.length co47:Value).ownBlock) (fun _=>False) rfl rfl ?aO ?aR (fun _ _ h=>h) (fun _ h=>h.elim) ?aF ?aB ?aS ?aL ?_
      (case aR=>exact zC ((Kd.R_reads' HO376.out).2.2))
      (case aB=>exact zb)
      (case aF=>exact (fun k_ hk=>⟨Kd.fresh' (Kd.R_lt (zR HO_5.out)) k_ hk,Kd.fresh' (Kd.R_lt (zR HO376.out)) k_ hk⟩))
      (case aO=>exact (zR (Kd.R_mono HO373.out (fun _ hk=>⟨hk.2,hk.1⟩))))
      (case aS=>exact (below_size zb))
      (case aL=>have:=LMc34.out;omega)
      intro v378 w46 ho hb hg hat
      rw [←Ny377.out] at ho
      replace HO_5:=Aside0.mk (Kd.R_after (ok:=(fun k_=>some k_≠(.slice Ao47 y374.length co47:Value).ownBlock)) (zR (Kd.R_mono HO_5.out (fun _ hk=>⟨hk.2,hk.1⟩))) hg hat)
      replace HO376:=Aside0.mk (Kd.R_after (ok:=(fun k_=>some k_≠(.slice Ao38 x5_1.length co38:Value).ownBlock)) (zR (Kd.R_mono HO376.out (fun _ hk=>⟨hk.2,hk.1⟩))) hg hat)
      replace HB:=Aside0.mk (hb)
      have HO379:=Aside0.mk (ho)
      clear HO373
      clear ho hb hg hat
      refine hK.out _ _ trivial (fun hHeld=>?_)
      clear hK K
      refine norm_ (a':=?_) ?_ ?_
      rotate_left
      ·show Act.put _ (some 38) _=_
       simp only [Act.put,List.setIfInBounds_toArray,List.set_cons_zero,List.set_cons_succ,i64_w,i32_w]
       rfl
      refine one_ (i:=10) (N:=some 42) #[true,true,true,true,true,true,true,true,true,true,true,false] rfl rfl (one_of HT_.out (by kernel_rfl)) (by decide) (fun K hK=>?_)
      refine Kd.R_append_rows_step (Kd.int .i64) (w0:=w) w.heap.size (by rfl) (.tmp 38) (.tmp 41) 33 3 (.int .i64 0) 8 rfl Try.underlying33 info3 rfl (by decide) (by omega) v378 y377 y380 _ _ _ (fun k_=>some k_≠(.slice Ao38 x5_1.length co38:Value).ownBlock∧some k_≠(.slice Ao47 y374.length co47:Value).ownBlock) (fun _=>False) rfl rfl ?aO ?aR (fun _ _ h=>h) (fun _ h=>h.elim) ?aF ?aB ?aS ?aL ?_
      (case aR=>exact (by rw [Ny380.out,KA41.out];first|exact Kd.C_drop (m:=(x7_2:Int).toNat) (c:=co38) ((Kd.R_reads' (HO_5.out)).2.2) KL41.out ((Kd.R_reads' (HO_5.out)).2.1)|exact Kd.C_drop (m:=(x7_2:Int).toNat) (c:=co38) ((Kd.R_reads' (zR HO_5.out)).2.2) KL41.out ((Kd.R_reads' (zR HO_5.out)).2.1)))
      (case aB=>exact zb)
      (case aF=>exact (fun k_ hk=>⟨Kd.fresh' (Kd.R_lt (zR HO_5.out)) k_ hk,Kd.fresh' (Kd.R_lt (zR HO376.out)) k_ hk⟩))
      (case aO=>exact (zR HO379.out))
      (case aS=>exact (below_size zb))
      (case aL=>have:=LMc37.out;omega)
      intro v385 w48 ho hb hg hat
      rw [←Ny384.out] at ho
      replace HO_5:=Aside0.mk (Kd.R_after (ok:=(fun k_=>some k_≠(.slice Ao47 y374.length co47:Value).ownBlock)) (zR HO_5.out) hg hat)
      replace HO376:=Aside0.mk (Kd.R_after (ok:=(fun k_=>some k_≠(.slice Ao38 x5_1.length co38:Value).ownBlock)) (zR HO376.out) hg hat)
      replace HB:=Aside0.mk (hb)
      have HO386:=Aside0.mk (ho)
      clear HO379
      clear ho hb hg hat
      refine hK.out _ _ trivial (fun hHeld=>?_)
      clear hK K
      refine norm_ (a':=?_) ?_ ?_
      rotate_left
      ·show Act.put _ (some 42) _=_
       simp only [Act.put,List.setIfInBounds_toArray,List.set_cons_zero,List.set_cons_succ,i64_w,i32_w]
       rfl
      refine pu_ 11 5 ?_
      refine done_ (done_of HT_.out (by kernel_rfl)) ?_
      try go_wp2
      go_roundg k2
      case measure=>have:=HK1.out;have:=HK2.out;omega
      case rel=>exact ⟨(y384),(wrap64 (x6_1 + 1)),zo,H',⟨zz43⟩,⟨zR (Kd.R_mono HO386.out (fun _ hk=>trivial))⟩,⟨zb⟩⟩
     rw [if_pos c6] at H
     have c6b0:=decide_eq_true c6
     clear c6
     by_cases c7:0≤x7_2
     rotate_left
     ·rw [if_neg c7] at H
      exact absurd H (by simp)
     rw [if_pos c7] at H
     have c7b0:=decide_eq_true c7
     clear c7
     replace H:=Option.bind_eq_some_iff.mp H
     obtain ⟨t346,A80,H⟩:=H
     try dsimp only at H
     have A8:=Aside0.mk A80
     clear A80
     by_cases c9:t346≤0
     ·rw [if_pos c9] at H
      have c9b0:=decide_eq_true c9
      clear c9
      have H':=Aside0.mk H
      clear H
      obtain ⟨Ao10,co10,eo10⟩:=Kd.R_slice HO_5.out
      subst eo10
      have p345:0≤(x7_2:Int):=of_decide_eq_true za
      have q345:x7_2<(x5_1.length:Int):=of_decide_eq_true za
      obtain ⟨ad345,e345,hx345_0⟩:=Kd.at_int (Kd.R_reads' HO_5.out).2.2 x7_2 p345 q345
      cases e345
      replace p345:=eq_true p345
      replace q345:=eq_true q345
      go_wp2_with (first|(go_at_call 33;(with_reducible refine (spec_l3Gap.calls _ _ l0 a1 (rd x5_1 x7_2) x6_1 t346 _ ?side1 ?side2 A8.out).mono ?_);(case side1=>exact zC (Kd.C_below HR0.out HB.out));(case side2=>exact HC0.out);rintro e w11 ⟨rfl,hb⟩;replace HO_5:=zRb HO_5 hb;replace HB:=zb1 hb;(try clear hb)))
      go_roundg k2
      case measure=>have:=HK1.out;have:=HK2.out;omega
      case rel=>exact ⟨(wrap64 (x7_2 + 1)),zo,H',⟨zz43⟩,⟨zR HO_5.out⟩,⟨zb⟩⟩
     rw [if_neg c9] at H
     have c9b0:=decide_eq_false c9
     clear c9
     have c12b0:=eq_true (of_decide_eq_true za:0≤x7_2)
     by_cases c13:x7_2≤(x5_1.length:Int)
     rotate_left
     ·rw [if_neg c13] at H
      exact absurd H (by simp)
     rw [if_pos c13] at H
     have c13b0:=eq_true c13
     have c13b1:=decide_eq_true c13
     clear c13
     obtain ⟨y347,hy347⟩:∃ y_:List Int,y_=(x5_1.take (x7_2:Int).toNat):=⟨_,rfl⟩
     replace H:((spec_l1Own.f y347).bind fun t351=>((some (([x6_1]:List Int):List Int)).bind fun y354=>(if t351.length + y354.length<17592186044416 then ((some (t351++y354:List Int)).bind fun y357=>((some (x5_1.drop (x7_2:Int).toNat:List Int)).bind fun y360=>(if y357.length + y360.length<17592186044416 then (spec_l3Order.l0 k2 l0 a1 (y357++y360) (wrap64 (x6_1 + 1))) else (none)))) else (none))))=some r:=by first|(rw [hy347];with_reducible exact H)|(have H2_:=(Option.bind_some _ _).symm.trans H;rw [hy347];with_reducible exact H2_)|(have H2_:=(Option.bind_some _ _).symm.trans H;with_reducible exact H2_)|with_reducible exact H|(rw [hy347];exact H)|exact H
     have Ny347:=Aside0.mk hy347
     clear hy347
     replace H:=Option.bind_eq_some_iff.mp H
     obtain ⟨t351,A140,H⟩:=H
     try dsimp only at H
     have A14:=Aside0.mk A140
     clear A140
     obtain ⟨y354,hy354⟩:∃ y_:List Int,y_=(([x6_1]:List Int)):=⟨_,rfl⟩
     replace H:(if t351.length + y354.length<17592186044416 then ((some (t351++y354:List Int)).bind fun y357=>((some (x5_1.drop (x7_2:Int).toNat:List Int)).bind fun y360=>(if y357.length + y360.length<17592186044416 then (spec_l3Order.l0 k2 l0 a1 (y357++y360) (wrap64 (x6_1 + 1))) else (none)))) else (none))=some r:=by first|(rw [hy354];with_reducible exact H)|(have H2_:=(Option.bind_some _ _).symm.trans H;rw [hy354];with_reducible exact H2_)|(have H2_:=(Option.bind_some _ _).symm.trans H;with_reducible exact H2_)|with_reducible exact H|(rw [hy354];exact H)|exact H
     have Ny354:=Aside0.mk hy354
     clear hy354
     by_cases c15:t351.length + y354.length<17592186044416
     rotate_left
     ·rw [if_neg c15] at H
      exact absurd H (by simp)
     rw [if_pos c15] at H
     have LMc15:=Aside0.mk c15
     clear c15
     obtain ⟨y357,hy357⟩:∃ y_:List Int,y_=(t351++y354):=⟨_,rfl⟩
     replace H:((some (x5_1.drop (x7_2:Int).toNat:List Int)).bind fun y360=>(if y357.length + y360.length<17592186044416 then (spec_l3Order.l0 k2 l0 a1 (y357++y360) (wrap64 (x6_1 + 1))) else (none)))=some r:=by first|(rw [hy357];with_reducible exact H)|(have H2_:=(Option.bind_some _ _).symm.trans H;rw [hy357];with_reducible exact H2_)|(have H2_:=(Option.bind_some _ _).symm.trans H;with_reducible exact H2_)|with_reducible exact H|(rw [hy357];exact H)|exact H
     have Ny357:=Aside0.mk hy357
     clear hy357
     have c16b0:=eq_true (of_decide_eq_true za:0≤x7_2)
     have c17b0:=eq_true (of_decide_eq_true za:x7_2≤(x5_1.length:Int))
     obtain ⟨y360,hy360⟩:∃ y_:List Int,y_=(x5_1.drop (x7_2:Int).toNat):=⟨_,rfl⟩
     replace H:(if y357.length + y360.length<17592186044416 then (spec_l3Order.l0 k2 l0 a1 (y357++y360) (wrap64 (x6_1 + 1))) else (none))=some r:=by first|(rw [hy360];with_reducible exact H)|(have H2_:=(Option.bind_some _ _).symm.trans H;rw [hy360];with_reducible exact H2_)|(have H2_:=(Option.bind_some _ _).symm.trans H;with_reducible exact H2_)|with_reducible exact H|(rw [hy360];exact H)|exact H
     have Ny360:=Aside0.mk hy360
     clear hy360
     by_cases c18:y357.length + y360.length<17592186044416
     rotate_left
     ·rw [if_neg c18] at H
      exact absurd H (by simp)
     rw [if_pos c18] at H
     have LMc18:=Aside0.mk c18
     clear c18
     obtain ⟨y364,hy364⟩:∃ y_:List Int,y_=(y357++y360):=⟨_,rfl⟩
     replace H:(spec_l3Order.l0 k2 l0 a1 y364 (wrap64 (x6_1 + 1)))=some r:=by first|(rw [hy364];with_reducible exact H)|(have H2_:=(Option.bind_some _ _).symm.trans H;rw [hy364];with_reducible exact H2_)|(have H2_:=(Option.bind_some _ _).symm.trans H;with_reducible exact H2_)|with_reducible exact H|(rw [hy364];exact H)|exact H
     have Ny364:=Aside0.mk hy364
     clear hy364
     have H':=Aside0.mk H
     clear H
     obtain ⟨Ao19,co19,eo19⟩:=Kd.R_slice HO_5.out
     subst eo19
     have p345:0≤(x7_2:Int):=of_decide_eq_true za
     have q345:x7_2<(x5_1.length:Int):=of_decide_eq_true za
     obtain ⟨ad345,e345,hx345_0⟩:=Kd.at_int (Kd.R_reads' HO_5.out).2.2 x7_2 p345 q345
     cases e345
     replace p345:=eq_true p345
     replace q345:=eq_true q345
     try go_wp2_with (first|(go_at_call 33;(with_reducible refine (spec_l3Gap.calls _ _ l0 a1 (rd x5_1 x7_2) x6_1 t346 _ ?side1 ?side2 A8.out).mono ?_);(case side1=>exact zC (Kd.C_below HR0.out HB.out));(case side2=>exact HC0.out);rintro e w20 ⟨rfl,hb⟩;replace HO_5:=zRb HO_5 hb;replace HB:=zb1 hb;(try clear hb)))
     replace HO_5:=Aside0.mk (Kd.R_drew HO_5.out)
     replace HB:=Aside0.mk (below_drew1 HB.out)
     have q22:(x7_2:Int)≤((x5_1.length:Int):Int):=of_decide_eq_true za
     obtain ⟨i022,hi022,_,hsz22,_⟩:=info_parts info3
     have hroom22:x5_1.length≤co19:=(Kd.R_reads' HO_5.out).2.1
     have hC22:Kd.C (Kd.int .i64) _ (some ad345) x5_1.length x5_1:=(Kd.R_reads' HO_5.out).2.2
     have hcut22:=cut_to (P:=Try.prog) 33 3 .i64 Try.underlying33 hi022 (some ad345) x5_1.length co19 x7_2 (of_decide_eq_true za) q22 hroom22
     have hr22:=Kd.C_take (m:=(x7_2:Int).toNat) hC22 (by omega)
     have hy22:y347.length=(x7_2:Int).toNat:=(by rw [Ny347.out,List.length_take];omega)
     rw [←Ny347.out] at hr22
     rw [←hy22] at hcut22
     have HR350:=Aside0.mk hr22
     have HC350:=Aside0.mk (show y347.length≤co19 from by omega)
     clear hr22 hC22 hroom22 hi022 hsz22
     have KY22:=Aside0.mk hy22
     clear hy22
     have KL22:=Aside0.mk (show (x7_2:Int).toNat≤x5_1.length from by omega)
     replace q22:=eq_true q22
     have q23:(x7_2:Int)≤((x5_1.length:Int):Int):=of_decide_eq_true za
     obtain ⟨i023,hi023,_,hsz23,_⟩:=info_parts info3
     have hroom23:x5_1.length≤co19:=(Kd.R_reads' HO_5.out).2.1
     have hC23:Kd.C (Kd.int .i64) _ (some ad345) x5_1.length x5_1:=(Kd.R_reads' HO_5.out).2.2
     have q023:(0:Int)≤(x7_2:Int):=of_decide_eq_true za
     have hcut23:=cut_from (P:=Try.prog) 33 3 .i64 Try.underlying33 hi023 1 hsz23 (some ad345) x5_1.length co19 x7_2 q023 q23
     have hr23:=Kd.C_drop (m:=(x7_2:Int).toNat) (c:=co19) hC23 (by omega) hroom23
     obtain ⟨A23,hA23⟩:∃ Az_,Az_=(if co19=(x7_2:Int).toNat then (some ad345) else ((some ad345):Option Addr).map (·.add ((x7_2:Int).toNat * 1))):=⟨_,rfl⟩
     obtain ⟨c23,hc23⟩:∃ cz_,cz_=co19 - (x7_2:Int).toNat:=⟨_,rfl⟩
     have hy23:y360.length=x5_1.length - (x7_2:Int).toNat:=(by rw [Ny360.out,List.length_drop] <;> omega)
     rw [show (x5_1).drop (x7_2:Int).toNat=y360 from Ny360.out.symm] at hr23
     replace hr23:Kd.C (Kd.int .i64) _ A23 y360.length y360:=(by rw [hA23];exact hr23)
     rw [←hy23,←hA23,←hc23] at hcut23
     have HR363:=Aside0.mk hr23
     have HC363:=Aside0.mk (show y360.length≤c23 from by rw [hy23,hc23];exact Nat.sub_le_sub_right hroom23 _)
     clear hr23 hC23 hroom23 hi023 hsz23 hc23
     have KY23:=Aside0.mk hy23
     have KA23:=Aside0.mk hA23
     clear hy23 hA23
     have KL23:=Aside0.mk (show (x7_2:Int).toNat≤x5_1.length from by omega)
     replace q23:=eq_true q23
     refine start_ (n:=12) (S:=fun w'=>True) (ds:=[]) #[false,false,false,false,false,false,false,false,false,false,false,false] (by kernel_rfl) rfl rfl trivial (fun hHeld=>?_);refine with_tabW spec_l3Order.tab8 spec_l3Order.bits8 (fun HT_ HW_=>?_)
     generalize w20.drew=w21 at HO_5 HB HR350 HR363 hHeld ⊢
     refine pu_ 0 32 ?_
     refine pu_ 1 33 ?_
     refine pu_ 2 34 ?_
     refine pu_ 4 36 ?_
     refine pu_ 7 39 ?_
     refine pu_ 8 40 ?_
     refine pu_ 9 41 ?_
     refine join_ (σ:=Value × Value) 3 #[true,true,true,true,true,true,false,true,true,true,false,false] (fun s_=>[(35,s_.1),(37,s_.2)]) (fun s_ w'=>(Kd.R (Kd.int .i64) 3 w' w.heap.size (fun k_=>some k_≠(s_.2:Value).ownBlock∧some k_≠(.slice (some ad345) x5_1.length co19:Value).ownBlock) s_.1 t351)∧(Kd.R (Kd.int .i64) 3 w' w.heap.size (fun k_=>some k_≠(s_.1:Value).ownBlock∧some k_≠(.slice (some ad345) x5_1.length co19:Value).ownBlock) s_.2 y354)∧(Kd.R (Kd.int .i64) 3 w' w.heap.size (fun k_=>some k_≠(s_.1:Value).ownBlock∧some k_≠(s_.2:Value).ownBlock) (.slice (some ad345) x5_1.length co19) x5_1)∧(Below w.heap.size w w')) ?_ ?_
     rotate_left
     ·intro hCont
      refine two_ (i:=3) (j:=5) (Ni:=some 35) (Nj:=some 37) #[true,true,true,true,true,false,false,true,true,true,false,false] #[true,true,true,false,true,true,false,true,true,true,false,false] rfl rfl rfl rfl (two_of HT_.out (by kernel_rfl)) (by decide) (by decide) (fun K hK=>?_) (fun K hK=>?_)
      ·skip
       refine goes_ Try.func48 (by kernel_rfl) rfl #[.slice (some ad345) y347.length co19] (by rfl) rfl rfl zl ?_
       with_reducible refine (spec_l1Own.calls _ _ y347 t351 _ ?side1 ?side2 A14.out).mono ?_
       (case side1=>exact zz63)
       (case side2=>exact HC350.out)
       rintro e w24 ⟨v352,rfl,ho0,hb⟩
       refine ⟨_,rfl,?_⟩
       have n0_:=Aside0.mk (Kd.R_elder' (zR HO_5.out) (Kd.R_base ho0) hb)
       have n1_:=Aside0.mk (Kd.R_lower (Kd.R_new' ho0 (Kd.R_lt (zR HO_5.out))) (below_size zb))
       have n2_:=Aside0.mk (Kd.C_below zz45 hb)
       have n3_:=Aside0.mk (Kd.C_below zz53 hb)
       have n4_:=zb1 hb
       clear HO_5
       clear HR350
       clear HR363
       clear HB
       have HO_5:=n0_
       have HO353:=n1_
       have HR350:=n2_
       have HR363:=n3_
       have HB:=n4_
       clear n0_ n1_ n2_ n3_ n4_
       refine hK.out _ _ trivial (fun hHeld=>?_)
       clear hK K
       refine norm_ (a':=?_) ?_ ?_
       rotate_left
       ·show Act.put _ (some 35) _=_
        simp only [Act.put,List.setIfInBounds_toArray,List.set_cons_zero,List.set_cons_succ,i64_w,i32_w]
        rfl
       refine one_ (i:=5) (N:=some 37) #[true,true,true,true,true,true,false,true,true,true,false,false] rfl rfl (one_of HT_.out (by kernel_rfl)) (by decide) (fun K hK=>?_)
       refine Kd.R_lit_step (Kd.int .i64) _ 3 ?hg (N:=37) ?hd (xs:=([x6_1]:List Int)) (inner:=[.int .i64 x6_1]) (ok:=fun _=>True) (okp:=fun _=>True) ?hr ?hp (fun _ hk=>hk) trivial (Below.refl _ _) (Nat.le_refl _) (by simp) ?_;(case hd=>rfl);(case hg=>rfl);(case hr=>first|(go_simp;done)|(go_simp;rfl));(case hp=>exact (Reps.one (show Kd.M (Kd.int .i64) _ _ _ x6_1 [.int .i64 x6_1] from rfl) (Reps.none _ _)))
       intro v355 w25 ho26 hb hg_ hnew_
       clear hg_ hnew_
       (first|rw [←Ny354.out] at ho26|(simp only [Int.reduceToNat] at ho26;rw [←Ny354.out] at ho26))
       have n0_:=Aside0.mk (Kd.R_elder' (zR HO_5.out) (Kd.R_base ho26) hb)
       have n1_:=Aside0.mk (Kd.R_elder' (zR HO353.out) (Kd.R_base ho26) hb)
       have n2_:=Aside0.mk (Kd.R_lower (Kd.R_new' (Kd.R_new' ho26 (Kd.R_lt (zR HO_5.out))) (Kd.R_lt (zR HO353.out))) (below_size zb))
       have n3_:=Aside0.mk (Kd.C_below zz45 hb)
       have n4_:=Aside0.mk (Kd.C_below zz53 hb)
       have n5_:=zb1 hb
       clear HO_5
       clear HO353
       clear HR350
       clear HR363
       clear HB
       have HO_5:=n0_
       have HO353:=n1_
       have HO356:=n2_
       have HR350:=n3_
       have HR363:=n4_
       have HB:=n5_
       clear n0_ n1_ n2_ n3_ n4_ n5_
       clear hb ho26
       refine hK.out _ _ trivial (fun hHeld=>?_)
       clear hK K
       refine norm_ (a':=?_) ?_ ?_
       rotate_left
       ·show Act.put _ (some 37) _=_
        simp only [Act.put,List.setIfInBounds_toArray,List.set_cons_zero,List.set_cons_succ,i64_w,i32_w]
        rfl
       exact norm_ zz35 (hCont (v352,v355) _ ⟨(zR (Kd.R_mono HO353.out (fun _ hk=>⟨hk.2,hk.1.2⟩))),(zR (Kd.R_mono HO356.out (fun _ hk=>⟨hk.2,hk.1.2⟩))),(zR (Kd.R_mono HO_5.out (fun _ hk=>⟨hk.1.2,hk.2⟩))),zb⟩)
      ·skip
       refine Kd.R_lit_step (Kd.int .i64) _ 3 ?hg (N:=37) ?hd (xs:=([x6_1]:List Int)) (inner:=[.int .i64 x6_1]) (ok:=fun _=>True) (okp:=fun _=>True) ?hr ?hp (fun _ hk=>hk) trivial (Below.refl _ _) (Nat.le_refl _) (by simp) ?_;(case hd=>rfl);(case hg=>rfl);(case hr=>first|(go_simp;done)|(go_simp;rfl));(case hp=>exact (Reps.one (show Kd.M (Kd.int .i64) _ _ _ x6_1 [.int .i64 x6_1] from rfl) (Reps.none _ _)))
       intro v355 w24 ho25 hb hg_ hnew_
       clear hg_ hnew_
       (first|rw [←Ny354.out] at ho25|(simp only [Int.reduceToNat] at ho25;rw [←Ny354.out] at ho25))
       have n0_:=Aside0.mk (Kd.R_elder' (zR HO_5.out) (Kd.R_base ho25) hb)
       have n1_:=Aside0.mk (Kd.R_lower (Kd.R_new' ho25 (Kd.R_lt (zR HO_5.out))) (below_size zb))
       have n2_:=Aside0.mk (Kd.C_below zz45 hb)
       have n3_:=Aside0.mk (Kd.C_below zz53 hb)
       have n4_:=zb1 hb
       clear HO_5
       clear HR350
       clear HR363
       clear HB
       have HO_5:=n0_
       have HO356:=n1_
       have HR350:=n2_
       have HR363:=n3_
       have HB:=n4_
       clear n0_ n1_ n2_ n3_ n4_
       clear hb ho25
       refine hK.out _ _ trivial (fun hHeld=>?_)
       clear hK K
       refine norm_ (a':=?_) ?_ ?_
       rotate_left
       ·show Act.put _ (some 37) _=_
        simp only [Act.put,List.setIfInBounds_toArray,List.set_cons_zero,List.set_cons_succ,i64_w,i32_w]
        rfl
       refine one_ (i:=3) (N:=some 35) #[true,true,true,true,true,true,false,true,true,true,false,false] rfl rfl (one_of HT_.out (by kernel_rfl)) (by decide) (fun K hK=>?_)
       refine goes_ Try.func48 (by kernel_rfl) rfl #[.slice (some ad345) y347.length co19] (by rfl) rfl rfl zl ?_
       with_reducible refine (spec_l1Own.calls _ _ y347 t351 _ ?side1 ?side2 A14.out).mono ?_
       (case side1=>exact zz63)
       (case side2=>exact HC350.out)
       rintro e w26 ⟨v352,rfl,ho0,hb⟩
       refine ⟨_,rfl,?_⟩
       have n0_:=Aside0.mk (Kd.R_elder' (zR HO_5.out) (Kd.R_base ho0) hb)
       have n1_:=Aside0.mk (Kd.R_elder' (zR HO356.out) (Kd.R_base ho0) hb)
       have n2_:=Aside0.mk (Kd.R_lower (Kd.R_new' (Kd.R_new' ho0 (Kd.R_lt (zR HO_5.out))) (Kd.R_lt (zR HO356.out))) (below_size zb))
       have n3_:=Aside0.mk (Kd.C_below zz45 hb)
       have n4_:=Aside0.mk (Kd.C_below zz53 hb)
       have n5_:=zb1 hb
       clear HO_5
       clear HO356
       clear HR350
       clear HR363
       clear HB
       have HO_5:=n0_
       have HO356:=n1_
       have HO353:=n2_
       have HR350:=n3_
       have HR363:=n4_
       have HB:=n5_
       clear n0_ n1_ n2_ n3_ n4_ n5_
       refine hK.out _ _ trivial (fun hHeld=>?_)
       clear hK K
       refine norm_ (a':=?_) ?_ ?_
       rotate_left
       ·show Act.put _ (some 35) _=_
        simp only [Act.put,List.setIfInBounds_toArray,List.set_cons_zero,List.set_cons_succ,i64_w,i32_w]
        rfl
       exact norm_ zz35 (hCont (v352,v355) _ ⟨(zR (Kd.R_mono HO353.out (fun _ hk=>⟨hk.2,hk.1.2⟩))),(zR (Kd.R_mono HO356.out (fun _ hk=>⟨hk.2,hk.1.2⟩))),(zR (Kd.R_mono HO_5.out (fun _ hk=>⟨hk.2,hk.1.2⟩))),zb⟩)
     rintro ⟨v352,v355⟩ w27 ⟨h0_,h1_,h2_,h3_⟩
     have n0_:Aside0 (Kd.R (Kd.int .i64) 3 w27 w.heap.size (fun k_=>some k_≠(v355:Value).ownBlock∧some k_≠(.slice (some ad345) x5_1.length co19:Value).ownBlock) v352 t351):=⟨h0_⟩
     have n1_:Aside0 (Kd.R (Kd.int .i64) 3 w27 w.heap.size (fun k_=>some k_≠(v352:Value).ownBlock∧some k_≠(.slice (some ad345) x5_1.length co19:Value).ownBlock) v355 y354):=⟨h1_⟩
     have n2_:Aside0 (Kd.R (Kd.int .i64) 3 w27 w.heap.size (fun k_=>some k_≠(v352:Value).ownBlock∧some k_≠(v355:Value).ownBlock) (.slice (some ad345) x5_1.length co19) x5_1):=⟨h2_⟩
     have n3_:Aside0 (Below w.heap.size w w27):=⟨h3_⟩
     clear HO_5
     clear HB
     clear h0_ h1_ h2_ h3_
     have HO353:=n0_
     have HO356:=n1_
     have HO_5:=n2_
     have HB:=n3_
     clear n0_ n1_ n2_ n3_
     have hHeld:=trivial
     obtain ⟨Ao29,co29,eo29⟩:=Kd.R_slice HO356.out
     (first|subst eo29|(injection eo29 with f1_ f2_ f3_;have f4_:=f1_.symm;have f5_:=f3_.symm;clear f1_ f2_ f3_;subst f4_;subst f5_))
     refine norm_ (a':=?_) ?_ ?_
     rotate_left
     ·simp only [putAll,Act.put,List.setIfInBounds_toArray,List.set_cons_zero,List.set_cons_succ]
      rfl
     refine one_ (i:=6) (N:=some 38) #[true,true,true,true,true,true,true,true,true,true,false,false] rfl rfl (one_of HT_.out (by kernel_rfl)) (by decide) (fun K hK=>?_)
     refine Kd.R_append_rows_step (Kd.int .i64) (w0:=w) w.heap.size (by rfl) (.tmp 35) (.tmp 37) 33 3 (.int .i64 0) 8 rfl Try.underlying33 info3 rfl (by decide) (by omega) v352 t351 y354 _ _ _ (fun k_=>some k_≠(.slice (some ad345) x5_1.length co19:Value).ownBlock∧some k_≠(.slice Ao29 y354.length co29:Value).ownBlock) (fun _=>False) rfl rfl ?aO ?aR (fun _ _ h=>h) (fun _ h=>h.elim) ?aF ?aB ?aS ?aL ?_
     (case aR=>exact zC ((Kd.R_reads' HO356.out).2.2))
     (case aB=>exact zb)
     (case aF=>exact (fun k_ hk=>⟨Kd.fresh' (Kd.R_lt (zR HO_5.out)) k_ hk,Kd.fresh' (Kd.R_lt (zR HO356.out)) k_ hk⟩))
     (case aO=>exact (zR (Kd.R_mono HO353.out (fun _ hk=>⟨hk.2,hk.1⟩))))
     (case aS=>exact (below_size zb))
     (case aL=>have:=LMc15.out;omega)
     intro v358 w28 ho hb hg hat
     rw [←Ny357.out] at ho
     replace HO_5:=Aside0.mk (Kd.R_after (ok:=(fun k_=>some k_≠(.slice Ao29 y354.length co29:Value).ownBlock)) (zR (Kd.R_mono HO_5.out (fun _ hk=>⟨hk.2,hk.1⟩))) hg hat)
     replace HO356:=Aside0.mk (Kd.R_after (ok:=(fun k_=>some k_≠(.slice (some ad345) x5_1.length co19:Value).ownBlock)) (zR (Kd.R_mono HO356.out (fun _ hk=>⟨hk.2,hk.1⟩))) hg hat)
     replace HB:=Aside0.mk (hb)
     have HO359:=Aside0.mk (ho)
     clear HO353
     clear ho hb hg hat
     refine hK.out _ _ trivial (fun hHeld=>?_)
     clear hK K
     refine norm_ (a':=?_) ?_ ?_
     rotate_left
     ·show Act.put _ (some 38) _=_
      simp only [Act.put,List.setIfInBounds_toArray,List.set_cons_zero,List.set_cons_succ,i64_w,i32_w]
      rfl
     refine one_ (i:=10) (N:=some 42) #[true,true,true,true,true,true,true,true,true,true,true,false] rfl rfl (one_of HT_.out (by kernel_rfl)) (by decide) (fun K hK=>?_)
     refine Kd.R_append_rows_step (Kd.int .i64) (w0:=w) w.heap.size (by rfl) (.tmp 38) (.tmp 41) 33 3 (.int .i64 0) 8 rfl Try.underlying33 info3 rfl (by decide) (by omega) v358 y357 y360 _ _ _ (fun k_=>some k_≠(.slice (some ad345) x5_1.length co19:Value).ownBlock∧some k_≠(.slice Ao29 y354.length co29:Value).ownBlock) (fun _=>False) rfl rfl ?aO ?aR (fun _ _ h=>h) (fun _ h=>h.elim) ?aF ?aB ?aS ?aL ?_
     (case aR=>exact (by rw [Ny360.out,KA23.out];first|exact Kd.C_drop (m:=(x7_2:Int).toNat) (c:=co19) ((Kd.R_reads' (HO_5.out)).2.2) KL23.out ((Kd.R_reads' (HO_5.out)).2.1)|exact Kd.C_drop (m:=(x7_2:Int).toNat) (c:=co19) ((Kd.R_reads' (zR HO_5.out)).2.2) KL23.out ((Kd.R_reads' (zR HO_5.out)).2.1)))
     (case aB=>exact zb)
     (case aF=>exact (fun k_ hk=>⟨Kd.fresh' (Kd.R_lt (zR HO_5.out)) k_ hk,Kd.fresh' (Kd.R_lt (zR HO356.out)) k_ hk⟩))
     (case aO=>exact (zR HO359.out))
     (case aS=>exact (below_size zb))
     (case aL=>have:=LMc18.out;omega)
     intro v365 w30 ho hb hg hat
     rw [←Ny364.out] at ho
     replace HO_5:=Aside0.mk (Kd.R_after (ok:=(fun k_=>some k_≠(.slice Ao29 y354.length co29:Value).ownBlock)) (zR HO_5.out) hg hat)
     replace HO356:=Aside0.mk (Kd.R_after (ok:=(fun k_=>some k_≠(.slice (some ad345) x5_1.length co19:Value).ownBlock)) (zR HO356.out) hg hat)
     replace HB:=Aside0.mk (hb)
     have HO366:=Aside0.mk (ho)
     clear HO359
     clear ho hb hg hat
     refine hK.out _ _ trivial (fun hHeld=>?_)
     clear hK K
     refine norm_ (a':=?_) ?_ ?_
     rotate_left
     ·show Act.put _ (some 42) _=_
      simp only [Act.put,List.setIfInBounds_toArray,List.set_cons_zero,List.set_cons_succ,i64_w,i32_w]
      rfl
     refine pu_ 11 5 ?_
     refine done_ (done_of HT_.out (by kernel_rfl)) ?_
     try go_wp2
     go_roundg k2
     case measure=>have:=HK1.out;have:=HK2.out;omega
     case rel=>exact ⟨(y364),(wrap64 (x6_1 + 1)),zo,H',⟨zz43⟩,⟨zR (Kd.R_mono HO366.out (fun _ hk=>trivial))⟩,⟨zb⟩⟩

end Go.Proofs.Ytkcfmaiknmfokaa.XFnTies
-- minified
