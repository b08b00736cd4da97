-- Written by a program of this session (the kit's print, widened). Proved here: what each function answers, for the arguments that its contract names.
import Derived.Test.YtkolecmpncaooaaXFnLateWeightx0
import Derived.Test.YtkolecmpncaooaaXFnLateWeightx3
import Derived.Test.YtkolecmpncaooaaXFnLateWeightx10
import Derived.Test.YtkolecmpncaooaaXFnLateWeightx11
import Derived.Test.YtkolecmpncaooaaXFnLateWeightx12
namespace Go.Proofs.Ytkolecmpncaooaa.XFnLateWeight
open Go.RowKit Go.Proofs.YtkolecmpncaooaaW.PrintWords Go.Proofs.YtkolecmpncaooaaW.PrintLast Go.Proofs.YtkolecmpncaooaaW.PrintMore
attribute [local go_sem] max2_int min2_int max_two min_two max_three min_three max_four min_four   -- for this text's walks alone
attribute [local go_sem] idxA_51_0 idxA_51_1 fldS_45_0 fldS_45_1 fldS_45_2 fldS_96_0 fldS_96_1 fldS_96_2
set_option linter.unusedVariables false
set_option linter.unusedSimpArgs false

/-! ### spec_l6Table: function 30 -/
mutual
def spec_l6Table.l0:Nat→List (S31)→List Int→List Int→Int→Option (List Int)
 | 0,_,_,_,_=>none
 | k + 1,x0,x3,x4,x5=>(spec_l2Times.f k x0).bind fun t395=>(if x5<t395 then (if x4.length<17592186044416 then (spec_l6Table.l0 k x0 x3 (x4++[(-1)]) (wrap64 (x5 + 1))) else (none)) else (spec_l6Table.l1 k x0 x3 x4 0))
def spec_l6Table.l1:Nat→List (S31)→List Int→List Int→Int→Option (List Int)
 | 0,_,_,_,_=>none
 | k + 1,x0,x3,x4,x6=>if x6<(x3.length:Int) then (if 0≤x6 then (if 0≤(rd x3 x6) then (if (rd x3 x6)<(x0.length:Int) then ((spec_l1Least.f ((rd_T31 x0 (rd x3 x6)).f3) (wrap64 ((x4.length:Int) - 1))).bind fun t402=>(spec_l6Table.l2 k x0 x3 x4 x6 t402 ((rd_T31 x0 (rd x3 x6)).f0) ((rd_T31 x0 (rd x3 x6)).f1) ((rd_T31 x0 (rd x3 x6)).f2) ((rd_T31 x0 (rd x3 x6)).f3))) else (none)) else (none)) else (none)) else (some x4)
def spec_l6Table.l2:Nat→List (S31)→List Int→List Int→Int→Int→Int→Int→Int→Int→Option (List Int)
 | 0,_,_,_,_,_,_,_,_,_=>none
 | k + 1,x0,x3,x4,x6,x8,x402000,x402001,x402002,x402003=>if x8≥x402000 then (if 0≤(wrap64 (x8 - x402000)) then (if (wrap64 (x8 - x402000))<(x4.length:Int) then (if (rd x4 (wrap64 (x8 - x402000)))≥0 then (if 0≤x8 then (if x8<(x4.length:Int) then ((spec_l1Most.f (rd x4 x8) (wrap64 ((rd x4 (wrap64 (x8 - x402000))) + x402001))).bind fun t406=>(spec_l6Table.l2 k x0 x3 (x4.set (x8:Int).toNat t406) x6 (wrap64 (x8 - 1)) x402000 x402001 x402002 x402003)) else (none)) else (none)) else (spec_l6Table.l2 k x0 x3 x4 x6 (wrap64 (x8 - 1)) x402000 x402001 x402002 x402003)) else (none)) else (none)) else (spec_l6Table.l1 k x0 x3 x4 (wrap64 (x6 + 1)))
end
def spec_l6Table.f (k:Nat) (l0:List (S31)):Option (List Int):=(spec_l6All.f k l0).bind fun t386=>((spec_l6Due.f k l0 t386).bind fun t389=>(spec_l6Table.l0 k l0 t389 (([0]:List Int)) 0))
theorem spec_l6Table.mono_l:∀ k,(∀ y0 y1 y2 y3,LeO (spec_l6Table.l0 k y0 y1 y2 y3) (spec_l6Table.l0 (k + 1) y0 y1 y2 y3))∧(∀ y0 y1 y2 y3,LeO (spec_l6Table.l1 k y0 y1 y2 y3) (spec_l6Table.l1 (k + 1) y0 y1 y2 y3))∧(∀ y0 y1 y2 y3 y4 y5 y6 y7 y8,LeO (spec_l6Table.l2 k y0 y1 y2 y3 y4 y5 y6 y7 y8) (spec_l6Table.l2 (k + 1) y0 y1 y2 y3 y4 y5 y6 y7 y8))
 | 0=>⟨fun _ _ _ _ r h=>by simp [spec_l6Table.l0] at h,fun _ _ _ _ r h=>by simp [spec_l6Table.l1] at h,fun _ _ _ _ _ _ _ _ _ r h=>by simp [spec_l6Table.l2] at h⟩
 | k + 1=>by
  obtain ⟨ih0,ih1,ih2⟩:=spec_l6Table.mono_l k
  refine ⟨?_,?_,?_⟩ <;> intros <;> first|unfold spec_l6Table.l0|unfold spec_l6Table.l1|unfold spec_l6Table.l2
  all_goals repeat' first|(with_reducible first|apply ih0|apply ih1|apply ih2|exact spec_l2Times.mono _ _|exact spec_l6All.mono _ _|exact spec_l6Due.mono _ _ _|exact LeO.refl _|exact LeO.none _|refine LeO.ite ?_ ?_|refine LeO.bind ?_ (fun _=>?_))|apply ih0|apply ih1|apply ih2|exact spec_l2Times.mono _ _|exact spec_l6All.mono _ _|exact spec_l6Due.mono _ _ _|exact LeO.none _|refine LeO.ite ?_ ?_|refine LeO.bind ?_ (fun _=>?_)
theorem spec_l6Table.mono:∀ a0 k,LeO (spec_l6Table.f k a0) (spec_l6Table.f (k + 1) a0):=by
 intro a0 k
 obtain ⟨ih0,ih1,ih2⟩:=spec_l6Table.mono_l k
 unfold spec_l6Table.f
 repeat' first|(with_reducible first|apply ih0|apply ih1|apply ih2|exact spec_l2Times.mono _ _|exact spec_l6All.mono _ _|exact spec_l6Due.mono _ _ _|exact LeO.refl _|exact LeO.none _|refine LeO.ite ?_ ?_|refine LeO.bind ?_ (fun _=>?_))|apply ih0|apply ih1|apply ih2|exact spec_l2Times.mono _ _|exact spec_l6All.mono _ _|exact spec_l6Due.mono _ _ _|exact LeO.none _|refine LeO.ite ?_ ?_|refine LeO.bind ?_ (fun _=>?_)
def spec_l6Table.T14:Bool × List (List Nat × List Nat):=(true,[([],[]),([],[]),([],[]),([],[]),([2,3],[2,3]),([4],[4]),([],[]),([],[]),([],[]),([8],[8]),([7,9],[7,9]),([6,10],[6,10]),([11],[11]),([],[]),([13],[13]),([12,14],[12,14]),([5,15],[5,15]),([0,1,0,1,2,3,4,5,6,7,8,9,10,11,12,13,14,15,16],[0,1]),([17,16,16,0,1,2,3,4,5,6,7,8,9,10,11,12,13,14,15,16],[16,17])])
def spec_l6Table.B14:List Nat:=[0,0,0,0,12,28,0,0,0,256,896,1984,4032,0,8192,32704,65532,131071,262143]
theorem spec_l6Table.tab14:rtab .any (opsOf Try.f30 14)=spec_l6Table.T14:=by kernel_rfl
theorem spec_l6Table.bits14:waitsOk spec_l6Table.T14.2 spec_l6Table.B14=true:=by kernel_rfl
set_option maxHeartbeats 8000000 in
set_option maxRecDepth 100000 in
theorem spec_l6Table.calls (k:Nat) (A0:Option Addr) (c0:Nat) (l0:List (S31)) (r:List Int) (w:World) (hr0:Kd.C k31 w A0 l0.length l0) (hc0:l0.length≤c0) (h:spec_l6Table.f k l0=some r) :
  Calls Try.prog 30 #[.slice A0 l0.length c0] w fun e w'=>∃ v0_:Value,e=.returned (v0_)∧Kd.R (Kd.int .i64) 3 w' w.heap.size (fun _=>True) v0_ r∧Below w.heap.size w w':=by
 have hu31:=Try.underlying31
 have HR0:=Aside0.mk hr0
 have HC0:=Aside0.mk hc0
 clear hr0 hc0
 have HB:=Aside0.mk (Below.refl w.heap.size w)
 have H:((spec_l6All.f k l0).bind fun t386=>((spec_l6Due.f k l0 t386).bind fun t389=>(spec_l6Table.l0 k l0 t389 (([0]:List Int)) 0)))=some r:=h
 clear h
 replace H:=Option.bind_eq_some_iff.mp H
 obtain ⟨t386,A20,H⟩:=H
 try dsimp only at H
 have A2:=Aside0.mk A20
 clear A20
 replace H:=Option.bind_eq_some_iff.mp H
 obtain ⟨t389,A30,H⟩:=H
 try dsimp only at H
 have A3:=Aside0.mk A30
 clear A30
 obtain ⟨y392,hy392⟩:∃ y_:List Int,y_=(([0]:List Int)):=⟨_,rfl⟩
 replace H:(spec_l6Table.l0 k l0 t389 y392 0)=some r:=by first|(rw [hy392];with_reducible exact H)|(have H2_:=(Option.bind_some _ _).symm.trans H;rw [hy392];with_reducible exact H2_)|(have H2_:=(Option.bind_some _ _).symm.trans H;with_reducible exact H2_)|with_reducible exact H|(rw [hy392];exact H)|exact H
 have Ny392:=Aside0.mk hy392
 clear hy392
 have H':=Aside0.mk H
 clear H
 go_enter Try.func30,Try.ntmps30
 go_wp2_with (first|((with_reducible refine gate_callee (f:=65) rfl ?_);refine zgo 11 Try.func65 #[.slice A0 l0.length c0] ?_;(with_reducible refine (spec_l6All.calls k _ _ l0 t386 _ ?side1 ?side2 A2.out).mono ?_);(case side1=>exact zC HR0.out);(case side2=>exact HC0.out);rintro e w4 ⟨v387,rfl,ho0,hb⟩;refine ⟨_,rfl,?_⟩;have HO388:=Aside0.mk (Kd.R_lower ho0 (below_size zb));replace HB:=zb1 hb;(try clear hb);(try clear ho0);obtain ⟨Ao5,co5,eo5⟩:=Kd.R_slice HO388.out;subst eo5)|((with_reducible refine gate_callee (f:=64) rfl ?_);refine zgo 12 Try.func64 #[.slice A0 l0.length c0,.slice Ao5 t386.length co5] ?_;(with_reducible refine (spec_l6Due.calls k _ _ l0 _ _ t386 t389 _ ?side1 ?side2 ?side3 ?side4 A3.out).mono ?_);(case side1=>exact zC (Kd.C_below HR0.out HB.out));(case side2=>exact HC0.out);(case side3=>exact zC ((Kd.R_reads' HO388.out).2.2));(case side4=>exact (Kd.R_reads' HO388.out).2.1);rintro e w6 ⟨v390,rfl,ho0,hb⟩;refine ⟨_,rfl,?_⟩;have n0_:=Aside0.mk (Kd.R_elder' (zR HO388.out) (Kd.R_base ho0) hb);have n1_:=Aside0.mk (Kd.R_lower (Kd.R_new' ho0 (Kd.R_lt (zR HO388.out))) (below_size zb));have n2_:=zb1 hb;clear HO388;clear HB;have HO388:=n0_;have HO391:=n1_;have HB:=n2_;clear n0_ n1_ n2_;(try clear hb);(try clear ho0))|((with_reducible refine gate_dst (N:=13) rfl ?_);refine Kd.R_lit (Kd.int .i64) _ 3 ?hg (N:=13) ?hd (xs:=([0]:List Int)) (inner:=[.int .i64 0]) (ok:=fun _=>True) (okp:=fun _=>True) ?hr ?hp (fun _ hk=>hk) trivial (Below.refl _ _) (Nat.le_refl _) (by simp) ?_;(case hd=>rfl);(case hg=>rfl);(case hr=>first|(go_simp;done)|(go_simp;rfl));(case hp=>exact (Reps.one (show Kd.M (Kd.int .i64) _ _ _ 0 [.int .i64 0] from rfl) (Reps.none _ _)));intro v393 w7 ho8 hb hg_ hnew_;clear hg_ hnew_;(first|rw [←Ny392.out] at ho8|(simp only [Int.reduceToNat] at ho8;rw [←Ny392.out] at ho8));have n0_:=Aside0.mk (Kd.R_elder' (zR HO388.out) (Kd.R_base ho8) hb);have n1_:=Aside0.mk (Kd.R_elder' (zR HO391.out) (Kd.R_base ho8) hb);have n2_:=Aside0.mk (Kd.R_lower (Kd.R_new' (Kd.R_new' ho8 (Kd.R_lt (zR HO388.out))) (Kd.R_lt (zR HO391.out))) (below_size zb));have n3_:=zb1 hb;clear HO388;clear HO391;clear HB;have HO388:=n0_;have HO391:=n1_;have HO394:=n2_;have HB:=n3_;clear n0_ n1_ n2_ n3_;clear hb ho8))
 go_loopg [4,5] k (fun kq v4 v5 w'=>∃ (x4_1:List Int) (x5_1:Int),v5=.int .i64 x5_1∧Aside0 (spec_l6Table.l0 kq l0 t389 x4_1 x5_1=some r)∧Aside0 (kq≤k)∧Aside0 (Kd.R (Kd.int .i64) 3 w' w.heap.size (fun k_=>some k_≠(v4:Value).ownBlock) v390 t389)∧Aside0 (Kd.R (Kd.int .i64) 3 w' w.heap.size (fun k_=>some k_≠(v390:Value).ownBlock) v4 x4_1)∧Aside0 (Below w.heap.size w w'))
 case atStart=>exact ⟨(y392),(0),zo,H',⟨Nat.le_refl _⟩,⟨zR (Kd.R_mono HO391.out (fun _ hk=>hk.2))⟩,⟨zR (Kd.R_mono HO394.out (fun _ hk=>hk.2))⟩,⟨zb⟩⟩
 case round=>
  clear H'
  obtain ⟨x4_1,x5_1,rfl,HA,HK1,HO_3,HO_4,HB⟩:=hrel
  cases gk with
  | zero=>exact absurd HA.out (by simp [spec_l6Table.l0])
  | succ k1=>
   have H:=HA.out
   clear HA
   simp only [spec_l6Table.l0] at H
   replace H:=Option.bind_eq_some_iff.mp H
   obtain ⟨t395,A90,H⟩:=H
   try dsimp only at H
   have A9:=Aside0.mk A90
   clear A90
   by_cases c10:x5_1<t395
   ·rw [if_pos c10] at H
    have c10b0:=decide_eq_true c10
    clear c10
    by_cases c11:x4_1.length<17592186044416
    rotate_left
    ·rw [if_neg c11] at H
     exact absurd H (by simp)
    rw [if_pos c11] at H
    have LMc11:=Aside0.mk c11
    clear c11
    obtain ⟨y396,hy396⟩:∃ y_:List Int,y_=(x4_1++[(-1)]):=⟨_,rfl⟩
    replace H:(spec_l6Table.l0 k1 l0 t389 y396 (wrap64 (x5_1 + 1)))=some r:=by first|(rw [hy396];with_reducible exact H)|(have H2_:=(Option.bind_some _ _).symm.trans H;rw [hy396];with_reducible exact H2_)|(have H2_:=(Option.bind_some _ _).symm.trans H;with_reducible exact H2_)|with_reducible exact H|(rw [hy396];exact H)|exact H
    have Ny396:=Aside0.mk hy396
    clear hy396
    have H':=Aside0.mk H
    clear H
    go_wp2_with (first|((with_reducible refine gate_callee (f:=66) rfl ?_);refine zgo 16 Try.func66 #[.slice A0 l0.length c0] ?_;(with_reducible refine (spec_l2Times.calls k1 _ _ l0 t395 _ ?side1 ?side2 A9.out).mono ?_);(case side1=>exact zC (Kd.C_below HR0.out HB.out));(case side2=>exact HC0.out);rintro e w' ⟨rfl,⟨nd,rfl⟩⟩;refine ⟨_,rfl,?_⟩)|((with_reducible refine gate_builtin (b:=.append) (xs:=#[.tmp 20,.tmp 21]) rfl ?_);at_builtin;refine Kd.R_append (Kd.int .i64) (w0:=w) w.heap.size rfl (.tmp 20) (.tmp 21) 49 3 (.int .i64 0) 8 rfl Try.underlying49 info3 rfl (by decide) (by omega) u4 x4_1 (-1) [.int .i64 (-1)] (fun k_=>some k_≠(v390:Value).ownBlock) (fun _=>False) rfl rfl ?aP (fun _ hk=>hk.elim) ?aF ?aO ?aB ?aS ?aL ?_;(case aP=>exact rfl);(case aB=>exact zb);(case aF=>exact (fun k_ hk=>Kd.fresh' (Kd.R_lt (zR HO_3.out)) k_ hk));(case aO=>exact (zR HO_4.out));(case aS=>exact (below_size zb));(case aL=>have:=LMc11.out;omega);intro v397 w12 ho hb hg hat;rw [←Ny396.out] at ho;replace HO_3:=Aside0.mk (Kd.R_after (ok:=(fun _=>True)) (zR (Kd.R_mono HO_3.out (fun _ hk=>⟨trivial,hk⟩))) hg hat);replace HB:=Aside0.mk (hb);have HO398:=Aside0.mk (ho);clear HO_4;clear ho hb hg hat))
    go_roundg k1
    case measure=>have:=HK1.out;omega
    case rel=>exact ⟨(y396),(wrap64 (x5_1 + 1)),zo,H',⟨by have:=HK1.out;omega⟩,⟨zR (Kd.R_mono HO_3.out (fun _ hk=>hk.2))⟩,⟨zR HO398.out⟩,⟨zb⟩⟩
   rw [if_neg c10] at H
   have c10b0:=decide_eq_false c10
   clear c10
   have H':=Aside0.mk H
   clear H
   go_wp2_with (first|((with_reducible refine gate_callee (f:=66) rfl ?_);refine zgo 16 Try.func66 #[.slice A0 l0.length c0] ?_;(with_reducible refine (spec_l2Times.calls k1 _ _ l0 t395 _ ?side1 ?side2 A9.out).mono ?_);(case side1=>exact zC (Kd.C_below HR0.out HB.out));(case side2=>exact HC0.out);rintro e w' ⟨rfl,⟨nd,rfl⟩⟩;refine ⟨_,rfl,?_⟩))
   go_loopg [6] k1 (fun kq v6 w'=>∃ (x4_2:List Int) (x6_2:Int),v6=.int .i64 x6_2∧Aside0 (spec_l6Table.l1 kq l0 t389 x4_2 x6_2=some r)∧Aside0 (kq≤k1)∧Aside0 (Kd.R (Kd.int .i64) 3 w' w.heap.size (fun k_=>some k_≠(u4:Value).ownBlock) v390 t389)∧Aside0 (Kd.R (Kd.int .i64) 3 w' w.heap.size (fun k_=>some k_≠(v390:Value).ownBlock) u4 x4_2)∧Aside0 (Below w.heap.size w w'))
   case atStart=>exact ⟨(x4_1),(0),zo,H',⟨Nat.le_refl _⟩,⟨zR HO_3.out⟩,⟨zR HO_4.out⟩,⟨zb⟩⟩
   case round=>
    clear H'
    obtain ⟨x4_2,x6_2,rfl,HA,HK2,HO_3,HO_4,HB⟩:=hrel
    cases gk with
    | zero=>exact absurd HA.out (by simp [spec_l6Table.l1])
    | succ k2=>
     have H:=HA.out
     clear HA
     simp only [spec_l6Table.l1] at H
     by_cases c13:x6_2<(t389.length:Int)
     rotate_left
     ·rw [if_neg c13] at H
      have c13b0:=decide_eq_false c13
      clear c13
      obtain rfl:=Option.some.inj H
      obtain ⟨Ao36,co36,eo36⟩:=Kd.R_slice HO_3.out
      subst eo36
      go_wp2
      go_ret
      exact ⟨_,zz0,zR (Kd.R_mono HO_4.out (fun _ hk=>trivial)),zb⟩
     rw [if_pos c13] at H
     have c13b0:=decide_eq_true c13
     clear c13
     by_cases c14:0≤x6_2
     rotate_left
     ·rw [if_neg c14] at H
      exact absurd H (by simp)
     rw [if_pos c14] at H
     have c14b0:=decide_eq_true c14
     clear c14
     by_cases c15:0≤(rd t389 x6_2)
     rotate_left
     ·rw [if_neg c15] at H
      exact absurd H (by simp)
     rw [if_pos c15] at H
     have c15b0:=decide_eq_true c15
     clear c15
     by_cases c16:(rd t389 x6_2)<(l0.length:Int)
     rotate_left
     ·rw [if_neg c16] at H
      exact absurd H (by simp)
     rw [if_pos c16] at H
     have c16b0:=decide_eq_true c16
     clear c16
     replace H:=Option.bind_eq_some_iff.mp H
     obtain ⟨t402,A170,H⟩:=H
     try dsimp only at H
     have A17:=Aside0.mk A170
     clear A170
     have H':=Aside0.mk H
     clear H
     obtain ⟨Ao18,co18,eo18⟩:=Kd.R_slice HO_3.out
     subst eo18
     have p399:0≤(x6_2:Int):=of_decide_eq_true za
     have q399:x6_2<(t389.length:Int):=of_decide_eq_true za
     obtain ⟨ad399,e399,hx399_0⟩:=Kd.at_int (Kd.R_reads' HO_3.out).2.2 x6_2 p399 q399
     cases e399
     replace p399:=eq_true p399
     replace q399:=eq_true q399
     have p400:0≤((rd t389 x6_2):Int):=of_decide_eq_true za
     have q400:(rd t389 x6_2)<(l0.length:Int):=of_decide_eq_true za
     obtain ⟨ad400,e400,hx400_0,hx400_1,hx400_2,hx400_3⟩:=at_T31 HR0.out (rd t389 x6_2) p400 q400
     cases e400
     replace hx400_0:=zh_ HB hx400_0
     replace hx400_1:=zh_ HB hx400_1
     replace hx400_2:=zh_ HB hx400_2
     replace hx400_3:=zh_ HB hx400_3
     replace p400:=eq_true p400
     replace q400:=eq_true q400
     go_wp2_with (first|((with_reducible refine gate_dst (N:=7) rfl ?_);refine box_event ?hg (N:=7) ?hd (cs:=#[.int .i64 0,.int .i64 0,.int .i64 0,.int .i64 0]) (t:=31) ?hr ?_;(case hd=>rfl);(case hg=>rfl);(case hr=>first|(go_simp;done)|(go_simp;rfl));intro gb401 hg w19 hbox hb;have n0_:=zRb HO_3 hb;have n1_:=zRb HO_4 hb;have n2_:=zb1 hb;have n3_:=Aside0.mk (hbox);have n4_:=Aside0.mk ((by rw [hg];exact (below_size zb):w.heap.size≤gb401));have n5_:=Aside0.mk ((by rw [hg];exact (below_size zb):w.heap.size≤gb401));clear HO_3;clear HO_4;clear HB;have HO_3:=n0_;have HO_4:=n1_;have HB:=n2_;have BK401:=n3_;have GW401:=n4_;have GE401:=n5_;clear n0_ n1_ n2_ n3_ n4_ n5_;clear hb hbox hg;obtain ⟨hcz20_0,hcz20_1,hcz20_2,hcz20_3,hfz20_0,hfz20_1,hfz20_2,hfz20_3⟩:=zk4 BK401.out;obtain ⟨Ao21,co21,eo21⟩:=Kd.R_slice HO_4.out;subst eo21)|((with_reducible refine gate_callee (f:=67) rfl ?_);refine zgo 41 Try.func67 #[.int .i64 ((rd_T31 l0 (rd t389 x6_2)).f3),.int .i64 (wrap64 ((x4_2.length:Int) - 1))] ?_;(with_reducible refine (spec_l1Least.calls ((rd_T31 l0 (rd t389 x6_2)).f3) (wrap64 ((x4_2.length:Int) - 1)) t402 _ A17.out).mono ?_);rintro e w' ⟨rfl,⟨nd,rfl⟩⟩;refine ⟨_,rfl,?_⟩))
     go_loopg [8] k2 (fun kq v8 w'=>∃ (x4_3:List Int) (x8_3:Int),v8=.int .i64 x8_3∧Aside0 (spec_l6Table.l2 kq l0 t389 x4_3 x6_2 x8_3 ((rd_T31 l0 (rd t389 x6_2)).f0) ((rd_T31 l0 (rd t389 x6_2)).f1) ((rd_T31 l0 (rd t389 x6_2)).f2) ((rd_T31 l0 (rd t389 x6_2)).f3)=some r)∧Aside0 (kq≤k2)∧Aside0 (Kd.R (Kd.int .i64) 3 w' w.heap.size (fun k_=>some k_≠((.slice Ao21 x4_2.length co21):Value).ownBlock) (.slice (some ad399) t389.length co18) t389)∧Aside0 (Kd.R (Kd.int .i64) 3 w' w.heap.size (fun k_=>some k_≠((.slice (some ad399) t389.length co18):Value).ownBlock) (.slice Ao21 x4_2.length co21) x4_3)∧Aside0 (w'.heap[gb401]?=some (.cells #[.int .i64 ((rd_T31 l0 (rd t389 x6_2)).f0),.int .i64 ((rd_T31 l0 (rd t389 x6_2)).f1),.int .i64 ((rd_T31 l0 (rd t389 x6_2)).f2),.int .i64 ((rd_T31 l0 (rd t389 x6_2)).f3)] 31 (0,0)))∧Aside0 (Below w.heap.size w w'))
     case atStart=>exact ⟨(x4_2),(t402),zo,H',⟨Nat.le_refl _⟩,⟨by (with_reducible repeat (first|apply Kd.R_alloc|apply Kd.R_drewN|apply Kd.R_drew));exact Kd.R_mono (Kd.R_far (p:=⟨gb401,3,none⟩) (Kd.R_far (p:=⟨gb401,2,none⟩) (Kd.R_far (p:=⟨gb401,1,none⟩) (Kd.R_far (p:=⟨gb401,0,none⟩) (Kd.R_types HO_3.out BK401.out (by decide)) (fun _ hk=>hk.2) (.int .i64 ((rd_T31 l0 (rd t389 x6_2)).f0))) (fun _ hk=>hk.2) (.int .i64 ((rd_T31 l0 (rd t389 x6_2)).f1))) (fun _ hk=>hk.2) (.int .i64 ((rd_T31 l0 (rd t389 x6_2)).f2))) (fun _ hk=>hk.2) (.int .i64 ((rd_T31 l0 (rd t389 x6_2)).f3))) (fun _ hk=>hk.1)⟩,⟨by (with_reducible repeat (first|apply Kd.R_alloc|apply Kd.R_drewN|apply Kd.R_drew));exact Kd.R_mono (Kd.R_far (p:=⟨gb401,3,none⟩) (Kd.R_far (p:=⟨gb401,2,none⟩) (Kd.R_far (p:=⟨gb401,1,none⟩) (Kd.R_far (p:=⟨gb401,0,none⟩) (Kd.R_types HO_4.out BK401.out (by decide)) (fun _ hk=>hk.2) (.int .i64 ((rd_T31 l0 (rd t389 x6_2)).f0))) (fun _ hk=>hk.2) (.int .i64 ((rd_T31 l0 (rd t389 x6_2)).f1))) (fun _ hk=>hk.2) (.int .i64 ((rd_T31 l0 (rd t389 x6_2)).f2))) (fun _ hk=>hk.2) (.int .i64 ((rd_T31 l0 (rd t389 x6_2)).f3))) (fun _ hk=>hk.1)⟩,⟨by (with_reducible repeat (first|refine blk_drewN ?_ _|refine blk_drew ?_|refine blk_alloc ?_ _));refine blk_put (cs:=#[.int .i64 ((rd_T31 l0 (rd t389 x6_2)).f0),.int .i64 ((rd_T31 l0 (rd t389 x6_2)).f1),.int .i64 ((rd_T31 l0 (rd t389 x6_2)).f2),.int .i64 0]) ?_ 3 _ rfl;(with_reducible repeat (first|refine blk_drewN ?_ _|refine blk_drew ?_|refine blk_alloc ?_ _));refine blk_put (cs:=#[.int .i64 ((rd_T31 l0 (rd t389 x6_2)).f0),.int .i64 ((rd_T31 l0 (rd t389 x6_2)).f1),.int .i64 0,.int .i64 0]) ?_ 2 _ rfl;(with_reducible repeat (first|refine blk_drewN ?_ _|refine blk_drew ?_|refine blk_alloc ?_ _));refine blk_put (cs:=#[.int .i64 ((rd_T31 l0 (rd t389 x6_2)).f0),.int .i64 0,.int .i64 0,.int .i64 0]) ?_ 1 _ rfl;(with_reducible repeat (first|refine blk_drewN ?_ _|refine blk_drew ?_|refine blk_alloc ?_ _));refine blk_put (cs:=#[.int .i64 0,.int .i64 0,.int .i64 0,.int .i64 0]) ?_ 0 _ rfl;(with_reducible repeat (first|refine blk_drewN ?_ _|refine blk_drew ?_|refine blk_alloc ?_ _));exact BK401.out⟩,⟨zz41⟩⟩
     case round=>
      clear H'
      obtain ⟨x4_3,x8_3,rfl,HA,HK3,HO_3,HO_4,BK401,HB⟩:=hrel
      have hl4_3:=(Kd.R_reads' HO_4.out).1
      rw [hl4_3] at HO_4
      (try simp only [hl4_3])
      (try simp only [hl4_3] at BK401)
      (try simp only [hl4_3] at HO_3)
      cases gk with
      | zero=>exact absurd HA.out (by simp [spec_l6Table.l2])
      | succ k3=>
       have H:=HA.out
       clear HA
       simp only [spec_l6Table.l2] at H
       by_cases c22:x8_3≥((rd_T31 l0 (rd t389 x6_2)).f0)
       rotate_left
       ·rw [if_neg c22] at H
        have c22b0:=decide_eq_false c22
        clear c22
        have H':=Aside0.mk H
        clear H
        obtain ⟨hcz35_0,hcz35_1,hcz35_2,hcz35_3,hfz35_0,hfz35_1,hfz35_2,hfz35_3⟩:=zk4 BK401.out
        go_wp2
        (try simp only [←hl4_3])
        go_roundg k3
        case measure=>have:=HK1.out;have:=HK2.out;have:=HK3.out;omega
        case rel=>exact ⟨(x4_3),(wrap64 (x6_2 + 1)),zo,H',⟨by have:=HK1.out;have:=HK2.out;have:=HK3.out;omega⟩,⟨by (try simp only [hl4_3]);(with_reducible repeat (first|apply Kd.R_alloc|apply Kd.R_drewN|apply Kd.R_drew));exact HO_3.out⟩,⟨by (try simp only [hl4_3]);(with_reducible repeat (first|apply Kd.R_alloc|apply Kd.R_drewN|apply Kd.R_drew));exact HO_4.out⟩,⟨zz41⟩⟩
       rw [if_pos c22] at H
       have c22b0:=decide_eq_true c22
       clear c22
       obtain ⟨ji23,hji23⟩:∃ j_:Int,(wrap64 (x8_3 - ((rd_T31 l0 (rd t389 x6_2)).f0)))=j_:=⟨_,rfl⟩
       replace H:(if 0≤(ji23) then (if (ji23)<(x4_3.length:Int) then (if (rd x4_3 (ji23))≥0 then (if 0≤x8_3 then (if x8_3<(x4_3.length:Int) then ((spec_l1Most.f (rd x4_3 x8_3) (wrap64 ((rd x4_3 (ji23)) + ((rd_T31 l0 (rd t389 x6_2)).f1)))).bind fun t406=>(spec_l6Table.l2 k3 l0 t389 (x4_3.set (x8_3:Int).toNat t406) x6_2 (wrap64 (x8_3 - 1)) ((rd_T31 l0 (rd t389 x6_2)).f0) ((rd_T31 l0 (rd t389 x6_2)).f1) ((rd_T31 l0 (rd t389 x6_2)).f2) ((rd_T31 l0 (rd t389 x6_2)).f3))) else (none)) else (none)) else (spec_l6Table.l2 k3 l0 t389 x4_3 x6_2 (wrap64 (x8_3 - 1)) ((rd_T31 l0 (rd t389 x6_2)).f0) ((rd_T31 l0 (rd t389 x6_2)).f1) ((rd_T31 l0 (rd t389 x6_2)).f2) ((rd_T31 l0 (rd t389 x6_2)).f3))) else (none)) else (none))=some r:=by first|(rw [hji23] at H;exact H)|(simp only [hji23] at H ⊢;exact H)
       have hji23w:(IntKind.i64.wrap (x8_3 - ((rd_T31 l0 (rd t389 x6_2)).f0)))=ji23:=(i64_w _).trans hji23
       by_cases c24:0≤(ji23)
       rotate_left
       ·rw [if_neg c24] at H
        exact absurd H (by simp)
       rw [if_pos c24] at H
       have c24b0:=decide_eq_true c24
       clear c24
       by_cases c25:(ji23)<(x4_3.length:Int)
       rotate_left
       ·rw [if_neg c25] at H
        exact absurd H (by simp)
       rw [if_pos c25] at H
       have c25b0:=decide_eq_true c25
       clear c25
       by_cases c26:(rd x4_3 (ji23))≥0
       rotate_left
       ·rw [if_neg c26] at H
        have c26b0:=decide_eq_false c26
        clear c26
        have H':=Aside0.mk H
        clear H
        obtain ⟨hcz34_0,hcz34_1,hcz34_2,hcz34_3,hfz34_0,hfz34_1,hfz34_2,hfz34_3⟩:=zk4 BK401.out
        have p403:0≤((ji23):Int):=of_decide_eq_true za
        have q403:(ji23)<(x4_3.length:Int):=of_decide_eq_true za
        obtain ⟨ad403,e403,hx403_0⟩:=Kd.at_int (Kd.R_reads' HO_4.out).2.2 (ji23) p403 q403
        cases e403
        replace p403:=eq_true p403
        replace q403:=eq_true q403
        go_wp2
        (try simp only [←hl4_3])
        go_roundg k3
        case measure=>have:=HK1.out;have:=HK2.out;have:=HK3.out;omega
        case rel=>exact ⟨(x4_3),(wrap64 (x8_3 - 1)),zo,H',⟨by have:=HK1.out;have:=HK2.out;have:=HK3.out;omega⟩,⟨by (try simp only [hl4_3]);(with_reducible repeat (first|apply Kd.R_alloc|apply Kd.R_drewN|apply Kd.R_drew));exact HO_3.out⟩,⟨by (try simp only [hl4_3]);(with_reducible repeat (first|apply Kd.R_alloc|apply Kd.R_drewN|apply Kd.R_drew));exact HO_4.out⟩,⟨by (try simp only [hl4_3]);(with_reducible repeat (first|refine blk_drewN ?_ _|refine blk_drew ?_|refine blk_alloc ?_ _));exact BK401.out⟩,⟨zz41⟩⟩
       rw [if_pos c26] at H
       have c26b0:=decide_eq_true c26
       clear c26
       by_cases c27:0≤x8_3
       rotate_left
       ·rw [if_neg c27] at H
        exact absurd H (by simp)
       rw [if_pos c27] at H
       have c27b0:=decide_eq_true c27
       clear c27
       by_cases c28:x8_3<(x4_3.length:Int)
       rotate_left
       ·rw [if_neg c28] at H
        exact absurd H (by simp)
       rw [if_pos c28] at H
       have c28b0:=decide_eq_true c28
       clear c28
       replace H:=Option.bind_eq_some_iff.mp H
       obtain ⟨t406,A290,H⟩:=H
       try dsimp only at H
       have A29:=Aside0.mk A290
       clear A290
       obtain ⟨y407,hy407⟩:∃ y_:List Int,y_=(x4_3.set (x8_3:Int).toNat t406):=⟨_,rfl⟩
       replace H:(spec_l6Table.l2 k3 l0 t389 y407 x6_2 (wrap64 (x8_3 - 1)) ((rd_T31 l0 (rd t389 x6_2)).f0) ((rd_T31 l0 (rd t389 x6_2)).f1) ((rd_T31 l0 (rd t389 x6_2)).f2) ((rd_T31 l0 (rd t389 x6_2)).f3))=some r:=by first|(rw [hy407];with_reducible exact H)|(have H2_:=(Option.bind_some _ _).symm.trans H;rw [hy407];with_reducible exact H2_)|(have H2_:=(Option.bind_some _ _).symm.trans H;with_reducible exact H2_)|with_reducible exact H|(rw [hy407];exact H)|exact H
       have Ny407:=Aside0.mk hy407
       clear hy407
       have H':=Aside0.mk H
       clear H
       obtain ⟨hcz31_0,hcz31_1,hcz31_2,hcz31_3,hfz31_0,hfz31_1,hfz31_2,hfz31_3⟩:=zk4 BK401.out
       have p403:0≤((ji23):Int):=of_decide_eq_true za
       have q403:(ji23)<(x4_3.length:Int):=of_decide_eq_true za
       obtain ⟨ad403,e403,hx403_0⟩:=Kd.at_int (Kd.R_reads' HO_4.out).2.2 (ji23) p403 q403
       cases e403
       replace p403:=eq_true p403
       replace q403:=eq_true q403
       try go_wp2
       replace HO_3:=Aside0.mk (Kd.R_drew HO_3.out)
       replace HO_4:=Aside0.mk (Kd.R_drew HO_4.out)
       replace BK401:=Aside0.mk (blk_drew BK401.out)
       replace HB:=Aside0.mk (below_drew1 HB.out)
       have p404:0≤(x8_3:Int):=of_decide_eq_true za
       have q404:x8_3<(x4_3.length:Int):=of_decide_eq_true za
       obtain ⟨ad404,e404,hx404_0⟩:=Kd.at_int (Kd.R_reads' HO_4.out).2.2 x8_3 p404 q404
       obtain rfl:ad403=ad404:=(by injection e404)
       replace p404:=eq_true p404
       replace q404:=eq_true q404
       have p405:0≤((ji23):Int):=of_decide_eq_true za
       have q405:(ji23)<(x4_3.length:Int):=of_decide_eq_true za
       obtain ⟨ad405,e405,hx405_0⟩:=Kd.at_int (Kd.R_reads' HO_4.out).2.2 (ji23) p405 q405
       obtain rfl:ad403=ad405:=(by injection e405)
       replace p405:=eq_true p405
       replace q405:=eq_true q405
       refine start_ (n:=19) (S:=fun w'=>w'.cell? ⟨gb401,0,none⟩=some (.int .i64 ((rd_T31 l0 (rd t389 x6_2)).f0))∧w'.cell? ⟨gb401,1,none⟩=some (.int .i64 ((rd_T31 l0 (rd t389 x6_2)).f1))∧w'.cell? ⟨gb401,2,none⟩=some (.int .i64 ((rd_T31 l0 (rd t389 x6_2)).f2))∧w'.cell? ⟨gb401,3,none⟩=some (.int .i64 ((rd_T31 l0 (rd t389 x6_2)).f3))∧w'.cell? (ad403.add (x8_3).toNat)=some (.int .i64 (rd x4_3 x8_3))∧w'.cell? (ad403.add ((ji23)).toNat)=some (.int .i64 (rd x4_3 (ji23)))) (ds:=[18]) #[false,false,false,false,false,false,false,false,false,false,false,false,false,false,false,false,false,false,false] (by kernel_rfl) rfl rfl ⟨(blk_cell BK401.out 0).trans rfl,(blk_cell BK401.out 1).trans rfl,(blk_cell BK401.out 2).trans rfl,(blk_cell BK401.out 3).trans rfl,hx404_0,hx405_0⟩ (fun hHeld=>?_);refine with_tabW spec_l6Table.tab14 spec_l6Table.bits14 (fun HT_ HW_=>?_)
       generalize wr.drew=w32 at HO_3 HO_4 BK401 HB hx404_0 hx405_0 hHeld ⊢
       refine pu_ 0 56 ?_
       refine pu_ 1 57 ?_
       refine pu_ 2 58 ?_
       refine pu_ 3 59 ?_
       refine pu_ 4 60 ?_
       refine pu_ 6 62 ?_
       refine pu_ 7 63 ?_
       refine pu_ 8 64 ?_
       refine pu_ 13 69 ?_
       refine tk_ 5 61 hHeld ?_
       refine tk_ 9 65 hHeld ?_
       refine pu_ 10 66 ?_
       refine pu_ 11 67 ?_
       refine tk_ 12 68 hHeld ?_
       refine tk_ 14 70 hHeld ?_
       refine pu_ 15 71 ?_
       refine one_ (i:=16) (N:=some 72) #[true,true,true,true,true,true,true,true,true,true,true,true,true,true,true,true,true,false,false] rfl rfl (one_of HT_.out (by kernel_rfl)) (by decide) (fun K hK=>?_)
       refine goes_ Try.func63 (by kernel_rfl) rfl #[.int .i64 (rd x4_3 x8_3),.int .i64 (wrap64 ((rd x4_3 (ji23)) + ((rd_T31 l0 (rd t389 x6_2)).f1)))] (by rfl) rfl rfl (by (try simp only [List.map_toArray,List.map_cons,List.map_nil]);first|done|(simp only [hji23];rfl)|rfl|(simp only [List.length_drop,List.length_take];rfl)) ?_
       with_reducible refine (spec_l1Most.calls (rd x4_3 x8_3) (wrap64 ((rd x4_3 (ji23)) + ((rd_T31 l0 (rd t389 x6_2)).f1))) t406 _ A29.out).mono ?_
       rintro e w' ⟨rfl,⟨nd,rfl⟩⟩
       refine ⟨_,rfl,?_⟩
       have p30:0≤(x8_3:Int):=of_decide_eq_true za
       have q30:(x8_3:Int)<((x4_3.length:Int):Int):=of_decide_eq_true za
       obtain ⟨go30,co30,eo30,gb30,gl30,cl30,HG30⟩:=Kd.R_form HO_4.out (by omega)
       (first|cases eo30|(injection eo30 with ea_ en_ ec_;(first|subst ea_|(injection ea_ with ea_;subst ea_));subst ec_;clear en_))
       have GB30:=Aside0.mk gb30
       have GG30:=Aside0.mk HG30
       clear gb30 gl30 HG30
       (first|simp only [add_plain] at hx403_0|skip)
       (first|simp only [add_plain] at hx404_0|skip)
       (first|simp only [add_plain] at hx405_0|skip)
       obtain ⟨hx30_0,hf30_0⟩:=Kd.R_celln 0 HO_4.out (x8_3:Int) p30 q30
       replace p30:=eq_true p30
       replace q30:=eq_true q30
       have HP33:=Kd.R_putn HO_4.out (x8_3:Int) t406
       rw [←Ny407.out] at HP33
       have HQ33:=Aside0.mk HP33
       clear HP33
       refine hK.out _ _ ⟨(blk_cell BK401.out 0).trans rfl,(blk_cell BK401.out 1).trans rfl,(blk_cell BK401.out 2).trans rfl,(blk_cell BK401.out 3).trans rfl,hHeld.2.2.2.2.1,hHeld.2.2.2.2.2⟩ (fun hHeld=>?_)
       clear hK K
       refine norm_ (a':=?_) ?_ ?_
       rotate_left
       ·show Act.put _ (some 72) _=_
        simp only [Act.put,List.setIfInBounds_toArray,List.set_cons_zero,List.set_cons_succ,i64_w,i32_w]
        rfl
       refine pu_ 17 73 ?_
       refine last_ (i:=18) (N:=none) #[true,true,true,true,true,true,true,true,true,true,true,true,true,true,true,true,true,true,true] rfl rfl (one_of HT_.out (by kernel_rfl)) (by decide) (fun K hK=>?_)
       refine skip_ (w1:=?_) (by rfl) rfl ?_ ?_
       rotate_left
       ·go_simp
        rfl
       refine hK.out _ _ ?_
       clear hK K
       refine done_ (done_of HT_.out (by kernel_rfl)) ?_
       try go_wp2
       (try simp only [←hl4_3])
       go_roundg k3
       case measure=>have:=HK1.out;have:=HK2.out;have:=HK3.out;omega
       case rel=>exact ⟨(y407),(wrap64 (x8_3 - 1)),zo,H',⟨by have:=HK1.out;have:=HK2.out;have:=HK3.out;omega⟩,⟨by (try simp only [hl4_3]);(with_reducible repeat (first|apply Kd.R_alloc|apply Kd.R_drewN|apply Kd.R_drew));exact Kd.R_mono (Kd.R_far (p:=⟨go30,(x8_3:Int).toNat,none⟩) (Kd.R_mono HO_3.out (fun k_ hk=>(⟨hk,fun e_=>hk (by rw [e_];rfl)⟩:_∧k_≠go30))) (fun _ hk=>hk.2) (.int .i64 t406)) (fun _ hk=>hk.1)⟩,⟨by (try simp only [hl4_3]);(with_reducible repeat (first|apply Kd.R_alloc|apply Kd.R_drewN|apply Kd.R_drew));exact HQ33.out⟩,⟨by (try simp only [hl4_3]);(with_reducible repeat (first|refine blk_drewN ?_ _|refine blk_drew ?_|refine blk_alloc ?_ _));refine blk_far ?_ (by have h_:=Kd.R_ne HO_4.out BK401.out (by decide);intro e_;exact h_ (by rw [e_];rfl)) _;(with_reducible repeat (first|refine blk_drewN ?_ _|refine blk_drew ?_|refine blk_alloc ?_ _));exact BK401.out⟩,⟨by repeat (first|(with_reducible first|exact HB.out|apply below_alloc|apply pw_below_drewN|apply below_drew1|refine below_set ?_ GB30.out|refine below_set ?_ GE401.out)|exact HB.out)⟩⟩

/-! ### spec_LeastLateWeight: function 8 -/
def spec_LeastLateWeight.l0:Nat→List (S31)→Int→Int→Option (Int × Bool)
 | 0,_,_,_=>none
 | k + 1,x0,x4,x5=>if x5<(x0.length:Int) then (if 0≤x5 then (spec_LeastLateWeight.l0 k x0 (wrap64 (x4 + ((rd_T31 x0 x5).f1))) (wrap64 (x5 + 1))) else (none)) else ((spec_l6Table.f k x0).bind fun t410=>((spec_l2Last.f k t410).bind fun t413=>(some (wrap64 (x4 - t413),true))))
def spec_LeastLateWeight.f (k:Nat) (l0:List (S31)):Option (Int × Bool):=(spec_l6Good.f k l0).bind fun t408=>(if t408=true then (spec_LeastLateWeight.l0 k l0 0 0) else (some (0,false)))
theorem spec_LeastLateWeight.mono_l:∀ k,(∀ y0 y1 y2,LeO (spec_LeastLateWeight.l0 k y0 y1 y2) (spec_LeastLateWeight.l0 (k + 1) y0 y1 y2))
 | 0=>fun _ _ _ r h=>by simp [spec_LeastLateWeight.l0] at h
 | k + 1=>by
  have ih0:=spec_LeastLateWeight.mono_l k
  ·intro y0 y1 y2
   unfold spec_LeastLateWeight.l0
   repeat' first|(with_reducible first|apply ih0|exact spec_l2Last.mono _ _|exact spec_l6Good.mono _ _|exact spec_l6Table.mono _ _|exact LeO.refl _|exact LeO.none _|refine LeO.ite ?_ ?_|refine LeO.bind ?_ (fun _=>?_))|apply ih0|exact spec_l2Last.mono _ _|exact spec_l6Good.mono _ _|exact spec_l6Table.mono _ _|exact LeO.none _|refine LeO.ite ?_ ?_|refine LeO.bind ?_ (fun _=>?_)
theorem spec_LeastLateWeight.mono:∀ a0 k,LeO (spec_LeastLateWeight.f k a0) (spec_LeastLateWeight.f (k + 1) a0):=by
 intro a0 k
 have ih0:=spec_LeastLateWeight.mono_l k
 unfold spec_LeastLateWeight.f
 repeat' first|(with_reducible first|apply ih0|exact spec_l2Last.mono _ _|exact spec_l6Good.mono _ _|exact spec_l6Table.mono _ _|exact LeO.refl _|exact LeO.none _|refine LeO.ite ?_ ?_|refine LeO.bind ?_ (fun _=>?_))|apply ih0|exact spec_l2Last.mono _ _|exact spec_l6Good.mono _ _|exact spec_l6Table.mono _ _|exact LeO.none _|refine LeO.ite ?_ ?_|refine LeO.bind ?_ (fun _=>?_)
set_option maxHeartbeats 8000000 in
set_option maxRecDepth 100000 in
theorem spec_LeastLateWeight.calls (k:Nat) (A0:Option Addr) (c0:Nat) (l0:List (S31)) (r1:Int) (r2:Bool) (w:World) (hr0:Kd.C k31 w A0 l0.length l0) (hc0:l0.length≤c0) (h:spec_LeastLateWeight.f k l0=some (r1,r2)) :
  Calls Try.prog 8 #[.slice A0 l0.length c0] w fun e w'=>e=.returned (.tuple #[.int .i64 r1,.bool r2])∧Below w.heap.size w w':=by
 have HR0:=Aside0.mk hr0
 have HC0:=Aside0.mk hc0
 clear hr0 hc0
 have HB:=Aside0.mk (Below.refl w.heap.size w)
 have H:((spec_l6Good.f k l0).bind fun t408=>(if t408=true then (spec_LeastLateWeight.l0 k l0 0 0) else (some (0,false))))=some (r1,r2):=h
 clear h
 replace H:=Option.bind_eq_some_iff.mp H
 obtain ⟨t408,A20,H⟩:=H
 try dsimp only at H
 have A2:=Aside0.mk A20
 clear A20
 by_cases c3:t408=true
 rotate_left
 ·replace c3:=Bool.eq_false_iff.mpr c3
  subst c3
  rw [if_neg (show ¬ (false=true) by decide)] at H
  simp only [Option.some.injEq,Prod.mk.injEq] at H
  obtain ⟨rfl,rfl⟩:=H
  go_enter Try.func8,Try.ntmps8
  go_wp2_with (first|((with_reducible refine gate_callee (f:=28) rfl ?_);refine zgo 7 Try.func28 #[.slice A0 l0.length c0] ?_;(with_reducible refine (spec_l6Good.calls k _ _ l0 false _ ?side1 ?side2 A2.out).mono ?_);(case side1=>exact zC HR0.out);(case side2=>exact HC0.out);rintro e w11 ⟨rfl,hb⟩;refine ⟨_,rfl,?_⟩;replace HB:=zb1 hb;(try clear hb)))
  go_ret2
  exact ⟨zz0,zb⟩
 subst c3
 rw [if_pos rfl] at H
 have H':=Aside0.mk H
 clear H
 go_enter Try.func8,Try.ntmps8
 go_wp2_with (first|((with_reducible refine gate_callee (f:=28) rfl ?_);refine zgo 7 Try.func28 #[.slice A0 l0.length c0] ?_;(with_reducible refine (spec_l6Good.calls k _ _ l0 true _ ?side1 ?side2 A2.out).mono ?_);(case side1=>exact zC HR0.out);(case side2=>exact HC0.out);rintro e w4 ⟨rfl,hb⟩;refine ⟨_,rfl,?_⟩;replace HB:=zb1 hb;(try clear hb)))
 go_loopg [4,5] k (fun kq v4 v5 w'=>∃ (x4_1:Int) (x5_1:Int),v4=.int .i64 x4_1∧v5=.int .i64 x5_1∧Aside0 (spec_LeastLateWeight.l0 kq l0 x4_1 x5_1=some (r1,r2))∧Aside0 (kq≤k)∧Aside0 (Below w.heap.size w w'))
 case atStart=>exact ⟨(0),(0),zo,zo,H',⟨Nat.le_refl _⟩,⟨zb⟩⟩
 case round=>
  clear H'
  obtain ⟨x4_1,x5_1,rfl,rfl,HA,HK1,HB⟩:=hrel
  cases gk with
  | zero=>exact absurd HA.out (by simp [spec_LeastLateWeight.l0])
  | succ k1=>
   have H:=HA.out
   clear HA
   simp only [spec_LeastLateWeight.l0] at H
   by_cases c5:x5_1<(l0.length:Int)
   ·rw [if_pos c5] at H
    have c5b0:=decide_eq_true c5
    clear c5
    by_cases c6:0≤x5_1
    rotate_left
    ·rw [if_neg c6] at H
     exact absurd H (by simp)
    rw [if_pos c6] at H
    have c6b0:=decide_eq_true c6
    clear c6
    have H':=Aside0.mk H
    clear H
    have p409:0≤(x5_1:Int):=of_decide_eq_true za
    have q409:x5_1<(l0.length:Int):=of_decide_eq_true za
    obtain ⟨ad409,e409,hx409_0,hx409_1,hx409_2,hx409_3⟩:=at_T31 HR0.out x5_1 p409 q409
    cases e409
    replace hx409_0:=zh_ HB hx409_0
    replace hx409_1:=zh_ HB hx409_1
    replace hx409_2:=zh_ HB hx409_2
    replace hx409_3:=zh_ HB hx409_3
    replace p409:=eq_true p409
    replace q409:=eq_true q409
    go_wp2
    go_roundg k1
    case measure=>have:=HK1.out;omega
    case rel=>exact ⟨(wrap64 (x4_1 + ((rd_T31 l0 x5_1).f1))),(wrap64 (x5_1 + 1)),zo,zo,H',⟨by have:=HK1.out;omega⟩,⟨zb⟩⟩
   rw [if_neg c5] at H
   have c5b0:=decide_eq_false c5
   clear c5
   replace H:=Option.bind_eq_some_iff.mp H
   obtain ⟨t410,A70,H⟩:=H
   try dsimp only at H
   have A7:=Aside0.mk A70
   clear A70
   replace H:=Option.bind_eq_some_iff.mp H
   obtain ⟨t413,A80,H⟩:=H
   try dsimp only at H
   have A8:=Aside0.mk A80
   clear A80
   simp only [Option.some.injEq,Prod.mk.injEq] at H
   obtain ⟨rfl,rfl⟩:=H
   go_wp2_with (first|((with_reducible refine gate_callee (f:=30) rfl ?_);refine zgo 24 Try.func30 #[.slice A0 l0.length c0] ?_;(with_reducible refine (spec_l6Table.calls k1 _ _ l0 t410 _ ?side1 ?side2 A7.out).mono ?_);(case side1=>exact zC (Kd.C_below HR0.out HB.out));(case side2=>exact HC0.out);rintro e w9 ⟨v411,rfl,ho0,hb⟩;refine ⟨_,rfl,?_⟩;have HO412:=Aside0.mk (Kd.R_lower ho0 (below_size zb));replace HB:=zb1 hb;(try clear hb);(try clear ho0);obtain ⟨Ao10,co10,eo10⟩:=Kd.R_slice HO412.out;subst eo10)|((with_reducible refine gate_callee (f:=29) rfl ?_);refine zgo 25 Try.func29 #[.slice Ao10 t410.length co10] ?_;(with_reducible refine (spec_l2Last.calls k1 _ _ t410 t413 _ ?side1 ?side2 A8.out).mono ?_);(case side1=>exact zC ((Kd.R_reads' HO412.out).2.2));(case side2=>exact (Kd.R_reads' HO412.out).2.1);rintro e w' ⟨rfl,⟨nd,rfl⟩⟩;refine ⟨_,rfl,?_⟩))
   go_ret2
   exact ⟨zz0,zb⟩

/-! ### impl_isObjective: function 68 -/
def impl_isObjective.f (a0:Int):Option (Bool):=(impl_within.f a0 1 8).bind fun t414=>(some t414)
set_option maxHeartbeats 8000000 in
set_option maxRecDepth 100000 in
theorem impl_isObjective.calls (a0:Int) (r:Bool) (w:World) (h:impl_isObjective.f a0=some r) :
  Calls Try.prog 68 #[.int .i64 a0] w fun e w'=>e=.returned (.bool r)∧Drawn0 w w':=by
 have H:((impl_within.f a0 1 8).bind fun t414=>(some t414))=some r:=h
 clear h
 replace H:=Option.bind_eq_some_iff.mp H
 obtain ⟨t414,A20,H⟩:=H
 try dsimp only at H
 have A2:=Aside0.mk A20
 clear A20
 obtain rfl:=Option.some.inj H
 go_enter Try.func68,Try.ntmps68
 go_wp2_with (first|((with_reducible refine gate_callee (f:=73) rfl ?_);refine zgo 4 Try.func73 #[.int .i64 a0,.int .i64 1,.int .i64 8] ?_;(with_reducible refine (impl_within.calls a0 1 8 t414 _ A2.out).mono ?_);rintro e w' ⟨rfl,⟨nd,rfl⟩⟩;refine ⟨_,rfl,?_⟩))
 go_ret
 exact ⟨zz7,zz5⟩

end Go.Proofs.Ytkolecmpncaooaa.XFnLateWeight
-- minified
