-- Words and walks of this claim.
import Derived.Test.YtkolecmpncaooaaXFnLongestFirstx13
import Derived.Test.YtkolecmpncaooaaXFnLongestFirstx15
namespace Go.Proofs.Ytkolecmpncaooaa.XFnLongestFirst
open Go.RowKit Go.Proofs.YtkolecmpncaooaaW.PrintWords Go.Proofs.YtkolecmpncaooaaW.PrintLast Go.Proofs.YtkolecmpncaooaaW.PrintMore
attribute [local go_sem] max2_int min2_int max_two min_two max_three min_three max_four min_four
attribute [local go_sem] idxA_51_0 idxA_51_1 fldS_45_0 fldS_45_1 fldS_45_2 fldS_96_0 fldS_96_1 fldS_96_2
set_option linter.unusedVariables false
set_option linter.unusedSimpArgs false
def spec_l4Pairs.l0:Nat->Int->List (S51)->Int->Option (Bool)
 | 0,_,_,_=>none
 | k + 1,x0,x1,x5=>if x5<(x1.length:Int) then (if 0<=x5 then ((spec_l1In.f ((rd_T51 x1 x5).f0) 0 (wrap64 (x0 - 1))).bind fun t373=>(if t373=true then ((spec_l1In.f ((rd_T51 x1 x5).f1) 0 (wrap64 (x0 - 1))).bind fun t375=>(if t375=true then (if ((rd_T51 x1 x5).f0)=((rd_T51 x1 x5).f1) then (some false) else (if x5>0 then (if 0<=(wrap64 (x5 - 1)) then (if (wrap64 (x5 - 1))<(x1.length:Int) then ((spec_l4Before.f ((rd_T51 x1 (wrap64 (x5 - 1))).f0) ((rd_T51 x1 (wrap64 (x5 - 1))).f1) ((rd_T51 x1 x5).f0) ((rd_T51 x1 x5).f1)).bind fun t380=>(if t380=true then (spec_l4Pairs.l0 k x0 x1 (wrap64 (x5 + 1))) else (some false))) else (none)) else (none)) else (spec_l4Pairs.l0 k x0 x1 (wrap64 (x5 + 1))))) else (some false))) else (some false))) else (none)) else ((spec_l1In.f x0 0 8).bind fun t371=>(if t371=true then (some (decide ((x1.length:Int)<=28))) else (some false)))
def spec_l4Pairs.f (k:Nat) (a0:Int) (l1:List (S51)):Option (Bool):=spec_l4Pairs.l0 k a0 l1 0
def spec_l4Pairs.T4:Bool × List (List Nat × List Nat):=(true,[([],[]),([],[]),([0,1],[0,1]),([2],[2]),([3],[3]),([],[]),([5],[5]),([4,6],[4,6]),([7],[7]),([8,7],[8]),([9],[9]),([9],[9]),([10,11,9],[9,10,11]),([12,9],[9,12]),([13,9],[9,13]),([9],[9]),([15,9],[9,15]),([14,16,9,9],[9,14,16]),([17,9],[9,17]),([9,18],[9,18]),([19,17],[19]),([20],[20]),([20],[20]),([21,22,20],[20,21,22]),([23,20],[20,23]),([24,20],[20,24]),([20],[20]),([20],[20]),([26,27,20],[20,26,27]),([28,20],[20,28]),([29,20],[20,29]),([25,30,20],[20,25,30]),([20,31],[20,31]),([32,20],[32]),([33],[33]),([34,33],[33,34]),([35,33,33],[33,35]),([36],[36]),([36],[36]),([38,36],[36,38]),([37,39,36],[36,37,39]),([40,36],[36,40]),([36],[36]),([36],[36]),([42,43,36],[36,42,43]),([44,36],[36,44]),([41,45,36,36],[36,41,45]),([46,36],[36,46]),([36,47,33],[33,36,47]),([33,48],[33,48])])
def spec_l4Pairs.B4:List Nat:=[0,0,3,7,15,0,32,127,255,511,1023,1023,4095,8191,16383,1023,33791,131071,262143,524287,1048575,2097151,2097151,8388607,16777215,33554431,2097151,2097151,203423743,471859199,1008730111,2147483647,4294967295,8589934591,17179869183,34359738367,68719476735,137438953471,137438953471,412316860415,1099511627775,2199023255551,137438953471,137438953471,13331578486783,30923764531199,70368744177663,140737488355327,281474976710655,562949953421311]
theorem spec_l4Pairs.tab4:rtab .any (opsOf Try.f105 4)=spec_l4Pairs.T4:=by kernel_rfl
theorem spec_l4Pairs.bits4:waitsOk spec_l4Pairs.T4.2 spec_l4Pairs.B4=true:=by kernel_rfl
set_option maxHeartbeats 8000000 in
set_option maxRecDepth 100000 in
theorem spec_l4Pairs.calls (k:Nat) (a0:Int) (A1:Option Addr) (c1:Nat) (l1:List (S51)) (r:Bool) (w:World) (hr1:Kd.C k51 w A1 l1.length l1) (hc1:l1.length<=c1) (h:spec_l4Pairs.f k a0 l1=some r) :
  Calls Try.prog 105 #[.int .i64 a0,.slice A1 l1.length c1] w fun e w'=>e=.returned (.bool r)/\Below w.heap.size w w':=by
 have hu51:=Try.underlying51
 have HR1:=ak_ hr1
 have HC1:=ak_ hc1
 clear hr1 hc1
 have HB:=ak_ (Below.refl w.heap.size w)
 have H:(spec_l4Pairs.l0 k a0 l1 0)=some r:=h
 clear h
 have H':=ak_ H
 clear H
 go_enter Try.func105,Try.ntmps105
 go_wp2
 go_loopg [5] k (fun kq v5 w'=>∃ (x5_1:Int),v5=.int .i64 x5_1/\Aside0 (spec_l4Pairs.l0 kq a0 l1 x5_1=some r)/\Aside0 (kq<=k)/\Aside0 (Below w.heap.size w w'))
 case atStart=>exact ⟨(0),zo,H',⟨Nat.le_refl _⟩,⟨zb⟩⟩
 case round=>
  clear H'
  obtain ⟨x5_1,rfl,HA,HK1,HB⟩:=hrel
  cases gk with
  | zero=>exact absurd HA.out (by simp [spec_l4Pairs.l0])
  | succ k1=>
   have H:=HA.out
   clear HA
   simp only [spec_l4Pairs.l0] at H
   replace H:=gND H;rcases H with ⟨c3b0,H⟩ | ⟨c3b0,H⟩
   ·replace H:=gT H;obtain ⟨t371,A24,H⟩:=H
    replace H:=gPB H;rcases H with ⟨rfl,H⟩ | ⟨rfl,H⟩
    ·obtain rfl:=oi_ H
     go_wp2_with (((with_reducible refine gate_callee (f:=78) rfl ?_);refine zgo 63 Try.func78 #[.int .i64 a0,.int .i64 0,.int .i64 8] ?_;(with_reducible refine (spec_l1In.calls a0 0 8 true _ A24.out).mono ?_);rintro e w' ⟨rfl,⟨nd,rfl⟩⟩;refine ⟨_,rfl,?_⟩))
     go_ret
     exact ⟨zz0,zb⟩
    obtain rfl:=oi_ H
    go_wp2_with (((with_reducible refine gate_callee (f:=78) rfl ?_);refine zgo 63 Try.func78 #[.int .i64 a0,.int .i64 0,.int .i64 8] ?_;(with_reducible refine (spec_l1In.calls a0 0 8 false _ A24.out).mono ?_);rintro e w' ⟨rfl,⟨nd,rfl⟩⟩;refine ⟨_,rfl,?_⟩))
    go_ret
    exact ⟨zz0,zb⟩
   replace H:=gD H;obtain ⟨c4b0,H⟩:=H
   replace H:=gT H;obtain ⟨t373,A5,H⟩:=H
   replace H:=gNB H;rcases H with ⟨rfl,H⟩ | ⟨rfl,H⟩
   ·obtain rfl:=oi_ H
    try go_wp2
    replace HB:=ak_ (below_drew1 HB.out)
    have p372:0<=(x5_1:Int):=oz_
    have q372:x5_1<(l1.length:Int):=oz_
    obtain ⟨ad372,e372,hx372_0,hx372_1⟩:=at_T51 HR1.out x5_1 p372 q372
    have hw372_1:=hx372_1
    have hw372_0:=hx372_0
    cases e372
    replace hx372_0:=zh_ HB hx372_0
    replace hx372_1:=zh_ HB hx372_1
    replace p372:=eq_true p372
    replace q372:=eq_true q372
    refine start_ (n:=50) (S:=fun w'=>w'.cell? (ad372.add ((x5_1).toNat * 2))=some (.int .i64 ((rd_T51 l1 x5_1).f0))/\w'.cell? ⟨(ad372.add ((x5_1).toNat * 2)).block,(ad372.add ((x5_1).toNat * 2)).off + 1,none⟩=some (.int .i64 ((rd_T51 l1 x5_1).f1))) (ds:=[]) ba0_ (by kernel_rfl) rfl rfl ⟨(zq_ HB hw372_0:),(zq_ HB hw372_1:)⟩ (fun hHeld=>?_);refine with_tabW spec_l4Pairs.tab4 spec_l4Pairs.bits4 (fun HT_ HW_=>?_)
    generalize wr.drew=w23 at HB hx372_0 hx372_1 hHeld ⊢
    refine pu_ 0 12 ?_
    refine pu_ 1 13 ?_
    refine pu_ 2 14 ?_
    refine pu_ 3 15 ?_
    refine pu_ 5 17 ?_
    refine pu_ 6 18 ?_
    refine tk_ 4 16 hHeld ?_
    refine one_ (i:=7) (N:=some 19) ba8_ rfl rfl (one_of HT_.out (by kernel_rfl)) (by decide) (fun K hK=>?_)
    refine goes_ Try.func78 (by kernel_rfl) rfl #[.int .i64 ((rd_T51 l1 x5_1).f0),.int .i64 0,.int .i64 (wrap64 (a0 - 1))] (by rfl) rfl rfl zl ?_
    with_reducible refine (spec_l1In.calls ((rd_T51 l1 x5_1).f0) 0 (wrap64 (a0 - 1)) false _ A5.out).mono ?_
    rintro e w' ⟨rfl,⟨nd,rfl⟩⟩
    refine ⟨_,rfl,?_⟩
    refine hK.out _ _ ⟨(zq_ HB hw372_0:),(zq_ HB hw372_1:)⟩ (fun hHeld=>?_)
    clear hK K
    refine norm_ (a':=?_) ?_ ?_
    rotate_left
    ·show Act.put _ (some 19) _=_
     simp only [Act.put,z0_,z1_,z2_,i64_w,i32_w]
     rfl
    refine pu_ 8 20 ?_
    refine pu_ 9 21 ?_
    refine pv_ 10 22 ?_
    refine pv_ 11 23 ?_
    refine pv_ 12 24 ?_
    refine pv_ 13 25 ?_
    refine pv_ 14 26 ?_
    refine pv_ 15 27 ?_
    refine pv_ 16 28 ?_
    refine pv_ 17 29 ?_
    refine pv_ 18 30 ?_
    refine pu_ 19 31 ?_
    refine pu_ 20 32 ?_
    refine pv_ 21 33 ?_
    refine pv_ 22 34 ?_
    refine pv_ 23 35 ?_
    refine pv_ 24 36 ?_
    refine pv_ 25 37 ?_
    refine pv_ 26 38 ?_
    refine pv_ 27 39 ?_
    refine pv_ 28 40 ?_
    refine pv_ 29 41 ?_
    refine pv_ 30 42 ?_
    refine pv_ 31 43 ?_
    refine pu_ 32 44 ?_
    refine pu_ 33 45 ?_
    refine pv_ 34 46 ?_
    refine pv_ 35 47 ?_
    refine pv_ 36 48 ?_
    refine pv_ 37 49 ?_
    refine pv_ 38 50 ?_
    refine pv_ 39 51 ?_
    refine pv_ 40 52 ?_
    refine pv_ 41 53 ?_
    refine pv_ 42 54 ?_
    refine pv_ 43 55 ?_
    refine pv_ 44 56 ?_
    refine pv_ 45 57 ?_
    refine pv_ 46 58 ?_
    refine pv_ 47 59 ?_
    refine pv_ 48 60 ?_
    refine pu_ 49 61 ?_
    refine done_ (done_of HT_.out (by kernel_rfl)) ?_
    try go_wp2
    go_ret
    exact ⟨zz0,zb⟩
   replace H:=gT H;obtain ⟨t375,A7,H⟩:=H
   replace H:=gNB H;rcases H with ⟨rfl,H⟩ | ⟨rfl,H⟩
   ·obtain rfl:=oi_ H
    try go_wp2
    replace HB:=ak_ (below_drew1 HB.out)
    have p372:0<=(x5_1:Int):=oz_
    have q372:x5_1<(l1.length:Int):=oz_
    obtain ⟨ad372,e372,hx372_0,hx372_1⟩:=at_T51 HR1.out x5_1 p372 q372
    have hw372_1:=hx372_1
    have hw372_0:=hx372_0
    cases e372
    replace hx372_0:=zh_ HB hx372_0
    replace hx372_1:=zh_ HB hx372_1
    replace p372:=eq_true p372
    replace q372:=eq_true q372
    have p374:0<=(x5_1:Int):=oz_
    have q374:x5_1<(l1.length:Int):=oz_
    obtain ⟨ad374,e374,hx374_0,hx374_1⟩:=at_T51 HR1.out x5_1 p374 q374
    have hw374_1:=hx374_1
    have hw374_0:=hx374_0
    obtain rfl:ad372=ad374:=(by injection e374)
    replace hx374_0:=zh_ HB hx374_0
    replace hx374_1:=zh_ HB hx374_1
    replace p374:=eq_true p374
    replace q374:=eq_true q374
    refine start_ (n:=50) (S:=fun w'=>w'.cell? (ad372.add ((x5_1).toNat * 2))=some (.int .i64 ((rd_T51 l1 x5_1).f0))/\w'.cell? ⟨(ad372.add ((x5_1).toNat * 2)).block,(ad372.add ((x5_1).toNat * 2)).off + 1,none⟩=some (.int .i64 ((rd_T51 l1 x5_1).f1))/\w'.cell? (ad372.add ((x5_1).toNat * 2))=some (.int .i64 ((rd_T51 l1 x5_1).f0))/\w'.cell? ⟨(ad372.add ((x5_1).toNat * 2)).block,(ad372.add ((x5_1).toNat * 2)).off + 1,none⟩=some (.int .i64 ((rd_T51 l1 x5_1).f1))) (ds:=[]) ba0_ (by kernel_rfl) rfl rfl ⟨(zq_ HB hw372_0:),(zq_ HB hw372_1:),(zq_ HB hw374_0:),(zq_ HB hw374_1:)⟩ (fun hHeld=>?_);refine with_tabW spec_l4Pairs.tab4 spec_l4Pairs.bits4 (fun HT_ HW_=>?_)
    generalize wr.drew=w22 at HB hx372_0 hx372_1 hx374_0 hx374_1 hHeld ⊢
    refine pu_ 0 12 ?_
    refine pu_ 1 13 ?_
    refine pu_ 2 14 ?_
    refine pu_ 3 15 ?_
    refine pu_ 5 17 ?_
    refine pu_ 6 18 ?_
    refine tk_ 4 16 hHeld ?_
    refine one_ (i:=7) (N:=some 19) ba8_ rfl rfl (one_of HT_.out (by kernel_rfl)) (by decide) (fun K hK=>?_)
    refine goes_ Try.func78 (by kernel_rfl) rfl #[.int .i64 ((rd_T51 l1 x5_1).f0),.int .i64 0,.int .i64 (wrap64 (a0 - 1))] (by rfl) rfl rfl zl ?_
    with_reducible refine (spec_l1In.calls ((rd_T51 l1 x5_1).f0) 0 (wrap64 (a0 - 1)) true _ A5.out).mono ?_
    rintro e w' ⟨rfl,⟨nd,rfl⟩⟩
    refine ⟨_,rfl,?_⟩
    refine hK.out _ _ ⟨(zq_ HB hw372_0:),(zq_ HB hw372_1:),(zq_ HB hw374_0:),(zq_ HB hw374_1:)⟩ (fun hHeld=>?_)
    clear hK K
    refine norm_ (a':=?_) ?_ ?_
    rotate_left
    ·show Act.put _ (some 19) _=_
     simp only [Act.put,z0_,z1_,z2_,i64_w,i32_w]
     rfl
    refine pu_ 8 20 ?_
    refine pu_ 9 21 ?_
    refine pu_ 10 22 ?_
    refine pu_ 11 23 ?_
    refine pu_ 12 24 ?_
    refine pu_ 13 25 ?_
    refine pu_ 15 27 ?_
    refine pu_ 16 28 ?_
    refine tk_ 14 26 hHeld ?_
    refine one_ (i:=17) (N:=some 29) ba18_ rfl rfl (one_of HT_.out (by kernel_rfl)) (by decide) (fun K hK=>?_)
    refine goes_ Try.func78 (by kernel_rfl) rfl #[.int .i64 ((rd_T51 l1 x5_1).f1),.int .i64 0,.int .i64 (wrap64 (a0 - 1))] (by rfl) rfl rfl zl ?_
    with_reducible refine (spec_l1In.calls ((rd_T51 l1 x5_1).f1) 0 (wrap64 (a0 - 1)) false _ A7.out).mono ?_
    rintro e w' ⟨rfl,⟨nd,rfl⟩⟩
    refine ⟨_,rfl,?_⟩
    refine hK.out _ _ ⟨(zq_ HB hw372_0:),(zq_ HB hw372_1:),(zq_ HB hw374_0:),(zq_ HB hw374_1:)⟩ (fun hHeld=>?_)
    clear hK K
    refine norm_ (a':=?_) ?_ ?_
    rotate_left
    ·show Act.put _ (some 29) _=_
     simp only [Act.put,z0_,z1_,z2_,i64_w,i32_w]
     rfl
    refine pu_ 18 30 ?_
    refine pu_ 19 31 ?_
    refine pu_ 20 32 ?_
    refine pv_ 21 33 ?_
    refine pv_ 22 34 ?_
    refine pv_ 23 35 ?_
    refine pv_ 24 36 ?_
    refine pv_ 25 37 ?_
    refine pv_ 26 38 ?_
    refine pv_ 27 39 ?_
    refine pv_ 28 40 ?_
    refine pv_ 29 41 ?_
    refine pv_ 30 42 ?_
    refine pv_ 31 43 ?_
    refine pu_ 32 44 ?_
    refine pu_ 33 45 ?_
    refine pv_ 34 46 ?_
    refine pv_ 35 47 ?_
    refine pv_ 36 48 ?_
    refine pv_ 37 49 ?_
    refine pv_ 38 50 ?_
    refine pv_ 39 51 ?_
    refine pv_ 40 52 ?_
    refine pv_ 41 53 ?_
    refine pv_ 42 54 ?_
    refine pv_ 43 55 ?_
    refine pv_ 44 56 ?_
    refine pv_ 45 57 ?_
    refine pv_ 46 58 ?_
    refine pv_ 47 59 ?_
    refine pv_ 48 60 ?_
    refine pu_ 49 61 ?_
    refine done_ (done_of HT_.out (by kernel_rfl)) ?_
    try go_wp2
    go_ret
    exact ⟨zz0,zb⟩
   replace H:=gP H;rcases H with ⟨c9,H⟩ | ⟨c9,H⟩
   ·have c9b0:(((rd_T51 l1 x5_1).f0) == ((rd_T51 l1 x5_1).f1))=true:=beq_iff_eq.mpr c9
    have c9b1:(((rd_T51 l1 x5_1).f0) != ((rd_T51 l1 x5_1).f1))=false:=bne_eq_false_iff_eq.mpr c9
    clear c9
    obtain rfl:=oi_ H
    try go_wp2
    replace HB:=ak_ (below_drew1 HB.out)
    have p372:0<=(x5_1:Int):=oz_
    have q372:x5_1<(l1.length:Int):=oz_
    obtain ⟨ad372,e372,hx372_0,hx372_1⟩:=at_T51 HR1.out x5_1 p372 q372
    have hw372_1:=hx372_1
    have hw372_0:=hx372_0
    cases e372
    replace hx372_0:=zh_ HB hx372_0
    replace hx372_1:=zh_ HB hx372_1
    replace p372:=eq_true p372
    replace q372:=eq_true q372
    have p374:0<=(x5_1:Int):=oz_
    have q374:x5_1<(l1.length:Int):=oz_
    obtain ⟨ad374,e374,hx374_0,hx374_1⟩:=at_T51 HR1.out x5_1 p374 q374
    have hw374_1:=hx374_1
    have hw374_0:=hx374_0
    obtain rfl:ad372=ad374:=(by injection e374)
    replace hx374_0:=zh_ HB hx374_0
    replace hx374_1:=zh_ HB hx374_1
    replace p374:=eq_true p374
    replace q374:=eq_true q374
    have p376:0<=(x5_1:Int):=oz_
    have q376:x5_1<(l1.length:Int):=oz_
    obtain ⟨ad376,e376,hx376_0,hx376_1⟩:=at_T51 HR1.out x5_1 p376 q376
    have hw376_1:=hx376_1
    have hw376_0:=hx376_0
    obtain rfl:ad372=ad376:=(by injection e376)
    replace hx376_0:=zh_ HB hx376_0
    replace hx376_1:=zh_ HB hx376_1
    replace p376:=eq_true p376
    replace q376:=eq_true q376
    have p377:0<=(x5_1:Int):=oz_
    have q377:x5_1<(l1.length:Int):=oz_
    obtain ⟨ad377,e377,hx377_0,hx377_1⟩:=at_T51 HR1.out x5_1 p377 q377
    have hw377_1:=hx377_1
    have hw377_0:=hx377_0
    obtain rfl:ad372=ad377:=(by injection e377)
    replace hx377_0:=zh_ HB hx377_0
    replace hx377_1:=zh_ HB hx377_1
    replace p377:=eq_true p377
    replace q377:=eq_true q377
    refine start_ (n:=50) (S:=fun w'=>w'.cell? (ad372.add ((x5_1).toNat * 2))=some (.int .i64 ((rd_T51 l1 x5_1).f0))/\w'.cell? ⟨(ad372.add ((x5_1).toNat * 2)).block,(ad372.add ((x5_1).toNat * 2)).off + 1,none⟩=some (.int .i64 ((rd_T51 l1 x5_1).f1))/\w'.cell? (ad372.add ((x5_1).toNat * 2))=some (.int .i64 ((rd_T51 l1 x5_1).f0))/\w'.cell? ⟨(ad372.add ((x5_1).toNat * 2)).block,(ad372.add ((x5_1).toNat * 2)).off + 1,none⟩=some (.int .i64 ((rd_T51 l1 x5_1).f1))/\w'.cell? (ad372.add ((x5_1).toNat * 2))=some (.int .i64 ((rd_T51 l1 x5_1).f0))/\w'.cell? ⟨(ad372.add ((x5_1).toNat * 2)).block,(ad372.add ((x5_1).toNat * 2)).off + 1,none⟩=some (.int .i64 ((rd_T51 l1 x5_1).f1))/\w'.cell? (ad372.add ((x5_1).toNat * 2))=some (.int .i64 ((rd_T51 l1 x5_1).f0))/\w'.cell? ⟨(ad372.add ((x5_1).toNat * 2)).block,(ad372.add ((x5_1).toNat * 2)).off + 1,none⟩=some (.int .i64 ((rd_T51 l1 x5_1).f1))) (ds:=[]) ba0_ (by kernel_rfl) rfl rfl ⟨(zq_ HB hw372_0:),(zq_ HB hw372_1:),(zq_ HB hw374_0:),(zq_ HB hw374_1:),(zq_ HB hw376_0:),(zq_ HB hw376_1:),(zq_ HB hw377_0:),(zq_ HB hw377_1:)⟩ (fun hHeld=>?_);refine with_tabW spec_l4Pairs.tab4 spec_l4Pairs.bits4 (fun HT_ HW_=>?_)
    generalize wr.drew=w10 at HB hx372_0 hx372_1 hx374_0 hx374_1 hx376_0 hx376_1 hx377_0 hx377_1 hHeld ⊢
    refine pu_ 0 12 ?_
    refine pu_ 1 13 ?_
    refine pu_ 2 14 ?_
    refine pu_ 3 15 ?_
    refine pu_ 5 17 ?_
    refine pu_ 6 18 ?_
    refine tk_ 4 16 hHeld ?_
    refine one_ (i:=7) (N:=some 19) ba8_ rfl rfl (one_of HT_.out (by kernel_rfl)) (by decide) (fun K hK=>?_)
    refine goes_ Try.func78 (by kernel_rfl) rfl #[.int .i64 ((rd_T51 l1 x5_1).f0),.int .i64 0,.int .i64 (wrap64 (a0 - 1))] (by rfl) rfl rfl zl ?_
    with_reducible refine (spec_l1In.calls ((rd_T51 l1 x5_1).f0) 0 (wrap64 (a0 - 1)) true _ A5.out).mono ?_
    rintro e w' ⟨rfl,⟨nd,rfl⟩⟩
    refine ⟨_,rfl,?_⟩
    refine hK.out _ _ ⟨(zq_ HB hw372_0:),(zq_ HB hw372_1:),(zq_ HB hw374_0:),(zq_ HB hw374_1:),(zq_ HB hw376_0:),(zq_ HB hw376_1:),(zq_ HB hw377_0:),(zq_ HB hw377_1:)⟩ (fun hHeld=>?_)
    clear hK K
    refine norm_ (a':=?_) ?_ ?_
    rotate_left
    ·show Act.put _ (some 19) _=_
     simp only [Act.put,z0_,z1_,z2_,i64_w,i32_w]
     rfl
    refine pu_ 8 20 ?_
    refine pu_ 9 21 ?_
    refine pu_ 10 22 ?_
    refine pu_ 11 23 ?_
    refine pu_ 12 24 ?_
    refine pu_ 13 25 ?_
    refine pu_ 15 27 ?_
    refine pu_ 16 28 ?_
    refine tk_ 14 26 hHeld ?_
    refine one_ (i:=17) (N:=some 29) ba18_ rfl rfl (one_of HT_.out (by kernel_rfl)) (by decide) (fun K hK=>?_)
    refine goes_ Try.func78 (by kernel_rfl) rfl #[.int .i64 ((rd_T51 l1 x5_1).f1),.int .i64 0,.int .i64 (wrap64 (a0 - 1))] (by rfl) rfl rfl zl ?_
    with_reducible refine (spec_l1In.calls ((rd_T51 l1 x5_1).f1) 0 (wrap64 (a0 - 1)) true _ A7.out).mono ?_
    rintro e w' ⟨rfl,⟨nd,rfl⟩⟩
    refine ⟨_,rfl,?_⟩
    refine hK.out _ _ ⟨(zq_ HB hw372_0:),(zq_ HB hw372_1:),(zq_ HB hw374_0:),(zq_ HB hw374_1:),(zq_ HB hw376_0:),(zq_ HB hw376_1:),(zq_ HB hw377_0:),(zq_ HB hw377_1:)⟩ (fun hHeld=>?_)
    clear hK K
    refine norm_ (a':=?_) ?_ ?_
    rotate_left
    ·show Act.put _ (some 29) _=_
     simp only [Act.put,z0_,z1_,z2_,i64_w,i32_w]
     rfl
    refine pu_ 18 30 ?_
    refine pu_ 19 31 ?_
    refine pu_ 20 32 ?_
    refine pu_ 21 33 ?_
    refine pu_ 22 34 ?_
    refine pu_ 23 35 ?_
    refine pu_ 24 36 ?_
    refine pu_ 26 38 ?_
    refine pu_ 27 39 ?_
    refine pu_ 28 40 ?_
    refine pu_ 29 41 ?_
    refine tk_ 25 37 hHeld ?_
    refine tk_ 30 42 hHeld ?_
    refine pu_ 31 43 ?_
    refine pu_ 32 44 ?_
    refine pu_ 33 45 ?_
    refine pv_ 34 46 ?_
    refine pv_ 35 47 ?_
    refine pv_ 36 48 ?_
    refine pv_ 37 49 ?_
    refine pv_ 38 50 ?_
    refine pv_ 39 51 ?_
    refine pv_ 40 52 ?_
    refine pv_ 41 53 ?_
    refine pv_ 42 54 ?_
    refine pv_ 43 55 ?_
    refine pv_ 44 56 ?_
    refine pv_ 45 57 ?_
    refine pv_ 46 58 ?_
    refine pv_ 47 59 ?_
    refine pv_ 48 60 ?_
    refine pu_ 49 61 ?_
    refine done_ (done_of HT_.out (by kernel_rfl)) ?_
    try go_wp2
    go_ret
    exact ⟨zz0,zb⟩
   have c9b0:(((rd_T51 l1 x5_1).f0) == ((rd_T51 l1 x5_1).f1))=false:=beq_eq_false_iff_ne.mpr c9
   have c9b1:(((rd_T51 l1 x5_1).f0) != ((rd_T51 l1 x5_1).f1))=true:=bne_iff_ne.mpr c9
   replace H:=gND H;rcases H with ⟨c11b0,H⟩ | ⟨c11b0,H⟩
   ·have H':=ak_ H
    clear H
    try go_wp2
    replace HB:=ak_ (below_drew1 HB.out)
    have p372:0<=(x5_1:Int):=oz_
    have q372:x5_1<(l1.length:Int):=oz_
    obtain ⟨ad372,e372,hx372_0,hx372_1⟩:=at_T51 HR1.out x5_1 p372 q372
    have hw372_1:=hx372_1
    have hw372_0:=hx372_0
    cases e372
    replace hx372_0:=zh_ HB hx372_0
    replace hx372_1:=zh_ HB hx372_1
    replace p372:=eq_true p372
    replace q372:=eq_true q372
    have p374:0<=(x5_1:Int):=oz_
    have q374:x5_1<(l1.length:Int):=oz_
    obtain ⟨ad374,e374,hx374_0,hx374_1⟩:=at_T51 HR1.out x5_1 p374 q374
    have hw374_1:=hx374_1
    have hw374_0:=hx374_0
    obtain rfl:ad372=ad374:=(by injection e374)
    replace hx374_0:=zh_ HB hx374_0
    replace hx374_1:=zh_ HB hx374_1
    replace p374:=eq_true p374
    replace q374:=eq_true q374
    have p376:0<=(x5_1:Int):=oz_
    have q376:x5_1<(l1.length:Int):=oz_
    obtain ⟨ad376,e376,hx376_0,hx376_1⟩:=at_T51 HR1.out x5_1 p376 q376
    have hw376_1:=hx376_1
    have hw376_0:=hx376_0
    obtain rfl:ad372=ad376:=(by injection e376)
    replace hx376_0:=zh_ HB hx376_0
    replace hx376_1:=zh_ HB hx376_1
    replace p376:=eq_true p376
    replace q376:=eq_true q376
    have p377:0<=(x5_1:Int):=oz_
    have q377:x5_1<(l1.length:Int):=oz_
    obtain ⟨ad377,e377,hx377_0,hx377_1⟩:=at_T51 HR1.out x5_1 p377 q377
    have hw377_1:=hx377_1
    have hw377_0:=hx377_0
    obtain rfl:ad372=ad377:=(by injection e377)
    replace hx377_0:=zh_ HB hx377_0
    replace hx377_1:=zh_ HB hx377_1
    replace p377:=eq_true p377
    replace q377:=eq_true q377
    refine start_ (n:=50) (S:=fun w'=>w'.cell? (ad372.add ((x5_1).toNat * 2))=some (.int .i64 ((rd_T51 l1 x5_1).f0))/\w'.cell? ⟨(ad372.add ((x5_1).toNat * 2)).block,(ad372.add ((x5_1).toNat * 2)).off + 1,none⟩=some (.int .i64 ((rd_T51 l1 x5_1).f1))/\w'.cell? (ad372.add ((x5_1).toNat * 2))=some (.int .i64 ((rd_T51 l1 x5_1).f0))/\w'.cell? ⟨(ad372.add ((x5_1).toNat * 2)).block,(ad372.add ((x5_1).toNat * 2)).off + 1,none⟩=some (.int .i64 ((rd_T51 l1 x5_1).f1))/\w'.cell? (ad372.add ((x5_1).toNat * 2))=some (.int .i64 ((rd_T51 l1 x5_1).f0))/\w'.cell? ⟨(ad372.add ((x5_1).toNat * 2)).block,(ad372.add ((x5_1).toNat * 2)).off + 1,none⟩=some (.int .i64 ((rd_T51 l1 x5_1).f1))/\w'.cell? (ad372.add ((x5_1).toNat * 2))=some (.int .i64 ((rd_T51 l1 x5_1).f0))/\w'.cell? ⟨(ad372.add ((x5_1).toNat * 2)).block,(ad372.add ((x5_1).toNat * 2)).off + 1,none⟩=some (.int .i64 ((rd_T51 l1 x5_1).f1))) (ds:=[]) ba0_ (by kernel_rfl) rfl rfl ⟨(zq_ HB hw372_0:),(zq_ HB hw372_1:),(zq_ HB hw374_0:),(zq_ HB hw374_1:),(zq_ HB hw376_0:),(zq_ HB hw376_1:),(zq_ HB hw377_0:),(zq_ HB hw377_1:)⟩ (fun hHeld=>?_);refine with_tabW spec_l4Pairs.tab4 spec_l4Pairs.bits4 (fun HT_ HW_=>?_)
    generalize wr.drew=w21 at HB hx372_0 hx372_1 hx374_0 hx374_1 hx376_0 hx376_1 hx377_0 hx377_1 hHeld ⊢
    refine pu_ 0 12 ?_
    refine pu_ 1 13 ?_
    refine pu_ 2 14 ?_
    refine pu_ 3 15 ?_
    refine pu_ 5 17 ?_
    refine pu_ 6 18 ?_
    refine tk_ 4 16 hHeld ?_
    refine one_ (i:=7) (N:=some 19) ba8_ rfl rfl (one_of HT_.out (by kernel_rfl)) (by decide) (fun K hK=>?_)
    refine goes_ Try.func78 (by kernel_rfl) rfl #[.int .i64 ((rd_T51 l1 x5_1).f0),.int .i64 0,.int .i64 (wrap64 (a0 - 1))] (by rfl) rfl rfl zl ?_
    with_reducible refine (spec_l1In.calls ((rd_T51 l1 x5_1).f0) 0 (wrap64 (a0 - 1)) true _ A5.out).mono ?_
    rintro e w' ⟨rfl,⟨nd,rfl⟩⟩
    refine ⟨_,rfl,?_⟩
    refine hK.out _ _ ⟨(zq_ HB hw372_0:),(zq_ HB hw372_1:),(zq_ HB hw374_0:),(zq_ HB hw374_1:),(zq_ HB hw376_0:),(zq_ HB hw376_1:),(zq_ HB hw377_0:),(zq_ HB hw377_1:)⟩ (fun hHeld=>?_)
    clear hK K
    refine norm_ (a':=?_) ?_ ?_
    rotate_left
    ·show Act.put _ (some 19) _=_
     simp only [Act.put,z0_,z1_,z2_,i64_w,i32_w]
     rfl
    refine pu_ 8 20 ?_
    refine pu_ 9 21 ?_
    refine pu_ 10 22 ?_
    refine pu_ 11 23 ?_
    refine pu_ 12 24 ?_
    refine pu_ 13 25 ?_
    refine pu_ 15 27 ?_
    refine pu_ 16 28 ?_
    refine tk_ 14 26 hHeld ?_
    refine one_ (i:=17) (N:=some 29) ba18_ rfl rfl (one_of HT_.out (by kernel_rfl)) (by decide) (fun K hK=>?_)
    refine goes_ Try.func78 (by kernel_rfl) rfl #[.int .i64 ((rd_T51 l1 x5_1).f1),.int .i64 0,.int .i64 (wrap64 (a0 - 1))] (by rfl) rfl rfl zl ?_
    with_reducible refine (spec_l1In.calls ((rd_T51 l1 x5_1).f1) 0 (wrap64 (a0 - 1)) true _ A7.out).mono ?_
    rintro e w' ⟨rfl,⟨nd,rfl⟩⟩
    refine ⟨_,rfl,?_⟩
    refine hK.out _ _ ⟨(zq_ HB hw372_0:),(zq_ HB hw372_1:),(zq_ HB hw374_0:),(zq_ HB hw374_1:),(zq_ HB hw376_0:),(zq_ HB hw376_1:),(zq_ HB hw377_0:),(zq_ HB hw377_1:)⟩ (fun hHeld=>?_)
    clear hK K
    refine norm_ (a':=?_) ?_ ?_
    rotate_left
    ·show Act.put _ (some 29) _=_
     simp only [Act.put,z0_,z1_,z2_,i64_w,i32_w]
     rfl
    refine pu_ 18 30 ?_
    refine pu_ 19 31 ?_
    refine pu_ 20 32 ?_
    refine pu_ 21 33 ?_
    refine pu_ 22 34 ?_
    refine pu_ 23 35 ?_
    refine pu_ 24 36 ?_
    refine pu_ 26 38 ?_
    refine pu_ 27 39 ?_
    refine pu_ 28 40 ?_
    refine pu_ 29 41 ?_
    refine tk_ 25 37 hHeld ?_
    refine tk_ 30 42 hHeld ?_
    refine pu_ 31 43 ?_
    refine pu_ 32 44 ?_
    refine pu_ 33 45 ?_
    refine pu_ 34 46 ?_
    refine pu_ 35 47 ?_
    refine pu_ 36 48 ?_
    refine pv_ 37 49 ?_
    refine pv_ 38 50 ?_
    refine pv_ 39 51 ?_
    refine pv_ 40 52 ?_
    refine pv_ 41 53 ?_
    refine pv_ 42 54 ?_
    refine pv_ 43 55 ?_
    refine pv_ 44 56 ?_
    refine pv_ 45 57 ?_
    refine pv_ 46 58 ?_
    refine pv_ 47 59 ?_
    refine pu_ 48 60 ?_
    refine pu_ 49 61 ?_
    refine done_ (done_of HT_.out (by kernel_rfl)) ?_
    try go_wp2
    go_roundg k1
    case measure=>have:=HK1.out;omega
    case rel=>exact ⟨(wrap64 (x5_1 + 1)),zo,H',⟨by have:=HK1.out;omega⟩,⟨zb⟩⟩
   obtain ⟨ji12,hji12⟩:∃ j_:Int,(wrap64 (x5_1 - 1))=j_:=⟨_,rfl⟩
   replace H:(if 0<=(ji12) then (if (ji12)<(l1.length:Int) then ((spec_l4Before.f ((rd_T51 l1 (ji12)).f0) ((rd_T51 l1 (ji12)).f1) ((rd_T51 l1 x5_1).f0) ((rd_T51 l1 x5_1).f1)).bind fun t380=>(if t380=true then (spec_l4Pairs.l0 k1 a0 l1 (wrap64 (x5_1 + 1))) else (some false))) else (none)) else (none))=some r:=by (rw [hji12] at H;exact H)
   have hji12w:(IntKind.i64.wrap (x5_1 - 1))=ji12:=(i64_w _).trans hji12
   replace H:=gD H;obtain ⟨c13b0,H⟩:=H
   replace H:=gD H;obtain ⟨c14b0,H⟩:=H
   replace H:=gT H;obtain ⟨t380,A15,H⟩:=H
   replace H:=gPB H;rcases H with ⟨rfl,H⟩ | ⟨rfl,H⟩
   ·have H':=ak_ H
    clear H
    try go_wp2
    replace HB:=ak_ (below_drew1 HB.out)
    have p372:0<=(x5_1:Int):=oz_
    have q372:x5_1<(l1.length:Int):=oz_
    obtain ⟨ad372,e372,hx372_0,hx372_1⟩:=at_T51 HR1.out x5_1 p372 q372
    have hw372_1:=hx372_1
    have hw372_0:=hx372_0
    cases e372
    replace hx372_0:=zh_ HB hx372_0
    replace hx372_1:=zh_ HB hx372_1
    replace p372:=eq_true p372
    replace q372:=eq_true q372
    have p374:0<=(x5_1:Int):=oz_
    have q374:x5_1<(l1.length:Int):=oz_
    obtain ⟨ad374,e374,hx374_0,hx374_1⟩:=at_T51 HR1.out x5_1 p374 q374
    have hw374_1:=hx374_1
    have hw374_0:=hx374_0
    obtain rfl:ad372=ad374:=(by injection e374)
    replace hx374_0:=zh_ HB hx374_0
    replace hx374_1:=zh_ HB hx374_1
    replace p374:=eq_true p374
    replace q374:=eq_true q374
    have p376:0<=(x5_1:Int):=oz_
    have q376:x5_1<(l1.length:Int):=oz_
    obtain ⟨ad376,e376,hx376_0,hx376_1⟩:=at_T51 HR1.out x5_1 p376 q376
    have hw376_1:=hx376_1
    have hw376_0:=hx376_0
    obtain rfl:ad372=ad376:=(by injection e376)
    replace hx376_0:=zh_ HB hx376_0
    replace hx376_1:=zh_ HB hx376_1
    replace p376:=eq_true p376
    replace q376:=eq_true q376
    have p377:0<=(x5_1:Int):=oz_
    have q377:x5_1<(l1.length:Int):=oz_
    obtain ⟨ad377,e377,hx377_0,hx377_1⟩:=at_T51 HR1.out x5_1 p377 q377
    have hw377_1:=hx377_1
    have hw377_0:=hx377_0
    obtain rfl:ad372=ad377:=(by injection e377)
    replace hx377_0:=zh_ HB hx377_0
    replace hx377_1:=zh_ HB hx377_1
    replace p377:=eq_true p377
    replace q377:=eq_true q377
    have p378:0<=((ji12):Int):=oz_
    have q378:(ji12)<(l1.length:Int):=oz_
    obtain ⟨ad378,e378,hx378_0,hx378_1⟩:=at_T51 HR1.out (ji12) p378 q378
    have hw378_1:=hx378_1
    have hw378_0:=hx378_0
    obtain rfl:ad372=ad378:=(by injection e378)
    replace hx378_0:=zh_ HB hx378_0
    replace hx378_1:=zh_ HB hx378_1
    replace p378:=eq_true p378
    replace q378:=eq_true q378
    have p379:0<=(x5_1:Int):=oz_
    have q379:x5_1<(l1.length:Int):=oz_
    obtain ⟨ad379,e379,hx379_0,hx379_1⟩:=at_T51 HR1.out x5_1 p379 q379
    have hw379_1:=hx379_1
    have hw379_0:=hx379_0
    obtain rfl:ad372=ad379:=(by injection e379)
    replace hx379_0:=zh_ HB hx379_0
    replace hx379_1:=zh_ HB hx379_1
    replace p379:=eq_true p379
    replace q379:=eq_true q379
    refine start_ (n:=50) (S:=fun w'=>w'.cell? (ad372.add ((x5_1).toNat * 2))=some (.int .i64 ((rd_T51 l1 x5_1).f0))/\w'.cell? ⟨(ad372.add ((x5_1).toNat * 2)).block,(ad372.add ((x5_1).toNat * 2)).off + 1,none⟩=some (.int .i64 ((rd_T51 l1 x5_1).f1))/\w'.cell? (ad372.add ((x5_1).toNat * 2))=some (.int .i64 ((rd_T51 l1 x5_1).f0))/\w'.cell? ⟨(ad372.add ((x5_1).toNat * 2)).block,(ad372.add ((x5_1).toNat * 2)).off + 1,none⟩=some (.int .i64 ((rd_T51 l1 x5_1).f1))/\w'.cell? (ad372.add ((x5_1).toNat * 2))=some (.int .i64 ((rd_T51 l1 x5_1).f0))/\w'.cell? ⟨(ad372.add ((x5_1).toNat * 2)).block,(ad372.add ((x5_1).toNat * 2)).off + 1,none⟩=some (.int .i64 ((rd_T51 l1 x5_1).f1))/\w'.cell? (ad372.add ((x5_1).toNat * 2))=some (.int .i64 ((rd_T51 l1 x5_1).f0))/\w'.cell? ⟨(ad372.add ((x5_1).toNat * 2)).block,(ad372.add ((x5_1).toNat * 2)).off + 1,none⟩=some (.int .i64 ((rd_T51 l1 x5_1).f1))/\w'.cell? (ad372.add (((ji12)).toNat * 2))=some (.int .i64 ((rd_T51 l1 (ji12)).f0))/\w'.cell? ⟨(ad372.add (((ji12)).toNat * 2)).block,(ad372.add (((ji12)).toNat * 2)).off + 1,none⟩=some (.int .i64 ((rd_T51 l1 (ji12)).f1))/\w'.cell? (ad372.add ((x5_1).toNat * 2))=some (.int .i64 ((rd_T51 l1 x5_1).f0))/\w'.cell? ⟨(ad372.add ((x5_1).toNat * 2)).block,(ad372.add ((x5_1).toNat * 2)).off + 1,none⟩=some (.int .i64 ((rd_T51 l1 x5_1).f1))) (ds:=[]) ba0_ (by kernel_rfl) rfl rfl ⟨(zq_ HB hw372_0:),(zq_ HB hw372_1:),(zq_ HB hw374_0:),(zq_ HB hw374_1:),(zq_ HB hw376_0:),(zq_ HB hw376_1:),(zq_ HB hw377_0:),(zq_ HB hw377_1:),(zq_ HB hw378_0:),(zq_ HB hw378_1:),(zq_ HB hw379_0:),(zq_ HB hw379_1:)⟩ (fun hHeld=>?_);refine with_tabW spec_l4Pairs.tab4 spec_l4Pairs.bits4 (fun HT_ HW_=>?_)
    generalize wr.drew=w17 at HB hx372_0 hx372_1 hx374_0 hx374_1 hx376_0 hx376_1 hx377_0 hx377_1 hx378_0 hx378_1 hx379_0 hx379_1 hHeld ⊢
    refine pu_ 0 12 ?_
    refine pu_ 1 13 ?_
    refine pu_ 2 14 ?_
    refine pu_ 3 15 ?_
    refine pu_ 5 17 ?_
    refine pu_ 6 18 ?_
    refine tk_ 4 16 hHeld ?_
    refine one_ (i:=7) (N:=some 19) ba8_ rfl rfl (one_of HT_.out (by kernel_rfl)) (by decide) (fun K hK=>?_)
    refine goes_ Try.func78 (by kernel_rfl) rfl #[.int .i64 ((rd_T51 l1 x5_1).f0),.int .i64 0,.int .i64 (wrap64 (a0 - 1))] (by rfl) rfl rfl zl ?_
    with_reducible refine (spec_l1In.calls ((rd_T51 l1 x5_1).f0) 0 (wrap64 (a0 - 1)) true _ A5.out).mono ?_
    rintro e w' ⟨rfl,⟨nd,rfl⟩⟩
    refine ⟨_,rfl,?_⟩
    refine hK.out _ _ ⟨(zq_ HB hw372_0:),(zq_ HB hw372_1:),(zq_ HB hw374_0:),(zq_ HB hw374_1:),(zq_ HB hw376_0:),(zq_ HB hw376_1:),(zq_ HB hw377_0:),(zq_ HB hw377_1:),(zq_ HB hw378_0:),(zq_ HB hw378_1:),(zq_ HB hw379_0:),(zq_ HB hw379_1:)⟩ (fun hHeld=>?_)
    clear hK K
    refine norm_ (a':=?_) ?_ ?_
    rotate_left
    ·show Act.put _ (some 19) _=_
     simp only [Act.put,z0_,z1_,z2_,i64_w,i32_w]
     rfl
    refine pu_ 8 20 ?_
    refine pu_ 9 21 ?_
    refine pu_ 10 22 ?_
    refine pu_ 11 23 ?_
    refine pu_ 12 24 ?_
    refine pu_ 13 25 ?_
    refine pu_ 15 27 ?_
    refine pu_ 16 28 ?_
    refine tk_ 14 26 hHeld ?_
    refine one_ (i:=17) (N:=some 29) ba18_ rfl rfl (one_of HT_.out (by kernel_rfl)) (by decide) (fun K hK=>?_)
    refine goes_ Try.func78 (by kernel_rfl) rfl #[.int .i64 ((rd_T51 l1 x5_1).f1),.int .i64 0,.int .i64 (wrap64 (a0 - 1))] (by rfl) rfl rfl zl ?_
    with_reducible refine (spec_l1In.calls ((rd_T51 l1 x5_1).f1) 0 (wrap64 (a0 - 1)) true _ A7.out).mono ?_
    rintro e w' ⟨rfl,⟨nd,rfl⟩⟩
    refine ⟨_,rfl,?_⟩
    refine hK.out _ _ ⟨(zq_ HB hw372_0:),(zq_ HB hw372_1:),(zq_ HB hw374_0:),(zq_ HB hw374_1:),(zq_ HB hw376_0:),(zq_ HB hw376_1:),(zq_ HB hw377_0:),(zq_ HB hw377_1:),(zq_ HB hw378_0:),(zq_ HB hw378_1:),(zq_ HB hw379_0:),(zq_ HB hw379_1:)⟩ (fun hHeld=>?_)
    clear hK K
    refine norm_ (a':=?_) ?_ ?_
    rotate_left
    ·show Act.put _ (some 29) _=_
     simp only [Act.put,z0_,z1_,z2_,i64_w,i32_w]
     rfl
    refine pu_ 18 30 ?_
    refine pu_ 19 31 ?_
    refine pu_ 20 32 ?_
    refine pu_ 21 33 ?_
    refine pu_ 22 34 ?_
    refine pu_ 23 35 ?_
    refine pu_ 24 36 ?_
    refine pu_ 26 38 ?_
    refine pu_ 27 39 ?_
    refine pu_ 28 40 ?_
    refine pu_ 29 41 ?_
    refine tk_ 25 37 hHeld ?_
    refine tk_ 30 42 hHeld ?_
    refine pu_ 31 43 ?_
    refine pu_ 32 44 ?_
    refine pu_ 33 45 ?_
    refine pu_ 34 46 ?_
    refine pu_ 35 47 ?_
    refine pu_ 36 48 ?_
    refine pu_ 37 49 ?_
    refine pu_ 38 50 ?_
    refine pu_ 39 51 ?_
    refine pu_ 40 52 ?_
    refine pu_ 42 54 ?_
    refine pu_ 43 55 ?_
    refine pu_ 44 56 ?_
    refine tk_ 41 53 hHeld ?_
    refine tk_ 45 57 hHeld ?_
    refine one_ (i:=46) (N:=some 58) ba47_ rfl rfl (one_of HT_.out (by kernel_rfl)) (by decide) (fun K hK=>?_)
    refine goes_ Try.func111 (by kernel_rfl) rfl #[.agg #[.int .i64 ((rd_T51 l1 (ji12)).f0),.int .i64 ((rd_T51 l1 (ji12)).f1)],.agg #[.int .i64 ((rd_T51 l1 x5_1).f0),.int .i64 ((rd_T51 l1 x5_1).f1)]] (by rfl) rfl rfl (by (try simp only [List.map_toArray,List.map_cons,List.map_nil]);rfl) ?_
    with_reducible refine (spec_l4Before.calls ((rd_T51 l1 (ji12)).f0) ((rd_T51 l1 (ji12)).f1) ((rd_T51 l1 x5_1).f0) ((rd_T51 l1 x5_1).f1) true _ A15.out).mono ?_
    rintro e w18 ⟨rfl,hb⟩
    refine ⟨_,rfl,?_⟩
    replace HB:=zb1 hb
    refine hK.out _ _ ⟨(zq_ HB hw372_0:),(zq_ HB hw372_1:),(zq_ HB hw374_0:),(zq_ HB hw374_1:),(zq_ HB hw376_0:),(zq_ HB hw376_1:),(zq_ HB hw377_0:),(zq_ HB hw377_1:),(zq_ HB hw378_0:),(zq_ HB hw378_1:),(zq_ HB hw379_0:),(zq_ HB hw379_1:)⟩ (fun hHeld=>?_)
    clear hK K
    refine norm_ (a':=?_) ?_ ?_
    rotate_left
    ·show Act.put _ (some 58) _=_
     simp only [Act.put,z0_,z1_,z2_,i64_w,i32_w]
     rfl
    refine pu_ 47 59 ?_
    refine pu_ 48 60 ?_
    refine pu_ 49 61 ?_
    refine done_ (done_of HT_.out (by kernel_rfl)) ?_
    try go_wp2
    go_roundg k1
    case measure=>have:=HK1.out;omega
    case rel=>exact ⟨(wrap64 (x5_1 + 1)),zo,H',⟨by have:=HK1.out;omega⟩,⟨zb⟩⟩
   obtain rfl:=oi_ H
   try go_wp2
   replace HB:=ak_ (below_drew1 HB.out)
   have p372:0<=(x5_1:Int):=oz_
   have q372:x5_1<(l1.length:Int):=oz_
   obtain ⟨ad372,e372,hx372_0,hx372_1⟩:=at_T51 HR1.out x5_1 p372 q372
   have hw372_1:=hx372_1
   have hw372_0:=hx372_0
   cases e372
   replace hx372_0:=zh_ HB hx372_0
   replace hx372_1:=zh_ HB hx372_1
   replace p372:=eq_true p372
   replace q372:=eq_true q372
   have p374:0<=(x5_1:Int):=oz_
   have q374:x5_1<(l1.length:Int):=oz_
   obtain ⟨ad374,e374,hx374_0,hx374_1⟩:=at_T51 HR1.out x5_1 p374 q374
   have hw374_1:=hx374_1
   have hw374_0:=hx374_0
   obtain rfl:ad372=ad374:=(by injection e374)
   replace hx374_0:=zh_ HB hx374_0
   replace hx374_1:=zh_ HB hx374_1
   replace p374:=eq_true p374
   replace q374:=eq_true q374
   have p376:0<=(x5_1:Int):=oz_
   have q376:x5_1<(l1.length:Int):=oz_
   obtain ⟨ad376,e376,hx376_0,hx376_1⟩:=at_T51 HR1.out x5_1 p376 q376
   have hw376_1:=hx376_1
   have hw376_0:=hx376_0
   obtain rfl:ad372=ad376:=(by injection e376)
   replace hx376_0:=zh_ HB hx376_0
   replace hx376_1:=zh_ HB hx376_1
   replace p376:=eq_true p376
   replace q376:=eq_true q376
   have p377:0<=(x5_1:Int):=oz_
   have q377:x5_1<(l1.length:Int):=oz_
   obtain ⟨ad377,e377,hx377_0,hx377_1⟩:=at_T51 HR1.out x5_1 p377 q377
   have hw377_1:=hx377_1
   have hw377_0:=hx377_0
   obtain rfl:ad372=ad377:=(by injection e377)
   replace hx377_0:=zh_ HB hx377_0
   replace hx377_1:=zh_ HB hx377_1
   replace p377:=eq_true p377
   replace q377:=eq_true q377
   have p378:0<=((ji12):Int):=oz_
   have q378:(ji12)<(l1.length:Int):=oz_
   obtain ⟨ad378,e378,hx378_0,hx378_1⟩:=at_T51 HR1.out (ji12) p378 q378
   have hw378_1:=hx378_1
   have hw378_0:=hx378_0
   obtain rfl:ad372=ad378:=(by injection e378)
   replace hx378_0:=zh_ HB hx378_0
   replace hx378_1:=zh_ HB hx378_1
   replace p378:=eq_true p378
   replace q378:=eq_true q378
   have p379:0<=(x5_1:Int):=oz_
   have q379:x5_1<(l1.length:Int):=oz_
   obtain ⟨ad379,e379,hx379_0,hx379_1⟩:=at_T51 HR1.out x5_1 p379 q379
   have hw379_1:=hx379_1
   have hw379_0:=hx379_0
   obtain rfl:ad372=ad379:=(by injection e379)
   replace hx379_0:=zh_ HB hx379_0
   replace hx379_1:=zh_ HB hx379_1
   replace p379:=eq_true p379
   replace q379:=eq_true q379
   refine start_ (n:=50) (S:=fun w'=>w'.cell? (ad372.add ((x5_1).toNat * 2))=some (.int .i64 ((rd_T51 l1 x5_1).f0))/\w'.cell? ⟨(ad372.add ((x5_1).toNat * 2)).block,(ad372.add ((x5_1).toNat * 2)).off + 1,none⟩=some (.int .i64 ((rd_T51 l1 x5_1).f1))/\w'.cell? (ad372.add ((x5_1).toNat * 2))=some (.int .i64 ((rd_T51 l1 x5_1).f0))/\w'.cell? ⟨(ad372.add ((x5_1).toNat * 2)).block,(ad372.add ((x5_1).toNat * 2)).off + 1,none⟩=some (.int .i64 ((rd_T51 l1 x5_1).f1))/\w'.cell? (ad372.add ((x5_1).toNat * 2))=some (.int .i64 ((rd_T51 l1 x5_1).f0))/\w'.cell? ⟨(ad372.add ((x5_1).toNat * 2)).block,(ad372.add ((x5_1).toNat * 2)).off + 1,none⟩=some (.int .i64 ((rd_T51 l1 x5_1).f1))/\w'.cell? (ad372.add ((x5_1).toNat * 2))=some (.int .i64 ((rd_T51 l1 x5_1).f0))/\w'.cell? ⟨(ad372.add ((x5_1).toNat * 2)).block,(ad372.add ((x5_1).toNat * 2)).off + 1,none⟩=some (.int .i64 ((rd_T51 l1 x5_1).f1))/\w'.cell? (ad372.add (((ji12)).toNat * 2))=some (.int .i64 ((rd_T51 l1 (ji12)).f0))/\w'.cell? ⟨(ad372.add (((ji12)).toNat * 2)).block,(ad372.add (((ji12)).toNat * 2)).off + 1,none⟩=some (.int .i64 ((rd_T51 l1 (ji12)).f1))/\w'.cell? (ad372.add ((x5_1).toNat * 2))=some (.int .i64 ((rd_T51 l1 x5_1).f0))/\w'.cell? ⟨(ad372.add ((x5_1).toNat * 2)).block,(ad372.add ((x5_1).toNat * 2)).off + 1,none⟩=some (.int .i64 ((rd_T51 l1 x5_1).f1))) (ds:=[]) ba0_ (by kernel_rfl) rfl rfl ⟨(zq_ HB hw372_0:),(zq_ HB hw372_1:),(zq_ HB hw374_0:),(zq_ HB hw374_1:),(zq_ HB hw376_0:),(zq_ HB hw376_1:),(zq_ HB hw377_0:),(zq_ HB hw377_1:),(zq_ HB hw378_0:),(zq_ HB hw378_1:),(zq_ HB hw379_0:),(zq_ HB hw379_1:)⟩ (fun hHeld=>?_);refine with_tabW spec_l4Pairs.tab4 spec_l4Pairs.bits4 (fun HT_ HW_=>?_)
   generalize wr.drew=w19 at HB hx372_0 hx372_1 hx374_0 hx374_1 hx376_0 hx376_1 hx377_0 hx377_1 hx378_0 hx378_1 hx379_0 hx379_1 hHeld ⊢
   refine pu_ 0 12 ?_
   refine pu_ 1 13 ?_
   refine pu_ 2 14 ?_
   refine pu_ 3 15 ?_
   refine pu_ 5 17 ?_
   refine pu_ 6 18 ?_
   refine tk_ 4 16 hHeld ?_
   refine one_ (i:=7) (N:=some 19) ba8_ rfl rfl (one_of HT_.out (by kernel_rfl)) (by decide) (fun K hK=>?_)
   refine goes_ Try.func78 (by kernel_rfl) rfl #[.int .i64 ((rd_T51 l1 x5_1).f0),.int .i64 0,.int .i64 (wrap64 (a0 - 1))] (by rfl) rfl rfl zl ?_
   with_reducible refine (spec_l1In.calls ((rd_T51 l1 x5_1).f0) 0 (wrap64 (a0 - 1)) true _ A5.out).mono ?_
   rintro e w' ⟨rfl,⟨nd,rfl⟩⟩
   refine ⟨_,rfl,?_⟩
   refine hK.out _ _ ⟨(zq_ HB hw372_0:),(zq_ HB hw372_1:),(zq_ HB hw374_0:),(zq_ HB hw374_1:),(zq_ HB hw376_0:),(zq_ HB hw376_1:),(zq_ HB hw377_0:),(zq_ HB hw377_1:),(zq_ HB hw378_0:),(zq_ HB hw378_1:),(zq_ HB hw379_0:),(zq_ HB hw379_1:)⟩ (fun hHeld=>?_)
   clear hK K
   refine norm_ (a':=?_) ?_ ?_
   rotate_left
   ·show Act.put _ (some 19) _=_
    simp only [Act.put,z0_,z1_,z2_,i64_w,i32_w]
    rfl
   refine pu_ 8 20 ?_
   refine pu_ 9 21 ?_
   refine pu_ 10 22 ?_
   refine pu_ 11 23 ?_
   refine pu_ 12 24 ?_
   refine pu_ 13 25 ?_
   refine pu_ 15 27 ?_
   refine pu_ 16 28 ?_
   refine tk_ 14 26 hHeld ?_
   refine one_ (i:=17) (N:=some 29) ba18_ rfl rfl (one_of HT_.out (by kernel_rfl)) (by decide) (fun K hK=>?_)
   refine goes_ Try.func78 (by kernel_rfl) rfl #[.int .i64 ((rd_T51 l1 x5_1).f1),.int .i64 0,.int .i64 (wrap64 (a0 - 1))] (by rfl) rfl rfl zl ?_
   with_reducible refine (spec_l1In.calls ((rd_T51 l1 x5_1).f1) 0 (wrap64 (a0 - 1)) true _ A7.out).mono ?_
   rintro e w' ⟨rfl,⟨nd,rfl⟩⟩
   refine ⟨_,rfl,?_⟩
   refine hK.out _ _ ⟨(zq_ HB hw372_0:),(zq_ HB hw372_1:),(zq_ HB hw374_0:),(zq_ HB hw374_1:),(zq_ HB hw376_0:),(zq_ HB hw376_1:),(zq_ HB hw377_0:),(zq_ HB hw377_1:),(zq_ HB hw378_0:),(zq_ HB hw378_1:),(zq_ HB hw379_0:),(zq_ HB hw379_1:)⟩ (fun hHeld=>?_)
   clear hK K
   refine norm_ (a':=?_) ?_ ?_
   rotate_left
   ·show Act.put _ (some 29) _=_
    simp only [Act.put,z0_,z1_,z2_,i64_w,i32_w]
    rfl
   refine pu_ 18 30 ?_
   refine pu_ 19 31 ?_
   refine pu_ 20 32 ?_
   refine pu_ 21 33 ?_
   refine pu_ 22 34 ?_
   refine pu_ 23 35 ?_
   refine pu_ 24 36 ?_
   refine pu_ 26 38 ?_
   refine pu_ 27 39 ?_
   refine pu_ 28 40 ?_
   refine pu_ 29 41 ?_
   refine tk_ 25 37 hHeld ?_
   refine tk_ 30 42 hHeld ?_
   refine pu_ 31 43 ?_
   refine pu_ 32 44 ?_
   refine pu_ 33 45 ?_
   refine pu_ 34 46 ?_
   refine pu_ 35 47 ?_
   refine pu_ 36 48 ?_
   refine pu_ 37 49 ?_
   refine pu_ 38 50 ?_
   refine pu_ 39 51 ?_
   refine pu_ 40 52 ?_
   refine pu_ 42 54 ?_
   refine pu_ 43 55 ?_
   refine pu_ 44 56 ?_
   refine tk_ 41 53 hHeld ?_
   refine tk_ 45 57 hHeld ?_
   refine one_ (i:=46) (N:=some 58) ba47_ rfl rfl (one_of HT_.out (by kernel_rfl)) (by decide) (fun K hK=>?_)
   refine goes_ Try.func111 (by kernel_rfl) rfl #[.agg #[.int .i64 ((rd_T51 l1 (ji12)).f0),.int .i64 ((rd_T51 l1 (ji12)).f1)],.agg #[.int .i64 ((rd_T51 l1 x5_1).f0),.int .i64 ((rd_T51 l1 x5_1).f1)]] (by rfl) rfl rfl (by (try simp only [List.map_toArray,List.map_cons,List.map_nil]);rfl) ?_
   with_reducible refine (spec_l4Before.calls ((rd_T51 l1 (ji12)).f0) ((rd_T51 l1 (ji12)).f1) ((rd_T51 l1 x5_1).f0) ((rd_T51 l1 x5_1).f1) false _ A15.out).mono ?_
   rintro e w20 ⟨rfl,hb⟩
   refine ⟨_,rfl,?_⟩
   replace HB:=zb1 hb
   refine hK.out _ _ ⟨(zq_ HB hw372_0:),(zq_ HB hw372_1:),(zq_ HB hw374_0:),(zq_ HB hw374_1:),(zq_ HB hw376_0:),(zq_ HB hw376_1:),(zq_ HB hw377_0:),(zq_ HB hw377_1:),(zq_ HB hw378_0:),(zq_ HB hw378_1:),(zq_ HB hw379_0:),(zq_ HB hw379_1:)⟩ (fun hHeld=>?_)
   clear hK K
   refine norm_ (a':=?_) ?_ ?_
   rotate_left
   ·show Act.put _ (some 58) _=_
    simp only [Act.put,z0_,z1_,z2_,i64_w,i32_w]
    rfl
   refine pu_ 47 59 ?_
   refine pu_ 48 60 ?_
   refine pu_ 49 61 ?_
   refine done_ (done_of HT_.out (by kernel_rfl)) ?_
   try go_wp2
   go_ret
   exact ⟨by rfl,zb⟩
