-- Words and walks of this claim.
import Derived.Test.YtkolecmpncaooaaXFnLongestFirstx28
namespace Go.Proofs.Ytkolecmpncaooaa.XFnLongestFirst
set_option maxRecDepth 100000
set_option maxHeartbeats 8000000
open Go.RowKit Go.Proofs.YtkolecmpncaooaaW.PrintWords Go.Proofs.YtkolecmpncaooaaW.PrintLast Go.Proofs.YtkolecmpncaooaaW.PrintMore
attribute [local go_sem] max2_int min2_int max_two min_two max_three min_three max_four min_four
attribute [local go_sem] idxA_51_0 idxA_51_1 fldS_45_0 fldS_45_1 fldS_45_2 fldS_96_0 fldS_96_1 fldS_96_2
set_option linter.unusedVariables false
set_option linter.unusedSimpArgs false
def impl_planLength.l0:Nat->List (S31)->Int->List (S40)->Int->Int->Option (Int)
 | 0,_,_,_,_,_=>none
 | k + 1,x0,x5,x8,x9,x10=>if x10<x9 then (if 0<=x10 then (if x10<(x8.length:Int) then (if 0<=((rd_T40 x8 x10).f0) then (if ((rd_T40 x8 x10).f0)<(x0.length:Int) then (impl_planLength.l0 k x0 (mx x5 (wrap64 (((rd_T40 x8 x10).f2) + ((rd_T31 x0 ((rd_T40 x8 x10).f0)).f0)))) x8 x9 (wrap64 (x10 + 1))) else (none)) else (none)) else (none)) else (none)) else (some x5)
def impl_planLength.f (k:Nat) (l0:List (S31)) (l1:List (S40)):Option (Int):=impl_planLength.l0 k l0 0 l1 (l1.length:Int) 0
theorem impl_planLength.calls (k:Nat) (A0:Option Addr) (c0:Nat) (l0:List (S31)) (A1:Option Addr) (c1:Nat) (l1:List (S40)) (r:Int) (w:World) (hr0:Kd.C k31 w A0 l0.length l0) (hc0:l0.length<=c0) (hr1:Kd.C k40 w A1 l1.length l1) (hc1:l1.length<=c1) (h:impl_planLength.f k l0 l1=some r) :
  Calls Try.prog 48 #[.slice A0 l0.length c0,.slice A1 l1.length c1] w fun e w'=>e=.returned (.int .i64 r)/\Below w.heap.size w w':=by
 have hu40:=Try.underlying40
 have HR0:=ak_ hr0
 have HC0:=ak_ hc0
 clear hr0 hc0
 have HR1:=ak_ hr1
 have HC1:=ak_ hc1
 clear hr1 hc1
 have HB:=ak_ (Below.refl w.heap.size w)
 have H:(impl_planLength.l0 k l0 0 l1 (l1.length:Int) 0)=some r:=h
 clear h
 have H':=ak_ H
 clear H
 go_enter Try.func48,Try.ntmps48
 go_wp2
 repeat (go_quiet (fail))
 go_loopg [5,10] k (fun kq v5 v10 w'=>∃ (x5_1:Int) (x10_1:Int),v5=.int .i64 x5_1/\v10=.int .i64 x10_1/\Aside0 (impl_planLength.l0 kq l0 x5_1 l1 (l1.length:Int) x10_1=some r)/\Aside0 (kq<=k)/\Aside0 (Below w.heap.size w w'))
 case atStart=>exact ⟨(0),(0),zo,zo,H',⟨Nat.le_refl _⟩,⟨zb⟩⟩
 case round=>
  clear H'
  obtain ⟨x5_1,x10_1,rfl,rfl,HA,HK1,HB⟩:=hrel
  cases gk with
  | zero=>exact absurd HA.out (by simp [impl_planLength.l0])
  | succ k1=>
   have H:=HA.out
   clear HA
   simp only [impl_planLength.l0] at H
   replace H:=gND H;rcases H with ⟨c3b0,H⟩ | ⟨c3b0,H⟩
   ·obtain rfl:=oi_ H
    go_wp2
    repeat (go_quiet (fail))
    go_ret
    exact ⟨zz0,zb⟩
   replace H:=gD H;obtain ⟨c4b0,H⟩:=H
   replace H:=gD H;obtain ⟨c5b0,H⟩:=H
   replace H:=gD H;obtain ⟨c6b0,H⟩:=H
   replace H:=gD H;obtain ⟨c7b0,H⟩:=H
   obtain ⟨ji8,hji8⟩:∃ j_:Int,(mx x5_1 (wrap64 (((rd_T40 l1 x10_1).f2) + ((rd_T31 l0 ((rd_T40 l1 x10_1).f0)).f0))))=j_:=⟨_,rfl⟩
   replace H:(impl_planLength.l0 k1 l0 ji8 l1 (l1.length:Int) (wrap64 (x10_1 + 1)))=some r:=by (rw [hji8] at H;exact H)
   have hji8_:(if x5_1<(wrap64 (((rd_T40 l1 x10_1).f2) + ((rd_T31 l0 ((rd_T40 l1 x10_1).f0)).f0))) then (wrap64 (((rd_T40 l1 x10_1).f2) + ((rd_T31 l0 ((rd_T40 l1 x10_1).f0)).f0))) else x5_1)=ji8:=hji8
   have H':=ak_ H
   clear H
   have p634:0<=(x10_1:Int):=oz_
   have q634:x10_1<(l1.length:Int):=oz_
   obtain ⟨ad634,e634,hx634_0,hx634_1,hx634_2⟩:=at_T40 HR1.out x10_1 p634 q634
   cases e634
   replace hx634_0:=zh_ HB hx634_0
   replace hx634_1:=zh_ HB hx634_1
   replace hx634_2:=zh_ HB hx634_2
   replace p634:=eq_true p634
   replace q634:=eq_true q634
   go_wp2_with (((with_reducible refine gate_dst (N:=7) rfl ?_);refine box_event ?hg (N:=7) ?hd (cs:=#[.int .i64 0,.int .i64 0,.int .i64 0]) (t:=40) ?hr ?_;(case hd=>rfl);(case hg=>rfl);(case hr=>(go_simp;done));intro gb635 hg w9 hbox hb;have BK635:=ak_ (hbox);have GW635:=ak_ ((by rw [hg];exact (below_size zb):w.heap.size<=gb635));have GE635:=ak_ ((by rw [hg];exact (below_size zb):w.heap.size<=gb635));replace HB:=zb1 hb;clear hb hbox hg;obtain ⟨hcz10_0,hcz10_1,hcz10_2,hfz10_0,hfz10_1,hfz10_2⟩:=zk3 BK635.out;have p636:0<=(((rd_T40 l1 x10_1).f0):Int):=oz_;have q636:((rd_T40 l1 x10_1).f0)<(l0.length:Int):=oz_;obtain ⟨ad636,e636,hx636_0,hx636_1,hx636_2,hx636_3⟩:=at_T31 HR0.out ((rd_T40 l1 x10_1).f0) p636 q636;cases e636;have hn636_0:ad636.block≠gb635:=Nat.ne_of_lt (Nat.lt_of_lt_of_le zz57 GW635.out);have hn636_1:ad636.block≠gb635:=Nat.ne_of_lt (Nat.lt_of_lt_of_le zz57 GW635.out);have hn636_2:ad636.block≠gb635:=Nat.ne_of_lt (Nat.lt_of_lt_of_le zz57 GW635.out);replace hx636_0:=zh_ HB hx636_0;replace hx636_1:=zh_ HB hx636_1;replace hx636_2:=zh_ HB hx636_2;replace hx636_3:=zh_ HB hx636_3;replace hx636_0:=(cell_far (p:=⟨gb635,0,none⟩) zz48 (.int .i64 ((rd_T40 l1 x10_1).f0))).trans hx636_0;replace hx636_1:=(cell_far (p:=⟨gb635,0,none⟩) zz48 (.int .i64 ((rd_T40 l1 x10_1).f0))).trans hx636_1;replace hx636_2:=(cell_far (p:=⟨gb635,0,none⟩) zz48 (.int .i64 ((rd_T40 l1 x10_1).f0))).trans hx636_2;replace hx636_3:=(cell_far (p:=⟨gb635,0,none⟩) zz48 (.int .i64 ((rd_T40 l1 x10_1).f0))).trans hx636_3;replace hx636_0:=(cell_far (p:=⟨gb635,1,none⟩) zz49 (.int .i64 ((rd_T40 l1 x10_1).f1))).trans hx636_0;replace hx636_1:=(cell_far (p:=⟨gb635,1,none⟩) zz49 (.int .i64 ((rd_T40 l1 x10_1).f1))).trans hx636_1;replace hx636_2:=(cell_far (p:=⟨gb635,1,none⟩) zz49 (.int .i64 ((rd_T40 l1 x10_1).f1))).trans hx636_2;replace hx636_3:=(cell_far (p:=⟨gb635,1,none⟩) zz49 (.int .i64 ((rd_T40 l1 x10_1).f1))).trans hx636_3;replace hx636_0:=(cell_far (p:=⟨gb635,2,none⟩) zz50 (.int .i64 ((rd_T40 l1 x10_1).f2))).trans hx636_0;replace hx636_1:=(cell_far (p:=⟨gb635,2,none⟩) zz50 (.int .i64 ((rd_T40 l1 x10_1).f2))).trans hx636_1;replace hx636_2:=(cell_far (p:=⟨gb635,2,none⟩) zz50 (.int .i64 ((rd_T40 l1 x10_1).f2))).trans hx636_2;replace hx636_3:=(cell_far (p:=⟨gb635,2,none⟩) zz50 (.int .i64 ((rd_T40 l1 x10_1).f2))).trans hx636_3;(try have hy636_0:=fun (n_:Nat)=>(show (((((w9.drewN n_).setCell ⟨gb635,0,none⟩ (.int .i64 ((rd_T40 l1 x10_1).f0))).setCell ⟨gb635,1,none⟩ (.int .i64 ((rd_T40 l1 x10_1).f1))).setCell ⟨gb635,2,none⟩ (.int .i64 ((rd_T40 l1 x10_1).f2)))).cell? _=some _ from hx636_0));(try have hy636_1:=fun (n_:Nat)=>(show (((((w9.drewN n_).setCell ⟨gb635,0,none⟩ (.int .i64 ((rd_T40 l1 x10_1).f0))).setCell ⟨gb635,1,none⟩ (.int .i64 ((rd_T40 l1 x10_1).f1))).setCell ⟨gb635,2,none⟩ (.int .i64 ((rd_T40 l1 x10_1).f2)))).cell? _=some _ from hx636_1));(try have hy636_2:=fun (n_:Nat)=>(show (((((w9.drewN n_).setCell ⟨gb635,0,none⟩ (.int .i64 ((rd_T40 l1 x10_1).f0))).setCell ⟨gb635,1,none⟩ (.int .i64 ((rd_T40 l1 x10_1).f1))).setCell ⟨gb635,2,none⟩ (.int .i64 ((rd_T40 l1 x10_1).f2)))).cell? _=some _ from hx636_2));(try have hy636_3:=fun (n_:Nat)=>(show (((((w9.drewN n_).setCell ⟨gb635,0,none⟩ (.int .i64 ((rd_T40 l1 x10_1).f0))).setCell ⟨gb635,1,none⟩ (.int .i64 ((rd_T40 l1 x10_1).f1))).setCell ⟨gb635,2,none⟩ (.int .i64 ((rd_T40 l1 x10_1).f2)))).cell? _=some _ from hx636_3));clear hn636_0;clear hn636_1;clear hn636_2;replace p636:=eq_true p636;replace q636:=eq_true q636))
   repeat (go_quiet (((with_reducible refine gate_dst (N:=7) rfl ?_);refine box_event ?hg (N:=7) ?hd (cs:=#[.int .i64 0,.int .i64 0,.int .i64 0]) (t:=40) ?hr ?_;(case hd=>rfl);(case hg=>rfl);(case hr=>(go_simp;done));intro gb635 hg w9 hbox hb;have BK635:=ak_ (hbox);have GW635:=ak_ ((by rw [hg];exact (below_size zb):w.heap.size<=gb635));have GE635:=ak_ ((by rw [hg];exact (below_size zb):w.heap.size<=gb635));replace HB:=zb1 hb;clear hb hbox hg;obtain ⟨hcz10_0,hcz10_1,hcz10_2,hfz10_0,hfz10_1,hfz10_2⟩:=zk3 BK635.out;have p636:0<=(((rd_T40 l1 x10_1).f0):Int):=oz_;have q636:((rd_T40 l1 x10_1).f0)<(l0.length:Int):=oz_;obtain ⟨ad636,e636,hx636_0,hx636_1,hx636_2,hx636_3⟩:=at_T31 HR0.out ((rd_T40 l1 x10_1).f0) p636 q636;cases e636;have hn636_0:ad636.block≠gb635:=Nat.ne_of_lt (Nat.lt_of_lt_of_le zz57 GW635.out);have hn636_1:ad636.block≠gb635:=Nat.ne_of_lt (Nat.lt_of_lt_of_le zz57 GW635.out);have hn636_2:ad636.block≠gb635:=Nat.ne_of_lt (Nat.lt_of_lt_of_le zz57 GW635.out);replace hx636_0:=zh_ HB hx636_0;replace hx636_1:=zh_ HB hx636_1;replace hx636_2:=zh_ HB hx636_2;replace hx636_3:=zh_ HB hx636_3;replace hx636_0:=(cell_far (p:=⟨gb635,0,none⟩) zz48 (.int .i64 ((rd_T40 l1 x10_1).f0))).trans hx636_0;replace hx636_1:=(cell_far (p:=⟨gb635,0,none⟩) zz48 (.int .i64 ((rd_T40 l1 x10_1).f0))).trans hx636_1;replace hx636_2:=(cell_far (p:=⟨gb635,0,none⟩) zz48 (.int .i64 ((rd_T40 l1 x10_1).f0))).trans hx636_2;replace hx636_3:=(cell_far (p:=⟨gb635,0,none⟩) zz48 (.int .i64 ((rd_T40 l1 x10_1).f0))).trans hx636_3;replace hx636_0:=(cell_far (p:=⟨gb635,1,none⟩) zz49 (.int .i64 ((rd_T40 l1 x10_1).f1))).trans hx636_0;replace hx636_1:=(cell_far (p:=⟨gb635,1,none⟩) zz49 (.int .i64 ((rd_T40 l1 x10_1).f1))).trans hx636_1;replace hx636_2:=(cell_far (p:=⟨gb635,1,none⟩) zz49 (.int .i64 ((rd_T40 l1 x10_1).f1))).trans hx636_2;replace hx636_3:=(cell_far (p:=⟨gb635,1,none⟩) zz49 (.int .i64 ((rd_T40 l1 x10_1).f1))).trans hx636_3;replace hx636_0:=(cell_far (p:=⟨gb635,2,none⟩) zz50 (.int .i64 ((rd_T40 l1 x10_1).f2))).trans hx636_0;replace hx636_1:=(cell_far (p:=⟨gb635,2,none⟩) zz50 (.int .i64 ((rd_T40 l1 x10_1).f2))).trans hx636_1;replace hx636_2:=(cell_far (p:=⟨gb635,2,none⟩) zz50 (.int .i64 ((rd_T40 l1 x10_1).f2))).trans hx636_2;replace hx636_3:=(cell_far (p:=⟨gb635,2,none⟩) zz50 (.int .i64 ((rd_T40 l1 x10_1).f2))).trans hx636_3;clear hn636_0;clear hn636_1;clear hn636_2;replace p636:=eq_true p636;replace q636:=eq_true q636));try go_wp2_with (((with_reducible refine gate_dst (N:=7) rfl ?_);refine box_event ?hg (N:=7) ?hd (cs:=#[.int .i64 0,.int .i64 0,.int .i64 0]) (t:=40) ?hr ?_;(case hd=>rfl);(case hg=>rfl);(case hr=>(go_simp;done));intro gb635 hg w9 hbox hb;have BK635:=ak_ (hbox);have GW635:=ak_ ((by rw [hg];exact (below_size zb):w.heap.size<=gb635));have GE635:=ak_ ((by rw [hg];exact (below_size zb):w.heap.size<=gb635));replace HB:=zb1 hb;clear hb hbox hg;obtain ⟨hcz10_0,hcz10_1,hcz10_2,hfz10_0,hfz10_1,hfz10_2⟩:=zk3 BK635.out;have p636:0<=(((rd_T40 l1 x10_1).f0):Int):=oz_;have q636:((rd_T40 l1 x10_1).f0)<(l0.length:Int):=oz_;obtain ⟨ad636,e636,hx636_0,hx636_1,hx636_2,hx636_3⟩:=at_T31 HR0.out ((rd_T40 l1 x10_1).f0) p636 q636;cases e636;have hn636_0:ad636.block≠gb635:=Nat.ne_of_lt (Nat.lt_of_lt_of_le zz57 GW635.out);have hn636_1:ad636.block≠gb635:=Nat.ne_of_lt (Nat.lt_of_lt_of_le zz57 GW635.out);have hn636_2:ad636.block≠gb635:=Nat.ne_of_lt (Nat.lt_of_lt_of_le zz57 GW635.out);replace hx636_0:=zh_ HB hx636_0;replace hx636_1:=zh_ HB hx636_1;replace hx636_2:=zh_ HB hx636_2;replace hx636_3:=zh_ HB hx636_3;replace hx636_0:=(cell_far (p:=⟨gb635,0,none⟩) zz48 (.int .i64 ((rd_T40 l1 x10_1).f0))).trans hx636_0;replace hx636_1:=(cell_far (p:=⟨gb635,0,none⟩) zz48 (.int .i64 ((rd_T40 l1 x10_1).f0))).trans hx636_1;replace hx636_2:=(cell_far (p:=⟨gb635,0,none⟩) zz48 (.int .i64 ((rd_T40 l1 x10_1).f0))).trans hx636_2;replace hx636_3:=(cell_far (p:=⟨gb635,0,none⟩) zz48 (.int .i64 ((rd_T40 l1 x10_1).f0))).trans hx636_3;replace hx636_0:=(cell_far (p:=⟨gb635,1,none⟩) zz49 (.int .i64 ((rd_T40 l1 x10_1).f1))).trans hx636_0;replace hx636_1:=(cell_far (p:=⟨gb635,1,none⟩) zz49 (.int .i64 ((rd_T40 l1 x10_1).f1))).trans hx636_1;replace hx636_2:=(cell_far (p:=⟨gb635,1,none⟩) zz49 (.int .i64 ((rd_T40 l1 x10_1).f1))).trans hx636_2;replace hx636_3:=(cell_far (p:=⟨gb635,1,none⟩) zz49 (.int .i64 ((rd_T40 l1 x10_1).f1))).trans hx636_3;replace hx636_0:=(cell_far (p:=⟨gb635,2,none⟩) zz50 (.int .i64 ((rd_T40 l1 x10_1).f2))).trans hx636_0;replace hx636_1:=(cell_far (p:=⟨gb635,2,none⟩) zz50 (.int .i64 ((rd_T40 l1 x10_1).f2))).trans hx636_1;replace hx636_2:=(cell_far (p:=⟨gb635,2,none⟩) zz50 (.int .i64 ((rd_T40 l1 x10_1).f2))).trans hx636_2;replace hx636_3:=(cell_far (p:=⟨gb635,2,none⟩) zz50 (.int .i64 ((rd_T40 l1 x10_1).f2))).trans hx636_3;clear hn636_0;clear hn636_1;clear hn636_2;replace p636:=eq_true p636;replace q636:=eq_true q636)))
   go_roundg k1
   case measure=>have:=HK1.out;omega
   case rel=>exact ⟨(ji8),(wrap64 (x10_1 + 1)),(by rfl),zo,H',⟨by have:=HK1.out;omega⟩,⟨by repeat ((with_reducible first|exact HB.out|apply pw_below_drewN|refine below_set ?_ GE635.out))⟩⟩
def impl_PlanLength.f (k:Nat) (l0:List (S31)) (a1:Int) (l2:List (S51)) (l3:List (S40)):Option (Int × Bool):=(impl_isParallel.f k l0 a1 l2).bind fun t637=>(if t637=true then ((impl_isPlan.f k l0 a1 l2 l3).bind fun t638=>(if t638=true then ((impl_planLength.f k l0 l3).bind fun t639=>(some (t639,true))) else (some (0,false)))) else (some (0,false)))
theorem impl_PlanLength.calls (k:Nat) (A0:Option Addr) (c0:Nat) (l0:List (S31)) (a1:Int) (A2:Option Addr) (c2:Nat) (l2:List (S51)) (A3:Option Addr) (c3:Nat) (l3:List (S40)) (r1:Int) (r2:Bool) (w:World) (hr0:Kd.C k31 w A0 l0.length l0) (hc0:l0.length<=c0) (hr2:Kd.C k51 w A2 l2.length l2) (hc2:l2.length<=c2) (hr3:Kd.C k40 w A3 l3.length l3) (hc3:l3.length<=c3) (h:impl_PlanLength.f k l0 a1 l2 l3=some (r1,r2)) :
  Calls Try.prog 19 #[.slice A0 l0.length c0,.int .i64 a1,.slice A2 l2.length c2,.slice A3 l3.length c3] w fun e w'=>e=.returned (.tuple #[.int .i64 r1,.bool r2])/\Below w.heap.size w w':=by
 have HR0:=ak_ hr0
 have HC0:=ak_ hc0
 clear hr0 hc0
 have HR2:=ak_ hr2
 have HC2:=ak_ hc2
 clear hr2 hc2
 have HR3:=ak_ hr3
 have HC3:=ak_ hc3
 clear hr3 hc3
 have HB:=ak_ (Below.refl w.heap.size w)
 have H:((impl_isParallel.f k l0 a1 l2).bind fun t637=>(if t637=true then ((impl_isPlan.f k l0 a1 l2 l3).bind fun t638=>(if t638=true then ((impl_planLength.f k l0 l3).bind fun t639=>(some (t639,true))) else (some (0,false)))) else (some (0,false))))=some (r1,r2):=h
 clear h
 replace H:=gT H;obtain ⟨t637,A5,H⟩:=H
 replace H:=gNB H;rcases H with ⟨rfl,H⟩ | ⟨rfl,H⟩
 ·simp only [Option.some.injEq,Prod.mk.injEq] at H
  obtain ⟨rfl,rfl⟩:=H
  go_enter Try.func19,Try.ntmps19
  go_wp2_with (((with_reducible refine gate_callee (f:=35) rfl ?_);refine zgo 13 Try.func35 #[.slice A0 l0.length c0,.int .i64 a1,.slice A2 l2.length c2] ?_;(with_reducible refine (impl_isParallel.calls k _ _ l0 a1 _ _ l2 false _ ?side1 ?side2 ?side3 ?side4 A5.out).mono ?_);(case side1=>exact zC HR0.out);(case side2=>exact HC0.out);(case side3=>exact zC HR2.out);(case side4=>exact HC2.out);rintro e w15 ⟨rfl,hb⟩;refine ⟨_,rfl,?_⟩;replace HB:=zb1 hb;(try clear hb)))
  go_ret2
  exact ⟨zz0,zb⟩
 replace H:=gT H;obtain ⟨t638,A7,H⟩:=H
 replace H:=gNB H;rcases H with ⟨rfl,H⟩ | ⟨rfl,H⟩
 ·simp only [Option.some.injEq,Prod.mk.injEq] at H
  obtain ⟨rfl,rfl⟩:=H
  go_enter Try.func19,Try.ntmps19
  go_wp2_with (first|((with_reducible refine gate_callee (f:=35) rfl ?_);refine zgo 13 Try.func35 #[.slice A0 l0.length c0,.int .i64 a1,.slice A2 l2.length c2] ?_;(with_reducible refine (impl_isParallel.calls k _ _ l0 a1 _ _ l2 true _ ?side1 ?side2 ?side3 ?side4 A5.out).mono ?_);(case side1=>exact zC HR0.out);(case side2=>exact HC0.out);(case side3=>exact zC HR2.out);(case side4=>exact HC2.out);rintro e w13 ⟨rfl,hb⟩;refine ⟨_,rfl,?_⟩;replace HB:=zb1 hb;(try clear hb))|(go_at_call 47;(with_reducible refine (impl_isPlan.calls k _ _ l0 a1 _ _ l2 _ _ l3 false _ ?side1 ?side2 ?side3 ?side4 ?side5 ?side6 A7.out).mono ?_);(case side1=>exact zC (Kd.C_below HR0.out HB.out));(case side2=>exact HC0.out);(case side3=>exact zC (Kd.C_below HR2.out HB.out));(case side4=>exact HC2.out);(case side5=>exact zC (Kd.C_below HR3.out HB.out));(case side6=>exact HC3.out);rintro e w14 ⟨rfl,hb⟩;replace HB:=zb1 hb;(try clear hb)))
  go_ret2
  exact ⟨zz0,zb⟩
 replace H:=gT H;obtain ⟨t639,A9,H⟩:=H
 simp only [Option.some.injEq,Prod.mk.injEq] at H
 obtain ⟨rfl,rfl⟩:=H
 go_enter Try.func19,Try.ntmps19
 go_wp2_with (first|((with_reducible refine gate_callee (f:=35) rfl ?_);refine zgo 13 Try.func35 #[.slice A0 l0.length c0,.int .i64 a1,.slice A2 l2.length c2] ?_;(with_reducible refine (impl_isParallel.calls k _ _ l0 a1 _ _ l2 true _ ?side1 ?side2 ?side3 ?side4 A5.out).mono ?_);(case side1=>exact zC HR0.out);(case side2=>exact HC0.out);(case side3=>exact zC HR2.out);(case side4=>exact HC2.out);rintro e w10 ⟨rfl,hb⟩;refine ⟨_,rfl,?_⟩;replace HB:=zb1 hb;(try clear hb))|(go_at_call 47;(with_reducible refine (impl_isPlan.calls k _ _ l0 a1 _ _ l2 _ _ l3 true _ ?side1 ?side2 ?side3 ?side4 ?side5 ?side6 A7.out).mono ?_);(case side1=>exact zC (Kd.C_below HR0.out HB.out));(case side2=>exact HC0.out);(case side3=>exact zC (Kd.C_below HR2.out HB.out));(case side4=>exact HC2.out);(case side5=>exact zC (Kd.C_below HR3.out HB.out));(case side6=>exact HC3.out);rintro e w11 ⟨rfl,hb⟩;replace HB:=zb1 hb;(try clear hb))|((with_reducible refine gate_callee (f:=48) rfl ?_);refine zgo 25 Try.func48 #[.slice A0 l0.length c0,.slice A3 l3.length c3] ?_;(with_reducible refine (impl_planLength.calls k _ _ l0 _ _ l3 t639 _ ?side1 ?side2 ?side3 ?side4 A9.out).mono ?_);(case side1=>exact zC (Kd.C_below HR0.out HB.out));(case side2=>exact HC0.out);(case side3=>exact zC (Kd.C_below HR3.out HB.out));(case side4=>exact HC3.out);rintro e w12 ⟨rfl,hb⟩;refine ⟨_,rfl,?_⟩;replace HB:=zb1 hb;(try clear hb)))
 go_ret2
 exact ⟨zz0,zb⟩
def impl_totalOf.l0:Nat->Int->List (S31)->Int->Int->Option (Int)
 | 0,_,_,_,_=>none
 | k + 1,x3,x6,x7,x8=>if x8<x7 then (if 0<=x8 then (if x8<(x6.length:Int) then (impl_totalOf.l0 k (wrap64 (x3 + ((rd_T31 x6 x8).f0))) x6 x7 (wrap64 (x8 + 1))) else (none)) else (none)) else (some x3)
def impl_totalOf.f (k:Nat) (l0:List (S31)):Option (Int):=impl_totalOf.l0 k 0 l0 (l0.length:Int) 0
theorem impl_totalOf.calls (k:Nat) (A0:Option Addr) (c0:Nat) (l0:List (S31)) (r:Int) (w:World) (hr0:Kd.C k31 w A0 l0.length l0) (hc0:l0.length<=c0) (h:impl_totalOf.f k l0=some r) :
  Calls Try.prog 58 #[.slice A0 l0.length c0] w fun e w'=>e=.returned (.int .i64 r)/\Below w.heap.size w w':=by
 have hu31:=Try.underlying31
 have HR0:=ak_ hr0
 have HC0:=ak_ hc0
 clear hr0 hc0
 have HB:=ak_ (Below.refl w.heap.size w)
 have H:(impl_totalOf.l0 k 0 l0 (l0.length:Int) 0)=some r:=h
 clear h
 have H':=ak_ H
 clear H
 go_enter Try.func58,Try.ntmps58
 go_wp2
 go_loopg [3,8] k (fun kq v3 v8 w'=>∃ (x3_1:Int) (x8_1:Int),v3=.int .i64 x3_1/\v8=.int .i64 x8_1/\Aside0 (impl_totalOf.l0 kq x3_1 l0 (l0.length:Int) x8_1=some r)/\Aside0 (kq<=k)/\Aside0 (Below w.heap.size w w'))
 case atStart=>exact ⟨(0),(0),zo,zo,H',⟨Nat.le_refl _⟩,⟨zb⟩⟩
 case round=>
  clear H'
  obtain ⟨x3_1,x8_1,rfl,rfl,HA,HK1,HB⟩:=hrel
  cases gk with
  | zero=>exact absurd HA.out (by simp [impl_totalOf.l0])
  | succ k1=>
   have H:=HA.out
   clear HA
   simp only [impl_totalOf.l0] at H
   replace H:=gND H;rcases H with ⟨c2b0,H⟩ | ⟨c2b0,H⟩
   ·obtain rfl:=oi_ H
    go_wp2
    go_ret
    exact ⟨zz0,zb⟩
   replace H:=gD H;obtain ⟨c3b0,H⟩:=H
   replace H:=gD H;obtain ⟨c4b0,H⟩:=H
   have H':=ak_ H
   clear H
   have p640:0<=(x8_1:Int):=oz_
   have q640:x8_1<(l0.length:Int):=oz_
   obtain ⟨ad640,e640,hx640_0,hx640_1,hx640_2,hx640_3⟩:=at_T31 HR0.out x8_1 p640 q640
   cases e640
   replace hx640_0:=zh_ HB hx640_0
   replace hx640_1:=zh_ HB hx640_1
   replace hx640_2:=zh_ HB hx640_2
   replace hx640_3:=zh_ HB hx640_3
   replace p640:=eq_true p640
   replace q640:=eq_true q640
   go_wp2_with (((with_reducible refine gate_dst (N:=5) rfl ?_);refine box_event ?hg (N:=5) ?hd (cs:=#[.int .i64 0,.int .i64 0,.int .i64 0,.int .i64 0]) (t:=31) ?hr ?_;(case hd=>rfl);(case hg=>rfl);(case hr=>(go_simp;done));intro gb641 hg w5 hbox hb;have BK641:=ak_ (hbox);have GW641:=ak_ ((by rw [hg];exact (below_size zb):w.heap.size<=gb641));have GE641:=ak_ ((by rw [hg];exact (below_size zb):w.heap.size<=gb641));replace HB:=zb1 hb;clear hb hbox hg;obtain ⟨hcz6_0,hcz6_1,hcz6_2,hcz6_3,hfz6_0,hfz6_1,hfz6_2,hfz6_3⟩:=zk4 BK641.out))
   go_roundg k1
   case measure=>have:=HK1.out;omega
   case rel=>exact ⟨(wrap64 (x3_1 + ((rd_T31 l0 x8_1).f0))),(wrap64 (x8_1 + 1)),zo,zo,H',⟨by have:=HK1.out;omega⟩,⟨by repeat ((with_reducible first|exact HB.out|refine below_set ?_ GE641.out))⟩⟩
