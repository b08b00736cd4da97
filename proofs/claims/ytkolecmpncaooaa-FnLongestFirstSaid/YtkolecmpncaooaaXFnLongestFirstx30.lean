-- Words and walks of this claim.
import Derived.Test.YtkolecmpncaooaaXFnLongestFirstx20
import Derived.Test.YtkolecmpncaooaaXFnLongestFirstx29
namespace Go.Proofs.Ytkolecmpncaooaa.XFnLongestFirst
set_option maxRecDepth 100000
set_option maxHeartbeats 8000000
open Go.RowKit Go.Proofs.YtkolecmpncaooaaW.PrintWords Go.Proofs.YtkolecmpncaooaaW.PrintLast Go.Proofs.YtkolecmpncaooaaW.PrintMore
attribute [local go_sem] max2_int min2_int max_two min_two max_three min_three max_four min_four
attribute [local go_sem] idxA_51_0 idxA_51_1 fldS_45_0 fldS_45_1 fldS_45_2 fldS_96_0 fldS_96_1 fldS_96_2
set_option linter.unusedVariables false
set_option linter.unusedSimpArgs false
mutual
def impl_tailsOf.l0:Nat->List (S31)->List (List Bool)->List Int->Int->Int->Option (List Int)
 | 0,_,_,_,_,_=>none
 | k + 1,x0,x5,x6,x18,x19=>if x19<x18 then (impl_tailsOf.l1 k x0 x5 x6 x18 x19 x0 (x0.length:Int) 0) else (some x6)
def impl_tailsOf.l1:Nat->List (S31)->List (List Bool)->List Int->Int->Int->List (S31)->Int->Int->Option (List Int)
 | 0,_,_,_,_,_,_,_,_=>none
 | k + 1,x0,x5,x6,x18,x19,x21,x22,x23=>if x23<x22 then (if 0<=x23 then (if x23<(x21.length:Int) then (if x23<(x6.length:Int) then (impl_tailsOf.l2 k x0 x5 (x6.set (x23:Int).toNat (mx (rd x6 x23) ((rd_T31 x21 x23).f0))) x23 x18 x19 x21 x22 x23 (x0.length:Int) 0 ((rd_T31 x21 x23).f0) ((rd_T31 x21 x23).f1) ((rd_T31 x21 x23).f2) ((rd_T31 x21 x23).f3)) else (none)) else (none)) else (none)) else (impl_tailsOf.l0 k x0 x5 x6 x18 (wrap64 (x19 + 1)))
def impl_tailsOf.l2:Nat->List (S31)->List (List Bool)->List Int->Int->Int->Int->List (S31)->Int->Int->Int->Int->Int->Int->Int->Int->Option (List Int)
 | 0,_,_,_,_,_,_,_,_,_,_,_,_,_,_,_=>none
 | k + 1,x0,x5,x6,x7,x18,x19,x21,x22,x23,x39,x40,x650000,x650001,x650002,x650003=>if x40<x39 then (if 0<=x7 then (if x7<(x5.length:Int) then (if 0<=x40 then (if x40<((rd_L4 x5 x7).length:Int) then (if rdOf false (rd_L4 x5 x7) x40=true then (if x7<(x6.length:Int) then (if x40<(x6.length:Int) then (impl_tailsOf.l2 k x0 x5 (x6.set (x7:Int).toNat (mx (rd x6 x7) (wrap64 (x650000 + (rd x6 x40))))) x7 x18 x19 x21 x22 x23 x39 (wrap64 (x40 + 1)) x650000 x650001 x650002 x650003) else (none)) else (none)) else (impl_tailsOf.l2 k x0 x5 x6 x7 x18 x19 x21 x22 x23 x39 (wrap64 (x40 + 1)) x650000 x650001 x650002 x650003)) else (none)) else (none)) else (none)) else (none)) else (impl_tailsOf.l1 k x0 x5 x6 x18 x19 x21 x22 (wrap64 (x23 + 1)))
end
def impl_tailsOf.f (k:Nat) (l0:List (S31)) (l1:List (S51)):Option (List Int):=(impl_closure.f k (l0.length:Int) l1).bind fun t642=>(if 0<=(l0.length:Int) then (if ((l0.length:Int):Int).toNat<=35184372088832 then (impl_tailsOf.l0 k l0 t642 (List.replicate ((l0.length:Int):Int).toNat 0) (l0.length:Int) 0) else (none)) else (none))
def impl_tailsOf.T8:Bool × List (List Nat × List Nat):=(true,[([],[]),([],[]),([],[]),([],[]),([2,3],[2,3]),([4],[4]),([],[]),([6],[6]),([5,7],[5,7]),([0,1,0,1,2,3,4,5,6,7,8],[0,1]),([9,8,0,1,2,3,4,5,6,7,8],[8,9])])
def impl_tailsOf.B8:List Nat:=[0,0,0,0,12,28,0,64,252,511,1023]
theorem impl_tailsOf.tab8:rtab .any (opsOf Try.f91 8)=impl_tailsOf.T8:=by kernel_rfl
theorem impl_tailsOf.bits8:waitsOk impl_tailsOf.T8.2 impl_tailsOf.B8=true:=by kernel_rfl
def impl_tailsOf.T13:Bool × List (List Nat × List Nat):=(true,[([],[]),([],[]),([],[]),([],[]),([2,3],[2,3]),([4],[4]),([],[]),([6],[6]),([],[]),([],[]),([8,9],[8,9]),([10],[10]),([7,11],[7,11]),([5,12],[5,12]),([0,1,0,1,2,3,4,5,6,7,8,9,10,11,12,13],[0,1]),([14,13,0,1,2,3,4,5,6,7,8,9,10,11,12,13],[13,14])])
def impl_tailsOf.B13:List Nat:=[0,0,0,0,12,28,0,64,0,0,768,1792,4032,8188,16383,32767]
theorem impl_tailsOf.tab13:rtab .any (opsOf Try.f91 13)=impl_tailsOf.T13:=by kernel_rfl
theorem impl_tailsOf.bits13:waitsOk impl_tailsOf.T13.2 impl_tailsOf.B13=true:=by kernel_rfl
theorem impl_tailsOf.calls (k:Nat) (A0:Option Addr) (c0:Nat) (l0:List (S31)) (A1:Option Addr) (c1:Nat) (l1:List (S51)) (r:List Int) (w:World) (hr0:Kd.C k31 w A0 l0.length l0) (hc0:l0.length<=c0) (hr1:Kd.C k51 w A1 l1.length l1) (hc1:l1.length<=c1) (h:impl_tailsOf.f k l0 l1=some r) :
  Calls Try.prog 91 #[.slice A0 l0.length c0,.slice A1 l1.length c1] w fun e w'=>∃ v0_:Value,e=.returned (v0_)/\Kd.R (Kd.int .i64) 3 w' w.heap.size (fun _=>True) v0_ r/\Below w.heap.size w w':=by
 have hu31:=Try.underlying31
 have HR0:=ak_ hr0
 have HC0:=ak_ hc0
 clear hr0 hc0
 have HR1:=ak_ hr1
 have HC1:=ak_ hc1
 clear hr1 hc1
 have HB:=ak_ (Below.refl w.heap.size w)
 have H:((impl_closure.f k (l0.length:Int) l1).bind fun t642=>(if 0<=(l0.length:Int) then (if ((l0.length:Int):Int).toNat<=35184372088832 then (impl_tailsOf.l0 k l0 t642 (List.replicate ((l0.length:Int):Int).toNat 0) (l0.length:Int) 0) else (none)) else (none)))=some r:=h
 clear h
 replace H:=gT H;obtain ⟨t642,A3,H⟩:=H
 replace H:=gE H;obtain ⟨c4b0,c4b1,H⟩:=H
 replace H:=gE H;obtain ⟨c5b0,c5b1,H⟩:=H
 generalize hy645:(List.replicate ((l0.length:Int):Int).toNat 0:List Int)=y645 at H
 have Ny645:=ak_ hy645.symm
 clear hy645
 have H':=ak_ H
 clear H
 go_enter Try.func91,Try.ntmps91
 go_wp2_with (first|((with_reducible refine gate_callee (f:=75) rfl ?_);refine zgo 13 Try.func75 #[.int .i64 (l0.length:Int),.slice A1 l1.length c1] ?_;(with_reducible refine (impl_closure.calls k (l0.length:Int) _ _ l1 t642 _ ?side1 ?side2 A3.out).mono ?_);(case side1=>exact zC HR1.out);(case side2=>exact HC1.out);rintro e w6 ⟨v643,rfl,ho0,hb⟩;refine ⟨_,rfl,?_⟩;have HO644:=ak_ (Kd.S_lower ho0 (below_size zb));replace HB:=zb1 hb;(try clear hb);(try clear ho0))|((with_reducible refine gate_dst (N:=16) rfl ?_);refine Kd.R_make (Kd.int .i64) _ 3 rfl (N:=16) rfl 49 _ _ rfl (l0.length:Int) rfl rfl Try.underlying49 (.int .i64 0) 8 info3 rfl (by decide) (by omega) 0 (ok:=fun _=>True) (okp:=fun _=>True) rfl (fun _ hk=>hk) trivial (oz_) (Nat.le_trans (Nat.mul_le_mul_right _ (oz_:(l0.length:Int).toNat<=35184372088832)) (by omega)) (Below.refl _ _) (Nat.le_refl _) ?_;intro v646 w7 ho8 hb hg_ hnew_;clear hg_ hnew_;(rw [<-Ny645.out] at ho8);replace HO644:=zSb HO644 hb;have HO647:=ak_ (Kd.R_lower ho8 (below_size zb));replace HB:=zb1 hb;clear hb ho8))
 go_loopg [19] k (fun kq v19 w'=>∃ (x6_1:List Int) (x19_1:Int),v19=.int .i64 x19_1/\Aside0 (impl_tailsOf.l0 kq l0 t642 x6_1 (l0.length:Int) x19_1=some r)/\Aside0 (kq<=k)/\Aside0 (Kd.S (Kd.slice 4 Kd.bool) 82 w' w.heap.size (fun _=>True) v643 t642)/\Aside0 (Kd.R (Kd.int .i64) 3 w' w.heap.size (fun _=>True) v646 x6_1)/\Aside0 (Below w.heap.size w w'))
 case atStart=>exact ⟨(y645),(0),zo,H',⟨Nat.le_refl _⟩,⟨zS HO644.out⟩,⟨zR HO647.out⟩,⟨zb⟩⟩
 case round=>
  clear H'
  obtain ⟨x6_1,x19_1,rfl,HA,HK1,HO_5,HO_6,HB⟩:=hrel
  cases gk with
  | zero=>exact absurd HA.out (by simp [impl_tailsOf.l0])
  | succ k1=>
   have H:=HA.out
   clear HA
   simp only [impl_tailsOf.l0] at H
   replace H:=gND H;rcases H with ⟨c9b0,H⟩ | ⟨c9b0,H⟩
   ·obtain rfl:=oi_ H
    go_wp2
    go_ret
    exact ⟨_,zz0,zR HO_6.out,zb⟩
   have H':=ak_ H
   clear H
   go_wp2
   go_loopg [23] k1 (fun kq v23 w'=>∃ (x6_2:List Int) (x23_2:Int),v23=.int .i64 x23_2/\Aside0 (impl_tailsOf.l1 kq l0 t642 x6_2 (l0.length:Int) x19_1 l0 (l0.length:Int) x23_2=some r)/\Aside0 (kq<=k1)/\Aside0 (Kd.S (Kd.slice 4 Kd.bool) 82 w' w.heap.size (fun _=>True) v643 t642)/\Aside0 (Kd.R (Kd.int .i64) 3 w' w.heap.size (fun _=>True) v646 x6_2)/\Aside0 (Below w.heap.size w w'))
   case atStart=>exact ⟨(x6_1),(0),zo,H',⟨Nat.le_refl _⟩,⟨zS HO_5.out⟩,⟨zR HO_6.out⟩,⟨zb⟩⟩
   case round=>
    clear H'
    obtain ⟨x6_2,x23_2,rfl,HA,HK2,HO_5,HO_6,HB⟩:=hrel
    cases gk with
    | zero=>exact absurd HA.out (by simp [impl_tailsOf.l1])
    | succ k2=>
     have H:=HA.out
     clear HA
     simp only [impl_tailsOf.l1] at H
     replace H:=gND H;rcases H with ⟨c10b0,H⟩ | ⟨c10b0,H⟩
     ·have H':=ak_ H
      clear H
      go_wp2
      go_roundg k2
      case measure=>have:=HK1.out;have:=HK2.out;omega
      case rel=>exact ⟨(x6_2),(wrap64 (x19_1 + 1)),zo,H',⟨zz32⟩,⟨zS HO_5.out⟩,⟨zR HO_6.out⟩,⟨zb⟩⟩
     replace H:=gD H;obtain ⟨c11b0,H⟩:=H
     replace H:=gD H;obtain ⟨c12b0,H⟩:=H
     replace H:=gD H;obtain ⟨c13b0,H⟩:=H
     obtain ⟨ji14,hji14⟩:∃ j_:Int,(mx (rd x6_2 x23_2) ((rd_T31 l0 x23_2).f0))=j_:=⟨_,rfl⟩
     replace H:(impl_tailsOf.l2 k2 l0 t642 (x6_2.set (x23_2:Int).toNat (ji14)) x23_2 (l0.length:Int) x19_1 l0 (l0.length:Int) x23_2 (l0.length:Int) 0 ((rd_T31 l0 x23_2).f0) ((rd_T31 l0 x23_2).f1) ((rd_T31 l0 x23_2).f2) ((rd_T31 l0 x23_2).f3))=some r:=by (rw [hji14] at H;exact H)
     have hji14_:(if (rd x6_2 x23_2)<((rd_T31 l0 x23_2).f0) then ((rd_T31 l0 x23_2).f0) else (rd x6_2 x23_2))=ji14:=hji14
     generalize hy651:(x6_2.set (x23_2:Int).toNat (ji14):List Int)=y651 at H
     have Ny651:=ak_ hy651.symm
     clear hy651
     have H':=ak_ H
     clear H
     have p648:0<=(x23_2:Int):=oz_
     have q648:x23_2<(l0.length:Int):=oz_
     obtain ⟨ad648,e648,hx648_0,hx648_1,hx648_2,hx648_3⟩:=at_T31 HR0.out x23_2 p648 q648
     cases e648
     replace hx648_0:=zh_ HB hx648_0
     replace hx648_1:=zh_ HB hx648_1
     replace hx648_2:=zh_ HB hx648_2
     replace hx648_3:=zh_ HB hx648_3
     replace p648:=eq_true p648
     replace q648:=eq_true q648
     try go_wp2_with (((with_reducible refine gate_dst (N:=8) rfl ?_);refine box_event ?hg (N:=8) ?hd (cs:=#[.int .i64 0,.int .i64 0,.int .i64 0,.int .i64 0]) (t:=31) ?hr ?_;(case hd=>rfl);(case hg=>rfl);(case hr=>(go_simp;done));intro gb649 hg w16 hbox hb;replace HO_5:=zSb HO_5 hb;replace HO_6:=zRb HO_6 hb;have BK649:=ak_ (hbox);have GW649:=ak_ ((by rw [hg];exact (below_size zb):w.heap.size<=gb649));have GE649:=ak_ ((by rw [hg];exact (below_size zb):w.heap.size<=gb649));replace HB:=zb1 hb;clear hb hbox hg;obtain ⟨hcz17_0,hcz17_1,hcz17_2,hcz17_3,hfz17_0,hfz17_1,hfz17_2,hfz17_3⟩:=zk4 BK649.out))
     have n0_:Aside0 (Kd.S (Kd.slice 4 Kd.bool) 82 ((((w16.setCell ⟨gb649,0,none⟩ (.int .i64 ((rd_T31 l0 x23_2).f0))).setCell ⟨gb649,1,none⟩ (.int .i64 ((rd_T31 l0 x23_2).f1))).setCell ⟨gb649,2,none⟩ (.int .i64 ((rd_T31 l0 x23_2).f2))).setCell ⟨gb649,3,none⟩ (.int .i64 ((rd_T31 l0 x23_2).f3))) w.heap.size (fun _=>True) v643 t642):=⟨by (with_reducible repeat (apply Kd.S_alloc));exact Kd.S_mono (Kd.S_far (p:=⟨gb649,3,none⟩) (Kd.S_far (p:=⟨gb649,2,none⟩) (Kd.S_far (p:=⟨gb649,1,none⟩) (Kd.S_far (p:=⟨gb649,0,none⟩) (Kd.S_types HO_5.out BK649.out (by decide)) (fun _ hk=>hk.2) (.int .i64 ((rd_T31 l0 x23_2).f0))) (fun _ hk=>hk.2) (.int .i64 ((rd_T31 l0 x23_2).f1))) (fun _ hk=>hk.2) (.int .i64 ((rd_T31 l0 x23_2).f2))) (fun _ hk=>hk.2) (.int .i64 ((rd_T31 l0 x23_2).f3))) (fun _ hk=>trivial)⟩
     have n1_:Aside0 (Kd.R (Kd.int .i64) 3 ((((w16.setCell ⟨gb649,0,none⟩ (.int .i64 ((rd_T31 l0 x23_2).f0))).setCell ⟨gb649,1,none⟩ (.int .i64 ((rd_T31 l0 x23_2).f1))).setCell ⟨gb649,2,none⟩ (.int .i64 ((rd_T31 l0 x23_2).f2))).setCell ⟨gb649,3,none⟩ (.int .i64 ((rd_T31 l0 x23_2).f3))) w.heap.size (fun _=>True) v646 x6_2):=⟨by (with_reducible repeat (apply Kd.R_alloc));exact Kd.R_mono (Kd.R_far (p:=⟨gb649,3,none⟩) (Kd.R_far (p:=⟨gb649,2,none⟩) (Kd.R_far (p:=⟨gb649,1,none⟩) (Kd.R_far (p:=⟨gb649,0,none⟩) (Kd.R_types HO_6.out BK649.out (by decide)) (fun _ hk=>hk.2) (.int .i64 ((rd_T31 l0 x23_2).f0))) (fun _ hk=>hk.2) (.int .i64 ((rd_T31 l0 x23_2).f1))) (fun _ hk=>hk.2) (.int .i64 ((rd_T31 l0 x23_2).f2))) (fun _ hk=>hk.2) (.int .i64 ((rd_T31 l0 x23_2).f3))) (fun _ hk=>trivial)⟩
     have n2_:Aside0 (((((w16.setCell ⟨gb649,0,none⟩ (.int .i64 ((rd_T31 l0 x23_2).f0))).setCell ⟨gb649,1,none⟩ (.int .i64 ((rd_T31 l0 x23_2).f1))).setCell ⟨gb649,2,none⟩ (.int .i64 ((rd_T31 l0 x23_2).f2))).setCell ⟨gb649,3,none⟩ (.int .i64 ((rd_T31 l0 x23_2).f3))).heap[gb649]?=some (.cells #[.int .i64 ((rd_T31 l0 x23_2).f0),.int .i64 ((rd_T31 l0 x23_2).f1),.int .i64 ((rd_T31 l0 x23_2).f2),.int .i64 ((rd_T31 l0 x23_2).f3)] 31 (0,0))):=⟨by (with_reducible repeat (refine blk_drewN ?_ _));refine blk_put (cs:=#[.int .i64 ((rd_T31 l0 x23_2).f0),.int .i64 ((rd_T31 l0 x23_2).f1),.int .i64 ((rd_T31 l0 x23_2).f2),.int .i64 0]) ?_ 3 _ rfl;(with_reducible repeat (refine blk_drewN ?_ _));refine blk_put (cs:=#[.int .i64 ((rd_T31 l0 x23_2).f0),.int .i64 ((rd_T31 l0 x23_2).f1),.int .i64 0,.int .i64 0]) ?_ 2 _ rfl;(with_reducible repeat (refine blk_drewN ?_ _));refine blk_put (cs:=#[.int .i64 ((rd_T31 l0 x23_2).f0),.int .i64 0,.int .i64 0,.int .i64 0]) ?_ 1 _ rfl;(with_reducible repeat (refine blk_drewN ?_ _));refine blk_put (cs:=#[.int .i64 0,.int .i64 0,.int .i64 0,.int .i64 0]) ?_ 0 _ rfl;(with_reducible repeat (refine blk_drewN ?_ _));exact BK649.out⟩
     have n3_:Aside0 (Below w.heap.size w ((((w16.setCell ⟨gb649,0,none⟩ (.int .i64 ((rd_T31 l0 x23_2).f0))).setCell ⟨gb649,1,none⟩ (.int .i64 ((rd_T31 l0 x23_2).f1))).setCell ⟨gb649,2,none⟩ (.int .i64 ((rd_T31 l0 x23_2).f2))).setCell ⟨gb649,3,none⟩ (.int .i64 ((rd_T31 l0 x23_2).f3)))):=⟨zz90⟩
     generalize ((((w16.setCell ⟨gb649,0,none⟩ (.int .i64 ((rd_T31 l0 x23_2).f0))).setCell ⟨gb649,1,none⟩ (.int .i64 ((rd_T31 l0 x23_2).f1))).setCell ⟨gb649,2,none⟩ (.int .i64 ((rd_T31 l0 x23_2).f2))).setCell ⟨gb649,3,none⟩ (.int .i64 ((rd_T31 l0 x23_2).f3)))=w18 at n0_ n1_ n2_ n3_ ⊢
     have HO_5:=n0_
     have HO_6:=n1_
     have BK649:=n2_
     have HB:=n3_
     clear n0_ n1_ n2_ n3_
     replace HO_5:=ak_ (Kd.S_drew HO_5.out)
     replace HO_6:=ak_ (Kd.R_drew HO_6.out)
     replace BK649:=ak_ (blk_drew BK649.out)
     replace HB:=ak_ (below_drew1 HB.out)
     obtain ⟨Ao20,co20,eo20⟩:=Kd.R_slice HO_6.out
     (subst eo20)
     have p650:0<=(x23_2:Int):=oz_
     have q650:x23_2<(x6_2.length:Int):=oz_
     obtain ⟨ad650,e650,hx650_0⟩:=Kd.at_int (Kd.R_reads' HO_6.out).2.2 x23_2 p650 q650
     cases e650
     replace p650:=eq_true p650
     replace q650:=eq_true q650
     have p15:0<=(x23_2:Int):=oz_
     have q15:(x23_2:Int)<((x6_2.length:Int):Int):=oz_
     obtain ⟨go15,co15,eo15,gb15,gl15,cl15,HG15⟩:=Kd.R_form HO_6.out (by omega)
     (cases eo15)
     have GB15:=ak_ gb15
     have GG15:=ak_ HG15
     clear gb15 gl15 HG15
     (simp only [add_plain] at hx650_0)
     obtain ⟨hx15_0,hf15_0⟩:=Kd.R_celln 0 HO_6.out (x23_2:Int) p15 q15
     replace p15:=eq_true p15
     replace q15:=eq_true q15
     have HP21:=Kd.R_putn HO_6.out (x23_2:Int) ji14
     rw [<-Ny651.out] at HP21
     have HQ21:=ak_ HP21
     clear HP21
     refine start_ (n:=11) (S:=fun w'=>w'.cell? ⟨gb649,0,none⟩=some (.int .i64 ((rd_T31 l0 x23_2).f0))/\w'.cell? ⟨gb649,1,none⟩=some (.int .i64 ((rd_T31 l0 x23_2).f1))/\w'.cell? ⟨gb649,2,none⟩=some (.int .i64 ((rd_T31 l0 x23_2).f2))/\w'.cell? ⟨gb649,3,none⟩=some (.int .i64 ((rd_T31 l0 x23_2).f3))/\w'.cell? ⟨go15,(x23_2).toNat,none⟩=some (.int .i64 (rd x6_2 x23_2))) (ds:=[10]) #[false,false,false,false,false,false,false,false,false,false,false] (by kernel_rfl) rfl rfl ⟨(blk_cell BK649.out 0).trans rfl,(blk_cell BK649.out 1).trans rfl,(blk_cell BK649.out 2).trans rfl,(blk_cell BK649.out 3).trans rfl,hx650_0⟩ (fun hHeld=>?_);refine with_tabW impl_tailsOf.tab8 impl_tailsOf.bits8 (fun HT_ HW_=>?_)
     generalize w18.drew=w19 at HO_5 HO_6 BK649 HB GG15 HQ21 hf15_0 hx15_0 hx650_0 hHeld ⊢
     refine pu_ 0 28 ?_
     refine pu_ 1 29 ?_
     refine pu_ 2 30 ?_
     refine pu_ 3 31 ?_
     refine pu_ 4 32 ?_
     refine pu_ 6 34 ?_
     refine tk_ 5 33 hHeld ?_
     refine tk_ 7 35 hHeld ?_
     refine pu_ 8 36 ?_
     refine pu_ 9 37 ?_
     refine last_ (i:=10) (N:=none) #[true,true,true,true,true,true,true,true,true,true,true] rfl rfl (one_of HT_.out (by kernel_rfl)) (by decide) (fun K hK=>?_)
     refine skip_ (w1:=?_) (by rfl) rfl ?_ ?_
     rotate_left
     ·go_simp
      rfl
     refine hK.out _ _ ?_
     clear hK K
     refine done_ (done_of HT_.out (by kernel_rfl)) ?_
     try go_wp2
     go_loopg [40] k2 (fun kq v40 w'=>∃ (x6_3:List Int) (x40_3:Int),v40=.int .i64 x40_3/\Aside0 (impl_tailsOf.l2 kq l0 t642 x6_3 x23_2 (l0.length:Int) x19_1 l0 (l0.length:Int) x23_2 (l0.length:Int) x40_3 ((rd_T31 l0 x23_2).f0) ((rd_T31 l0 x23_2).f1) ((rd_T31 l0 x23_2).f2) ((rd_T31 l0 x23_2).f3)=some r)/\Aside0 (kq<=k2)/\Aside0 (Kd.S (Kd.slice 4 Kd.bool) 82 w' w.heap.size (fun _=>True) v643 t642)/\Aside0 (Kd.R (Kd.int .i64) 3 w' w.heap.size (fun _=>True) (.slice (some ⟨go15,0,none⟩) x6_2.length co20) x6_3)/\Aside0 (w'.heap[gb649]?=some (.cells #[.int .i64 ((rd_T31 l0 x23_2).f0),.int .i64 ((rd_T31 l0 x23_2).f1),.int .i64 ((rd_T31 l0 x23_2).f2),.int .i64 ((rd_T31 l0 x23_2).f3)] 31 (0,0)))/\Aside0 (Below w.heap.size w w'))
     case atStart=>exact ⟨(y651),(0),zo,H',⟨Nat.le_refl _⟩,⟨by (with_reducible repeat (apply Kd.S_alloc));exact Kd.S_mono (Kd.S_far (p:=⟨go15,(x23_2:Int).toNat,none⟩) (Kd.S_types HO_5.out GG15.out (by decide)) (fun _ hk=>hk.2) (.int .i64 ji14)) (fun _ hk=>trivial)⟩,⟨by (with_reducible repeat (apply Kd.R_alloc));exact HQ21.out⟩,⟨by (with_reducible repeat (refine blk_drewN ?_ _));refine blk_far ?_ (by have h_:=Kd.R_ne HO_6.out BK649.out (by decide);intro e_;exact h_ (by rw [e_];rfl)) _;(with_reducible repeat (refine blk_drewN ?_ _));exact BK649.out⟩,⟨by repeat ((with_reducible first|exact HB.out|refine below_set ?_ GB15.out))⟩⟩
     case round=>
      clear H'
      obtain ⟨x6_3,x40_3,rfl,HA,HK3,HO_5,HO_6,BK649,HB⟩:=hrel
      have hl6_3:=(Kd.R_reads' HO_6.out).1
      rw [hl6_3] at HO_6
      (try simp only [hl6_3])
      cases gk with
      | zero=>exact absurd HA.out (by simp [impl_tailsOf.l2])
      | succ k3=>
       have H:=HA.out
       clear HA
       simp only [impl_tailsOf.l2] at H
       replace H:=gND H;rcases H with ⟨c22b0,H⟩ | ⟨c22b0,H⟩
       ·have H':=ak_ H
        clear H
        go_wp2
        (try simp only [<-hl6_3])
        go_roundg k3
        case measure=>have:=HK1.out;have:=HK2.out;have:=HK3.out;omega
        case rel=>exact ⟨(x6_3),(wrap64 (x23_2 + 1)),zo,H',⟨zz61⟩,⟨by (with_reducible repeat (apply Kd.S_alloc));exact HO_5.out⟩,⟨by (try simp only [hl6_3]);(with_reducible repeat (apply Kd.R_alloc));exact HO_6.out⟩,⟨zz90⟩⟩
       replace H:=gD H;obtain ⟨c23b0,H⟩:=H
       replace H:=gD H;obtain ⟨c24b0,H⟩:=H
       replace H:=gD H;obtain ⟨c25b0,H⟩:=H
       replace H:=gD H;obtain ⟨c26b0,H⟩:=H
       obtain ⟨bq27,hbq27⟩:∃ b_:Bool,b_=(rdOf false (rd_L4 t642 x23_2) x40_3):=⟨_,rfl⟩
       replace H:(if bq27=true then (if x23_2<(x6_3.length:Int) then (if x40_3<(x6_3.length:Int) then (impl_tailsOf.l2 k3 l0 t642 (x6_3.set (x23_2:Int).toNat (mx (rd x6_3 x23_2) (wrap64 (((rd_T31 l0 x23_2).f0) + (rd x6_3 x40_3))))) x23_2 (l0.length:Int) x19_1 l0 (l0.length:Int) x23_2 (l0.length:Int) (wrap64 (x40_3 + 1)) ((rd_T31 l0 x23_2).f0) ((rd_T31 l0 x23_2).f1) ((rd_T31 l0 x23_2).f2) ((rd_T31 l0 x23_2).f3)) else (none)) else (none)) else (impl_tailsOf.l2 k3 l0 t642 x6_3 x23_2 (l0.length:Int) x19_1 l0 (l0.length:Int) x23_2 (l0.length:Int) (wrap64 (x40_3 + 1)) ((rd_T31 l0 x23_2).f0) ((rd_T31 l0 x23_2).f1) ((rd_T31 l0 x23_2).f2) ((rd_T31 l0 x23_2).f3)))=some r:=by rw [<-hbq27] at H;exact H
       have Nbq27:=ak_ hbq27
       clear hbq27
       replace H:=gNB H;rcases H with ⟨rfl,H⟩ | ⟨rfl,H⟩
       ·have H':=ak_ H
        clear H
        obtain ⟨Ao36,co36,eo36⟩:=Kd.S_slice HO_5.out
        subst eo36
        have p652:0<=(x23_2:Int):=oz_
        have q652:x23_2<(t642.length:Int):=oz_
        obtain ⟨ad652,A652_0,c652_0,e652,hx652_0,hl652_0,hi652_0⟩:=at_L4 (Kd.S_reads' HO_5.out).2.2 x23_2 p652 q652
        cases e652
        obtain ⟨ce652,hce652,hMe652,hcc652⟩:=Kd.S_get HO_5.out [] x23_2 p652 (by exact q652)
        obtain ⟨ve652_0,rfl,ge652_0⟩:=hMe652
        have hv652_0:=hcc652 0 _ rfl
        rw [Nat.add_zero,show ((Kd.slice 4 Kd.bool)).sz=1 from rfl,Nat.mul_one] at hv652_0
        replace hv652_0:=oi_ (hv652_0.symm.trans hx652_0)
        rw [hv652_0] at ge652_0
        have HL652_0:=ak_ (show Kd.R Kd.bool 4 _ _ _ _ (rd_L4 t642 x23_2) from ge652_0)
        clear hv652_0 ge652_0
        clear hcc652 hce652
        have HR652_0:=ak_ hi652_0
        have HC652_0:=ak_ hl652_0
        clear hi652_0 hl652_0
        replace p652:=eq_true p652
        replace q652:=eq_true q652
        have p653:0<=(x40_3:Int):=oz_
        have q653:x40_3<((rd_L4 t642 x23_2).length:Int):=oz_
        obtain ⟨ad653,e653,hx653_0⟩:=Kd.at_bool (by repeat ((with_reducible exact HR652_0.out))) x40_3 p653 q653
        (try rw [<-Nbq27.out] at hx653_0)
        cases e653
        replace p653:=eq_true p653
        replace q653:=eq_true q653
        go_wp2
        (try simp only [<-hl6_3])
        go_roundg k3
        case measure=>have:=HK1.out;have:=HK2.out;have:=HK3.out;omega
        case rel=>exact ⟨(x6_3),(wrap64 (x40_3 + 1)),zo,H',⟨zz61⟩,⟨by (with_reducible repeat (apply Kd.S_alloc));exact HO_5.out⟩,⟨by (try simp only [hl6_3]);(with_reducible repeat (apply Kd.R_alloc));exact HO_6.out⟩,⟨by (with_reducible repeat (refine blk_drewN ?_ _));exact BK649.out⟩,⟨zz90⟩⟩
       replace H:=gD H;obtain ⟨c29b0,H⟩:=H
       replace H:=gD H;obtain ⟨c30b0,H⟩:=H
       obtain ⟨ji31,hji31⟩:∃ j_:Int,(mx (rd x6_3 x23_2) (wrap64 (((rd_T31 l0 x23_2).f0) + (rd x6_3 x40_3))))=j_:=⟨_,rfl⟩
       replace H:(impl_tailsOf.l2 k3 l0 t642 (x6_3.set (x23_2:Int).toNat (ji31)) x23_2 (l0.length:Int) x19_1 l0 (l0.length:Int) x23_2 (l0.length:Int) (wrap64 (x40_3 + 1)) ((rd_T31 l0 x23_2).f0) ((rd_T31 l0 x23_2).f1) ((rd_T31 l0 x23_2).f2) ((rd_T31 l0 x23_2).f3))=some r:=by (rw [hji31] at H;exact H)
       have hji31_:(if (rd x6_3 x23_2)<(wrap64 (((rd_T31 l0 x23_2).f0) + (rd x6_3 x40_3))) then (wrap64 (((rd_T31 l0 x23_2).f0) + (rd x6_3 x40_3))) else (rd x6_3 x23_2))=ji31:=hji31
       generalize hy656:(x6_3.set (x23_2:Int).toNat (ji31):List Int)=y656 at H
       have Ny656:=ak_ hy656.symm
       clear hy656
       have H':=ak_ H
       clear H
       obtain ⟨Ao33,co33,eo33⟩:=Kd.S_slice HO_5.out
       subst eo33
       have p652:0<=(x23_2:Int):=oz_
       have q652:x23_2<(t642.length:Int):=oz_
       obtain ⟨ad652,A652_0,c652_0,e652,hx652_0,hl652_0,hi652_0⟩:=at_L4 (Kd.S_reads' HO_5.out).2.2 x23_2 p652 q652
       cases e652
       obtain ⟨ce652,hce652,hMe652,hcc652⟩:=Kd.S_get HO_5.out [] x23_2 p652 (by exact q652)
       obtain ⟨ve652_0,rfl,ge652_0⟩:=hMe652
       have hv652_0:=hcc652 0 _ rfl
       rw [Nat.add_zero,show ((Kd.slice 4 Kd.bool)).sz=1 from rfl,Nat.mul_one] at hv652_0
       replace hv652_0:=oi_ (hv652_0.symm.trans hx652_0)
       rw [hv652_0] at ge652_0
       have HL652_0:=ak_ (show Kd.R Kd.bool 4 _ _ _ _ (rd_L4 t642 x23_2) from ge652_0)
       clear hv652_0 ge652_0
       clear hcc652 hce652
       have HR652_0:=ak_ hi652_0
       have HC652_0:=ak_ hl652_0
       clear hi652_0 hl652_0
       replace p652:=eq_true p652
       replace q652:=eq_true q652
       have p653:0<=(x40_3:Int):=oz_
       have q653:x40_3<((rd_L4 t642 x23_2).length:Int):=oz_
       obtain ⟨ad653,e653,hx653_0⟩:=Kd.at_bool (by repeat ((with_reducible exact HR652_0.out))) x40_3 p653 q653
       (try rw [<-Nbq27.out] at hx653_0)
       cases e653
       replace p653:=eq_true p653
       replace q653:=eq_true q653
       try go_wp2
       replace HO_5:=ak_ (Kd.S_drew HO_5.out)
       replace HO_6:=ak_ (Kd.R_drew HO_6.out)
       replace HL652_0:=ak_ (Kd.R_drew HL652_0.out)
       replace BK649:=ak_ (blk_drew BK649.out)
       replace HR652_0:=ak_ (Kd.C_drew HR652_0.out)
       replace HB:=ak_ (below_drew1 HB.out)
       have p654:0<=(x23_2:Int):=oz_
       have q654:x23_2<(x6_3.length:Int):=oz_
       obtain ⟨ad654,e654,hx654_0⟩:=Kd.at_int (Kd.R_reads' HO_6.out).2.2 x23_2 p654 q654
       obtain rfl:(⟨go15,0,none⟩:Addr)=ad654:=(by injection e654)
       (simp only [add_plain] at hx654_0)
       replace p654:=eq_true p654
       replace q654:=eq_true q654
       have p655:0<=(x40_3:Int):=oz_
       have q655:x40_3<(x6_3.length:Int):=oz_
       obtain ⟨ad655,e655,hx655_0⟩:=Kd.at_int (Kd.R_reads' HO_6.out).2.2 x40_3 p655 q655
       obtain rfl:(⟨go15,0,none⟩:Addr)=ad655:=(by injection e655)
       (simp only [add_plain] at hx655_0)
       replace p655:=eq_true p655
       replace q655:=eq_true q655
       have p32:0<=(x23_2:Int):=oz_
       have q32:(x23_2:Int)<((x6_3.length:Int):Int):=oz_
       obtain ⟨hx32_0,hf32_0⟩:=Kd.R_celln 0 HO_6.out (x23_2:Int) p32 q32
       replace p32:=eq_true p32
       replace q32:=eq_true q32
       have HP35:=Kd.R_putn HO_6.out (x23_2:Int) ji31
       rw [<-Ny656.out] at HP35
       have HQ35:=ak_ HP35
       clear HP35
       refine start_ (n:=16) (S:=fun w'=>w'.cell? ⟨gb649,0,none⟩=some (.int .i64 ((rd_T31 l0 x23_2).f0))/\w'.cell? ⟨gb649,1,none⟩=some (.int .i64 ((rd_T31 l0 x23_2).f1))/\w'.cell? ⟨gb649,2,none⟩=some (.int .i64 ((rd_T31 l0 x23_2).f2))/\w'.cell? ⟨gb649,3,none⟩=some (.int .i64 ((rd_T31 l0 x23_2).f3))/\w'.cell? ⟨go15,(x23_2).toNat,none⟩=some (.int .i64 (rd x6_3 x23_2))/\w'.cell? ⟨go15,(x40_3).toNat,none⟩=some (.int .i64 (rd x6_3 x40_3))) (ds:=[15]) #[false,false,false,false,false,false,false,false,false,false,false,false,false,false,false,false] (by kernel_rfl) rfl rfl ⟨(blk_cell BK649.out 0).trans rfl,(blk_cell BK649.out 1).trans rfl,(blk_cell BK649.out 2).trans rfl,(blk_cell BK649.out 3).trans rfl,hx654_0,hx655_0⟩ (fun hHeld=>?_);refine with_tabW impl_tailsOf.tab13 impl_tailsOf.bits13 (fun HT_ HW_=>?_)
       generalize wr.drew=w34 at HO_5 HO_6 HL652_0 BK649 HR652_0 HB HQ35 hf32_0 hx32_0 hx654_0 hx655_0 hHeld ⊢
       refine pu_ 0 50 ?_
       refine pu_ 1 51 ?_
       refine pu_ 2 52 ?_
       refine pu_ 3 53 ?_
       refine pu_ 4 54 ?_
       refine pu_ 6 56 ?_
       refine pu_ 8 58 ?_
       refine pu_ 9 59 ?_
       refine pu_ 10 60 ?_
       refine tk_ 5 55 hHeld ?_
       refine tk_ 7 57 hHeld ?_
       refine tk_ 11 61 hHeld ?_
       refine pu_ 12 62 ?_
       refine pu_ 13 63 ?_
       refine pu_ 14 64 ?_
       refine last_ (i:=15) (N:=none) #[true,true,true,true,true,true,true,true,true,true,true,true,true,true,true,true] rfl rfl (one_of HT_.out (by kernel_rfl)) (by decide) (fun K hK=>?_)
       refine skip_ (w1:=?_) (by rfl) rfl ?_ ?_
       rotate_left
       ·go_simp
        rfl
       refine hK.out _ _ ?_
       clear hK K
       refine done_ (done_of HT_.out (by kernel_rfl)) ?_
       try go_wp2
       (try simp only [<-hl6_3])
       go_roundg k3
       case measure=>have:=HK1.out;have:=HK2.out;have:=HK3.out;omega
       case rel=>exact ⟨(y656),(wrap64 (x40_3 + 1)),zo,H',⟨zz61⟩,⟨by (with_reducible repeat (apply Kd.S_alloc));exact Kd.S_mono (Kd.S_far (p:=⟨go15,(x23_2:Int).toNat,none⟩) (Kd.S_types HO_5.out (Kd.R_typed HO_6.out _ rfl).choose_spec (by decide)) (fun _ hk=>hk.2) (.int .i64 ji31)) (fun _ hk=>trivial)⟩,⟨by (try simp only [hl6_3]);(with_reducible repeat (apply Kd.R_alloc));exact HQ35.out⟩,⟨by (with_reducible repeat (refine blk_drewN ?_ _));refine blk_far ?_ (by have h_:=Kd.R_ne HO_6.out BK649.out (by decide);intro e_;exact h_ (by rw [e_];rfl)) _;(with_reducible repeat (refine blk_drewN ?_ _));exact BK649.out⟩,⟨by repeat ((with_reducible first|exact HB.out|refine below_set ?_ GB15.out))⟩⟩
def impl_floorDiv.f (a0:Int) (a1:Int):Option (Int):=if a1=0 then (none) else (if (Int.tmod a0 a1)<0 then (some (wrap64 ((wrap64 (Int.tdiv a0 a1)) - 1))) else (some (wrap64 (Int.tdiv a0 a1))))
theorem impl_floorDiv.calls (a0:Int) (a1:Int) (r:Int) (w:World) (h:impl_floorDiv.f a0 a1=some r) :
  Calls Try.prog 106 #[.int .i64 a0,.int .i64 a1] w fun e w'=>e=.returned (.int .i64 r)/\Drawn0 w w':=by
 have H:(if a1=0 then (none) else (if (Int.tmod a0 a1)<0 then (some (wrap64 ((wrap64 (Int.tdiv a0 a1)) - 1))) else (some (wrap64 (Int.tdiv a0 a1)))))=some r:=h
 clear h
 replace H:=gP H;rcases H with ⟨c3,H⟩ | ⟨c3,H⟩
 ·exact absurd H (by simp)
 have c3b0:(a1 == 0)=false:=beq_eq_false_iff_ne.mpr c3
 have c3b1:(a1 != 0)=true:=bne_iff_ne.mpr c3
 replace H:=gPD H;rcases H with ⟨c4b0,H⟩ | ⟨c4b0,H⟩
 ·obtain rfl:=oi_ H
  go_enter Try.func106,Try.ntmps106
  go_wp2
  go_ret
  exact ⟨zz7,zz4⟩
 obtain rfl:=oi_ H
 go_enter Try.func106,Try.ntmps106
 go_wp2
 go_ret
 exact ⟨zz7,zz4⟩
def impl_ceilDiv.f (a0:Int) (a1:Int):Option (Int):=(impl_floorDiv.f (wrap64 (-a0)) a1).bind fun t657=>(some (wrap64 (-t657)))
theorem impl_ceilDiv.calls (a0:Int) (a1:Int) (r:Int) (w:World) (h:impl_ceilDiv.f a0 a1=some r) :
  Calls Try.prog 92 #[.int .i64 a0,.int .i64 a1] w fun e w'=>e=.returned (.int .i64 r)/\Drawn0 w w':=by
 have H:((impl_floorDiv.f (wrap64 (-a0)) a1).bind fun t657=>(some (wrap64 (-t657))))=some r:=h
 clear h
 replace H:=gT H;obtain ⟨t657,A3,H⟩:=H
 obtain rfl:=oi_ H
 go_enter Try.func92,Try.ntmps92
 go_wp2_with (((with_reducible refine gate_callee (f:=106) rfl ?_);refine zgo 8 Try.func106 #[.int .i64 (wrap64 (-a0)),.int .i64 a1] ?_;(with_reducible refine (impl_floorDiv.calls (wrap64 (-a0)) a1 t657 _ A3.out).mono ?_);rintro e w' ⟨rfl,⟨nd,rfl⟩⟩;refine ⟨_,rfl,?_⟩))
 go_ret
 exact ⟨zz7,zz4⟩
def impl_lengthBound.f (k:Nat) (l0:List (S31)) (a1:Int) (l2:List (S51)):Option (Int):=(impl_tailsOf.f k l0 l2).bind fun t658=>((impl_greatestOf.f k t658).bind fun t661=>((impl_totalOf.f k l0).bind fun t662=>((impl_ceilDiv.f t662 a1).bind fun t663=>(some (mx t661 t663)))))
theorem impl_lengthBound.calls (k:Nat) (A0:Option Addr) (c0:Nat) (l0:List (S31)) (a1:Int) (A2:Option Addr) (c2:Nat) (l2:List (S51)) (r:Int) (w:World) (hr0:Kd.C k31 w A0 l0.length l0) (hc0:l0.length<=c0) (hr2:Kd.C k51 w A2 l2.length l2) (hc2:l2.length<=c2) (h:impl_lengthBound.f k l0 a1 l2=some r) :
  Calls Try.prog 49 #[.slice A0 l0.length c0,.int .i64 a1,.slice A2 l2.length c2] w fun e w'=>e=.returned (.int .i64 r)/\Below w.heap.size w w':=by
 have HR0:=ak_ hr0
 have HC0:=ak_ hc0
 clear hr0 hc0
 have HR2:=ak_ hr2
 have HC2:=ak_ hc2
 clear hr2 hc2
 have HB:=ak_ (Below.refl w.heap.size w)
 have H:((impl_tailsOf.f k l0 l2).bind fun t658=>((impl_greatestOf.f k t658).bind fun t661=>((impl_totalOf.f k l0).bind fun t662=>((impl_ceilDiv.f t662 a1).bind fun t663=>(some (mx t661 t663))))))=some r:=h
 clear h
 replace H:=gT H;obtain ⟨t658,A4,H⟩:=H
 replace H:=gT H;obtain ⟨t661,A5,H⟩:=H
 replace H:=gT H;obtain ⟨t662,A6,H⟩:=H
 replace H:=gT H;obtain ⟨t663,A7,H⟩:=H
 obtain ⟨ji8,hji8⟩:∃ j_:Int,(mx t661 t663)=j_:=⟨_,rfl⟩
 replace H:(some ji8)=some r:=by (rw [hji8] at H;exact H)
 have hji8_:(if t661<t663 then t663 else t661)=ji8:=hji8
 obtain rfl:=oi_ H
 go_enter Try.func49,Try.ntmps49
 go_wp2_with (first|((with_reducible refine gate_callee (f:=91) rfl ?_);refine zgo 9 Try.func91 #[.slice A0 l0.length c0,.slice A2 l2.length c2] ?_;(with_reducible refine (impl_tailsOf.calls k _ _ l0 _ _ l2 t658 _ ?side1 ?side2 ?side3 ?side4 A4.out).mono ?_);(case side1=>exact zC HR0.out);(case side2=>exact HC0.out);(case side3=>exact zC HR2.out);(case side4=>exact HC2.out);rintro e w9 ⟨v659,rfl,ho0,hb⟩;refine ⟨_,rfl,?_⟩;have HO660:=ak_ (Kd.R_lower ho0 (below_size zb));replace HB:=zb1 hb;(try clear hb);(try clear ho0);obtain ⟨Ao10,co10,eo10⟩:=Kd.R_slice HO660.out;subst eo10)|((with_reducible refine gate_callee (f:=84) rfl ?_);refine zgo 10 Try.func84 #[.slice Ao10 t658.length co10] ?_;(with_reducible refine (impl_greatestOf.calls k _ _ t658 t661 _ ?side1 ?side2 A5.out).mono ?_);(case side1=>exact zC ((Kd.R_reads' HO660.out).2.2));(case side2=>exact (Kd.R_reads' HO660.out).2.1);rintro e w11 ⟨rfl,hb⟩;refine ⟨_,rfl,?_⟩;replace HO660:=zRb HO660 hb;replace HB:=zb1 hb;(try clear hb))|((with_reducible refine gate_callee (f:=58) rfl ?_);refine zgo 12 Try.func58 #[.slice A0 l0.length c0] ?_;(with_reducible refine (impl_totalOf.calls k _ _ l0 t662 _ ?side1 ?side2 A6.out).mono ?_);(case side1=>exact zC (Kd.C_below HR0.out HB.out));(case side2=>exact HC0.out);rintro e w12 ⟨rfl,hb⟩;refine ⟨_,rfl,?_⟩;replace HO660:=zRb HO660 hb;replace HB:=zb1 hb;(try clear hb))|((with_reducible refine gate_callee (f:=92) rfl ?_);refine zgo 14 Try.func92 #[.int .i64 t662,.int .i64 a1] ?_;(with_reducible refine (impl_ceilDiv.calls t662 a1 t663 _ A7.out).mono ?_);rintro e w' ⟨rfl,⟨nd,rfl⟩⟩;refine ⟨_,rfl,?_⟩))
 go_ret
 exact ⟨by rfl,zb⟩
