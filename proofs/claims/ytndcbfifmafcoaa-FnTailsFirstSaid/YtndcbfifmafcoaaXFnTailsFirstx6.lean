import Derived.Test.YtndcbfifmafcoaaXFnTailsFirstx0
namespace Go.Proofs.Ytndcbfifmafcoaa.XFnTailsFirst
open Go.RowKit Go.Proofs.YtndcbfifmafcoaaW.PrintWords Go.Proofs.YtndcbfifmafcoaaW.PrintLast Go.Proofs.YtndcbfifmafcoaaW.PrintMore
set_option linter.unusedVariables false
set_option linter.unusedSimpArgs false
mutual
def impl_closure.l0:Nat->Int->List (S42)->List (List Bool)->Int->Int->Option ((List (List Bool)))
 | 0,_,_,_,_,_=>none
 | k + 1,x0,x1,x5,x15,x16=>if x16<x15 then (if 0<=x0 then (if (x0:Int).toNat<=281474976710656 then (if 0<=x16 then (if x16<(x5.length:Int) then (impl_closure.l0 k x0 x1 (x5.set (x16:Int).toNat (List.replicate (x0:Int).toNat false)) x15 (wrap64 (x16 + 1))) else (none)) else (none)) else (none)) else (none)) else (impl_closure.l1 k x0 x5 x1 (x1.length:Int) 0)
def impl_closure.l1:Nat->Int->List (List Bool)->List (S42)->Int->Int->Option ((List (List Bool)))
 | 0,_,_,_,_,_=>none
 | k + 1,x0,x5,x25,x26,x27=>if x27<x26 then (if 0<=x27 then (if x27<(x25.length:Int) then (if 0<=((rd_T42 x25 x27).f0) then (if ((rd_T42 x25 x27).f0)<(x5.length:Int) then (if 0<=((rd_T42 x25 x27).f1) then (if ((rd_T42 x25 x27).f1)<((rd_L5 x5 ((rd_T42 x25 x27).f0)).length:Int) then (impl_closure.l1 k x0 (x5.set (((rd_T42 x25 x27).f0):Int).toNat ((rd_L5 x5 ((rd_T42 x25 x27).f0)).set (((rd_T42 x25 x27).f1):Int).toNat true)) x25 x26 (wrap64 (x27 + 1))) else (none)) else (none)) else (none)) else (none)) else (none)) else (none)) else (impl_closure.l2 k x0 x5 0)
def impl_closure.l2:Nat->Int->List (List Bool)->Int->Option ((List (List Bool)))
 | 0,_,_,_=>none
 | k + 1,x0,x5,x9=>if x9<x0 then (impl_closure.l3 k x0 x5 x9 0) else (some x5)
def impl_closure.l3:Nat->Int->List (List Bool)->Int->Int->Option ((List (List Bool)))
 | 0,_,_,_,_=>none
 | k + 1,x0,x5,x9,x10=>if x10<x0 then (impl_closure.l4 k x0 x5 x9 x10 0) else (impl_closure.l2 k x0 x5 (wrap64 (x9 + 1)))
def impl_closure.l4:Nat->Int->List (List Bool)->Int->Int->Int->Option ((List (List Bool)))
 | 0,_,_,_,_,_=>none
 | k + 1,x0,x5,x9,x10,x11=>if x11<x0 then (if 0<=x10 then (if x10<(x5.length:Int) then (if 0<=x11 then (if x11<((rd_L5 x5 x10).length:Int) then (if rdOf false (rd_L5 x5 x10) x11=true then (impl_closure.l4 k x0 (x5.set (x10:Int).toNat ((rd_L5 x5 x10).set (x11:Int).toNat true)) x9 x10 (wrap64 (x11 + 1))) else (if 0<=x9 then (if x9<((rd_L5 x5 x10).length:Int) then (if rdOf false (rd_L5 x5 x10) x9=true then (if x9<(x5.length:Int) then (if x11<((rd_L5 x5 x9).length:Int) then (impl_closure.l4 k x0 (x5.set (x10:Int).toNat ((rd_L5 x5 x10).set (x11:Int).toNat (rdOf false (rd_L5 x5 x9) x11))) x9 x10 (wrap64 (x11 + 1))) else (none)) else (none)) else (impl_closure.l4 k x0 (x5.set (x10:Int).toNat ((rd_L5 x5 x10).set (x11:Int).toNat false)) x9 x10 (wrap64 (x11 + 1)))) else (none)) else (none))) else (none)) else (none)) else (none)) else (none)) else (impl_closure.l3 k x0 x5 x9 (wrap64 (x10 + 1)))
end
def impl_closure.f (k:Nat) (a0:Int) (l1:List (S42)):Option ((List (List Bool))):=if 0<=a0 then (if (a0:Int).toNat<=11728124029610 then ((some (List.replicate (a0:Int).toNat []:List (List Bool))).bind fun y351=>(impl_closure.l0 k a0 l1 y351 (y351.length:Int) 0)) else (none)) else (none)
def impl_closure.T10:Bool × List (List Nat × List Nat):=(true,[([],[]),([],[]),([1],[1]),([0,2],[0,2]),([3],[3]),([],[]),([5],[5]),([4,6,0,1,2,3,4,5,6],[4,6]),([7,0,1,2,3,4,5,6],[7])])
def impl_closure.B10:List Nat:=[0,0,2,7,15,0,32,127,255]
theorem impl_closure.tab10:rtab .any (opsOf Try.f48 10)=impl_closure.T10:=by kernel_rfl
theorem impl_closure.bits10:waitsOk impl_closure.T10.2 impl_closure.B10=true:=by kernel_rfl
def impl_closure.T21:Bool × List (List Nat × List Nat):=(true,[([],[]),([],[]),([0,1],[0,1]),([2],[2]),([],[]),([],[]),([],[]),([5,6],[5,6]),([7],[7]),([],[]),([8,9],[8,9]),([10],[10]),([11],[11]),([12],[12]),([12],[12]),([13,14,12],[12,13,14]),([15,12],[12,15]),([12],[12]),([16,17,12],[12,16,17]),([18,12],[12,18]),([19,12,12],[12,19]),([20],[20]),([20],[20]),([21,22,20],[20,21,22]),([23,20],[20,23]),([20],[20]),([24,25,20],[20,24,25]),([26,20],[20,26]),([20,27,12],[12,20,27]),([12,28],[12,28]),([3,4,0,1,2,3,4,5,6,7,8,9,10,11,12,13,14,15,16,17,18,19,20,21,22,23,24,25,26,27,28,29],[3,4]),([30,29,20,0,1,2,3,4,5,6,7,8,9,10,11,12,13,14,15,16,17,18,19,20,21,22,23,24,25,26,27,28,29],[29,30])])
def impl_closure.B21:List Nat:=[0,0,3,7,0,0,0,96,224,0,992,2016,4064,8160,8160,32736,65504,8160,262112,524256,1048544,2097120,2097120,8388576,16777184,2097120,67108832,134217696,268435424,536870880,1073741823,2147483647]
theorem impl_closure.tab21:rtab .any (opsOf Try.f48 21)=impl_closure.T21:=by kernel_rfl
theorem impl_closure.bits21:waitsOk impl_closure.T21.2 impl_closure.B21=true:=by kernel_rfl
set_option maxHeartbeats 8000000 in
set_option maxRecDepth 100000 in
theorem impl_closure.calls (k:Nat) (a0:Int) (A1:Option Addr) (c1:Nat) (l1:List (S42)) (r:List (List Bool)) (w:World) (hr1:Kd.C k42 w A1 l1.length l1) (hc1:l1.length<=c1) (h:impl_closure.f k a0 l1=some r) :
  Calls Try.prog 48 #[.int .i64 a0,.slice A1 l1.length c1] w fun e w'=>∃ v0_:Value,e=.returned (v0_)/\Kd.S (Kd.slice 4 Kd.bool) 80 w' w.heap.size (fun _=>True) v0_ r/\Below w.heap.size w w':=by
 have hu42:=Try.underlying42;have HR1:=ak_ hr1;have HC1:=ak_ hc1;clear hr1 hc1;have HB:=ak_ (Below.refl w.heap.size w);have H:(if 0<=a0 then (if (a0:Int).toNat<=11728124029610 then ((some (List.replicate (a0:Int).toNat []:List (List Bool))).bind fun y351=>(impl_closure.l0 k a0 l1 y351 (y351.length:Int) 0)) else (none)) else (none))=some r:=h;clear h;replace H:=gE H;obtain ⟨c3b0,c3b1,H⟩:=H;replace H:=gE H;obtain ⟨c4b0,c4b1,H⟩:=H;replace H:=gY H;obtain ⟨y351,Ny351,H⟩:=H;have H':=ak_ H;clear H
 go_enter Try.func48,Try.ntmps48
 go_wp2_with (((with_reducible refine gate_dst (N:=13) rfl ?_);refine Kd.S_make (Kd.slice 4 Kd.bool) _ 80 rfl (N:=13) rfl 75 _ _ rfl a0 rfl rfl Try.underlying75 (.slice none 0 0) 24 info80 rfl (by decide) (by omega) [] (ok:=fun _=>True) (okp:=fun _=>True) ⟨_,rfl,Kd.R_nil _ _ _ _ _⟩ (fun _ hk=>hk) trivial (oz_) (Nat.le_trans (Nat.mul_le_mul_right _ (oz_:a0.toNat<=11728124029610)) (by omega)) (Below.refl _ _) (Nat.le_refl _) ?_;intro v352 w5 ho6 hb hg_ hnew_;clear hg_ hnew_;(rw [<-Ny351.out] at ho6);have HO353:=ak_ (Kd.S_lower ho6 (below_size zb));replace HB:=zb1 hb;clear hb ho6;obtain ⟨Ao7,co7,eo7⟩:=Kd.S_slice HO353.out;subst eo7))
 go_loopg [16] k (fun kq v16 w'=>∃ (x5_1:List (List Bool)) (x16_1:Int),v16=.int .i64 x16_1/\Aside0 (impl_closure.l0 kq a0 l1 x5_1 (y351.length:Int) x16_1=some r)/\Aside0 (kq<=k)/\Aside0 (Kd.S (Kd.slice 4 Kd.bool) 80 w' w.heap.size (fun _=>True) (.slice Ao7 y351.length co7) x5_1)/\Aside0 (Below w.heap.size w w'))
 case atStart=>exact ⟨(y351),(0),zo,H',⟨Nat.le_refl _⟩,⟨zS HO353.out⟩,⟨zb⟩⟩
 case round=>
  clear H';obtain ⟨x5_1,x16_1,rfl,HA,HK1,HO_5,HB⟩:=hrel;have hl5_1:=(Kd.S_reads' HO_5.out).1;rw [hl5_1] at HO_5
  (try simp only [hl5_1])
  cases gk with
  | zero=>exact absurd HA.out (by simp [impl_closure.l0])
  | succ k1=>
   have H:=HA.out;clear HA;simp only [impl_closure.l0] at H;replace H:=gP H;rcases H with ⟨c8,H⟩ | ⟨c8,H⟩
   ·have c8b0:=decide_eq_true c8
    try have c8b0z:=c8b0
    try rw [hl5_1] at c8b0z
    clear c8;replace H:=gE H;obtain ⟨c9b0,c9b1,H⟩:=H;replace H:=gE H;obtain ⟨c10b0,c10b1,H⟩:=H;generalize hy354:(List.replicate (a0:Int).toNat false:List Bool)=y354 at H;have Ny354:=ak_ hy354.symm;clear hy354;replace H:=gD H;obtain ⟨c11b0,H⟩:=H;replace H:=gD H;obtain ⟨c12b0,H⟩:=H;generalize hy357:(x5_1.set (x16_1:Int).toNat y354:List (List Bool))=y357 at H;have Ny357:=ak_ hy357.symm;clear hy357;have H':=ak_ H;clear H
    go_wp2_with (first|((with_reducible refine gate_dst (N:=22) rfl ?_);refine Kd.R_make Kd.bool _ 4 rfl (N:=22) rfl 80 _ _ rfl a0 rfl rfl Try.underlying80 (.bool false) 1 info4 rfl (by decide) (by omega) false (ok:=fun _=>True) (okp:=fun _=>True) rfl (fun _ hk=>hk) trivial (oz_) (Nat.le_trans (Nat.mul_le_mul_right _ (oz_:a0.toNat<=281474976710656)) (by omega)) (Below.refl _ _) (Nat.le_refl _) ?_;intro v355 w14 ho15 hb hg_ hnew_;clear hg_ hnew_;(rw [<-Ny354.out] at ho15);replace HO_5:=ak_ (Kd.S_elder' (zS HO_5.out) (Kd.R_base ho15) hb);have HO356:=ak_ (Kd.R_lower ho15 (below_size zb));replace HB:=zb1 hb;clear hb ho15;have p13:0<=(x16_1:Int):=oz_;have q13:(x16_1:Int)<((x5_1.length:Int):Int):=oz_;obtain ⟨go13,co13,eo13,gb13,gl13,cl13,HG13⟩:=Kd.S_form HO_5.out (by omega);(cases eo13);have GB13:=ak_ gb13;have GG13:=ak_ HG13;clear gb13 gl13 HG13;obtain ⟨_,ce13,hcl13,hM13,hcc13,hfr13,_,_⟩:=Kd.S_elem HO_5.out [] (x16_1:Int) p13 q13;obtain ⟨ve13_0,rfl,ge13_0⟩:=hM13;have hx13_0:=hcc13 0 _ rfl;have hf13_0:=hfr13 0;(try simp only [show ((Kd.slice 4 Kd.bool)).sz=1 from rfl,Nat.mul_one,Nat.add_zero] at hx13_0);(try simp only [show ((Kd.slice 4 Kd.bool)).sz=1 from rfl,Nat.mul_one,Nat.add_zero] at hf13_0);(clear hcl13 hcc13 hfr13);replace p13:=eq_true p13;replace q13:=eq_true q13;have n_:=ak_ (Kd.S_mono (ok':=(fun k_=>some k_≠(v355:Value).ownBlock)) HO_5.out (fun k_ hk=>hk.2));clear HO_5;have HO_5:=n_;clear n_;have HX16:=ak_ (show Kd.S (Kd.slice 4 Kd.bool) 80 w14 w.heap.size (fun k_=>((fun _=>True)) k_/\¬ ((fun k_=>some k_=(v355:Value).ownBlock)) k_) (.slice (some ⟨go13,0,none⟩) x5_1.length co7) x5_1 from (zS (Kd.S_mono HO_5.out (fun k_ hk=>⟨trivial,fun e_=>hk e_⟩))));obtain ⟨oki16,ce16,hcl16,hM16,hcc16,hfr16,hoki16,hH16⟩:=Kd.S_elem HX16.out [] (x16_1:Int) (oz_) (by have h_:(x16_1:Int)<((x5_1.length:Int):Int):=oz_;exact h_);obtain ⟨ve16_0,rfl,ge16_0⟩:=hM16;have HP16:=Kd.S_seg hH16 (oz_) (by have h_:(x16_1:Int)<((x5_1.length:Int):Int):=oz_;exact h_) (seg:=[v355]) (j:=0) (show 1<=1 from by decide) (x':=y354) (Kd.M_row (Kd.R_mono (Kd.R_tight rfl (Kd.R_mono (ok':=fun k_=>((fun _=>True)) k_/\k_≠go13) (Kd.R_apart' (HO356.out) (Kd.S_typed HO_5.out) (by decide)) (fun k_ hk=>⟨trivial,fun e_=>(hk.2) (by rw [e_];rfl)⟩))) (fun _ h_=>Or.inr (h_)))) (fun _ hk=>hk) (fun k_ hk_=>((Kd.R_mono (ok':=fun k_=>((fun _=>True)) k_/\k_≠go13) (Kd.R_apart' (HO356.out) (Kd.S_typed HO_5.out) (by decide)) (fun k_ hk=>⟨trivial,fun e_=>(hk.2) (by rw [e_];rfl)⟩))).1 k_ hk_.symm);have hx16_0:=hcc16 0 _ rfl;(try simp only [show ((Kd.slice 4 Kd.bool)).sz=1 from rfl,Nat.mul_one,Nat.add_zero] at hx16_0);have hf16_0:=hfr16 0;(try simp only [show ((Kd.slice 4 Kd.bool)).sz=1 from rfl,Nat.mul_one,Nat.add_zero] at hf16_0);(clear hcl16 hcc16 hfr16;clear hoki16 hH16);(try simp only [show ((Kd.slice 4 Kd.bool)).sz=1 from rfl,Nat.mul_one,Nat.add_zero] at HP16))|((with_reducible refine gate_store (t:=80) (p:=23) rfl ?_);refine store_event (t:=80) (p:=23) (v:=?vo_w17) (w1:=(w14.setCell ⟨go13,(x16_1:Int).toNat,none⟩ (v355))) ?hg ?ho ?hn ?hr ?_;(case ho=>rfl);(case hg=>rfl);(case hn=>rfl);(case hr=>(obtain ⟨Ag_,cg_,eg_⟩:=Kd.R_slice HO356.out;subst eg_;(go_simp;done)));intro w17 hw;have hg:w14.grownBy w17 (some go13):=(by rw [hw];exact HP16.2);have hp_:Kd.S (Kd.slice 4 Kd.bool) 80 w17 w.heap.size (fun _=>True) (.slice (some ⟨go13,0,none⟩) x5_1.length co7) y357:=(by rw [hw,Ny357.out];exact HP16.1);clear HP16;replace HO_5:=ak_ (hp_);replace HB:=ak_ ((by rw [hw];exact below_set (HB.out) GB13.out:Below w.heap.size w w17));clear HO356;clear hg hw hp_))
    (try simp only [<-hl5_1])
    go_roundg k1
    case measure=>have:=HK1.out;omega
    case rel=>exact ⟨(y357),(wrap64 (x16_1 + 1)),zo,H',⟨by have:=HK1.out;omega⟩,⟨by (try simp only [hl5_1]);(with_reducible repeat (apply Kd.S_alloc));exact HO_5.out⟩,⟨zb⟩⟩
   have c8b0:=decide_eq_false c8
   try have c8b0z:=c8b0
   try rw [hl5_1] at c8b0z
   clear c8;have H':=ak_ H;clear H
   go_wp2
   go_loopg [27] k1 (fun kq v27 w'=>∃ (x5_2:List (List Bool)) (x27_2:Int),v27=.int .i64 x27_2/\Aside0 (impl_closure.l1 kq a0 x5_2 l1 (l1.length:Int) x27_2=some r)/\Aside0 (kq<=k1)/\Aside0 (Kd.S (Kd.slice 4 Kd.bool) 80 w' w.heap.size (fun _=>True) (.slice Ao7 x5_1.length co7) x5_2)/\Aside0 (Below w.heap.size w w'))
   case atStart=>exact ⟨(x5_1),(0),zo,H',⟨Nat.le_refl _⟩,⟨by (with_reducible repeat (apply Kd.S_alloc));exact HO_5.out⟩,⟨zb⟩⟩
   case round=>
    clear H';obtain ⟨x5_2,x27_2,rfl,HA,HK2,HO_5,HB⟩:=hrel;have hl5_2:=(Kd.S_reads' HO_5.out).1;rw [hl5_2] at HO_5
    (try simp only [hl5_2])
    cases gk with
    | zero=>exact absurd HA.out (by simp [impl_closure.l1])
    | succ k2=>
     have H:=HA.out;clear HA;simp only [impl_closure.l1] at H;replace H:=gPD H;rcases H with ⟨c18b0,H⟩ | ⟨c18b0,H⟩
     ·replace H:=gD H;obtain ⟨c19b0,H⟩:=H;replace H:=gD H;obtain ⟨c20b0,H⟩:=H;replace H:=gD H;obtain ⟨c21b0,H⟩:=H;replace H:=gD H;obtain ⟨c22b0,H⟩:=H;replace H:=gD H;obtain ⟨c23b0,H⟩:=H;replace H:=gD H;obtain ⟨c24b0,H⟩:=H;generalize hy361:((rd_L5 x5_2 ((rd_T42 l1 x27_2).f0)).set (((rd_T42 l1 x27_2).f1):Int).toNat true:List Bool)=y361 at H;have Ny361:=ak_ hy361.symm;clear hy361;generalize hy363:(x5_2.set (((rd_T42 l1 x27_2).f0):Int).toNat y361:List (List Bool))=y363 at H;have Ny363:=ak_ hy363.symm;clear hy363;have H':=ak_ H;clear H;obtain ⟨p358,q358,ad358,e358,hx358_0,hx358_1⟩:=ab_ (at_T42 (Kd.C_below HR1.out HB.out) x27_2);cases e358
      try go_wp2_with (((with_reducible refine gate_dst (N:=8) rfl ?_);refine bxe_ (N:=8) (cs:=#[.int .i64 0,.int .i64 0]) (t:=42) ?_;intro gb359 hg w26 hbox hb;replace HO_5:=zSb HO_5 hb;have BK359:=ak_ (hbox);have GW359:=gw_ w hg;have GE359:=gw_ w hg;replace HB:=zb1 hb;clear hb hbox hg;obtain ⟨hcz27_0,hcz27_1,hfz27_0,hfz27_1⟩:=zk2 BK359.out))
      have n0_:Aside0 (Kd.S (Kd.slice 4 Kd.bool) 80 ((w26.setCell ⟨gb359,0,none⟩ (.int .i64 ((rd_T42 l1 x27_2).f0))).setCell ⟨gb359,1,none⟩ (.int .i64 ((rd_T42 l1 x27_2).f1))) w.heap.size (fun _=>True) (.slice Ao7 x5_2.length co7) x5_2):=⟨by (with_reducible repeat (apply Kd.S_alloc));exact Kd.S_mono (Kd.S_far (p:=⟨gb359,1,none⟩) (Kd.S_far (p:=⟨gb359,0,none⟩) (Kd.S_types HO_5.out BK359.out (by decide)) (fun _ hk=>hk.2) (.int .i64 ((rd_T42 l1 x27_2).f0))) (fun _ hk=>hk.2) (.int .i64 ((rd_T42 l1 x27_2).f1))) (fun _ hk=>trivial)⟩;have n1_:Aside0 (((w26.setCell ⟨gb359,0,none⟩ (.int .i64 ((rd_T42 l1 x27_2).f0))).setCell ⟨gb359,1,none⟩ (.int .i64 ((rd_T42 l1 x27_2).f1))).heap[gb359]?=some (.cells #[.int .i64 ((rd_T42 l1 x27_2).f0),.int .i64 ((rd_T42 l1 x27_2).f1)] 42 (0,0))):=⟨by (with_reducible repeat (refine blk_drewN ?_ _));refine blk_put (cs:=#[.int .i64 ((rd_T42 l1 x27_2).f0),.int .i64 0]) ?_ 1 _ rfl;(with_reducible repeat (refine blk_drewN ?_ _));refine blk_put (cs:=#[.int .i64 0,.int .i64 0]) ?_ 0 _ rfl;(with_reducible repeat (refine blk_drewN ?_ _));exact BK359.out⟩;have n2_:Aside0 (Below w.heap.size w ((w26.setCell ⟨gb359,0,none⟩ (.int .i64 ((rd_T42 l1 x27_2).f0))).setCell ⟨gb359,1,none⟩ (.int .i64 ((rd_T42 l1 x27_2).f1)))):=⟨by repeat ((with_reducible first|exact HB.out|refine below_set ?_ GE359.out))⟩;generalize ((w26.setCell ⟨gb359,0,none⟩ (.int .i64 ((rd_T42 l1 x27_2).f0))).setCell ⟨gb359,1,none⟩ (.int .i64 ((rd_T42 l1 x27_2).f1)))=w28 at n0_ n1_ n2_ ⊢;have HO_5:=n0_;have BK359:=n1_;have HB:=n2_;clear n0_ n1_ n2_;replace HO_5:=ak_ (Kd.S_drew HO_5.out);replace BK359:=ak_ (blk_drew BK359.out);replace HB:=ak_ (below_drew1 HB.out);obtain ⟨p360,q360,ad360,A360_0,c360_0,e360,hx360_0,hl360_0,hi360_0⟩:=ab_ (at_L5 (Kd.S_reads' HO_5.out).2.2 ((rd_T42 l1 x27_2).f0));cases e360;obtain ⟨ce360,hce360,hMe360,hcc360⟩:=Kd.S_get HO_5.out [] ((rd_T42 l1 x27_2).f0) (of_eq_true p360) (of_eq_true q360);obtain ⟨ve360_0,rfl,ge360_0⟩:=hMe360;have hv360_0:=hcc360 0 _ rfl;rw [Nat.add_zero,show ((Kd.slice 4 Kd.bool)).sz=1 from rfl,Nat.mul_one] at hv360_0;replace hv360_0:=oi_ (hv360_0.symm.trans hx360_0);rw [hv360_0] at ge360_0;have HL360_0:=ak_ (show Kd.R Kd.bool 4 _ _ _ _ (rd_L5 x5_2 ((rd_T42 l1 x27_2).f0)) from ge360_0);clear hv360_0 ge360_0;have HX360_0:=ak_ hx360_0;clear hcc360 hce360;have HR360_0:=ak_ hi360_0;have HC360_0:=ak_ hl360_0;clear hi360_0 hl360_0;have p25:0<=(((rd_T42 l1 x27_2).f1):Int):=oz_;have q25:(((rd_T42 l1 x27_2).f1):Int)<(((rd_L5 x5_2 ((rd_T42 l1 x27_2).f0)).length:Int):Int):=oz_;obtain ⟨go25,co25,eo25,gb25,gl25,cl25,HG25⟩:=Kd.R_form HL360_0.out (by omega)
      (cases eo25)
      have GB25:=ak_ gb25;have GG25:=ak_ HG25;clear gb25 gl25 HG25;obtain ⟨hx25_0,hf25_0⟩:=Kd.R_celln false HL360_0.out (((rd_T42 l1 x27_2).f1):Int) p25 q25;replace p25:=eq_true p25;replace q25:=eq_true q25;have hq30:(((rd_T42 l1 x27_2).f0):Int)<(x5_2.length:Int):=(by have h_:(((rd_T42 l1 x27_2).f0):Int)<((x5_2.length:Int):Int):=oz_;exact h_);obtain ⟨oki30,ce30,hcl30,hM30,hcc30,hok30,hbk30⟩:=Kd.S_borrow HO_5.out [] (((rd_T42 l1 x27_2).f0):Int) (oz_) hq30;obtain ⟨ve30_0,rfl,ge30_0⟩:=hM30;have hv30:=hcc30 0 _ rfl;rw [Nat.add_zero,show ((Kd.slice 4 Kd.bool)).sz=1 from rfl,Nat.mul_one] at hv30;replace hv30:=oi_ (hv30.symm.trans HX360_0.out);subst hv30;clear hcc30 hcl30;replace ge30_0:=(show Kd.R Kd.bool 4 _ _ _ _ (rd_L5 x5_2 ((rd_T42 l1 x27_2).f0)) from ge30_0);have HP30:=Kd.R_putg ge30_0 (((rd_T42 l1 x27_2).f1):Int) true;rw [<-Ny361.out] at HP30;have HS30:=hbk30 HP30.2 (fun k_ e_=>by injection e_ with e_;subst e_;exact ge30_0.1 _ rfl) (x':=y361) (Kd.M_row HP30.1)
      rw [<-Ny363.out] at HS30;have HQ30:=ak_ HS30;clear HP30 HS30 hbk30 hok30;refine start_ (n:=9) (S:=fun w'=>w'.cell? ⟨gb359,0,none⟩=some (.int .i64 ((rd_T42 l1 x27_2).f0))/\w'.cell? ⟨gb359,1,none⟩=some (.int .i64 ((rd_T42 l1 x27_2).f1))/\w'.cell? (ad360.add (((rd_T42 l1 x27_2).f0)).toNat)=some (.slice (some ⟨go25,0,none⟩) (rd_L5 x5_2 ((rd_T42 l1 x27_2).f0)).length c360_0)) (ds:=[8]) #[false,false,false,false,false,false,false,false,false] (by kernel_rfl) rfl rfl ⟨(blk_cell BK359.out 0).trans rfl,(blk_cell BK359.out 1).trans rfl,hx360_0⟩ (fun hHeld=>?_);refine with_tabW impl_closure.tab10 impl_closure.bits10 (fun HT_ HW_=>?_);generalize w28.drew=w29 at HO_5 BK359 HB GG25 HL360_0 HQ30 HR360_0 HX360_0 hf25_0 hx25_0 hx360_0 hHeld ⊢;refine pu_ 0 31 ?_;refine pu_ 1 32 ?_;refine pu_ 5 36 ?_;refine tk_ 2 33 hHeld ?_;refine pu_ 3 34 ?_;refine tk_ 4 35 hHeld ?_;refine tk_ 6 37 hHeld ?_;refine pu_ 7 38 ?_;refine last_ (i:=8) (N:=none) #[true,true,true,true,true,true,true,true,true] rfl rfl (one_of HT_.out (by kernel_rfl)) (by decide) (fun K hK=>?_);refine skip_ (w1:=?_) (by rfl) rfl ?_ ?_;rotate_left
      ·go_simp
       rfl
      refine hK.out _ _ ?_;clear hK K;refine done_ (done_of HT_.out (by kernel_rfl)) ?_
      try go_wp2
      (try simp only [<-hl5_2])
      go_roundg k2
      case measure=>have:=HK1.out;have:=HK2.out;omega
      case rel=>exact ⟨(y363),(wrap64 (x27_2 + 1)),zo,H',⟨zz5⟩,⟨by (try simp only [hl5_2]);(with_reducible repeat (apply Kd.S_alloc));exact HQ30.out⟩,⟨by repeat ((with_reducible first|exact HB.out|refine below_set ?_ GB25.out))⟩⟩
     have H':=ak_ H;clear H
     go_wp2
     go_loopg [9] k2 (fun kq v9 w'=>∃ (x5_3:List (List Bool)) (x9_3:Int),v9=.int .i64 x9_3/\Aside0 (impl_closure.l2 kq a0 x5_3 x9_3=some r)/\Aside0 (kq<=k2)/\Aside0 (Kd.S (Kd.slice 4 Kd.bool) 80 w' w.heap.size (fun _=>True) (.slice Ao7 x5_2.length co7) x5_3)/\Aside0 (Below w.heap.size w w'))
     case atStart=>exact ⟨(x5_2),(0),zo,H',⟨Nat.le_refl _⟩,⟨by (with_reducible repeat (apply Kd.S_alloc));exact HO_5.out⟩,⟨zb⟩⟩
     case round=>
      clear H';obtain ⟨x5_3,x9_3,rfl,HA,HK3,HO_5,HB⟩:=hrel;have hl5_3:=(Kd.S_reads' HO_5.out).1;rw [hl5_3] at HO_5
      (try simp only [hl5_3])
      cases gk with
      | zero=>exact absurd HA.out (by simp [impl_closure.l2])
      | succ k3=>
       have H:=HA.out;clear HA;simp only [impl_closure.l2] at H;replace H:=gND H;rcases H with ⟨c32b0,H⟩ | ⟨c32b0,H⟩
       ·obtain rfl:=oi_ H
        go_wp2
        go_ret
        exact ⟨_,zz3,zS HO_5.out,zb⟩
       have H':=ak_ H;clear H
       go_wp2
       go_loopg [10] k3 (fun kq v10 w'=>∃ (x5_4:List (List Bool)) (x10_4:Int),v10=.int .i64 x10_4/\Aside0 (impl_closure.l3 kq a0 x5_4 x9_3 x10_4=some r)/\Aside0 (kq<=k3)/\Aside0 (Kd.S (Kd.slice 4 Kd.bool) 80 w' w.heap.size (fun _=>True) (.slice Ao7 x5_3.length co7) x5_4)/\Aside0 (Below w.heap.size w w'))
       case atStart=>exact ⟨(x5_3),(0),zo,H',⟨Nat.le_refl _⟩,⟨by (with_reducible repeat (apply Kd.S_alloc));exact HO_5.out⟩,⟨zb⟩⟩
       case round=>
        clear H';obtain ⟨x5_4,x10_4,rfl,HA,HK4,HO_5,HB⟩:=hrel;have hl5_4:=(Kd.S_reads' HO_5.out).1;rw [hl5_4] at HO_5
        (try simp only [hl5_4])
        cases gk with
        | zero=>exact absurd HA.out (by simp [impl_closure.l3])
        | succ k4=>
         have H:=HA.out;clear HA;simp only [impl_closure.l3] at H;replace H:=gND H;rcases H with ⟨c33b0,H⟩ | ⟨c33b0,H⟩
         ·have H':=ak_ H;clear H
          go_wp2
          (try simp only [<-hl5_3,<-hl5_4])
          go_roundg k4
          case measure=>have:=HK1.out;have:=HK2.out;have:=HK3.out;have:=HK4.out;omega
          case rel=>exact ⟨(x5_4),(wrap64 (x9_3 + 1)),zo,H',⟨zz41⟩,⟨by (try simp only [hl5_3]);(try simp only [hl5_4]);(with_reducible repeat (apply Kd.S_alloc));exact HO_5.out⟩,⟨zb⟩⟩
         have H':=ak_ H;clear H
         go_wp2
         go_loopg [11] k4 (fun kq v11 w'=>∃ (x5_5:List (List Bool)) (x11_5:Int),v11=.int .i64 x11_5/\Aside0 (impl_closure.l4 kq a0 x5_5 x9_3 x10_4 x11_5=some r)/\Aside0 (kq<=k4)/\Aside0 (Kd.S (Kd.slice 4 Kd.bool) 80 w' w.heap.size (fun _=>True) (.slice Ao7 x5_4.length co7) x5_5)/\Aside0 (Below w.heap.size w w'))
         case atStart=>exact ⟨(x5_4),(0),zo,H',⟨Nat.le_refl _⟩,⟨by (with_reducible repeat (apply Kd.S_alloc));exact HO_5.out⟩,⟨zb⟩⟩
         case round=>
          clear H';obtain ⟨x5_5,x11_5,rfl,HA,HK5,HO_5,HB⟩:=hrel;have hl5_5:=(Kd.S_reads' HO_5.out).1;rw [hl5_5] at HO_5
          (try simp only [hl5_5])
          cases gk with
          | zero=>exact absurd HA.out (by simp [impl_closure.l4])
          | succ k5=>
           have H:=HA.out;clear HA;simp only [impl_closure.l4] at H;replace H:=gND H;rcases H with ⟨c34b0,H⟩ | ⟨c34b0,H⟩
           ·have H':=ak_ H;clear H
            go_wp2
            (try simp only [<-hl5_4,<-hl5_5])
            go_roundg k5
            case measure=>have:=HK1.out;have:=HK2.out;have:=HK3.out;have:=HK4.out;have:=HK5.out;omega
            case rel=>exact ⟨(x5_5),(wrap64 (x10_4 + 1)),zo,H',⟨zz42⟩,⟨by (try simp only [hl5_4]);(try simp only [hl5_5]);(with_reducible repeat (apply Kd.S_alloc));exact HO_5.out⟩,⟨zb⟩⟩
           replace H:=gD H;obtain ⟨c35b0,H⟩:=H;replace H:=gD H;obtain ⟨c36b0,H⟩:=H;replace H:=gD H;obtain ⟨c37b0,H⟩:=H;replace H:=gD H;obtain ⟨c38b0,H⟩:=H;obtain ⟨bq39,hbq39⟩:∃ b_:Bool,b_=(rdOf false (rd_L5 x5_5 x10_4) x11_5):=⟨_,rfl⟩;replace H:(if bq39=true then (impl_closure.l4 k5 a0 (x5_5.set (x10_4:Int).toNat ((rd_L5 x5_5 x10_4).set (x11_5:Int).toNat true)) x9_3 x10_4 (wrap64 (x11_5 + 1))) else (if 0<=x9_3 then (if x9_3<((rd_L5 x5_5 x10_4).length:Int) then (if rdOf false (rd_L5 x5_5 x10_4) x9_3=true then (if x9_3<(x5_5.length:Int) then (if x11_5<((rd_L5 x5_5 x9_3).length:Int) then (impl_closure.l4 k5 a0 (x5_5.set (x10_4:Int).toNat ((rd_L5 x5_5 x10_4).set (x11_5:Int).toNat (rdOf false (rd_L5 x5_5 x9_3) x11_5))) x9_3 x10_4 (wrap64 (x11_5 + 1))) else (none)) else (none)) else (impl_closure.l4 k5 a0 (x5_5.set (x10_4:Int).toNat ((rd_L5 x5_5 x10_4).set (x11_5:Int).toNat false)) x9_3 x10_4 (wrap64 (x11_5 + 1)))) else (none)) else (none)))=some r:=by rw [<-hbq39] at H;exact H
           have Nbq39:=ak_ hbq39;clear hbq39;replace H:=gPB H;rcases H with ⟨rfl,H⟩ | ⟨rfl,H⟩
           ·generalize hy367:((rd_L5 x5_5 x10_4).set (x11_5:Int).toNat true:List Bool)=y367 at H;have Ny367:=ak_ hy367.symm;clear hy367;generalize hy369:(x5_5.set (x10_4:Int).toNat y367:List (List Bool))=y369 at H;have Ny369:=ak_ hy369.symm;clear hy369;have H':=ak_ H;clear H
            try go_wp2
            have n0_:=ak_ (Kd.S_drew HO_5.out);have HBo:=ak_ HB.out;have n1_:=ak_ (below_drew1 HB.out);clear HO_5;clear HB;have HO_5:=n0_;have HB:=n1_;clear n0_ n1_;obtain ⟨p364,q364,ad364,A364_0,c364_0,e364,hx364_0,hl364_0,hi364_0⟩:=ab_ (at_L5 (Kd.S_reads' HO_5.out).2.2 x10_4);cases e364;obtain ⟨ce364,hce364,hMe364,hcc364⟩:=Kd.S_get HO_5.out [] x10_4 (of_eq_true p364) (of_eq_true q364);obtain ⟨ve364_0,rfl,ge364_0⟩:=hMe364;have hv364_0:=hcc364 0 _ rfl;rw [Nat.add_zero,show ((Kd.slice 4 Kd.bool)).sz=1 from rfl,Nat.mul_one] at hv364_0;replace hv364_0:=oi_ (hv364_0.symm.trans hx364_0);rw [hv364_0] at ge364_0;have HL364_0:=ak_ (show Kd.R Kd.bool 4 _ _ _ _ (rd_L5 x5_5 x10_4) from ge364_0);clear hv364_0 ge364_0;have HX364_0:=ak_ hx364_0;clear hcc364 hce364;have HR364_0:=ak_ hi364_0;have HC364_0:=ak_ hl364_0;clear hi364_0 hl364_0;obtain ⟨p365,q365,ad365,A365_0,c365_0,e365,hx365_0,hl365_0,hi365_0⟩:=ab_ (at_L5 (Kd.S_reads' HO_5.out).2.2 x10_4);obtain rfl:ad364=ad365:=(by injection e365);obtain ⟨ce365,hce365,hMe365,hcc365⟩:=Kd.S_get HO_5.out [] x10_4 (of_eq_true p365) (of_eq_true q365);obtain ⟨ve365_0,rfl,ge365_0⟩:=hMe365;have hv365_0:=hcc365 0 _ rfl;rw [Nat.add_zero,show ((Kd.slice 4 Kd.bool)).sz=1 from rfl,Nat.mul_one] at hv365_0;replace hv365_0:=oi_ (hv365_0.symm.trans hx365_0);rw [hv365_0] at ge365_0;have HL365_0:=ak_ (show Kd.R Kd.bool 4 _ _ _ _ (rd_L5 x5_5 x10_4) from ge365_0);clear hv365_0 ge365_0;have HX365_0:=ak_ hx365_0;clear hcc365 hce365;have HR365_0:=ak_ hi365_0;have HC365_0:=ak_ hl365_0;clear hi365_0 hl365_0;have ea_:=oi_ (hx364_0.symm.trans hx365_0);injection ea_ with ea_ en_ ec_
            subst ea_;subst ec_;clear en_;obtain ⟨p366,q366,ad366,e366,hx366_0⟩:=ab_ (Kd.at_bool zz72 x11_5)
            (try rw [<-Nbq39.out] at hx366_0)
            cases e366;have p41:0<=(x11_5:Int):=oz_;have q41:(x11_5:Int)<(((rd_L5 x5_5 x10_4).length:Int):Int):=oz_;obtain ⟨go41,co41,eo41,gb41,gl41,cl41,HG41⟩:=Kd.R_form HL364_0.out (by omega)
            (cases eo41)
            have GB41:=ak_ gb41;have GG41:=ak_ HG41;clear gb41 gl41 HG41
            (simp only [add_plain] at hx366_0)
            obtain ⟨hx41_0,hf41_0⟩:=Kd.R_celln false HL364_0.out (x11_5:Int) p41 q41;replace p41:=eq_true p41;replace q41:=eq_true q41;have hq43:(x10_4:Int)<(x5_5.length:Int):=(by have h_:(x10_4:Int)<((x5_5.length:Int):Int):=oz_;exact h_);obtain ⟨oki43,ce43,hcl43,hM43,hcc43,hok43,hbk43⟩:=Kd.S_borrow HO_5.out [] (x10_4:Int) (oz_) hq43;obtain ⟨ve43_0,rfl,ge43_0⟩:=hM43;have hv43:=hcc43 0 _ rfl;rw [Nat.add_zero,show ((Kd.slice 4 Kd.bool)).sz=1 from rfl,Nat.mul_one] at hv43;replace hv43:=oi_ (hv43.symm.trans HX364_0.out);subst hv43;clear hcc43 hcl43;replace ge43_0:=(show Kd.R Kd.bool 4 _ _ _ _ (rd_L5 x5_5 x10_4) from ge43_0);have HP43:=Kd.R_putg ge43_0 (x11_5:Int) true;rw [<-Ny367.out] at HP43;have HS43:=hbk43 HP43.2 (fun k_ e_=>by injection e_ with e_;subst e_;exact ge43_0.1 _ rfl) (x':=y367) (Kd.M_row HP43.1)
            rw [<-Ny369.out] at HS43;have HQ43:=ak_ HS43;clear HP43 HS43 hbk43 hok43
            (try rw [<-Nbq39.out] at hx41_0)
            replace hx364_0:wr.cell? _=_:=hx364_0;replace hx365_0:wr.cell? _=_:=hx365_0;replace hx366_0:wr.cell? _=_:=hx366_0;replace hx41_0:wr.cell? _=_:=hx41_0;replace hf41_0:wr.frozen? _=false:=hf41_0;have HQ_:=HQ43.out;rw [World.setCell_drew] at HQ_;clear HQ43;have HQ43:=ak_ HQ_;clear HQ_
            go_region
            all_goals
             try go_wp2
             (try simp only [<-hl5_5])
             go_roundg k5
             case measure=>have:=HK1.out;have:=HK2.out;have:=HK3.out;have:=HK4.out;have:=HK5.out;omega
             case rel=>exact ⟨(y369),(wrap64 (x11_5 + 1)),zo,H',⟨zz42⟩,⟨by (try simp only [hl5_5]);(with_reducible repeat (apply Kd.S_drew));exact HQ43.out⟩,⟨by repeat ((with_reducible first|exact HBo.out|apply below_drew1|refine below_set ?_ GB41.out))⟩⟩
           replace H:=gD H;obtain ⟨c45b0,H⟩:=H;replace H:=gD H;obtain ⟨c46b0,H⟩:=H;obtain ⟨bq47,hbq47⟩:∃ b_:Bool,b_=(rdOf false (rd_L5 x5_5 x10_4) x9_3):=⟨_,rfl⟩;replace H:(if bq47=true then (if x9_3<(x5_5.length:Int) then (if x11_5<((rd_L5 x5_5 x9_3).length:Int) then (impl_closure.l4 k5 a0 (x5_5.set (x10_4:Int).toNat ((rd_L5 x5_5 x10_4).set (x11_5:Int).toNat (rdOf false (rd_L5 x5_5 x9_3) x11_5))) x9_3 x10_4 (wrap64 (x11_5 + 1))) else (none)) else (none)) else (impl_closure.l4 k5 a0 (x5_5.set (x10_4:Int).toNat ((rd_L5 x5_5 x10_4).set (x11_5:Int).toNat false)) x9_3 x10_4 (wrap64 (x11_5 + 1))))=some r:=by rw [<-hbq47] at H;exact H
           have Nbq47:=ak_ hbq47;clear hbq47;replace H:=gNB H;rcases H with ⟨rfl,H⟩ | ⟨rfl,H⟩
           ·generalize hy377:((rd_L5 x5_5 x10_4).set (x11_5:Int).toNat false:List Bool)=y377 at H;have Ny377:=ak_ hy377.symm;clear hy377;generalize hy379:(x5_5.set (x10_4:Int).toNat y377:List (List Bool))=y379 at H;have Ny379:=ak_ hy379.symm;clear hy379;have H':=ak_ H;clear H
            try go_wp2
            have n0_:=ak_ (Kd.S_drew HO_5.out);have HBo:=ak_ HB.out;have n1_:=ak_ (below_drew1 HB.out);clear HO_5;clear HB;have HO_5:=n0_;have HB:=n1_;clear n0_ n1_;obtain ⟨p364,q364,ad364,A364_0,c364_0,e364,hx364_0,hl364_0,hi364_0⟩:=ab_ (at_L5 (Kd.S_reads' HO_5.out).2.2 x10_4);cases e364;obtain ⟨ce364,hce364,hMe364,hcc364⟩:=Kd.S_get HO_5.out [] x10_4 (of_eq_true p364) (of_eq_true q364);obtain ⟨ve364_0,rfl,ge364_0⟩:=hMe364;have hv364_0:=hcc364 0 _ rfl;rw [Nat.add_zero,show ((Kd.slice 4 Kd.bool)).sz=1 from rfl,Nat.mul_one] at hv364_0;replace hv364_0:=oi_ (hv364_0.symm.trans hx364_0);rw [hv364_0] at ge364_0;have HL364_0:=ak_ (show Kd.R Kd.bool 4 _ _ _ _ (rd_L5 x5_5 x10_4) from ge364_0);clear hv364_0 ge364_0;have HX364_0:=ak_ hx364_0;clear hcc364 hce364;have HR364_0:=ak_ hi364_0;have HC364_0:=ak_ hl364_0;clear hi364_0 hl364_0;obtain ⟨p365,q365,ad365,A365_0,c365_0,e365,hx365_0,hl365_0,hi365_0⟩:=ab_ (at_L5 (Kd.S_reads' HO_5.out).2.2 x10_4);obtain rfl:ad364=ad365:=(by injection e365);obtain ⟨ce365,hce365,hMe365,hcc365⟩:=Kd.S_get HO_5.out [] x10_4 (of_eq_true p365) (of_eq_true q365);obtain ⟨ve365_0,rfl,ge365_0⟩:=hMe365;have hv365_0:=hcc365 0 _ rfl;rw [Nat.add_zero,show ((Kd.slice 4 Kd.bool)).sz=1 from rfl,Nat.mul_one] at hv365_0;replace hv365_0:=oi_ (hv365_0.symm.trans hx365_0);rw [hv365_0] at ge365_0;have HL365_0:=ak_ (show Kd.R Kd.bool 4 _ _ _ _ (rd_L5 x5_5 x10_4) from ge365_0);clear hv365_0 ge365_0;have HX365_0:=ak_ hx365_0;clear hcc365 hce365;have HR365_0:=ak_ hi365_0;have HC365_0:=ak_ hl365_0;clear hi365_0 hl365_0;have ea_:=oi_ (hx364_0.symm.trans hx365_0);injection ea_ with ea_ en_ ec_
            subst ea_;subst ec_;clear en_;obtain ⟨p366,q366,ad366,e366,hx366_0⟩:=ab_ (Kd.at_bool zz72 x11_5)
            (try rw [<-Nbq39.out] at hx366_0)
            cases e366;obtain ⟨p370,q370,ad370,A370_0,c370_0,e370,hx370_0,hl370_0,hi370_0⟩:=ab_ (at_L5 (Kd.S_reads' HO_5.out).2.2 x10_4);obtain rfl:ad364=ad370:=(by injection e370);obtain ⟨ce370,hce370,hMe370,hcc370⟩:=Kd.S_get HO_5.out [] x10_4 (of_eq_true p370) (of_eq_true q370);obtain ⟨ve370_0,rfl,ge370_0⟩:=hMe370;have hv370_0:=hcc370 0 _ rfl;rw [Nat.add_zero,show ((Kd.slice 4 Kd.bool)).sz=1 from rfl,Nat.mul_one] at hv370_0;replace hv370_0:=oi_ (hv370_0.symm.trans hx370_0);rw [hv370_0] at ge370_0;have HL370_0:=ak_ (show Kd.R Kd.bool 4 _ _ _ _ (rd_L5 x5_5 x10_4) from ge370_0);clear hv370_0 ge370_0;have HX370_0:=ak_ hx370_0;clear hcc370 hce370;have HR370_0:=ak_ hi370_0;have HC370_0:=ak_ hl370_0;clear hi370_0 hl370_0;have ea_:=oi_ (hx364_0.symm.trans hx370_0);injection ea_ with ea_ en_ ec_
            subst ea_;subst ec_;clear en_;obtain ⟨p371,q371,ad371,e371,hx371_0⟩:=ab_ (Kd.at_bool (by repeat ((with_reducible exact HR370_0.out))) x9_3)
            (try rw [<-Nbq47.out] at hx371_0)
            cases e371;have p55:0<=(x11_5:Int):=oz_;have q55:(x11_5:Int)<(((rd_L5 x5_5 x10_4).length:Int):Int):=oz_;obtain ⟨go55,co55,eo55,gb55,gl55,cl55,HG55⟩:=Kd.R_form HL364_0.out (by omega)
            (cases eo55)
            have GB55:=ak_ gb55;have GG55:=ak_ HG55;clear gb55 gl55 HG55
            (simp only [add_plain] at hx371_0)
            obtain ⟨hx55_0,hf55_0⟩:=Kd.R_celln false HL364_0.out (x11_5:Int) p55 q55;replace p55:=eq_true p55;replace q55:=eq_true q55;have hq57:(x10_4:Int)<(x5_5.length:Int):=(by have h_:(x10_4:Int)<((x5_5.length:Int):Int):=oz_;exact h_);obtain ⟨oki57,ce57,hcl57,hM57,hcc57,hok57,hbk57⟩:=Kd.S_borrow HO_5.out [] (x10_4:Int) (oz_) hq57;obtain ⟨ve57_0,rfl,ge57_0⟩:=hM57;have hv57:=hcc57 0 _ rfl;rw [Nat.add_zero,show ((Kd.slice 4 Kd.bool)).sz=1 from rfl,Nat.mul_one] at hv57;replace hv57:=oi_ (hv57.symm.trans HX364_0.out);subst hv57;clear hcc57 hcl57;replace ge57_0:=(show Kd.R Kd.bool 4 _ _ _ _ (rd_L5 x5_5 x10_4) from ge57_0);have HP57:=Kd.R_putg ge57_0 (x11_5:Int) false;rw [<-Ny377.out] at HP57;have HS57:=hbk57 HP57.2 (fun k_ e_=>by injection e_ with e_;subst e_;exact ge57_0.1 _ rfl) (x':=y377) (Kd.M_row HP57.1)
            rw [<-Ny379.out] at HS57;have HQ57:=ak_ HS57;clear HP57 HS57 hbk57 hok57
            (try rw [<-Nbq39.out] at hx55_0)
            (try simp only [add_plain] at hx366_0)
            replace hx364_0:wr.cell? _=_:=hx364_0;replace hx365_0:wr.cell? _=_:=hx365_0;replace hx366_0:wr.cell? _=_:=hx366_0;replace hx370_0:wr.cell? _=_:=hx370_0;replace hx371_0:wr.cell? _=_:=hx371_0;replace hx55_0:wr.cell? _=_:=hx55_0;replace hf55_0:wr.frozen? _=false:=hf55_0;have HQ_:=HQ57.out;rw [World.setCell_drew] at HQ_;clear HQ57;have HQ57:=ak_ HQ_;clear HQ_
            go_region
            all_goals
             try go_wp2
             (try simp only [<-hl5_5])
             go_roundg k5
             case measure=>have:=HK1.out;have:=HK2.out;have:=HK3.out;have:=HK4.out;have:=HK5.out;omega
             case rel=>exact ⟨(y379),(wrap64 (x11_5 + 1)),zo,H',⟨zz42⟩,⟨by (try simp only [hl5_5]);(with_reducible repeat (apply Kd.S_drew));exact HQ57.out⟩,⟨by repeat ((with_reducible first|exact HBo.out|apply below_drew1|refine below_set ?_ GB55.out))⟩⟩
           replace H:=gD H;obtain ⟨c49b0,H⟩:=H;replace H:=gD H;obtain ⟨c50b0,H⟩:=H;generalize hy374:((rd_L5 x5_5 x10_4).set (x11_5:Int).toNat (rdOf false (rd_L5 x5_5 x9_3) x11_5):List Bool)=y374 at H;have Ny374:=ak_ hy374.symm;clear hy374;generalize hy376:(x5_5.set (x10_4:Int).toNat y374:List (List Bool))=y376 at H;have Ny376:=ak_ hy376.symm;clear hy376;have H':=ak_ H;clear H
           try go_wp2
           have n0_:=ak_ (Kd.S_drew HO_5.out);have HBo:=ak_ HB.out;have n1_:=ak_ (below_drew1 HB.out);clear HO_5;clear HB;have HO_5:=n0_;have HB:=n1_;clear n0_ n1_;obtain ⟨p364,q364,ad364,A364_0,c364_0,e364,hx364_0,hl364_0,hi364_0⟩:=ab_ (at_L5 (Kd.S_reads' HO_5.out).2.2 x10_4);cases e364;obtain ⟨ce364,hce364,hMe364,hcc364⟩:=Kd.S_get HO_5.out [] x10_4 (of_eq_true p364) (of_eq_true q364);obtain ⟨ve364_0,rfl,ge364_0⟩:=hMe364;have hv364_0:=hcc364 0 _ rfl;rw [Nat.add_zero,show ((Kd.slice 4 Kd.bool)).sz=1 from rfl,Nat.mul_one] at hv364_0;replace hv364_0:=oi_ (hv364_0.symm.trans hx364_0);rw [hv364_0] at ge364_0;have HL364_0:=ak_ (show Kd.R Kd.bool 4 _ _ _ _ (rd_L5 x5_5 x10_4) from ge364_0);clear hv364_0 ge364_0;have HX364_0:=ak_ hx364_0;clear hcc364 hce364;have HR364_0:=ak_ hi364_0;have HC364_0:=ak_ hl364_0;clear hi364_0 hl364_0;obtain ⟨p365,q365,ad365,A365_0,c365_0,e365,hx365_0,hl365_0,hi365_0⟩:=ab_ (at_L5 (Kd.S_reads' HO_5.out).2.2 x10_4);obtain rfl:ad364=ad365:=(by injection e365);obtain ⟨ce365,hce365,hMe365,hcc365⟩:=Kd.S_get HO_5.out [] x10_4 (of_eq_true p365) (of_eq_true q365);obtain ⟨ve365_0,rfl,ge365_0⟩:=hMe365;have hv365_0:=hcc365 0 _ rfl;rw [Nat.add_zero,show ((Kd.slice 4 Kd.bool)).sz=1 from rfl,Nat.mul_one] at hv365_0;replace hv365_0:=oi_ (hv365_0.symm.trans hx365_0);rw [hv365_0] at ge365_0;have HL365_0:=ak_ (show Kd.R Kd.bool 4 _ _ _ _ (rd_L5 x5_5 x10_4) from ge365_0);clear hv365_0 ge365_0;have HX365_0:=ak_ hx365_0;clear hcc365 hce365;have HR365_0:=ak_ hi365_0;have HC365_0:=ak_ hl365_0;clear hi365_0 hl365_0;have ea_:=oi_ (hx364_0.symm.trans hx365_0);injection ea_ with ea_ en_ ec_
           subst ea_;subst ec_;clear en_;obtain ⟨p366,q366,ad366,e366,hx366_0⟩:=ab_ (Kd.at_bool zz72 x11_5)
           (try rw [<-Nbq39.out] at hx366_0)
           cases e366;obtain ⟨p370,q370,ad370,A370_0,c370_0,e370,hx370_0,hl370_0,hi370_0⟩:=ab_ (at_L5 (Kd.S_reads' HO_5.out).2.2 x10_4);obtain rfl:ad364=ad370:=(by injection e370);obtain ⟨ce370,hce370,hMe370,hcc370⟩:=Kd.S_get HO_5.out [] x10_4 (of_eq_true p370) (of_eq_true q370);obtain ⟨ve370_0,rfl,ge370_0⟩:=hMe370;have hv370_0:=hcc370 0 _ rfl;rw [Nat.add_zero,show ((Kd.slice 4 Kd.bool)).sz=1 from rfl,Nat.mul_one] at hv370_0;replace hv370_0:=oi_ (hv370_0.symm.trans hx370_0);rw [hv370_0] at ge370_0;have HL370_0:=ak_ (show Kd.R Kd.bool 4 _ _ _ _ (rd_L5 x5_5 x10_4) from ge370_0);clear hv370_0 ge370_0;have HX370_0:=ak_ hx370_0;clear hcc370 hce370;have HR370_0:=ak_ hi370_0;have HC370_0:=ak_ hl370_0;clear hi370_0 hl370_0;have ea_:=oi_ (hx364_0.symm.trans hx370_0);injection ea_ with ea_ en_ ec_
           subst ea_;subst ec_;clear en_;obtain ⟨p371,q371,ad371,e371,hx371_0⟩:=ab_ (Kd.at_bool (by repeat ((with_reducible exact HR370_0.out))) x9_3)
           (try rw [<-Nbq47.out] at hx371_0)
           cases e371;obtain ⟨p372,q372,ad372,A372_0,c372_0,e372,hx372_0,hl372_0,hi372_0⟩:=ab_ (at_L5 (Kd.S_reads' HO_5.out).2.2 x9_3);obtain rfl:ad364=ad372:=(by injection e372);obtain ⟨ce372,hce372,hMe372,hcc372⟩:=Kd.S_get HO_5.out [] x9_3 (of_eq_true p372) (of_eq_true q372);obtain ⟨ve372_0,rfl,ge372_0⟩:=hMe372;have hv372_0:=hcc372 0 _ rfl;rw [Nat.add_zero,show ((Kd.slice 4 Kd.bool)).sz=1 from rfl,Nat.mul_one] at hv372_0;replace hv372_0:=oi_ (hv372_0.symm.trans hx372_0);rw [hv372_0] at ge372_0;have HL372_0:=ak_ (show Kd.R Kd.bool 4 _ _ _ _ (rd_L5 x5_5 x9_3) from ge372_0);clear hv372_0 ge372_0;have HX372_0:=ak_ hx372_0;clear hcc372 hce372;have HR372_0:=ak_ hi372_0;have HC372_0:=ak_ hl372_0;clear hi372_0 hl372_0;obtain ⟨p373,q373,ad373,e373,hx373_0⟩:=ab_ (Kd.at_bool (by repeat ((with_reducible exact HR372_0.out))) x11_5);cases e373;have p51:0<=(x11_5:Int):=oz_;have q51:(x11_5:Int)<(((rd_L5 x5_5 x10_4).length:Int):Int):=oz_;obtain ⟨go51,co51,eo51,gb51,gl51,cl51,HG51⟩:=Kd.R_form HL364_0.out (by omega)
           (cases eo51)
           have GB51:=ak_ gb51;have GG51:=ak_ HG51;clear gb51 gl51 HG51
           (simp only [add_plain] at hx371_0)
           obtain ⟨hx51_0,hf51_0⟩:=Kd.R_celln false HL364_0.out (x11_5:Int) p51 q51;replace p51:=eq_true p51;replace q51:=eq_true q51;have hq53:(x10_4:Int)<(x5_5.length:Int):=(by have h_:(x10_4:Int)<((x5_5.length:Int):Int):=oz_;exact h_);obtain ⟨oki53,ce53,hcl53,hM53,hcc53,hok53,hbk53⟩:=Kd.S_borrow HO_5.out [] (x10_4:Int) (oz_) hq53;obtain ⟨ve53_0,rfl,ge53_0⟩:=hM53;have hv53:=hcc53 0 _ rfl;rw [Nat.add_zero,show ((Kd.slice 4 Kd.bool)).sz=1 from rfl,Nat.mul_one] at hv53;replace hv53:=oi_ (hv53.symm.trans HX364_0.out);subst hv53;clear hcc53 hcl53;replace ge53_0:=(show Kd.R Kd.bool 4 _ _ _ _ (rd_L5 x5_5 x10_4) from ge53_0);have HP53:=Kd.R_putg ge53_0 (x11_5:Int) (rdOf false (rd_L5 x5_5 x9_3) x11_5);rw [<-Ny374.out] at HP53;have HS53:=hbk53 HP53.2 (fun k_ e_=>by injection e_ with e_;subst e_;exact ge53_0.1 _ rfl) (x':=y374) (Kd.M_row HP53.1)
           rw [<-Ny376.out] at HS53;have HQ53:=ak_ HS53;clear HP53 HS53 hbk53 hok53
           (try rw [<-Nbq39.out] at hx51_0)
           (try simp only [add_plain] at hx366_0)
           replace hx364_0:wr.cell? _=_:=hx364_0;replace hx365_0:wr.cell? _=_:=hx365_0;replace hx366_0:wr.cell? _=_:=hx366_0;replace hx370_0:wr.cell? _=_:=hx370_0;replace hx371_0:wr.cell? _=_:=hx371_0;replace hx372_0:wr.cell? _=_:=hx372_0;replace hx373_0:wr.cell? _=_:=hx373_0;replace hx51_0:wr.cell? _=_:=hx51_0;replace hf51_0:wr.frozen? _=false:=hf51_0;have HQ_:=HQ53.out;rw [World.setCell_drew] at HQ_;clear HQ53;have HQ53:=ak_ HQ_;clear HQ_
           go_region
           all_goals
            try go_wp2
            (try simp only [<-hl5_5])
            go_roundg k5
            case measure=>have:=HK1.out;have:=HK2.out;have:=HK3.out;have:=HK4.out;have:=HK5.out;omega
            case rel=>exact ⟨(y376),(wrap64 (x11_5 + 1)),zo,H',⟨zz42⟩,⟨by (try simp only [hl5_5]);(with_reducible repeat (apply Kd.S_drew));exact HQ53.out⟩,⟨by repeat ((with_reducible first|exact HBo.out|apply below_drew1|refine below_set ?_ GB51.out))⟩⟩
