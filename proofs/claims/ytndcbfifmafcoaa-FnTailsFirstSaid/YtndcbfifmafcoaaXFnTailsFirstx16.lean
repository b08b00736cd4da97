import Derived.Test.YtndcbfifmafcoaaXFnTailsFirstx0
namespace Go.Proofs.Ytndcbfifmafcoaa.XFnTailsFirst
open Go.RowKit Go.Proofs.YtndcbfifmafcoaaW.PrintWords Go.Proofs.YtndcbfifmafcoaaW.PrintLast Go.Proofs.YtndcbfifmafcoaaW.PrintMore
set_option linter.unusedVariables false
set_option linter.unusedSimpArgs false
mutual
def spec_l4Table.l0:Nat->Int->List (S42)->List (List Bool)->Int->Option ((List (List Bool)))
 | 0,_,_,_,_=>none
 | k + 1,x0,x1,x5,x6=>if x6<x0 then (if 0<=x0 then (if (x0:Int).toNat<=281474976710656 then (if x5.length<5864062014805 then (spec_l4Table.l0 k x0 x1 (x5++[(List.replicate (x0:Int).toNat false)]) (wrap64 (x6 + 1))) else (none)) else (none)) else (none)) else (spec_l4Table.l1 k x0 x1 x5 0)
def spec_l4Table.l1:Nat->Int->List (S42)->List (List Bool)->Int->Option ((List (List Bool)))
 | 0,_,_,_,_=>none
 | k + 1,x0,x1,x5,x7=>if x7<(x1.length:Int) then (if 0<=x7 then (if 0<=((rd_T42 x1 x7).f0) then (if ((rd_T42 x1 x7).f0)<(x5.length:Int) then (if 0<=((rd_T42 x1 x7).f1) then (if ((rd_T42 x1 x7).f1)<((rd_L5 x5 ((rd_T42 x1 x7).f0)).length:Int) then (spec_l4Table.l1 k x0 x1 (x5.set (((rd_T42 x1 x7).f0):Int).toNat ((rd_L5 x5 ((rd_T42 x1 x7).f0)).set (((rd_T42 x1 x7).f1):Int).toNat true)) (wrap64 (x7 + 1))) else (none)) else (none)) else (none)) else (none)) else (none)) else (spec_l4Table.l2 k x0 x5 0)
def spec_l4Table.l2:Nat->Int->List (List Bool)->Int->Option ((List (List Bool)))
 | 0,_,_,_=>none
 | k + 1,x0,x5,x8=>if x8<x0 then (spec_l4Table.l3 k x0 x5 x8 0) else (some x5)
def spec_l4Table.l3:Nat->Int->List (List Bool)->Int->Int->Option ((List (List Bool)))
 | 0,_,_,_,_=>none
 | k + 1,x0,x5,x8,x9=>if x9<x0 then (spec_l4Table.l4 k x0 x5 x8 x9 0) else (spec_l4Table.l2 k x0 x5 (wrap64 (x8 + 1)))
def spec_l4Table.l4:Nat->Int->List (List Bool)->Int->Int->Int->Option ((List (List Bool)))
 | 0,_,_,_,_,_=>none
 | k + 1,x0,x5,x8,x9,x10=>if x10<x0 then (if 0<=x9 then (if x9<(x5.length:Int) then (if 0<=x8 then (if x8<((rd_L5 x5 x9).length:Int) then (if rdOf false (rd_L5 x5 x9) x8=true then (if x8<(x5.length:Int) then (if 0<=x10 then (if x10<((rd_L5 x5 x8).length:Int) then (if rdOf false (rd_L5 x5 x8) x10=true then (if x10<((rd_L5 x5 x9).length:Int) then (spec_l4Table.l4 k x0 (x5.set (x9:Int).toNat ((rd_L5 x5 x9).set (x10:Int).toNat true)) x8 x9 (wrap64 (x10 + 1))) else (none)) else (spec_l4Table.l4 k x0 x5 x8 x9 (wrap64 (x10 + 1)))) else (none)) else (none)) else (none)) else (spec_l4Table.l4 k x0 x5 x8 x9 (wrap64 (x10 + 1)))) else (none)) else (none)) else (none)) else (none)) else (spec_l4Table.l3 k x0 x5 x8 (wrap64 (x9 + 1)))
end
def spec_l4Table.f (k:Nat) (a0:Int) (l1:List (S42)):Option ((List (List Bool))):=spec_l4Table.l0 k a0 l1 (([]:List (List Bool))) 0
def spec_l4Table.T9:Bool × List (List Nat × List Nat):=(true,[([],[]),([],[]),([],[]),([1,2],[1,2]),([3],[3]),([4],[4]),([0,5],[0,5]),([6],[6]),([],[]),([],[]),([8,9],[8,9]),([10],[10]),([11],[11]),([7,12,0,1,2,3,4,5,6,7,8,9,10,11,12],[7,12]),([13,0,1,2,3,4,5,6,7,8,9,10,11,12],[13])])
def spec_l4Table.B9:List Nat:=[0,0,0,6,14,30,63,127,0,0,768,1792,3840,8191,16383]
theorem spec_l4Table.tab9:rtab .any (opsOf Try.f58 9)=spec_l4Table.T9:=by kernel_rfl
theorem spec_l4Table.bits9:waitsOk spec_l4Table.T9.2 spec_l4Table.B9=true:=by kernel_rfl
set_option maxHeartbeats 8000000 in
set_option maxRecDepth 100000 in
theorem spec_l4Table.calls (k:Nat) (a0:Int) (A1:Option Addr) (c1:Nat) (l1:List (S42)) (r:List (List Bool)) (w:World) (hr1:Kd.C k42 w A1 l1.length l1) (hc1:l1.length<=c1) (h:spec_l4Table.f k a0 l1=some r) :
  Calls Try.prog 58 #[.int .i64 a0,.slice A1 l1.length c1] w fun e w'=>∃ v0_:Value,e=.returned (v0_)/\Kd.S (Kd.slice 4 Kd.bool) 80 w' w.heap.size (fun _=>True) v0_ r/\Below w.heap.size w w':=by
 have HR1:=ak_ hr1;have HC1:=ak_ hc1;clear hr1 hc1;have HB:=ak_ (Below.refl w.heap.size w);have H:(spec_l4Table.l0 k a0 l1 (([]:List (List Bool))) 0)=some r:=h;clear h;generalize hy426:(([]:List (List Bool)):List (List Bool))=y426 at H;have Ny426:=ak_ hy426.symm;clear hy426;have H':=ak_ H;clear H
 go_enter Try.func58,Try.ntmps58
 go_wp2_with (((with_reducible refine gate_dst (N:=11) rfl ?_);refine Kd.S_lit (Kd.slice 4 Kd.bool) _ 80 ?hg (N:=11) ?hd (xs:=([]:List (List Bool))) (inner:=[]) (ok:=fun _=>True) (okp:=fun _=>True) ?hr ?hp (fun _ hk=>hk) trivial (Below.refl _ _) (Nat.le_refl _) (by simp) ?_;(case hd=>rfl);(case hg=>rfl);(case hr=>(go_simp;done));(case hp=>exact (Reps.none _ _));intro v427 w3 ho4 hb hg_ hnew_;clear hg_ hnew_;(rw [<-Ny426.out] at ho4);have HO428:=ak_ (Kd.S_lower ho4 (below_size zb));replace HB:=zb1 hb;clear hb ho4))
 go_loopg [5,6] k (fun kq v5 v6 w'=>∃ (x5_1:List (List Bool)) (x6_1:Int),v6=.int .i64 x6_1/\Aside0 (spec_l4Table.l0 kq a0 l1 x5_1 x6_1=some r)/\Aside0 (kq<=k)/\Aside0 (Kd.S (Kd.slice 4 Kd.bool) 80 w' w.heap.size (fun _=>True) v5 x5_1)/\Aside0 (Below w.heap.size w w'))
 case atStart=>exact ⟨(y426),(0),zo,H',⟨Nat.le_refl _⟩,⟨zS HO428.out⟩,⟨zb⟩⟩
 case round=>
  clear H';obtain ⟨x5_1,x6_1,rfl,HA,HK1,HO_5,HB⟩:=hrel;cases gk with
  | zero=>exact absurd HA.out (by simp [spec_l4Table.l0])
  | succ k1=>
   have H:=HA.out;clear HA;simp only [spec_l4Table.l0] at H;replace H:=gPD H;rcases H with ⟨c5b0,H⟩ | ⟨c5b0,H⟩
   ·replace H:=gE H;obtain ⟨c6b0,c6b1,H⟩:=H;replace H:=gE H;obtain ⟨c7b0,c7b1,H⟩:=H;generalize hy429:(List.replicate (a0:Int).toNat false:List Bool)=y429 at H;have Ny429:=ak_ hy429.symm;clear hy429;replace H:=gL H;obtain ⟨LMc8,H⟩:=H;generalize hy432:(x5_1++[y429]:List (List Bool))=y432 at H;have Ny432:=ak_ hy432.symm;clear hy432;have H':=ak_ H;clear H
    go_wp2_with (first|((with_reducible refine gate_dst (N:=19) rfl ?_);refine Kd.R_make Kd.bool _ 4 rfl (N:=19) rfl 80 _ _ rfl a0 rfl rfl Try.underlying80 (.bool false) 1 info4 rfl (by decide) (by omega) false (ok:=fun _=>True) (okp:=fun _=>True) rfl (fun _ hk=>hk) trivial (oz_) (Nat.le_trans (Nat.mul_le_mul_right _ (oz_:a0.toNat<=281474976710656)) (by omega)) (Below.refl _ _) (Nat.le_refl _) ?_;intro v430 w9 ho10 hb hg_ hnew_;clear hg_ hnew_;(rw [<-Ny429.out] at ho10);replace HO_5:=ak_ (Kd.S_elder' (zS HO_5.out) (Kd.R_base ho10) hb);have HO431:=ak_ (Kd.R_lower ho10 (below_size zb));replace HB:=zb1 hb;clear hb ho10;obtain ⟨Ao12,co12,eo12⟩:=Kd.R_slice HO431.out;subst eo12)|((with_reducible refine gate_builtin (b:=.append) (xs:=#[.tmp 17,.tmp 20]) rfl ?_);at_builtin;refine Kd.S_append (Kd.slice 4 Kd.bool) (w0:=w) w.heap.size rfl (.tmp 17) (.tmp 20) 75 80 (.slice none 0 0) 24 rfl Try.underlying75 info80 rfl (by decide) (by omega) u5 x5_1 y429 [.slice Ao12 y429.length co12] (fun _=>True) (fun k_=>some k_=(.slice Ao12 y429.length co12:Value).ownBlock) rfl rfl ?aP (fun k_ hk_=>((Kd.R_mono (ok':=fun k_=>((fun _=>True)) k_/\some k_≠(u5:Value).ownBlock) (Kd.R_apart' (HO431.out) (Kd.S_typed HO_5.out) (by decide)) (fun k_ hk=>⟨trivial,hk.2⟩))).1 k_ hk_.symm) ?aF ?aO ?aB ?aS ?aL ?_;(case aP=>exact Kd.M_row (Kd.R_mono (Kd.R_tight rfl (Kd.R_mono (ok':=fun k_=>((fun _=>True)) k_/\some k_≠(u5:Value).ownBlock) (Kd.R_apart' (HO431.out) (Kd.S_typed HO_5.out) (by decide)) (fun k_ hk=>⟨trivial,hk.2⟩))) (fun _ h_=>h_)));(case aB=>exact zb);(case aF=>exact (fun _ _=>trivial));(case aO=>exact (zS (Kd.S_mono HO_5.out (fun k_ hk=>⟨trivial,fun e_=>hk.2 e_⟩))));(case aS=>exact (below_size zb));(case aL=>have:=LMc8.out;omega);intro v433 w11 ho hb hg hat;rw [<-Ny432.out] at ho;replace HB:=ak_ (hb);have HO434:=ak_ (ho);clear HO_5 HO431;clear ho hb hg hat))
    go_roundg k1
    case measure=>have:=HK1.out;omega
    case rel=>exact ⟨(y432),(wrap64 (x6_1 + 1)),zo,H',⟨by have:=HK1.out;omega⟩,⟨zS HO434.out⟩,⟨zb⟩⟩
   have H':=ak_ H;clear H
   go_wp2
   go_loopg [7] k1 (fun kq v7 w'=>∃ (x5_2:List (List Bool)) (x7_2:Int),v7=.int .i64 x7_2/\Aside0 (spec_l4Table.l1 kq a0 l1 x5_2 x7_2=some r)/\Aside0 (kq<=k1)/\Aside0 (Kd.S (Kd.slice 4 Kd.bool) 80 w' w.heap.size (fun _=>True) u5 x5_2)/\Aside0 (Below w.heap.size w w'))
   case atStart=>exact ⟨(x5_1),(0),zo,H',⟨Nat.le_refl _⟩,⟨zS HO_5.out⟩,⟨zb⟩⟩
   case round=>
    clear H';obtain ⟨x5_2,x7_2,rfl,HA,HK2,HO_5,HB⟩:=hrel;cases gk with
    | zero=>exact absurd HA.out (by simp [spec_l4Table.l1])
    | succ k2=>
     have H:=HA.out;clear HA;simp only [spec_l4Table.l1] at H;replace H:=gPD H;rcases H with ⟨c13b0,H⟩ | ⟨c13b0,H⟩
     ·replace H:=gD H;obtain ⟨c14b0,H⟩:=H;replace H:=gD H;obtain ⟨c15b0,H⟩:=H;replace H:=gD H;obtain ⟨c16b0,H⟩:=H;replace H:=gD H;obtain ⟨c17b0,H⟩:=H;replace H:=gD H;obtain ⟨c18b0,H⟩:=H;generalize hy438:((rd_L5 x5_2 ((rd_T42 l1 x7_2).f0)).set (((rd_T42 l1 x7_2).f1):Int).toNat true:List Bool)=y438 at H;have Ny438:=ak_ hy438.symm;clear hy438;generalize hy440:(x5_2.set (((rd_T42 l1 x7_2).f0):Int).toNat y438:List (List Bool))=y440 at H;have Ny440:=ak_ hy440.symm;clear hy440;have H':=ak_ H;clear H
      try go_wp2
      replace HO_5:=ak_ (Kd.S_drew HO_5.out);replace HB:=ak_ (below_drew1 HB.out);obtain ⟨p435,q435,ad435,e435,hx435_0,hx435_1⟩:=ab_ (at_T42 HR1.out x7_2);have hw435_1:=hx435_1;have hw435_0:=hx435_0;cases e435;replace hx435_0:=zh_ HB hx435_0;replace hx435_1:=zh_ HB hx435_1;obtain ⟨Ao21,co21,eo21⟩:=Kd.S_slice HO_5.out
      (subst eo21)
      obtain ⟨p436,q436,ad436,A436_0,c436_0,e436,hx436_0,hl436_0,hi436_0⟩:=ab_ (at_L5 (Kd.S_reads' HO_5.out).2.2 ((rd_T42 l1 x7_2).f0));cases e436;obtain ⟨ce436,hce436,hMe436,hcc436⟩:=Kd.S_get HO_5.out [] ((rd_T42 l1 x7_2).f0) (of_eq_true p436) (of_eq_true q436);obtain ⟨ve436_0,rfl,ge436_0⟩:=hMe436;have hv436_0:=hcc436 0 _ rfl;rw [Nat.add_zero,show ((Kd.slice 4 Kd.bool)).sz=1 from rfl,Nat.mul_one] at hv436_0;replace hv436_0:=oi_ (hv436_0.symm.trans hx436_0);rw [hv436_0] at ge436_0;have HL436_0:=ak_ (show Kd.R Kd.bool 4 _ _ _ _ (rd_L5 x5_2 ((rd_T42 l1 x7_2).f0)) from ge436_0);clear hv436_0 ge436_0;have HX436_0:=ak_ hx436_0;clear hcc436 hce436;have HR436_0:=ak_ hi436_0;have HC436_0:=ak_ hl436_0;clear hi436_0 hl436_0;obtain ⟨p437,q437,ad437,e437,hx437_0,hx437_1⟩:=ab_ (at_T42 HR1.out x7_2);have hw437_1:=hx437_1;have hw437_0:=hx437_0;obtain rfl:ad435=ad437:=(by injection e437);replace hx437_0:=zh_ HB hx437_0;replace hx437_1:=zh_ HB hx437_1;have p19:0<=(((rd_T42 l1 x7_2).f1):Int):=oz_;have q19:(((rd_T42 l1 x7_2).f1):Int)<(((rd_L5 x5_2 ((rd_T42 l1 x7_2).f0)).length:Int):Int):=oz_;obtain ⟨go19,co19,eo19,gb19,gl19,cl19,HG19⟩:=Kd.R_form HL436_0.out (by omega)
      (cases eo19)
      have GB19:=ak_ gb19;have GG19:=ak_ HG19;clear gb19 gl19 HG19;obtain ⟨hx19_0,hf19_0⟩:=Kd.R_celln false HL436_0.out (((rd_T42 l1 x7_2).f1):Int) p19 q19;replace p19:=eq_true p19;replace q19:=eq_true q19;have hq22:(((rd_T42 l1 x7_2).f0):Int)<(x5_2.length:Int):=(by have h_:(((rd_T42 l1 x7_2).f0):Int)<((x5_2.length:Int):Int):=oz_;exact h_);obtain ⟨oki22,ce22,hcl22,hM22,hcc22,hok22,hbk22⟩:=Kd.S_borrow HO_5.out [] (((rd_T42 l1 x7_2).f0):Int) (oz_) hq22;obtain ⟨ve22_0,rfl,ge22_0⟩:=hM22;have hv22:=hcc22 0 _ rfl;rw [Nat.add_zero,show ((Kd.slice 4 Kd.bool)).sz=1 from rfl,Nat.mul_one] at hv22;replace hv22:=oi_ (hv22.symm.trans HX436_0.out);subst hv22;clear hcc22 hcl22;replace ge22_0:=(show Kd.R Kd.bool 4 _ _ _ _ (rd_L5 x5_2 ((rd_T42 l1 x7_2).f0)) from ge22_0);have HP22:=Kd.R_putg ge22_0 (((rd_T42 l1 x7_2).f1):Int) true;rw [<-Ny438.out] at HP22;have HS22:=hbk22 HP22.2 (fun k_ e_=>by injection e_ with e_;subst e_;exact ge22_0.1 _ rfl) (x':=y438) (Kd.M_row HP22.1)
      rw [<-Ny440.out] at HS22;have HQ22:=ak_ HS22;clear HP22 HS22 hbk22 hok22;refine start_ (n:=15) (S:=fun w'=>w'.cell? (ad435.add ((x7_2).toNat * 2))=some (.int .i64 ((rd_T42 l1 x7_2).f0))/\w'.cell? ⟨(ad435.add ((x7_2).toNat * 2)).block,(ad435.add ((x7_2).toNat * 2)).off + 1,none⟩=some (.int .i64 ((rd_T42 l1 x7_2).f1))/\w'.cell? (ad436.add (((rd_T42 l1 x7_2).f0)).toNat)=some (.slice (some ⟨go19,0,none⟩) (rd_L5 x5_2 ((rd_T42 l1 x7_2).f0)).length c436_0)/\w'.cell? (ad435.add ((x7_2).toNat * 2))=some (.int .i64 ((rd_T42 l1 x7_2).f0))/\w'.cell? ⟨(ad435.add ((x7_2).toNat * 2)).block,(ad435.add ((x7_2).toNat * 2)).off + 1,none⟩=some (.int .i64 ((rd_T42 l1 x7_2).f1))) (ds:=[14]) #[false,false,false,false,false,false,false,false,false,false,false,false,false,false,false] (by kernel_rfl) rfl rfl ⟨(zq_ HB hw435_0:),(zq_ HB hw435_1:),hx436_0,(zq_ HB hw437_0:),(zq_ HB hw437_1:)⟩ (fun hHeld=>?_);refine with_tabW spec_l4Table.tab9 spec_l4Table.bits9 (fun HT_ HW_=>?_);generalize wr.drew=w20 at HO_5 HB GG19 HL436_0 HQ22 HR436_0 HX436_0 hf19_0 hx19_0 hx435_0 hx435_1 hx436_0 hx437_0 hx437_1 hHeld ⊢;refine pu_ 0 28 ?_;refine pu_ 1 29 ?_;refine pu_ 2 30 ?_;refine pu_ 3 31 ?_;refine pu_ 4 32 ?_;refine pu_ 8 36 ?_;refine pu_ 9 37 ?_;refine pu_ 10 38 ?_;refine pu_ 11 39 ?_;refine tk_ 5 33 hHeld ?_;refine pu_ 6 34 ?_;refine tk_ 7 35 hHeld ?_;refine tk_ 12 40 hHeld ?_;refine pu_ 13 41 ?_;refine last_ (i:=14) (N:=none) #[true,true,true,true,true,true,true,true,true,true,true,true,true,true,true] rfl rfl (one_of HT_.out (by kernel_rfl)) (by decide) (fun K hK=>?_);refine skip_ (w1:=?_) (by rfl) rfl ?_ ?_;rotate_left
      ·go_simp
       rfl
      refine hK.out _ _ ?_;clear hK K;refine done_ (done_of HT_.out (by kernel_rfl)) ?_
      try go_wp2
      go_roundg k2
      case measure=>have:=HK1.out;have:=HK2.out;omega
      case rel=>exact ⟨(y440),(wrap64 (x7_2 + 1)),zo,H',⟨zz5⟩,⟨by (with_reducible repeat (apply Kd.S_alloc));exact HQ22.out⟩,⟨by repeat ((with_reducible first|exact HB.out|refine below_set ?_ GB19.out))⟩⟩
     have H':=ak_ H;clear H
     go_wp2
     go_loopg [8] k2 (fun kq v8 w'=>∃ (x5_3:List (List Bool)) (x8_3:Int),v8=.int .i64 x8_3/\Aside0 (spec_l4Table.l2 kq a0 x5_3 x8_3=some r)/\Aside0 (kq<=k2)/\Aside0 (Kd.S (Kd.slice 4 Kd.bool) 80 w' w.heap.size (fun _=>True) u5 x5_3)/\Aside0 (Below w.heap.size w w'))
     case atStart=>exact ⟨(x5_2),(0),zo,H',⟨Nat.le_refl _⟩,⟨zS HO_5.out⟩,⟨zb⟩⟩
     case round=>
      clear H';obtain ⟨x5_3,x8_3,rfl,HA,HK3,HO_5,HB⟩:=hrel;cases gk with
      | zero=>exact absurd HA.out (by simp [spec_l4Table.l2])
      | succ k3=>
       have H:=HA.out;clear HA;simp only [spec_l4Table.l2] at H;replace H:=gND H;rcases H with ⟨c24b0,H⟩ | ⟨c24b0,H⟩
       ·obtain rfl:=oi_ H
        go_wp2
        go_ret
        exact ⟨_,zz3,zS HO_5.out,zb⟩
       have H':=ak_ H;clear H
       go_wp2
       go_loopg [9] k3 (fun kq v9 w'=>∃ (x5_4:List (List Bool)) (x9_4:Int),v9=.int .i64 x9_4/\Aside0 (spec_l4Table.l3 kq a0 x5_4 x8_3 x9_4=some r)/\Aside0 (kq<=k3)/\Aside0 (Kd.S (Kd.slice 4 Kd.bool) 80 w' w.heap.size (fun _=>True) u5 x5_4)/\Aside0 (Below w.heap.size w w'))
       case atStart=>exact ⟨(x5_3),(0),zo,H',⟨Nat.le_refl _⟩,⟨zS HO_5.out⟩,⟨zb⟩⟩
       case round=>
        clear H';obtain ⟨x5_4,x9_4,rfl,HA,HK4,HO_5,HB⟩:=hrel;cases gk with
        | zero=>exact absurd HA.out (by simp [spec_l4Table.l3])
        | succ k4=>
         have H:=HA.out;clear HA;simp only [spec_l4Table.l3] at H;replace H:=gND H;rcases H with ⟨c25b0,H⟩ | ⟨c25b0,H⟩
         ·have H':=ak_ H;clear H
          go_wp2
          go_roundg k4
          case measure=>have:=HK1.out;have:=HK2.out;have:=HK3.out;have:=HK4.out;omega
          case rel=>exact ⟨(x5_4),(wrap64 (x8_3 + 1)),zo,H',⟨zz41⟩,⟨zS HO_5.out⟩,⟨zb⟩⟩
         have H':=ak_ H;clear H
         go_wp2
         go_loopg [10] k4 (fun kq v10 w'=>∃ (x5_5:List (List Bool)) (x10_5:Int),v10=.int .i64 x10_5/\Aside0 (spec_l4Table.l4 kq a0 x5_5 x8_3 x9_4 x10_5=some r)/\Aside0 (kq<=k4)/\Aside0 (Kd.S (Kd.slice 4 Kd.bool) 80 w' w.heap.size (fun _=>True) u5 x5_5)/\Aside0 (Below w.heap.size w w'))
         case atStart=>exact ⟨(x5_4),(0),zo,H',⟨Nat.le_refl _⟩,⟨zS HO_5.out⟩,⟨zb⟩⟩
         case round=>
          clear H';obtain ⟨x5_5,x10_5,rfl,HA,HK5,HO_5,HB⟩:=hrel;cases gk with
          | zero=>exact absurd HA.out (by simp [spec_l4Table.l4])
          | succ k5=>
           have H:=HA.out;clear HA;simp only [spec_l4Table.l4] at H;replace H:=gND H;rcases H with ⟨c26b0,H⟩ | ⟨c26b0,H⟩
           ·have H':=ak_ H;clear H
            go_wp2
            go_roundg k5
            case measure=>have:=HK1.out;have:=HK2.out;have:=HK3.out;have:=HK4.out;have:=HK5.out;omega
            case rel=>exact ⟨(x5_5),(wrap64 (x9_4 + 1)),zo,H',⟨zz42⟩,⟨zS HO_5.out⟩,⟨zb⟩⟩
           replace H:=gD H;obtain ⟨c27b0,H⟩:=H;replace H:=gD H;obtain ⟨c28b0,H⟩:=H;replace H:=gD H;obtain ⟨c29b0,H⟩:=H;replace H:=gD H;obtain ⟨c30b0,H⟩:=H;obtain ⟨bq31,hbq31⟩:∃ b_:Bool,b_=(rdOf false (rd_L5 x5_5 x9_4) x8_3):=⟨_,rfl⟩;replace H:(if bq31=true then (if x8_3<(x5_5.length:Int) then (if 0<=x10_5 then (if x10_5<((rd_L5 x5_5 x8_3).length:Int) then (if rdOf false (rd_L5 x5_5 x8_3) x10_5=true then (if x10_5<((rd_L5 x5_5 x9_4).length:Int) then (spec_l4Table.l4 k5 a0 (x5_5.set (x9_4:Int).toNat ((rd_L5 x5_5 x9_4).set (x10_5:Int).toNat true)) x8_3 x9_4 (wrap64 (x10_5 + 1))) else (none)) else (spec_l4Table.l4 k5 a0 x5_5 x8_3 x9_4 (wrap64 (x10_5 + 1)))) else (none)) else (none)) else (none)) else (spec_l4Table.l4 k5 a0 x5_5 x8_3 x9_4 (wrap64 (x10_5 + 1))))=some r:=by rw [<-hbq31] at H;exact H
           have Nbq31:=ak_ hbq31;clear hbq31;replace H:=gNB H;rcases H with ⟨rfl,H⟩ | ⟨rfl,H⟩
           ·have H':=ak_ H;clear H;obtain ⟨Ao44,co44,eo44⟩:=Kd.S_slice HO_5.out;subst eo44;obtain ⟨p441,q441,ad441,A441_0,c441_0,e441,hx441_0,hl441_0,hi441_0⟩:=ab_ (at_L5 (Kd.S_reads' HO_5.out).2.2 x9_4);cases e441;obtain ⟨ce441,hce441,hMe441,hcc441⟩:=Kd.S_get HO_5.out [] x9_4 (of_eq_true p441) (of_eq_true q441);obtain ⟨ve441_0,rfl,ge441_0⟩:=hMe441;have hv441_0:=hcc441 0 _ rfl;rw [Nat.add_zero,show ((Kd.slice 4 Kd.bool)).sz=1 from rfl,Nat.mul_one] at hv441_0;replace hv441_0:=oi_ (hv441_0.symm.trans hx441_0);rw [hv441_0] at ge441_0;have HL441_0:=ak_ (show Kd.R Kd.bool 4 _ _ _ _ (rd_L5 x5_5 x9_4) from ge441_0);clear hv441_0 ge441_0;have HX441_0:=ak_ hx441_0;clear hcc441 hce441;have HR441_0:=ak_ hi441_0;have HC441_0:=ak_ hl441_0;clear hi441_0 hl441_0;obtain ⟨p442,q442,ad442,e442,hx442_0⟩:=ab_ (Kd.at_bool zz64 x8_3)
            (try rw [<-Nbq31.out] at hx442_0)
            cases e442
            go_wp2
            go_roundg k5
            case measure=>have:=HK1.out;have:=HK2.out;have:=HK3.out;have:=HK4.out;have:=HK5.out;omega
            case rel=>exact ⟨(x5_5),(wrap64 (x10_5 + 1)),zo,H',⟨zz42⟩,⟨zS HO_5.out⟩,⟨zb⟩⟩
           replace H:=gD H;obtain ⟨c33b0,H⟩:=H;replace H:=gD H;obtain ⟨c34b0,H⟩:=H;replace H:=gD H;obtain ⟨c35b0,H⟩:=H;obtain ⟨bq36,hbq36⟩:∃ b_:Bool,b_=(rdOf false (rd_L5 x5_5 x8_3) x10_5):=⟨_,rfl⟩;replace H:(if bq36=true then (if x10_5<((rd_L5 x5_5 x9_4).length:Int) then (spec_l4Table.l4 k5 a0 (x5_5.set (x9_4:Int).toNat ((rd_L5 x5_5 x9_4).set (x10_5:Int).toNat true)) x8_3 x9_4 (wrap64 (x10_5 + 1))) else (none)) else (spec_l4Table.l4 k5 a0 x5_5 x8_3 x9_4 (wrap64 (x10_5 + 1))))=some r:=by rw [<-hbq36] at H;exact H
           have Nbq36:=ak_ hbq36;clear hbq36;replace H:=gNB H;rcases H with ⟨rfl,H⟩ | ⟨rfl,H⟩
           ·have H':=ak_ H;clear H;obtain ⟨Ao43,co43,eo43⟩:=Kd.S_slice HO_5.out;subst eo43;obtain ⟨p441,q441,ad441,A441_0,c441_0,e441,hx441_0,hl441_0,hi441_0⟩:=ab_ (at_L5 (Kd.S_reads' HO_5.out).2.2 x9_4);cases e441;obtain ⟨ce441,hce441,hMe441,hcc441⟩:=Kd.S_get HO_5.out [] x9_4 (of_eq_true p441) (of_eq_true q441);obtain ⟨ve441_0,rfl,ge441_0⟩:=hMe441;have hv441_0:=hcc441 0 _ rfl;rw [Nat.add_zero,show ((Kd.slice 4 Kd.bool)).sz=1 from rfl,Nat.mul_one] at hv441_0;replace hv441_0:=oi_ (hv441_0.symm.trans hx441_0);rw [hv441_0] at ge441_0;have HL441_0:=ak_ (show Kd.R Kd.bool 4 _ _ _ _ (rd_L5 x5_5 x9_4) from ge441_0);clear hv441_0 ge441_0;have HX441_0:=ak_ hx441_0;clear hcc441 hce441;have HR441_0:=ak_ hi441_0;have HC441_0:=ak_ hl441_0;clear hi441_0 hl441_0;obtain ⟨p442,q442,ad442,e442,hx442_0⟩:=ab_ (Kd.at_bool zz64 x8_3)
            (try rw [<-Nbq31.out] at hx442_0)
            cases e442;obtain ⟨p443,q443,ad443,A443_0,c443_0,e443,hx443_0,hl443_0,hi443_0⟩:=ab_ (at_L5 (Kd.S_reads' HO_5.out).2.2 x8_3);obtain rfl:ad441=ad443:=(by injection e443);obtain ⟨ce443,hce443,hMe443,hcc443⟩:=Kd.S_get HO_5.out [] x8_3 (of_eq_true p443) (of_eq_true q443);obtain ⟨ve443_0,rfl,ge443_0⟩:=hMe443;have hv443_0:=hcc443 0 _ rfl;rw [Nat.add_zero,show ((Kd.slice 4 Kd.bool)).sz=1 from rfl,Nat.mul_one] at hv443_0;replace hv443_0:=oi_ (hv443_0.symm.trans hx443_0);rw [hv443_0] at ge443_0;have HL443_0:=ak_ (show Kd.R Kd.bool 4 _ _ _ _ (rd_L5 x5_5 x8_3) from ge443_0);clear hv443_0 ge443_0;have HX443_0:=ak_ hx443_0;clear hcc443 hce443;have HR443_0:=ak_ hi443_0;have HC443_0:=ak_ hl443_0;clear hi443_0 hl443_0;obtain ⟨p444,q444,ad444,e444,hx444_0⟩:=ab_ (Kd.at_bool (by repeat ((with_reducible exact HR443_0.out))) x10_5)
            (try rw [<-Nbq36.out] at hx444_0)
            cases e444
            go_wp2
            go_roundg k5
            case measure=>have:=HK1.out;have:=HK2.out;have:=HK3.out;have:=HK4.out;have:=HK5.out;omega
            case rel=>exact ⟨(x5_5),(wrap64 (x10_5 + 1)),zo,H',⟨zz42⟩,⟨zS HO_5.out⟩,⟨zb⟩⟩
           replace H:=gD H;obtain ⟨c38b0,H⟩:=H;generalize hy446:((rd_L5 x5_5 x9_4).set (x10_5:Int).toNat true:List Bool)=y446 at H;have Ny446:=ak_ hy446.symm;clear hy446;generalize hy448:(x5_5.set (x9_4:Int).toNat y446:List (List Bool))=y448 at H;have Ny448:=ak_ hy448.symm;clear hy448;have H':=ak_ H;clear H;obtain ⟨Ao40,co40,eo40⟩:=Kd.S_slice HO_5.out;subst eo40;obtain ⟨p441,q441,ad441,A441_0,c441_0,e441,hx441_0,hl441_0,hi441_0⟩:=ab_ (at_L5 (Kd.S_reads' HO_5.out).2.2 x9_4);cases e441;obtain ⟨ce441,hce441,hMe441,hcc441⟩:=Kd.S_get HO_5.out [] x9_4 (of_eq_true p441) (of_eq_true q441);obtain ⟨ve441_0,rfl,ge441_0⟩:=hMe441;have hv441_0:=hcc441 0 _ rfl;rw [Nat.add_zero,show ((Kd.slice 4 Kd.bool)).sz=1 from rfl,Nat.mul_one] at hv441_0;replace hv441_0:=oi_ (hv441_0.symm.trans hx441_0);rw [hv441_0] at ge441_0;have HL441_0:=ak_ (show Kd.R Kd.bool 4 _ _ _ _ (rd_L5 x5_5 x9_4) from ge441_0);clear hv441_0 ge441_0;have HX441_0:=ak_ hx441_0;clear hcc441 hce441;have HR441_0:=ak_ hi441_0;have HC441_0:=ak_ hl441_0;clear hi441_0 hl441_0;obtain ⟨p442,q442,ad442,e442,hx442_0⟩:=ab_ (Kd.at_bool zz64 x8_3)
           (try rw [<-Nbq31.out] at hx442_0)
           cases e442;obtain ⟨p443,q443,ad443,A443_0,c443_0,e443,hx443_0,hl443_0,hi443_0⟩:=ab_ (at_L5 (Kd.S_reads' HO_5.out).2.2 x8_3);obtain rfl:ad441=ad443:=(by injection e443);obtain ⟨ce443,hce443,hMe443,hcc443⟩:=Kd.S_get HO_5.out [] x8_3 (of_eq_true p443) (of_eq_true q443);obtain ⟨ve443_0,rfl,ge443_0⟩:=hMe443;have hv443_0:=hcc443 0 _ rfl;rw [Nat.add_zero,show ((Kd.slice 4 Kd.bool)).sz=1 from rfl,Nat.mul_one] at hv443_0;replace hv443_0:=oi_ (hv443_0.symm.trans hx443_0);rw [hv443_0] at ge443_0;have HL443_0:=ak_ (show Kd.R Kd.bool 4 _ _ _ _ (rd_L5 x5_5 x8_3) from ge443_0);clear hv443_0 ge443_0;have HX443_0:=ak_ hx443_0;clear hcc443 hce443;have HR443_0:=ak_ hi443_0;have HC443_0:=ak_ hl443_0;clear hi443_0 hl443_0;obtain ⟨p444,q444,ad444,e444,hx444_0⟩:=ab_ (Kd.at_bool (by repeat ((with_reducible exact HR443_0.out))) x10_5)
           (try rw [<-Nbq36.out] at hx444_0)
           cases e444;obtain ⟨p445,q445,ad445,A445_0,c445_0,e445,hx445_0,hl445_0,hi445_0⟩:=ab_ (at_L5 (Kd.S_reads' HO_5.out).2.2 x9_4);obtain rfl:ad441=ad445:=(by injection e445);obtain ⟨ce445,hce445,hMe445,hcc445⟩:=Kd.S_get HO_5.out [] x9_4 (of_eq_true p445) (of_eq_true q445);obtain ⟨ve445_0,rfl,ge445_0⟩:=hMe445;have hv445_0:=hcc445 0 _ rfl;rw [Nat.add_zero,show ((Kd.slice 4 Kd.bool)).sz=1 from rfl,Nat.mul_one] at hv445_0;replace hv445_0:=oi_ (hv445_0.symm.trans hx445_0);rw [hv445_0] at ge445_0;have HL445_0:=ak_ (show Kd.R Kd.bool 4 _ _ _ _ (rd_L5 x5_5 x9_4) from ge445_0);clear hv445_0 ge445_0;have HX445_0:=ak_ hx445_0;clear hcc445 hce445;have HR445_0:=ak_ hi445_0;have HC445_0:=ak_ hl445_0;clear hi445_0 hl445_0;have ea_:=oi_ (hx441_0.symm.trans hx445_0);injection ea_ with ea_ en_ ec_
           subst ea_;subst ec_;clear en_;have p39:0<=(x10_5:Int):=oz_;have q39:(x10_5:Int)<(((rd_L5 x5_5 x9_4).length:Int):Int):=oz_;obtain ⟨go39,co39,eo39,gb39,gl39,cl39,HG39⟩:=Kd.R_form HL445_0.out (by omega)
           (cases eo39)
           have GB39:=ak_ gb39;have GG39:=ak_ HG39;clear gb39 gl39 HG39
           (simp only [add_plain] at hx442_0)
           obtain ⟨hx39_0,hf39_0⟩:=Kd.R_celln false HL445_0.out (x10_5:Int) p39 q39;replace p39:=eq_true p39;replace q39:=eq_true q39;have hq41:(x9_4:Int)<(x5_5.length:Int):=(by have h_:(x9_4:Int)<((x5_5.length:Int):Int):=oz_;exact h_);obtain ⟨oki41,ce41,hcl41,hM41,hcc41,hok41,hbk41⟩:=Kd.S_borrow HO_5.out [] (x9_4:Int) (oz_) hq41;obtain ⟨ve41_0,rfl,ge41_0⟩:=hM41;have hv41:=hcc41 0 _ rfl;rw [Nat.add_zero,show ((Kd.slice 4 Kd.bool)).sz=1 from rfl,Nat.mul_one] at hv41;replace hv41:=oi_ (hv41.symm.trans HX445_0.out);subst hv41;clear hcc41 hcl41;replace ge41_0:=(show Kd.R Kd.bool 4 _ _ _ _ (rd_L5 x5_5 x9_4) from ge41_0);have HP41:=Kd.R_putg ge41_0 (x10_5:Int) true
           go_wp2_with (((with_reducible refine gate_store (t:=4) (p:=78) rfl ?_);refine store_event (t:=4) (p:=78) (v:=?vo_w42) (w1:=(wr.setCell ⟨go39,(x10_5:Int).toNat,none⟩ (.bool true))) ?hg ?ho ?hn ?hr ?_;(case ho=>rfl);(case hg=>rfl);(case hn=>rfl);(case hr=>(go_simp;done));intro w42 hw;have hg:wr.grownBy w42 (some go39):=(by rw [hw];exact HP41.2);have hz_:Kd.R Kd.bool 4 w42 w.heap.size oki41 (.slice (some ⟨go39,0,none⟩) (rd_L5 x5_5 x9_4).length c441_0) y446:=(by rw [hw,Ny446.out];exact HP41.1);have hp_:Kd.S (Kd.slice 4 Kd.bool) 80 w42 w.heap.size (fun _=>True) (.slice (some ad441) x5_5.length co40) y448:=(by rw [Ny448.out];exact hbk41 hg (fun k_ e_=>by injection e_ with e_;subst e_;exact ge41_0.1 _ rfl) (Kd.M_row hz_));have hm_:=Kd.R_mono hz_ hok41;clear HP41 hbk41;replace HO_5:=ak_ (hp_);replace HB:=ak_ ((by rw [hw];exact below_set (HB.out) GB39.out:Below w.heap.size w w42));have HL449:=ak_ (hm_);have HC447:=ak_ ((Kd.R_reads' hm_).2.1);clear HL441_0 HL443_0 HL445_0;clear hg hw hp_ hz_ hm_ hok41))
           go_roundg k5
           case measure=>have:=HK1.out;have:=HK2.out;have:=HK3.out;have:=HK4.out;have:=HK5.out;omega
           case rel=>exact ⟨(y448),(wrap64 (x10_5 + 1)),zo,H',⟨zz42⟩,⟨zS HO_5.out⟩,⟨zb⟩⟩
