import Derived.Test.YtndcbfifmafcoaaXFnTailsFirstx19
import Derived.Test.YtndcbfifmafcoaaXFnTailsFirstx31
namespace Go.Proofs.Ytndcbfifmafcoaa.XFnTailsFirst
set_option maxRecDepth 100000
set_option maxHeartbeats 8000000
open Go.RowKit Go.Proofs.YtndcbfifmafcoaaW.PrintWords Go.Proofs.YtndcbfifmafcoaaW.PrintLast Go.Proofs.YtndcbfifmafcoaaW.PrintMore
set_option linter.unusedVariables false
set_option linter.unusedSimpArgs false
mutual
def spec_l5Less.l0:Nat->List Int->List Int->Int->Option (Bool)
 | 0,_,_,_=>none
 | k + 1,x0,x1,x5=>if x5<(x0.length:Int) then (spec_l5Less.j1 k x0 x1 x5 (decide (x5<(x1.length:Int)))) else (spec_l5Less.j1 k x0 x1 x5 false)
def spec_l5Less.j1:Nat->List Int->List Int->Int->Bool->Option (Bool)
 | 0,_,_,_,_=>none
 | k + 1,x0,x1,x5,x15=>if x15=true then (if 0<=x5 then (if x5<(x0.length:Int) then (if x5<(x1.length:Int) then (if (rd x0 x5)=(rd x1 x5) then (spec_l5Less.l0 k x0 x1 (wrap64 (x5 + 1))) else (some (decide ((rd x0 x5)<(rd x1 x5))))) else (none)) else (none)) else (none)) else (some (decide ((x0.length:Int)<(x1.length:Int))))
end
def spec_l5Less.f (k:Nat) (l0:List Int) (l1:List Int):Option (Bool):=spec_l5Less.l0 k l0 l1 0
theorem spec_l5Less.calls (k:Nat) (A0:Option Addr) (c0:Nat) (l0:List Int) (A1:Option Addr) (c1:Nat) (l1:List Int) (r:Bool) (w:World) (hr0:Kd.C (Kd.int .i64) w A0 l0.length l0) (hc0:l0.length<=c0) (hr1:Kd.C (Kd.int .i64) w A1 l1.length l1) (hc1:l1.length<=c1) (h:spec_l5Less.f k l0 l1=some r) :
  Calls Try.prog 71 #[.slice A0 l0.length c0,.slice A1 l1.length c1] w fun e w'=>e=.returned (.bool r)/\Drawn0 w w':=by
 have HR0:=ak_ hr0;have HC0:=ak_ hc0;clear hr0 hc0;have HR1:=ak_ hr1;have HC1:=ak_ hc1;clear hr1 hc1;have H:(spec_l5Less.l0 k l0 l1 0)=some r:=h;clear h;have H':=ak_ H;clear H
 go_enter Try.func71,Try.ntmps71
 go_wp2
 repeat (go_quiet (fail))
 go_loopg [5] k (fun kq v5 w'=>∃ (x5_1:Int),v5=.int .i64 x5_1/\Aside0 (spec_l5Less.l0 kq l0 l1 x5_1=some r)/\Aside0 (kq<=k)/\Drawn0 w w')
 case atStart=>exact ⟨(0),zo,H',⟨Nat.le_refl _⟩,zz4⟩
 case round=>
  clear H';obtain ⟨x5_1,rfl,HA,HK1,⟨m1,rfl⟩⟩:=hrel;cases gk with
  | zero=>exact absurd HA.out (by simp [spec_l5Less.l0])
  | succ k1=>
   have H:=HA.out;clear HA;simp only [spec_l5Less.l0] at H;have HC3:=ak_ H;clear H
   go_upto_region 2 with (fail)
   repeat (go_quiet (fail);go_upto_region 2 with (fail))
   go_cut [15] (fun v15 wc=>∃ (kq:Nat) (x15_2:Bool),v15=.bool x15_2/\Aside0 (spec_l5Less.j1 kq l0 l1 x5_1 x15_2=some r)/\Aside0 (kq<=k1)/\Drawn0 w wc)
   case first=>
    have H:=HC3.out;clear HC3;replace H:=gND H;rcases H with ⟨c4b0,H⟩ | ⟨c4b0,H⟩
    ·skip
     have H':=ak_ H;clear H
     go_wp2
     repeat (go_quiet (fail))
     go_meet
     case rel=>exact ⟨_,(false),zo,H',⟨zz43⟩,zz4⟩
    have H':=ak_ H;clear H
    go_wp2
    repeat (go_quiet (fail))
    go_meet
    case rel=>exact ⟨_,(decide (x5_1<(l1.length:Int))),zo,H',⟨zz43⟩,zz4⟩
   case rest=>
    clear HC3;obtain ⟨kq,x15_2,rfl,HA,HJ2,⟨mc2,rfl⟩⟩:=hcut;cases kq with
    | zero=>exact absurd HA.out (by simp [spec_l5Less.j1])
    | succ kj2=>
     have H:=HA.out;clear HA;simp only [spec_l5Less.j1] at H;replace H:=gNB H;rcases H with ⟨rfl,H⟩ | ⟨rfl,H⟩
     ·obtain rfl:=oi_ H
      go_wp2
      repeat (go_quiet (fail))
      go_ret
      exact ⟨zz7,zz4⟩
     replace H:=gD H;obtain ⟨c6b0,H⟩:=H;replace H:=gD H;obtain ⟨c7b0,H⟩:=H;replace H:=gD H;obtain ⟨c8b0,H⟩:=H;replace H:=gP H;rcases H with ⟨c9,H⟩ | ⟨c9,H⟩
     ·have c9b0:((rd l0 x5_1) == (rd l1 x5_1))=true:=beq_iff_eq.mpr c9;have c9b1:((rd l0 x5_1) != (rd l1 x5_1))=false:=bne_eq_false_iff_eq.mpr c9;clear c9;have H':=ak_ H;clear H;obtain ⟨p777,q777,ad777,e777,hx777_0⟩:=ab_ (Kd.at_int HR0.out x5_1);cases e777;obtain ⟨p778,q778,ad778,e778,hx778_0⟩:=ab_ (Kd.at_int HR1.out x5_1);cases e778
      go_wp2
      repeat (go_quiet (fail);try go_wp2)
      go_roundg kj2
      case measure=>have:=HK1.out;have:=HJ2.out;omega
      case rel=>exact ⟨(wrap64 (x5_1 + 1)),zo,H',⟨by have:=HK1.out;have:=HJ2.out;omega⟩,zz4⟩
     have c9b0:((rd l0 x5_1) == (rd l1 x5_1))=false:=beq_eq_false_iff_ne.mpr c9;have c9b1:((rd l0 x5_1) != (rd l1 x5_1))=true:=bne_iff_ne.mpr c9;obtain rfl:=oi_ H;obtain ⟨p777,q777,ad777,e777,hx777_0⟩:=ab_ (Kd.at_int HR0.out x5_1);cases e777;obtain ⟨p778,q778,ad778,e778,hx778_0⟩:=ab_ (Kd.at_int HR1.out x5_1);cases e778;obtain ⟨p779,q779,ad779,e779,hx779_0⟩:=ab_ (Kd.at_int HR0.out x5_1);obtain rfl:ad777=ad779:=(by injection e779);obtain ⟨p780,q780,ad780,e780,hx780_0⟩:=ab_ (Kd.at_int HR1.out x5_1);obtain rfl:ad778=ad780:=(by injection e780)
     go_wp2
     repeat (go_quiet (fail);try go_wp2)
     go_ret
     exact ⟨zz7,zz4⟩
mutual
def spec_l7Labels.l0:Nat->Int->List Int->List (List Bool)->Int->Option (List Int)
 | 0,_,_,_,_=>none
 | k + 1,x0,x5,x6,x7=>if x7<=x0 then (spec_l7Labels.l1 k x0 x5 x6 x7 (-1) (([]:List Int)) 0) else (some x5)
def spec_l7Labels.l1:Nat->Int->List Int->List (List Bool)->Int->Int->List Int->Int->Option (List Int)
 | 0,_,_,_,_,_,_,_=>none
 | k + 1,x0,x5,x6,x7,x8,x9,x10=>if x10<x0 then ((spec_l7Told.f k x6 x5 x10).bind fun bt791=>(if 0<=x10 then (if x10<(x5.length:Int) then (if (rd x5 x10)=0 then (if bt791.2=true then (if x8<0 then (spec_l7Labels.l1 k x0 x5 x6 x7 x10 bt791.1 (wrap64 (x10 + 1))) else ((spec_l5Less.f k bt791.1 x9).bind fun t796=>(if t796=true then (spec_l7Labels.l1 k x0 x5 x6 x7 x10 bt791.1 (wrap64 (x10 + 1))) else (spec_l7Labels.l1 k x0 x5 x6 x7 x8 x9 (wrap64 (x10 + 1)))))) else (spec_l7Labels.l1 k x0 x5 x6 x7 x8 x9 (wrap64 (x10 + 1)))) else (spec_l7Labels.l1 k x0 x5 x6 x7 x8 x9 (wrap64 (x10 + 1)))) else (none)) else (none))) else (if 0<=x8 then (if x8<(x5.length:Int) then (spec_l7Labels.l0 k x0 (x5.set (x8:Int).toNat x7) x6 (wrap64 (x7 + 1))) else (none)) else (none))
end
def spec_l7Labels.f (k:Nat) (a0:Int) (l1:List (S42)):Option (List Int):=if 0<=a0 then (if (a0:Int).toNat<=35184372088832 then ((spec_l4Table.f k a0 l1).bind fun t784=>(spec_l7Labels.l0 k a0 (List.replicate (a0:Int).toNat 0) t784 1)) else (none)) else (none)
theorem spec_l7Labels.calls (k:Nat) (a0:Int) (A1:Option Addr) (c1:Nat) (l1:List (S42)) (r:List Int) (w:World) (hr1:Kd.C k42 w A1 l1.length l1) (hc1:l1.length<=c1) (h:spec_l7Labels.f k a0 l1=some r) :
  Calls Try.prog 44 #[.int .i64 a0,.slice A1 l1.length c1] w fun e w'=>∃ v0_:Value,e=.returned (v0_)/\Kd.R (Kd.int .i64) 3 w' w.heap.size (fun _=>True) v0_ r/\Below w.heap.size w w':=by
 have HR1:=ak_ hr1;have HC1:=ak_ hc1;clear hr1 hc1;have HB:=ak_ (Below.refl w.heap.size w);have H:(if 0<=a0 then (if (a0:Int).toNat<=35184372088832 then ((spec_l4Table.f k a0 l1).bind fun t784=>(spec_l7Labels.l0 k a0 (List.replicate (a0:Int).toNat 0) t784 1)) else (none)) else (none))=some r:=h;clear h;replace H:=gE H;obtain ⟨c3b0,c3b1,H⟩:=H;replace H:=gE H;obtain ⟨c4b0,c4b1,H⟩:=H;generalize hy781:(List.replicate (a0:Int).toNat 0:List Int)=y781 at H;have Ny781:=ak_ hy781.symm;clear hy781;replace H:=gT H;obtain ⟨t784,A5,H⟩:=H;have H':=ak_ H;clear H
 go_enter Try.func44,Try.ntmps44
 go_wp2_with (first|((with_reducible refine gate_dst (N:=14) rfl ?_);refine Kd.R_make (Kd.int .i64) _ 3 rfl (N:=14) rfl 34 _ _ rfl a0 rfl rfl Try.underlying34 (.int .i64 0) 8 info3 rfl (by decide) (by omega) 0 (ok:=fun _=>True) (okp:=fun _=>True) rfl (fun _ hk=>hk) trivial (oz_) (Nat.le_trans (Nat.mul_le_mul_right _ (oz_:a0.toNat<=35184372088832)) (by omega)) (Below.refl _ _) (Nat.le_refl _) ?_;intro v782 w6 ho7 hb hg_ hnew_;clear hg_ hnew_;(rw [<-Ny781.out] at ho7);have HO783:=ak_ (Kd.R_lower ho7 (below_size zb));replace HB:=zb1 hb;clear hb ho7)|(refine zgo 17 Try.func58 #[.int .i64 a0,.slice A1 l1.length c1] ?_;(with_reducible refine (spec_l4Table.calls k a0 _ _ l1 t784 _ ?side1 ?side2 A5.out).mono ?_);(case side1=>exact zC (Kd.C_below HR1.out HB.out));(case side2=>exact HC1.out);rintro e w8 ⟨v785,rfl,ho0,hb⟩;refine ⟨_,rfl,?_⟩;replace HO783:=zRb HO783 hb;have HO786:=ak_ (Kd.S_lower ho0 (below_size zb));replace HB:=zb1 hb;(try clear hb);(try clear ho0)))
 go_loopg [7] k (fun kq v7 w'=>∃ (x5_1:List Int) (x7_1:Int),v7=.int .i64 x7_1/\Aside0 (spec_l7Labels.l0 kq a0 x5_1 t784 x7_1=some r)/\Aside0 (kq<=k)/\Aside0 (Kd.R (Kd.int .i64) 3 w' w.heap.size (fun _=>True) v782 x5_1)/\Aside0 (Kd.S (Kd.slice 4 Kd.bool) 80 w' w.heap.size (fun _=>True) v785 t784)/\Aside0 (Below w.heap.size w w'))
 case atStart=>exact ⟨(y781),(1),zo,H',⟨Nat.le_refl _⟩,⟨zR HO783.out⟩,⟨zS HO786.out⟩,⟨zb⟩⟩
 case round=>
  clear H';obtain ⟨x5_1,x7_1,rfl,HA,HK1,HO_5,HO_6,HB⟩:=hrel;cases gk with
  | zero=>exact absurd HA.out (by simp [spec_l7Labels.l0])
  | succ k1=>
   have H:=HA.out;clear HA;simp only [spec_l7Labels.l0] at H;replace H:=gND H;rcases H with ⟨c9b0,H⟩ | ⟨c9b0,H⟩
   ·obtain rfl:=oi_ H
    go_wp2
    go_ret
    exact ⟨_,zz3,zR HO_5.out,zb⟩
   generalize hy787:(([]:List Int):List Int)=y787 at H;have Ny787:=ak_ hy787.symm;clear hy787;have H':=ak_ H;clear H
   go_wp2_with (((with_reducible refine gate_dst (N:=23) rfl ?_);refine rl_ (Kd.int .i64) 3 (N:=23) (xs:=([]:List Int)) (inner:=[]) (Reps.none _ _) ?_;intro v788 w10 ho11 hb hg_ hnew_;clear hg_ hnew_;(rw [<-Ny787.out] at ho11);replace HO_6:=zSb HO_6 hb;have HO789:=ak_ (Kd.R_lower (Kd.R_new' ho11 (Kd.R_lt (zR HO_5.out))) (below_size zb));replace HO_5:=ak_ (Kd.R_elder' (zR HO_5.out) (Kd.R_base ho11) hb);replace HB:=zb1 hb;clear hb ho11))
   go_loopg [8,9,10] k1 (fun kq v8 v9 v10 w'=>∃ (x8_2:Int) (x9_2:List Int) (x10_2:Int),v8=.int .i64 x8_2/\v10=.int .i64 x10_2/\Aside0 (spec_l7Labels.l1 kq a0 x5_1 t784 x7_1 x8_2 x9_2 x10_2=some r)/\Aside0 (kq<=k1)/\Aside0 (Kd.R (Kd.int .i64) 3 w' w.heap.size (fun k_=>some k_≠(v9:Value).ownBlock) v782 x5_1)/\Aside0 (Kd.S (Kd.slice 4 Kd.bool) 80 w' w.heap.size (fun _=>True) v785 t784)/\Aside0 (Kd.R (Kd.int .i64) 3 w' w.heap.size (fun k_=>some k_≠(v782:Value).ownBlock) v9 x9_2)/\Aside0 (Below w.heap.size w w'))
   case atStart=>exact ⟨((-1)),(y787),(0),zo,zo,H',⟨Nat.le_refl _⟩,⟨zR (Kd.R_mono HO_5.out (fun _ hk=>hk.2))⟩,⟨zS HO_6.out⟩,⟨zR (Kd.R_mono HO789.out (fun _ hk=>hk.2))⟩,⟨zb⟩⟩
   case round=>
    clear H';obtain ⟨x8_2,x9_2,x10_2,rfl,rfl,HA,HK2,HO_5,HO_6,HO_9,HB⟩:=hrel;cases gk with
    | zero=>exact absurd HA.out (by simp [spec_l7Labels.l1])
    | succ k2=>
     have H:=HA.out;clear HA;simp only [spec_l7Labels.l1] at H;replace H:=gND H;rcases H with ⟨c12b0,H⟩ | ⟨c12b0,H⟩
     ·replace H:=gD H;obtain ⟨c40b0,H⟩:=H;replace H:=gD H;obtain ⟨c41b0,H⟩:=H;generalize hy790:(x5_1.set (x8_2:Int).toNat x7_1:List Int)=y790 at H;have Ny790:=ak_ hy790.symm;clear hy790;have H':=ak_ H;clear H;have p42:0<=(x8_2:Int):=oz_;have q42:(x8_2:Int)<((x5_1.length:Int):Int):=oz_;obtain ⟨go42,co42,eo42,gb42,gl42,cl42,HG42⟩:=Kd.R_form HO_5.out (by omega)
      (cases eo42)
      have GB42:=ak_ gb42;have GG42:=ak_ HG42;clear gb42 gl42 HG42;obtain ⟨hx42_0,hf42_0⟩:=Kd.R_celln 0 HO_5.out (x8_2:Int) p42 q42;replace p42:=eq_true p42;replace q42:=eq_true q42;have HP43:=Kd.R_putg HO_5.out (x8_2:Int) x7_1
      go_wp2_with (((with_reducible refine gate_store (t:=3) (p:=58) rfl ?_);refine store_event (t:=3) (p:=58) (v:=?vo_w44) (w1:=(wr.setCell ⟨go42,(x8_2:Int).toNat,none⟩ (.int .i64 x7_1))) ?hg ?ho ?hn ?hr ?_;(case ho=>rfl);(case hg=>rfl);(case hn=>rfl);(case hr=>(go_simp;done));intro w44 hw;have hg:wr.grownBy w44 (some go42):=(by rw [hw];exact HP43.2);have hp_:Kd.R (Kd.int .i64) 3 w44 w.heap.size (fun k_=>some k_≠(u9:Value).ownBlock) (.slice (some ⟨go42,0,none⟩) x5_1.length co42) y790:=(by rw [hw,Ny790.out];exact HP43.1);clear HP43;replace HO_6:=ak_ (Kd.S_over' (v:=(.slice (some ⟨go42,0,none⟩) x5_1.length co42)) (zS HO_6.out) (Kd.R_typed HO_5.out) (by decide) hg);replace HO_5:=ak_ (hp_);replace HO_9:=ak_ (Kd.R_after (v:=(.slice (some ⟨go42,0,none⟩) x5_1.length co42)) (v1:=(.slice (some ⟨go42,0,none⟩) x5_1.length co42)) (ok:=(fun _=>True)) (zR (Kd.R_mono HO_9.out (fun _ hk=>⟨trivial,hk⟩))) hg (.inl rfl));replace HB:=ak_ ((by rw [hw];exact below_set (HB.out) GB42.out:Below w.heap.size w w44));clear hg hw hp_))
      go_roundg k2
      case measure=>have:=HK1.out;have:=HK2.out;omega
      case rel=>exact ⟨(y790),(wrap64 (x7_1 + 1)),zo,H',⟨zz5⟩,⟨zR (Kd.R_mono HO_5.out (fun _ hk=>trivial))⟩,⟨zS HO_6.out⟩,⟨zb⟩⟩
     replace H:=gT H;obtain ⟨⟨t791,t792⟩,A13,H⟩:=H
     try dsimp only at H
     replace H:=gD H;obtain ⟨c14b0,H⟩:=H;replace H:=gD H;obtain ⟨c15b0,H⟩:=H;replace H:=gN H;rcases H with ⟨c16,H⟩ | ⟨c16,H⟩
     ·have c16b0:((rd x5_1 x10_2) == 0)=false:=beq_eq_false_iff_ne.mpr c16;have c16b1:((rd x5_1 x10_2) != 0)=true:=bne_iff_ne.mpr c16;have H':=ak_ H;clear H;obtain ⟨Ao37,co37,eo37⟩:=Kd.S_slice HO_6.out;subst eo37;obtain ⟨Ao38,co38,rfl⟩:=Kd.R_slice HO_5.out
      go_wp2_with ((refine zgo 33 Try.func70 #[.slice Ao37 t784.length co37,.slice Ao38 x5_1.length co38,.int .i64 x10_2] ?_;(with_reducible refine (spec_l7Told.calls k2 _ _ t784 _ _ x5_1 x10_2 t791 t792 _ ?side1 ?side2 ?side3 ?side4 A13.out).mono ?_);(case side1=>exact zC ((Kd.S_reads' HO_6.out).2.2));(case side2=>exact (Kd.S_reads' HO_6.out).2.1);(case side3=>exact zC (r2_ HO_5));(case side4=>exact r1_ HO_5);rintro e w39 ⟨v793,rfl,ho0,hb⟩;refine ⟨_,rfl,?_⟩;replace HO_6:=zSb HO_6 hb;have HO794:=ak_ (Kd.R_lower (Kd.R_new' (Kd.R_new' ho0 (Kd.R_lt (zR HO_5.out))) (Kd.R_lt (zR HO_9.out))) (below_size zb));replace HO_5:=ak_ (Kd.R_elder' (zR HO_5.out) (Kd.R_base ho0) hb);replace HO_9:=ak_ (Kd.R_elder' (zR HO_9.out) (Kd.R_base ho0) hb);replace HB:=zb1 hb;(try clear hb);(try clear ho0);have p795:0<=(x10_2:Int):=oz_;have q795:x10_2<(x5_1.length:Int):=oz_;obtain ⟨ad795,e795,hx795_0⟩:=Kd.at_int (r2_ HO_5) x10_2 p795 q795;cases e795;replace p795:=eq_true p795;replace q795:=eq_true q795))
      go_roundg k2
      case measure=>have:=HK1.out;have:=HK2.out;omega
      case rel=>exact ⟨(x8_2),(x9_2),(wrap64 (x10_2 + 1)),zo,zo,H',⟨zz5⟩,⟨zR (Kd.R_mono HO_5.out (fun _ hk=>hk.1))⟩,⟨zS HO_6.out⟩,⟨zR (Kd.R_mono HO_9.out (fun _ hk=>hk.1))⟩,⟨zb⟩⟩
     have c16b0:((rd x5_1 x10_2) == 0)=true:=beq_iff_eq.mpr c16;have c16b1:((rd x5_1 x10_2) != 0)=false:=bne_eq_false_iff_eq.mpr c16;clear c16;replace H:=gNB H;rcases H with ⟨rfl,H⟩ | ⟨rfl,H⟩
     ·have H':=ak_ H;clear H;obtain ⟨Ao34,co34,eo34⟩:=Kd.S_slice HO_6.out;subst eo34;obtain ⟨Ao35,co35,rfl⟩:=Kd.R_slice HO_5.out
      go_wp2_with ((refine zgo 33 Try.func70 #[.slice Ao34 t784.length co34,.slice Ao35 x5_1.length co35,.int .i64 x10_2] ?_;(with_reducible refine (spec_l7Told.calls k2 _ _ t784 _ _ x5_1 x10_2 t791 false _ ?side1 ?side2 ?side3 ?side4 A13.out).mono ?_);(case side1=>exact zC ((Kd.S_reads' HO_6.out).2.2));(case side2=>exact (Kd.S_reads' HO_6.out).2.1);(case side3=>exact zC (r2_ HO_5));(case side4=>exact r1_ HO_5);rintro e w36 ⟨v793,rfl,ho0,hb⟩;refine ⟨_,rfl,?_⟩;replace HO_6:=zSb HO_6 hb;have HO794:=ak_ (Kd.R_lower (Kd.R_new' (Kd.R_new' ho0 (Kd.R_lt (zR HO_5.out))) (Kd.R_lt (zR HO_9.out))) (below_size zb));replace HO_5:=ak_ (Kd.R_elder' (zR HO_5.out) (Kd.R_base ho0) hb);replace HO_9:=ak_ (Kd.R_elder' (zR HO_9.out) (Kd.R_base ho0) hb);replace HB:=zb1 hb;(try clear hb);(try clear ho0);have p795:0<=(x10_2:Int):=oz_;have q795:x10_2<(x5_1.length:Int):=oz_;obtain ⟨ad795,e795,hx795_0⟩:=Kd.at_int (r2_ HO_5) x10_2 p795 q795;cases e795;replace p795:=eq_true p795;replace q795:=eq_true q795))
      go_roundg k2
      case measure=>have:=HK1.out;have:=HK2.out;omega
      case rel=>exact ⟨(x8_2),(x9_2),(wrap64 (x10_2 + 1)),zo,zo,H',⟨zz5⟩,⟨zR (Kd.R_mono HO_5.out (fun _ hk=>hk.1))⟩,⟨zS HO_6.out⟩,⟨zR (Kd.R_mono HO_9.out (fun _ hk=>hk.1))⟩,⟨zb⟩⟩
     replace H:=gPD H;rcases H with ⟨c18b0,H⟩ | ⟨c18b0,H⟩
     ·have H':=ak_ H;clear H;obtain ⟨Ao19,co19,eo19⟩:=Kd.S_slice HO_6.out;subst eo19;obtain ⟨Ao20,co20,rfl⟩:=Kd.R_slice HO_5.out
      go_wp2_with ((refine zgo 33 Try.func70 #[.slice Ao19 t784.length co19,.slice Ao20 x5_1.length co20,.int .i64 x10_2] ?_;(with_reducible refine (spec_l7Told.calls k2 _ _ t784 _ _ x5_1 x10_2 t791 true _ ?side1 ?side2 ?side3 ?side4 A13.out).mono ?_);(case side1=>exact zC ((Kd.S_reads' HO_6.out).2.2));(case side2=>exact (Kd.S_reads' HO_6.out).2.1);(case side3=>exact zC (r2_ HO_5));(case side4=>exact r1_ HO_5);rintro e w21 ⟨v793,rfl,ho0,hb⟩;refine ⟨_,rfl,?_⟩;replace HO_6:=zSb HO_6 hb;have HO794:=ak_ (Kd.R_lower (Kd.R_new' (Kd.R_new' ho0 (Kd.R_lt (zR HO_5.out))) (Kd.R_lt (zR HO_9.out))) (below_size zb));replace HO_5:=ak_ (Kd.R_elder' (zR HO_5.out) (Kd.R_base ho0) hb);replace HO_9:=ak_ (Kd.R_elder' (zR HO_9.out) (Kd.R_base ho0) hb);replace HB:=zb1 hb;(try clear hb);(try clear ho0);have p795:0<=(x10_2:Int):=oz_;have q795:x10_2<(x5_1.length:Int):=oz_;obtain ⟨ad795,e795,hx795_0⟩:=Kd.at_int (r2_ HO_5) x10_2 p795 q795;cases e795;replace p795:=eq_true p795;replace q795:=eq_true q795))
      go_roundg k2
      case measure=>have:=HK1.out;have:=HK2.out;omega
      case rel=>exact ⟨(x10_2),(t791),(wrap64 (x10_2 + 1)),zo,zo,H',⟨zz5⟩,⟨zR (Kd.R_mono HO_5.out (fun _ hk=>hk.2))⟩,⟨zS HO_6.out⟩,⟨zR (Kd.R_mono HO794.out (fun _ hk=>hk.1.2))⟩,⟨zb⟩⟩
     replace H:=gT H;obtain ⟨t796,A22,H⟩:=H;replace H:=gPB H;rcases H with ⟨rfl,H⟩ | ⟨rfl,H⟩
     ·have H':=ak_ H;clear H;obtain ⟨Ao24,co24,eo24⟩:=Kd.S_slice HO_6.out;subst eo24;obtain ⟨Ao25,co25,rfl⟩:=Kd.R_slice HO_5.out
      go_wp2_with (first|(refine zgo 33 Try.func70 #[.slice Ao24 t784.length co24,.slice Ao25 x5_1.length co25,.int .i64 x10_2] ?_;(with_reducible refine (spec_l7Told.calls k2 _ _ t784 _ _ x5_1 x10_2 t791 true _ ?side1 ?side2 ?side3 ?side4 A13.out).mono ?_);(case side1=>exact zC ((Kd.S_reads' HO_6.out).2.2));(case side2=>exact (Kd.S_reads' HO_6.out).2.1);(case side3=>exact zC (r2_ HO_5));(case side4=>exact r1_ HO_5);rintro e w26 ⟨v793,rfl,ho0,hb⟩;refine ⟨_,rfl,?_⟩;replace HO_6:=zSb HO_6 hb;have HO794:=ak_ (Kd.R_lower (Kd.R_new' (Kd.R_new' ho0 (Kd.R_lt (zR HO_5.out))) (Kd.R_lt (zR HO_9.out))) (below_size zb));replace HO_5:=ak_ (Kd.R_elder' (zR HO_5.out) (Kd.R_base ho0) hb);replace HO_9:=ak_ (Kd.R_elder' (zR HO_9.out) (Kd.R_base ho0) hb);replace HB:=zb1 hb;(try clear hb);(try clear ho0);have p795:0<=(x10_2:Int):=oz_;have q795:x10_2<(x5_1.length:Int):=oz_;obtain ⟨ad795,e795,hx795_0⟩:=Kd.at_int (r2_ HO_5) x10_2 p795 q795;cases e795;replace p795:=eq_true p795;replace q795:=eq_true q795;obtain ⟨Ao27,co27,eo27⟩:=Kd.R_slice HO794.out;subst eo27;obtain ⟨Ao28,co28,eo28⟩:=Kd.R_slice HO_9.out;subst eo28)|(go_at_call 71;(with_reducible refine (spec_l5Less.calls k2 _ _ t791 _ _ x9_2 true _ ?side1 ?side2 ?side3 ?side4 A22.out).mono ?_);(case side1=>exact zC (r2_ HO794));(case side2=>exact r1_ HO794);(case side3=>exact zC (r2_ HO_9));(case side4=>exact r1_ HO_9);rintro e w' ⟨rfl,⟨nd,rfl⟩⟩))
      go_roundg k2
      case measure=>have:=HK1.out;have:=HK2.out;omega
      case rel=>exact ⟨(x10_2),(t791),(wrap64 (x10_2 + 1)),zo,zo,H',⟨zz5⟩,⟨zR (Kd.R_mono HO_5.out (fun _ hk=>hk.2))⟩,⟨zS HO_6.out⟩,⟨zR (Kd.R_mono HO794.out (fun _ hk=>hk.1.2))⟩,⟨zb⟩⟩
     have H':=ak_ H;clear H;obtain ⟨Ao29,co29,eo29⟩:=Kd.S_slice HO_6.out;subst eo29;obtain ⟨Ao30,co30,rfl⟩:=Kd.R_slice HO_5.out
     go_wp2_with (first|(refine zgo 33 Try.func70 #[.slice Ao29 t784.length co29,.slice Ao30 x5_1.length co30,.int .i64 x10_2] ?_;(with_reducible refine (spec_l7Told.calls k2 _ _ t784 _ _ x5_1 x10_2 t791 true _ ?side1 ?side2 ?side3 ?side4 A13.out).mono ?_);(case side1=>exact zC ((Kd.S_reads' HO_6.out).2.2));(case side2=>exact (Kd.S_reads' HO_6.out).2.1);(case side3=>exact zC (r2_ HO_5));(case side4=>exact r1_ HO_5);rintro e w31 ⟨v793,rfl,ho0,hb⟩;refine ⟨_,rfl,?_⟩;replace HO_6:=zSb HO_6 hb;have HO794:=ak_ (Kd.R_lower (Kd.R_new' (Kd.R_new' ho0 (Kd.R_lt (zR HO_5.out))) (Kd.R_lt (zR HO_9.out))) (below_size zb));replace HO_5:=ak_ (Kd.R_elder' (zR HO_5.out) (Kd.R_base ho0) hb);replace HO_9:=ak_ (Kd.R_elder' (zR HO_9.out) (Kd.R_base ho0) hb);replace HB:=zb1 hb;(try clear hb);(try clear ho0);have p795:0<=(x10_2:Int):=oz_;have q795:x10_2<(x5_1.length:Int):=oz_;obtain ⟨ad795,e795,hx795_0⟩:=Kd.at_int (r2_ HO_5) x10_2 p795 q795;cases e795;replace p795:=eq_true p795;replace q795:=eq_true q795;obtain ⟨Ao32,co32,eo32⟩:=Kd.R_slice HO794.out;subst eo32;obtain ⟨Ao33,co33,eo33⟩:=Kd.R_slice HO_9.out;subst eo33)|(go_at_call 71;(with_reducible refine (spec_l5Less.calls k2 _ _ t791 _ _ x9_2 false _ ?side1 ?side2 ?side3 ?side4 A22.out).mono ?_);(case side1=>exact zC (r2_ HO794));(case side2=>exact r1_ HO794);(case side3=>exact zC (r2_ HO_9));(case side4=>exact r1_ HO_9);rintro e w' ⟨rfl,⟨nd,rfl⟩⟩))
     go_roundg k2
     case measure=>have:=HK1.out;have:=HK2.out;omega
     case rel=>exact ⟨(x8_2),(x9_2),(wrap64 (x10_2 + 1)),zo,zo,H',⟨zz5⟩,⟨zR (Kd.R_mono HO_5.out (fun _ hk=>hk.1))⟩,⟨zS HO_6.out⟩,⟨zR (Kd.R_mono HO_9.out (fun _ hk=>hk.1))⟩,⟨zb⟩⟩
def spec_LabelsOf.f (k:Nat) (a0:Int) (l1:List (S42)):Option (List Int × Bool):=(spec_l4Good.f k a0 l1).bind fun t797=>(if t797=true then ((spec_l7Labels.f k a0 l1).bind fun t798=>(some (t798,true))) else (some ((([]:List Int)),false)))
theorem spec_LabelsOf.calls (k:Nat) (a0:Int) (A1:Option Addr) (c1:Nat) (l1:List (S42)) (r1:List Int) (r2:Bool) (w:World) (hr1:Kd.C k42 w A1 l1.length l1) (hc1:l1.length<=c1) (h:spec_LabelsOf.f k a0 l1=some (r1,r2)) :
  Calls Try.prog 13 #[.int .i64 a0,.slice A1 l1.length c1] w fun e w'=>∃ v0_:Value,e=.returned (.tuple #[v0_,.bool r2])/\Kd.R (Kd.int .i64) 3 w' w.heap.size (fun _=>True) v0_ r1/\Below w.heap.size w w':=by
 have HR1:=ak_ hr1;have HC1:=ak_ hc1;clear hr1 hc1;have HB:=ak_ (Below.refl w.heap.size w);have H:((spec_l4Good.f k a0 l1).bind fun t797=>(if t797=true then ((spec_l7Labels.f k a0 l1).bind fun t798=>(some (t798,true))) else (some ((([]:List Int)),false))))=some (r1,r2):=h;clear h;replace H:=gT H;obtain ⟨t797,A3,H⟩:=H;replace H:=gPB H;rcases H with ⟨rfl,H⟩ | ⟨rfl,H⟩
 ·replace H:=gT H;obtain ⟨t798,A5,H⟩:=H;simp only [Option.some.injEq,Prod.mk.injEq] at H;obtain ⟨rfl,rfl⟩:=H
  go_enter Try.func13,Try.ntmps13
  go_wp2_with (first|(refine zgo 8 Try.func43 #[.int .i64 a0,.slice A1 l1.length c1] ?_;(with_reducible refine (spec_l4Good.calls k a0 _ _ l1 true _ ?side1 ?side2 A3.out).mono ?_);(case side1=>exact zC HR1.out);(case side2=>exact HC1.out);rintro e w6 ⟨rfl,hb⟩;refine ⟨_,rfl,?_⟩;replace HB:=zb1 hb;(try clear hb))|(refine zgo 13 Try.func44 #[.int .i64 a0,.slice A1 l1.length c1] ?_;(with_reducible refine (spec_l7Labels.calls k a0 _ _ l1 t798 _ ?side1 ?side2 A5.out).mono ?_);(case side1=>exact zC (Kd.C_below HR1.out HB.out));(case side2=>exact HC1.out);rintro e w7 ⟨v799,rfl,ho0,hb⟩;refine ⟨_,rfl,?_⟩;have HO800:=ak_ (Kd.R_lower ho0 (below_size zb));replace HB:=zb1 hb;(try clear hb);(try clear ho0)))
  go_ret2
  exact ⟨_,zz3,zR HO800.out,zb⟩
 generalize hy801:(([]:List Int):List Int)=y801 at H;have Ny801:=ak_ hy801.symm;clear hy801;simp only [Option.some.injEq,Prod.mk.injEq] at H;obtain ⟨rfl,rfl⟩:=H
 go_enter Try.func13,Try.ntmps13
 go_wp2_with (first|(refine zgo 8 Try.func43 #[.int .i64 a0,.slice A1 l1.length c1] ?_;(with_reducible refine (spec_l4Good.calls k a0 _ _ l1 false _ ?side1 ?side2 A3.out).mono ?_);(case side1=>exact zC HR1.out);(case side2=>exact HC1.out);rintro e w8 ⟨rfl,hb⟩;refine ⟨_,rfl,?_⟩;replace HB:=zb1 hb;(try clear hb))|((with_reducible refine gate_dst (N:=10) rfl ?_);refine rl_ (Kd.int .i64) 3 (N:=10) (xs:=([]:List Int)) (inner:=[]) (Reps.none _ _) ?_;intro v802 w9 ho10 hb hg_ hnew_;clear hg_ hnew_;(rw [<-Ny801.out] at ho10);have HO803:=ak_ (Kd.R_lower ho10 (below_size zb));replace HB:=zb1 hb;clear hb ho10))
 go_ret2
 exact ⟨_,zz3,zR HO803.out,zb⟩
-- NOT PRINTED: function 45 (impl_LabelPlan_1)
