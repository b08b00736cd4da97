import Derived.Test.YtndcbfifmafcoaaXFnTailsFirstx6
namespace Go.Proofs.Ytndcbfifmafcoaa.XFnTailsFirst
set_option maxRecDepth 100000
set_option maxHeartbeats 8000000
open Go.RowKit Go.Proofs.YtndcbfifmafcoaaW.PrintWords Go.Proofs.YtndcbfifmafcoaaW.PrintLast Go.Proofs.YtndcbfifmafcoaaW.PrintMore
set_option linter.unusedVariables false
set_option linter.unusedSimpArgs false
def impl_within.f (a0:Int) (a1:Int) (a2:Int):Option (Bool):=if a1<=a0 then (some (decide (a0<=a2))) else (some false)
theorem impl_within.calls (a0:Int) (a1:Int) (a2:Int) (r:Bool) (w:World) (h:impl_within.f a0 a1 a2=some r) :
  Calls Try.prog 53 #[.int .i64 a0,.int .i64 a1,.int .i64 a2] w fun e w'=>e=.returned (.bool r)/\Drawn0 w w':=by
 have H:(if a1<=a0 then (some (decide (a0<=a2))) else (some false))=some r:=h;clear h;replace H:=gPD H;rcases H with ⟨c4b0,H⟩ | ⟨c4b0,H⟩
 ·obtain rfl:=oi_ H
  go_enter Try.func53,Try.ntmps53
  go_wp2
  go_ret
  exact ⟨zz7,zz4⟩
 obtain rfl:=oi_ H
 go_enter Try.func53,Try.ntmps53
 go_wp2
 go_ret
 exact ⟨zz7,zz4⟩
def impl_isNumber.f (a0:Int) (a1:Int):Option (Bool):=(impl_within.f a0 0 (wrap64 (a1 - 1))).bind fun t380=>(some t380)
theorem impl_isNumber.calls (a0:Int) (a1:Int) (r:Bool) (w:World) (h:impl_isNumber.f a0 a1=some r) :
  Calls Try.prog 66 #[.int .i64 a0,.int .i64 a1] w fun e w'=>e=.returned (.bool r)/\Drawn0 w w':=by
 have H:((impl_within.f a0 0 (wrap64 (a1 - 1))).bind fun t380=>(some t380))=some r:=h;clear h;replace H:=gT H;obtain ⟨t380,A3,H⟩:=H;obtain rfl:=oi_ H
 go_enter Try.func66,Try.ntmps66
 go_wp2_with ((refine zgo 8 Try.func53 #[.int .i64 a0,.int .i64 0,.int .i64 (wrap64 (a1 - 1))] ?_;(with_reducible refine (impl_within.calls a0 0 (wrap64 (a1 - 1)) t380 _ A3.out).mono ?_);rintro e w' ⟨rfl,⟨nd,rfl⟩⟩;refine ⟨_,rfl,?_⟩))
 go_ret
 exact ⟨zz7,zz4⟩
mutual
def impl_IsPrecedence.j0:Nat->Int->List (S42)->Bool->Option (Bool)
 | 0,_,_,_=>none
 | k + 1,x0,x1,x16=>if x16=true then (some false) else (impl_IsPrecedence.l0 k x0 x1 x1 (x1.length:Int) 0)
def impl_IsPrecedence.l0:Nat->Int->List (S42)->List (S42)->Int->Int->Option (Bool)
 | 0,_,_,_,_,_=>none
 | k + 1,x0,x1,x17,x18,x19=>if x19<x18 then (if 0<=x19 then (if x19<(x17.length:Int) then ((impl_isNumber.f ((rd_T42 x17 x19).f0) x0).bind fun t384=>(if t384=true then ((impl_isNumber.f ((rd_T42 x17 x19).f1) x0).bind fun t385=>(if t385=true then (impl_IsPrecedence.j2 k x0 x1 x19 x17 x18 x19 (((rd_T42 x17 x19).f0) == ((rd_T42 x17 x19).f1)) ((rd_T42 x17 x19).f0) ((rd_T42 x17 x19).f1)) else (impl_IsPrecedence.j2 k x0 x1 x19 x17 x18 x19 true ((rd_T42 x17 x19).f0) ((rd_T42 x17 x19).f1)))) else (impl_IsPrecedence.j2 k x0 x1 x19 x17 x18 x19 true ((rd_T42 x17 x19).f0) ((rd_T42 x17 x19).f1)))) else (none)) else (none)) else ((impl_closure.f k x0 x1).bind fun t389=>(impl_IsPrecedence.l1 k t389 (t389.length:Int) 0))
def impl_IsPrecedence.j2:Nat->Int->List (S42)->Int->List (S42)->Int->Int->Bool->Int->Int->Option (Bool)
 | 0,_,_,_,_,_,_,_,_,_=>none
 | k + 1,x0,x1,x5,x17,x18,x19,x42,x384000,x384001=>if x42=true then (some false) else (if x5>0 then (if 0<=(wrap64 (x5 - 1)) then (if (wrap64 (x5 - 1))<(x1.length:Int) then (if ((rd_T42 x1 (wrap64 (x5 - 1))).f0)>x384000 then (some false) else (if ((rd_T42 x1 (wrap64 (x5 - 1))).f0)=x384000 then (if ((rd_T42 x1 (wrap64 (x5 - 1))).f1)>=x384001 then (some false) else (impl_IsPrecedence.l0 k x0 x1 x17 x18 (wrap64 (x19 + 1)))) else (impl_IsPrecedence.l0 k x0 x1 x17 x18 (wrap64 (x19 + 1))))) else (none)) else (none)) else (impl_IsPrecedence.l0 k x0 x1 x17 x18 (wrap64 (x19 + 1))))
def impl_IsPrecedence.l1:Nat->List (List Bool)->Int->Int->Option (Bool)
 | 0,_,_,_=>none
 | k + 1,x7,x83,x84=>if x84<x83 then (if 0<=x84 then (if x84<(x7.length:Int) then (if x84<((rd_L5 x7 x84).length:Int) then (if rdOf false (rd_L5 x7 x84) x84=true then (some false) else (impl_IsPrecedence.l1 k x7 x83 (wrap64 (x84 + 1)))) else (none)) else (none)) else (none)) else (some true)
end
def impl_IsPrecedence.f (k:Nat) (a0:Int) (l1:List (S42)):Option (Bool):=(impl_within.f a0 0 8).bind fun t381=>(if t381=true then (impl_IsPrecedence.j0 k a0 l1 (decide ((l1.length:Int)>28))) else (impl_IsPrecedence.j0 k a0 l1 true))
theorem impl_IsPrecedence.calls (k:Nat) (a0:Int) (A1:Option Addr) (c1:Nat) (l1:List (S42)) (r:Bool) (w:World) (hr1:Kd.C k42 w A1 l1.length l1) (hc1:l1.length<=c1) (h:impl_IsPrecedence.f k a0 l1=some r) :
  Calls Try.prog 41 #[.int .i64 a0,.slice A1 l1.length c1] w fun e w'=>e=.returned (.bool r)/\Below w.heap.size w w':=by
 have hu42:=Try.underlying42;have HR1:=ak_ hr1;have HC1:=ak_ hc1;clear hr1 hc1;have HB:=ak_ (Below.refl w.heap.size w);have H:((impl_within.f a0 0 8).bind fun t381=>(if t381=true then (impl_IsPrecedence.j0 k a0 l1 (decide ((l1.length:Int)>28))) else (impl_IsPrecedence.j0 k a0 l1 true)))=some r:=h;clear h;have HC3:=ak_ H;clear H
 go_enter Try.func41,Try.ntmps41
 go_upto_region 1 with (fail)
 repeat (go_quiet (fail);go_upto_region 1 with (fail))
 go_cut [16] (fun v16 wc=>∃ (kq:Nat) (x16_2:Bool),v16=.bool x16_2/\Aside0 (impl_IsPrecedence.j0 kq a0 l1 x16_2=some r)/\Aside0 (kq<=k)/\Aside0 (Below w.heap.size w wc))
 case first=>
  have H:=HC3.out;clear HC3;replace H:=gT H;obtain ⟨t381,A4,H⟩:=H;replace H:=gPB H;rcases H with ⟨rfl,H⟩ | ⟨rfl,H⟩
  ·have H':=ak_ H;clear H
   go_wp2_with ((go_at_call 53;(with_reducible refine (impl_within.calls a0 0 8 true _ A4.out).mono ?_);rintro e w' ⟨rfl,⟨nd,rfl⟩⟩))
   repeat (go_quiet ((go_at_call 53;(with_reducible refine (impl_within.calls a0 0 8 true _ A4.out).mono ?_);rintro e w' ⟨rfl,⟨nd,rfl⟩⟩)))
   go_meet
   case rel=>exact ⟨_,(decide ((l1.length:Int)>28)),zo,H',⟨zz19⟩,⟨zb⟩⟩
  have H':=ak_ H;clear H
  go_wp2_with ((go_at_call 53;(with_reducible refine (impl_within.calls a0 0 8 false _ A4.out).mono ?_);rintro e w' ⟨rfl,⟨nd,rfl⟩⟩))
  repeat (go_quiet ((go_at_call 53;(with_reducible refine (impl_within.calls a0 0 8 false _ A4.out).mono ?_);rintro e w' ⟨rfl,⟨nd,rfl⟩⟩)))
  go_meet
  case rel=>exact ⟨_,(true),zo,H',⟨zz19⟩,⟨zb⟩⟩
 case rest=>
  clear HC3;obtain ⟨kq,x16_2,rfl,HA,HJ2,HB⟩:=hcut;cases kq with
  | zero=>exact absurd HA.out (by simp [impl_IsPrecedence.j0])
  | succ kj2=>
   have H:=HA.out;clear HA;simp only [impl_IsPrecedence.j0] at H;replace H:=gPB H;rcases H with ⟨rfl,H⟩ | ⟨rfl,H⟩
   ·obtain rfl:=oi_ H
    go_wp2
    repeat (go_quiet (fail))
    go_ret
    exact ⟨zz3,zb⟩
   have H':=ak_ H;clear H
   go_wp2
   repeat (go_quiet (fail))
   go_loopg [19] kj2 (fun kq v19 w'=>∃ (x19_2:Int),v19=.int .i64 x19_2/\Aside0 (impl_IsPrecedence.l0 kq a0 l1 l1 (l1.length:Int) x19_2=some r)/\Aside0 (kq<=kj2)/\Aside0 (Below w.heap.size w w'))
   case atStart=>exact ⟨(0),zo,H',⟨Nat.le_refl _⟩,⟨zb⟩⟩
   case round=>
    clear H';obtain ⟨x19_2,rfl,HA,HK2,HB⟩:=hrel;cases gk with
    | zero=>exact absurd HA.out (by simp [impl_IsPrecedence.l0])
    | succ k2=>
     have H:=HA.out;clear HA;simp only [impl_IsPrecedence.l0] at H;replace H:=gND H;rcases H with ⟨c7b0,H⟩ | ⟨c7b0,H⟩
     ·replace H:=gT H;obtain ⟨t389,A32,H⟩:=H;have H':=ak_ H;clear H
      go_wp2_with ((go_at_call 48;(with_reducible refine (impl_closure.calls k2 a0 _ _ l1 t389 _ ?side1 ?side2 A32.out).mono ?_);(case side1=>exact zC (Kd.C_below HR1.out HB.out));(case side2=>exact HC1.out);rintro e w33 ⟨v390,rfl,ho0,hb⟩;have HO391:=ak_ (Kd.S_lower ho0 (below_size zb));replace HB:=zb1 hb;(try clear hb);(try clear ho0);obtain ⟨Ao34,co34,eo34⟩:=Kd.S_slice HO391.out;subst eo34))
      repeat (go_quiet ((go_at_call 48;(with_reducible refine (impl_closure.calls k2 a0 _ _ l1 t389 _ ?side1 ?side2 A32.out).mono ?_);(case side1=>exact zC (Kd.C_below HR1.out HB.out));(case side2=>exact HC1.out);rintro e w33 ⟨v390,rfl,ho0,hb⟩;have HO391:=ak_ (Kd.S_lower ho0 (below_size zb));replace HB:=zb1 hb;obtain ⟨Ao34,co34,eo34⟩:=Kd.S_slice HO391.out;subst eo34)))
      go_loopg [84] k2 (fun kq v84 w'=>∃ (x84_3:Int),v84=.int .i64 x84_3/\Aside0 (impl_IsPrecedence.l1 kq t389 (t389.length:Int) x84_3=some r)/\Aside0 (kq<=k2)/\Aside0 (Kd.S (Kd.slice 4 Kd.bool) 80 w' w.heap.size (fun _=>True) (.slice Ao34 t389.length co34) t389)/\Aside0 (Below w.heap.size w w'))
      case atStart=>exact ⟨(0),zo,H',⟨Nat.le_refl _⟩,⟨zS HO391.out⟩,⟨zb⟩⟩
      case round=>
       clear H';obtain ⟨x84_3,rfl,HA,HK3,HO_7,HB⟩:=hrel;cases gk with
       | zero=>exact absurd HA.out (by simp [impl_IsPrecedence.l1])
       | succ k3=>
        have H:=HA.out;clear HA;simp only [impl_IsPrecedence.l1] at H;replace H:=gND H;rcases H with ⟨c35b0,H⟩ | ⟨c35b0,H⟩
        ·obtain rfl:=oi_ H
         go_wp2
         repeat (go_quiet (fail))
         go_ret
         exact ⟨zz3,zb⟩
        replace H:=gD H;obtain ⟨c36b0,H⟩:=H;replace H:=gD H;obtain ⟨c37b0,H⟩:=H;replace H:=gD H;obtain ⟨c38b0,H⟩:=H;obtain ⟨bq39,hbq39⟩:∃ b_:Bool,b_=(rdOf false (rd_L5 t389 x84_3) x84_3):=⟨_,rfl⟩;replace H:(if bq39=true then (some false) else (impl_IsPrecedence.l1 k3 t389 (t389.length:Int) (wrap64 (x84_3 + 1))))=some r:=by rw [<-hbq39] at H;exact H
        have Nbq39:=ak_ hbq39;clear hbq39;replace H:=gPB H;rcases H with ⟨rfl,H⟩ | ⟨rfl,H⟩
        ·obtain rfl:=oi_ H;obtain ⟨p392,q392,ad392,A392_0,c392_0,e392,hx392_0,hl392_0,hi392_0⟩:=ab_ (at_L5 (Kd.S_reads' HO_7.out).2.2 x84_3);cases e392;obtain ⟨ce392,hce392,hMe392,hcc392⟩:=Kd.S_get HO_7.out [] x84_3 (of_eq_true p392) (of_eq_true q392);obtain ⟨ve392_0,rfl,ge392_0⟩:=hMe392;have hv392_0:=hcc392 0 _ rfl;rw [Nat.add_zero,show ((Kd.slice 4 Kd.bool)).sz=1 from rfl,Nat.mul_one] at hv392_0;replace hv392_0:=oi_ (hv392_0.symm.trans hx392_0);rw [hv392_0] at ge392_0;have HL392_0:=ak_ (show Kd.R Kd.bool 4 _ _ _ _ (rd_L5 t389 x84_3) from ge392_0);clear hv392_0 ge392_0;clear hcc392 hce392;have HR392_0:=ak_ hi392_0;have HC392_0:=ak_ hl392_0;clear hi392_0 hl392_0;obtain ⟨p393,q393,ad393,e393,hx393_0⟩:=ab_ (Kd.at_bool (by repeat ((with_reducible exact HR392_0.out))) x84_3)
         (try rw [<-Nbq39.out] at hx393_0)
         cases e393
         go_wp2
         repeat (go_quiet (fail))
         go_ret
         exact ⟨zz3,zb⟩
        have H':=ak_ H;clear H;obtain ⟨p392,q392,ad392,A392_0,c392_0,e392,hx392_0,hl392_0,hi392_0⟩:=ab_ (at_L5 (Kd.S_reads' HO_7.out).2.2 x84_3);cases e392;obtain ⟨ce392,hce392,hMe392,hcc392⟩:=Kd.S_get HO_7.out [] x84_3 (of_eq_true p392) (of_eq_true q392);obtain ⟨ve392_0,rfl,ge392_0⟩:=hMe392;have hv392_0:=hcc392 0 _ rfl;rw [Nat.add_zero,show ((Kd.slice 4 Kd.bool)).sz=1 from rfl,Nat.mul_one] at hv392_0;replace hv392_0:=oi_ (hv392_0.symm.trans hx392_0);rw [hv392_0] at ge392_0;have HL392_0:=ak_ (show Kd.R Kd.bool 4 _ _ _ _ (rd_L5 t389 x84_3) from ge392_0);clear hv392_0 ge392_0;clear hcc392 hce392;have HR392_0:=ak_ hi392_0;have HC392_0:=ak_ hl392_0;clear hi392_0 hl392_0;obtain ⟨p393,q393,ad393,e393,hx393_0⟩:=ab_ (Kd.at_bool (by repeat ((with_reducible exact HR392_0.out))) x84_3)
        (try rw [<-Nbq39.out] at hx393_0)
        cases e393
        go_wp2
        repeat (go_quiet (fail))
        go_roundg k3
        case measure=>have:=HJ2.out;have:=HK2.out;have:=HK3.out;omega
        case rel=>exact ⟨(wrap64 (x84_3 + 1)),zo,H',⟨by have:=HJ2.out;have:=HK2.out;have:=HK3.out;omega⟩,⟨zS HO_7.out⟩,⟨zb⟩⟩
     replace H:=gD H;obtain ⟨c8b0,H⟩:=H;replace H:=gD H;obtain ⟨c9b0,H⟩:=H;have HC10:=ak_ H;clear H;obtain ⟨p382,q382,ad382,e382,hx382_0,hx382_1⟩:=ab_ (at_T42 (Kd.C_below HR1.out HB.out) x19_2);cases e382
     go_upto_region 6 with (((with_reducible refine gate_dst (N:=6) rfl ?_);(try (refine gate_guard (by rfl) ?_;dsimp only));refine bxe_ (N:=6) (cs:=#[.int .i64 0,.int .i64 0]) (t:=42) ?_;intro gb383 hg w11 hbox hb;have BK383:=ak_ (hbox);have GW383:=gw_ w hg;have GE383:=gw_ w hg;replace HB:=zb1 hb;clear hb hbox hg;obtain ⟨hcz12_0,hcz12_1,hfz12_0,hfz12_1⟩:=zk2 BK383.out))
     repeat (go_quiet (((with_reducible refine gate_dst (N:=6) rfl ?_);refine bxe_ (N:=6) (cs:=#[.int .i64 0,.int .i64 0]) (t:=42) ?_;intro gb383 hg w11 hbox hb;have BK383:=ak_ (hbox);have GW383:=gw_ w hg;have GE383:=gw_ w hg;replace HB:=zb1 hb;clear hb hbox hg;obtain ⟨hcz12_0,hcz12_1,hfz12_0,hfz12_1⟩:=zk2 BK383.out));go_upto_region 6 with (((with_reducible refine gate_dst (N:=6) rfl ?_);refine bxe_ (N:=6) (cs:=#[.int .i64 0,.int .i64 0]) (t:=42) ?_;intro gb383 hg w11 hbox hb;have BK383:=ak_ (hbox);have GW383:=gw_ w hg;have GE383:=gw_ w hg;replace HB:=zb1 hb;clear hb hbox hg;obtain ⟨hcz12_0,hcz12_1,hfz12_0,hfz12_1⟩:=zk2 BK383.out)))
     go_cut [42] (fun v42 wc=>∃ (kq:Nat) (x42_9:Bool),v42=.bool x42_9/\Aside0 (impl_IsPrecedence.j2 kq a0 l1 x19_2 l1 (l1.length:Int) x19_2 x42_9 ((rd_T42 l1 x19_2).f0) ((rd_T42 l1 x19_2).f1)=some r)/\Aside0 (kq<=k2)/\Aside0 (wc.heap[gb383]?=some (.cells #[.int .i64 ((rd_T42 l1 x19_2).f0),.int .i64 ((rd_T42 l1 x19_2).f1)] 42 (0,0)))/\Aside0 (Below w.heap.size w wc))
     case first=>
      have H:=HC10.out;clear HC10;replace H:=gT H;obtain ⟨t384,A13,H⟩:=H;replace H:=gNB H;rcases H with ⟨rfl,H⟩ | ⟨rfl,H⟩
      ·have H':=ak_ H;clear H;obtain ⟨hcz19_0,hcz19_1,hfz19_0,hfz19_1⟩:=zk2 BK383.out
       go_wp2_with ((go_at_call 66;(with_reducible refine (impl_isNumber.calls ((rd_T42 l1 x19_2).f0) a0 false _ A13.out).mono ?_);rintro e w' ⟨rfl,⟨nd,rfl⟩⟩))
       repeat (go_quiet ((go_at_call 66;(with_reducible refine (impl_isNumber.calls ((rd_T42 l1 x19_2).f0) a0 false _ A13.out).mono ?_);rintro e w' ⟨rfl,⟨nd,rfl⟩⟩)))
       go_meet
       case rel=>exact ⟨_,(true),zo,H',⟨by have:=HJ2.out;have:=HK2.out;omega⟩,⟨zz73⟩,⟨zz40⟩⟩
      replace H:=gT H;obtain ⟨t385,A15,H⟩:=H;replace H:=gPB H;rcases H with ⟨rfl,H⟩ | ⟨rfl,H⟩
      ·have H':=ak_ H;clear H;obtain ⟨hcz17_0,hcz17_1,hfz17_0,hfz17_1⟩:=zk2 BK383.out
       go_wp2_with (first|(go_at_call 66;(with_reducible refine (impl_isNumber.calls ((rd_T42 l1 x19_2).f0) a0 true _ A13.out).mono ?_);rintro e w' ⟨rfl,⟨nd,rfl⟩⟩)|(go_at_call 66;(with_reducible refine (impl_isNumber.calls ((rd_T42 l1 x19_2).f1) a0 true _ A15.out).mono ?_);rintro e w' ⟨rfl,⟨nd,rfl⟩⟩))
       repeat (go_quiet ((go_at_call 66;(with_reducible refine (impl_isNumber.calls ((rd_T42 l1 x19_2).f0) a0 true _ A13.out).mono ?_);rintro e w' ⟨rfl,⟨nd,rfl⟩⟩)))
       go_meet
       case rel=>exact ⟨_,((((rd_T42 l1 x19_2).f0) == ((rd_T42 l1 x19_2).f1))),zo,H',⟨by have:=HJ2.out;have:=HK2.out;omega⟩,⟨zz73⟩,⟨zz40⟩⟩
      have H':=ak_ H;clear H;obtain ⟨hcz18_0,hcz18_1,hfz18_0,hfz18_1⟩:=zk2 BK383.out
      go_wp2_with (first|(go_at_call 66;(with_reducible refine (impl_isNumber.calls ((rd_T42 l1 x19_2).f0) a0 true _ A13.out).mono ?_);rintro e w' ⟨rfl,⟨nd,rfl⟩⟩)|(go_at_call 66;(with_reducible refine (impl_isNumber.calls ((rd_T42 l1 x19_2).f1) a0 false _ A15.out).mono ?_);rintro e w' ⟨rfl,⟨nd,rfl⟩⟩))
      repeat (go_quiet ((go_at_call 66;(with_reducible refine (impl_isNumber.calls ((rd_T42 l1 x19_2).f0) a0 true _ A13.out).mono ?_);rintro e w' ⟨rfl,⟨nd,rfl⟩⟩)))
      go_meet
      case rel=>exact ⟨_,(true),zo,H',⟨by have:=HJ2.out;have:=HK2.out;omega⟩,⟨zz73⟩,⟨zz40⟩⟩
     case rest=>
      clear HC10;obtain ⟨kq,x42_9,rfl,HA,HJ9,BK383,HB⟩:=hcut;cases kq with
      | zero=>exact absurd HA.out (by simp [impl_IsPrecedence.j2])
      | succ kj9=>
       have H:=HA.out;clear HA;simp only [impl_IsPrecedence.j2] at H;replace H:=gPB H;rcases H with ⟨rfl,H⟩ | ⟨rfl,H⟩
       ·obtain rfl:=oi_ H
        go_wp2
        repeat (go_quiet (fail))
        go_ret
        exact ⟨zz3,zz40⟩
       replace H:=gND H;rcases H with ⟨c21b0,H⟩ | ⟨c21b0,H⟩
       ·have H':=ak_ H;clear H
        go_wp2
        repeat (go_quiet (fail);try go_wp2)
        go_roundg kj9
        case measure=>have:=HJ2.out;have:=HK2.out;have:=HJ9.out;omega
        case rel=>exact ⟨(wrap64 (x19_2 + 1)),zo,H',⟨by have:=HJ2.out;have:=HK2.out;have:=HJ9.out;omega⟩,⟨zz40⟩⟩
       obtain ⟨ji22,hji22⟩:∃ j_:Int,(wrap64 (x19_2 - 1))=j_:=⟨_,rfl⟩;replace H:(if 0<=(ji22) then (if (ji22)<(l1.length:Int) then (if ((rd_T42 l1 (ji22)).f0)>((rd_T42 l1 x19_2).f0) then (some false) else (if ((rd_T42 l1 (ji22)).f0)=((rd_T42 l1 x19_2).f0) then (if ((rd_T42 l1 (ji22)).f1)>=((rd_T42 l1 x19_2).f1) then (some false) else (impl_IsPrecedence.l0 kj9 a0 l1 l1 (l1.length:Int) (wrap64 (x19_2 + 1)))) else (impl_IsPrecedence.l0 kj9 a0 l1 l1 (l1.length:Int) (wrap64 (x19_2 + 1))))) else (none)) else (none))=some r:=by (rw [hji22] at H;exact H)
       have hji22w:(IntKind.i64.wrap (x19_2 - 1))=ji22:=(i64_w _).trans hji22;replace H:=gD H;obtain ⟨c23b0,H⟩:=H;replace H:=gD H;obtain ⟨c24b0,H⟩:=H;replace H:=gPD H;rcases H with ⟨c25b0,H⟩ | ⟨c25b0,H⟩
       ·obtain rfl:=oi_ H;obtain ⟨p386,q386,ad386,e386,hx386_0,hx386_1⟩:=ab_ (at_T42 HR1.out (ji22));obtain rfl:ad382=ad386:=(by injection e386);replace hx386_0:=zh_ HB hx386_0;replace hx386_1:=zh_ HB hx386_1;obtain ⟨hcz26_0,hcz26_1,hfz26_0,hfz26_1⟩:=zk2 BK383.out
        go_wp2
        repeat (go_quiet (fail);try go_wp2)
        go_ret
        exact ⟨by rfl,zz40⟩
       replace H:=gN H;rcases H with ⟨c27,H⟩ | ⟨c27,H⟩
       ·have c27b0:(((rd_T42 l1 (ji22)).f0) == ((rd_T42 l1 x19_2).f0))=false:=beq_eq_false_iff_ne.mpr c27;have c27b1:(((rd_T42 l1 (ji22)).f0) != ((rd_T42 l1 x19_2).f0))=true:=bne_iff_ne.mpr c27;have H':=ak_ H;clear H;obtain ⟨p386,q386,ad386,e386,hx386_0,hx386_1⟩:=ab_ (at_T42 HR1.out (ji22));obtain rfl:ad382=ad386:=(by injection e386);replace hx386_0:=zh_ HB hx386_0;replace hx386_1:=zh_ HB hx386_1;obtain ⟨hcz31_0,hcz31_1,hfz31_0,hfz31_1⟩:=zk2 BK383.out;obtain ⟨p387,q387,ad387,e387,hx387_0,hx387_1⟩:=ab_ (at_T42 HR1.out (ji22));obtain rfl:ad382=ad387:=(by injection e387);replace hx387_0:=zh_ HB hx387_0;replace hx387_1:=zh_ HB hx387_1
        go_wp2
        repeat (go_quiet (fail);try go_wp2)
        go_roundg kj9
        case measure=>have:=HJ2.out;have:=HK2.out;have:=HJ9.out;omega
        case rel=>exact ⟨(wrap64 (x19_2 + 1)),zo,H',⟨by have:=HJ2.out;have:=HK2.out;have:=HJ9.out;omega⟩,⟨zz40⟩⟩
       have c27b0:(((rd_T42 l1 (ji22)).f0) == ((rd_T42 l1 x19_2).f0))=true:=beq_iff_eq.mpr c27;have c27b1:(((rd_T42 l1 (ji22)).f0) != ((rd_T42 l1 x19_2).f0))=false:=bne_eq_false_iff_eq.mpr c27;clear c27;replace H:=gPD H;rcases H with ⟨c28b0,H⟩ | ⟨c28b0,H⟩
       ·obtain rfl:=oi_ H;obtain ⟨p386,q386,ad386,e386,hx386_0,hx386_1⟩:=ab_ (at_T42 HR1.out (ji22));obtain rfl:ad382=ad386:=(by injection e386);replace hx386_0:=zh_ HB hx386_0;replace hx386_1:=zh_ HB hx386_1;obtain ⟨hcz29_0,hcz29_1,hfz29_0,hfz29_1⟩:=zk2 BK383.out;obtain ⟨p387,q387,ad387,e387,hx387_0,hx387_1⟩:=ab_ (at_T42 HR1.out (ji22));obtain rfl:ad382=ad387:=(by injection e387);replace hx387_0:=zh_ HB hx387_0;replace hx387_1:=zh_ HB hx387_1;obtain ⟨p388,q388,ad388,e388,hx388_0,hx388_1⟩:=ab_ (at_T42 HR1.out (ji22));obtain rfl:ad382=ad388:=(by injection e388);replace hx388_0:=zh_ HB hx388_0;replace hx388_1:=zh_ HB hx388_1
        go_wp2
        repeat (go_quiet (fail);try go_wp2)
        go_ret
        exact ⟨by rfl,zz40⟩
       have H':=ak_ H;clear H;obtain ⟨p386,q386,ad386,e386,hx386_0,hx386_1⟩:=ab_ (at_T42 HR1.out (ji22));obtain rfl:ad382=ad386:=(by injection e386);replace hx386_0:=zh_ HB hx386_0;replace hx386_1:=zh_ HB hx386_1;obtain ⟨hcz30_0,hcz30_1,hfz30_0,hfz30_1⟩:=zk2 BK383.out;obtain ⟨p387,q387,ad387,e387,hx387_0,hx387_1⟩:=ab_ (at_T42 HR1.out (ji22));obtain rfl:ad382=ad387:=(by injection e387);replace hx387_0:=zh_ HB hx387_0;replace hx387_1:=zh_ HB hx387_1;obtain ⟨p388,q388,ad388,e388,hx388_0,hx388_1⟩:=ab_ (at_T42 HR1.out (ji22));obtain rfl:ad382=ad388:=(by injection e388);replace hx388_0:=zh_ HB hx388_0;replace hx388_1:=zh_ HB hx388_1
       go_wp2
       repeat (go_quiet (fail);try go_wp2)
       go_roundg kj9
       case measure=>have:=HJ2.out;have:=HK2.out;have:=HJ9.out;omega
       case rel=>exact ⟨(wrap64 (x19_2 + 1)),zo,H',⟨by have:=HJ2.out;have:=HK2.out;have:=HJ9.out;omega⟩,⟨zz40⟩⟩
def impl_isDate.f (a0:Int):Option (Bool):=(impl_within.f a0 0 500).bind fun t394=>(some t394)
theorem impl_isDate.calls (a0:Int) (r:Bool) (w:World) (h:impl_isDate.f a0=some r) :
  Calls Try.prog 73 #[.int .i64 a0] w fun e w'=>e=.returned (.bool r)/\Drawn0 w w':=by
 have H:((impl_within.f a0 0 500).bind fun t394=>(some t394))=some r:=h;clear h;replace H:=gT H;obtain ⟨t394,A2,H⟩:=H;obtain rfl:=oi_ H
 go_enter Try.func73,Try.ntmps73
 go_wp2_with ((refine zgo 4 Try.func53 #[.int .i64 a0,.int .i64 0,.int .i64 500] ?_;(with_reducible refine (impl_within.calls a0 0 500 t394 _ A2.out).mono ?_);rintro e w' ⟨rfl,⟨nd,rfl⟩⟩;refine ⟨_,rfl,?_⟩))
 go_ret
 exact ⟨zz7,zz4⟩
