import Derived.Test.YtndcbfifmafcoaaXFnTailsFirstx0
namespace Go.Proofs.Ytndcbfifmafcoaa.XFnTailsFirst
set_option maxRecDepth 100000
set_option maxHeartbeats 8000000
open Go.RowKit Go.Proofs.YtndcbfifmafcoaaW.PrintWords Go.Proofs.YtndcbfifmafcoaaW.PrintLast Go.Proofs.YtndcbfifmafcoaaW.PrintMore
set_option linter.unusedVariables false
set_option linter.unusedSimpArgs false
mutual
def spec_l7Next.l0:Nat->List (List Bool)->List Int->List Int->Int->Int->Option (Int)
 | 0,_,_,_,_,_=>none
 | k + 1,x0,x1,x2,x3,x9=>if x9<(x1.length:Int) then (if 0<=x9 then (if 0<=(rd x1 x9) then (if (rd x1 x9)<(x2.length:Int) then (if (rd x2 (rd x1 x9))>=0 then (spec_l7Next.l0 k x0 x1 x2 x3 (wrap64 (x9 + 1))) else (spec_l7Next.l1 k x0 x1 x2 x3 x9 true 0)) else (none)) else (none)) else (none)) else (some (-1))
def spec_l7Next.l1:Nat->List (List Bool)->List Int->List Int->Int->Int->Bool->Int->Option (Int)
 | 0,_,_,_,_,_,_,_=>none
 | k + 1,x0,x1,x2,x3,x9,x10,x11=>if x11<(x2.length:Int) then (if 0<=x11 then (if x11<(x0.length:Int) then (if 0<=x9 then (if x9<(x1.length:Int) then (if 0<=(rd x1 x9) then (if (rd x1 x9)<((rd_L5 x0 x11).length:Int) then (if rdOf false (rd_L5 x0 x11) (rd x1 x9)=true then (if (rd x2 x11)<0 then (spec_l7Next.l1 k x0 x1 x2 x3 x9 false (wrap64 (x11 + 1))) else (if (rd x2 x11)>x3 then (spec_l7Next.l1 k x0 x1 x2 x3 x9 false (wrap64 (x11 + 1))) else (spec_l7Next.l1 k x0 x1 x2 x3 x9 x10 (wrap64 (x11 + 1))))) else (spec_l7Next.l1 k x0 x1 x2 x3 x9 x10 (wrap64 (x11 + 1)))) else (none)) else (none)) else (none)) else (none)) else (none)) else (none)) else (if x10=true then (if 0<=x9 then (if x9<(x1.length:Int) then (some (rd x1 x9)) else (none)) else (none)) else (spec_l7Next.l0 k x0 x1 x2 x3 (wrap64 (x9 + 1))))
end
def spec_l7Next.f (k:Nat) (l0:List (List Bool)) (l1:List Int) (l2:List Int) (a3:Int):Option (Int):=spec_l7Next.l0 k l0 l1 l2 a3 0
theorem spec_l7Next.calls (k:Nat) (A0:Option Addr) (c0:Nat) (l0:List (List Bool)) (A1:Option Addr) (c1:Nat) (l1:List Int) (A2:Option Addr) (c2:Nat) (l2:List Int) (a3:Int) (r:Int) (w:World) (hr0:Kd.C (Kd.slice 4 Kd.bool) w A0 l0.length l0) (hc0:l0.length<=c0) (hr1:Kd.C (Kd.int .i64) w A1 l1.length l1) (hc1:l1.length<=c1) (hr2:Kd.C (Kd.int .i64) w A2 l2.length l2) (hc2:l2.length<=c2) (h:spec_l7Next.f k l0 l1 l2 a3=some r) :
  Calls Try.prog 59 #[.slice A0 l0.length c0,.slice A1 l1.length c1,.slice A2 l2.length c2,.int .i64 a3] w fun e w'=>e=.returned (.int .i64 r)/\Drawn0 w w':=by
 have HR0:=ak_ hr0;have HC0:=ak_ hc0;clear hr0 hc0;have HR1:=ak_ hr1;have HC1:=ak_ hc1;clear hr1 hc1;have HR2:=ak_ hr2;have HC2:=ak_ hc2;clear hr2 hc2;have H:(spec_l7Next.l0 k l0 l1 l2 a3 0)=some r:=h;clear h;have H':=ak_ H;clear H
 go_enter Try.func59,Try.ntmps59
 go_wp2
 repeat (go_quiet (fail))
 go_loopg [9] k (fun kq v9 w'=>∃ (x9_1:Int),v9=.int .i64 x9_1/\Aside0 (spec_l7Next.l0 kq l0 l1 l2 a3 x9_1=some r)/\Aside0 (kq<=k)/\Drawn0 w w')
 case atStart=>exact ⟨(0),zo,H',⟨Nat.le_refl _⟩,zz4⟩
 case round=>
  clear H';obtain ⟨x9_1,rfl,HA,HK1,⟨m1,rfl⟩⟩:=hrel;cases gk with
  | zero=>exact absurd HA.out (by simp [spec_l7Next.l0])
  | succ k1=>
   have H:=HA.out;clear HA;simp only [spec_l7Next.l0] at H;replace H:=gND H;rcases H with ⟨c5b0,H⟩ | ⟨c5b0,H⟩
   ·obtain rfl:=oi_ H
    go_wp2
    repeat (go_quiet (fail))
    go_ret
    exact ⟨zz7,zz4⟩
   replace H:=gD H;obtain ⟨c6b0,H⟩:=H;replace H:=gD H;obtain ⟨c7b0,H⟩:=H;replace H:=gD H;obtain ⟨c8b0,H⟩:=H;replace H:=gPD H;rcases H with ⟨c9b0,H⟩ | ⟨c9b0,H⟩
   ·have H':=ak_ H;clear H;obtain ⟨p480,q480,ad480,e480,hx480_0⟩:=ab_ (Kd.at_int HR1.out x9_1);cases e480;obtain ⟨p481,q481,ad481,e481,hx481_0⟩:=ab_ (Kd.at_int HR2.out (rd l1 x9_1));cases e481
    go_wp2
    repeat (go_quiet (fail))
    go_roundg k1
    case measure=>have:=HK1.out;omega
    case rel=>exact ⟨(wrap64 (x9_1 + 1)),zo,H',⟨by have:=HK1.out;omega⟩,zz4⟩
   have H':=ak_ H;clear H;obtain ⟨p480,q480,ad480,e480,hx480_0⟩:=ab_ (Kd.at_int HR1.out x9_1);cases e480;obtain ⟨p481,q481,ad481,e481,hx481_0⟩:=ab_ (Kd.at_int HR2.out (rd l1 x9_1));cases e481
   go_wp2
   repeat (go_quiet (fail))
   go_loopg [10,11] k1 (fun kq v10 v11 w'=>∃ (x10_2:Bool) (x11_2:Int),v10=.bool x10_2/\v11=.int .i64 x11_2/\Aside0 (spec_l7Next.l1 kq l0 l1 l2 a3 x9_1 x10_2 x11_2=some r)/\Aside0 (kq<=k1)/\Drawn0 w w')
   case atStart=>exact ⟨(true),(0),zo,zo,H',⟨Nat.le_refl _⟩,zz4⟩
   case round=>
    clear H';obtain ⟨x10_2,x11_2,rfl,rfl,HA,HK2,⟨m2,rfl⟩⟩:=hrel;cases gk with
    | zero=>exact absurd HA.out (by simp [spec_l7Next.l1])
    | succ k2=>
     have H:=HA.out;clear HA;simp only [spec_l7Next.l1] at H;replace H:=gND H;rcases H with ⟨c10b0,H⟩ | ⟨c10b0,H⟩
     ·replace H:=gNB H;rcases H with ⟨rfl,H⟩ | ⟨rfl,H⟩
      ·have H':=ak_ H;clear H
       go_wp2
       repeat (go_quiet (fail))
       go_roundg k2
       case measure=>have:=HK1.out;have:=HK2.out;omega
       case rel=>exact ⟨(wrap64 (x9_1 + 1)),zo,H',⟨zz5⟩,zz4⟩
      replace H:=gD H;obtain ⟨c22b0,H⟩:=H;replace H:=gD H;obtain ⟨c23b0,H⟩:=H;obtain rfl:=oi_ H;obtain ⟨p487,q487,ad487,e487,hx487_0⟩:=ab_ (Kd.at_int HR1.out x9_1);obtain rfl:ad480=ad487:=(by injection e487)
      go_wp2
      repeat (go_quiet (fail))
      go_ret
      exact ⟨zz7,zz4⟩
     replace H:=gD H;obtain ⟨c11b0,H⟩:=H;replace H:=gD H;obtain ⟨c12b0,H⟩:=H;replace H:=gD H;obtain ⟨c13b0,H⟩:=H;replace H:=gD H;obtain ⟨c14b0,H⟩:=H;replace H:=gD H;obtain ⟨c15b0,H⟩:=H;replace H:=gD H;obtain ⟨c16b0,H⟩:=H;obtain ⟨bq17,hbq17⟩:∃ b_:Bool,b_=(rdOf false (rd_L5 l0 x11_2) (rd l1 x9_1)):=⟨_,rfl⟩;replace H:(if bq17=true then (if (rd l2 x11_2)<0 then (spec_l7Next.l1 k2 l0 l1 l2 a3 x9_1 false (wrap64 (x11_2 + 1))) else (if (rd l2 x11_2)>a3 then (spec_l7Next.l1 k2 l0 l1 l2 a3 x9_1 false (wrap64 (x11_2 + 1))) else (spec_l7Next.l1 k2 l0 l1 l2 a3 x9_1 x10_2 (wrap64 (x11_2 + 1))))) else (spec_l7Next.l1 k2 l0 l1 l2 a3 x9_1 x10_2 (wrap64 (x11_2 + 1))))=some r:=by rw [<-hbq17] at H;exact H
     have Nbq17:=ak_ hbq17;clear hbq17;replace H:=gNB H;rcases H with ⟨rfl,H⟩ | ⟨rfl,H⟩
     ·have H':=ak_ H;clear H;obtain ⟨p482,q482,ad482,A482_0,c482_0,e482,hx482_0,hl482_0,hi482_0⟩:=ab_ (at_L5 HR0.out x11_2);cases e482;have HR482_0:=ak_ hi482_0;have HC482_0:=ak_ hl482_0;clear hi482_0 hl482_0;obtain ⟨p483,q483,ad483,e483,hx483_0⟩:=ab_ (Kd.at_int HR1.out x9_1);obtain rfl:ad480=ad483:=(by injection e483);obtain ⟨p484,q484,ad484,e484,hx484_0⟩:=ab_ (Kd.at_bool HR482_0.out (rd l1 x9_1))
      (try rw [<-Nbq17.out] at hx484_0)
      cases e484
      go_wp2
      repeat (go_quiet (fail);try go_wp2)
      go_roundg k2
      case measure=>have:=HK1.out;have:=HK2.out;omega
      case rel=>exact ⟨(x10_2),(wrap64 (x11_2 + 1)),zo,zo,H',⟨zz5⟩,zz4⟩
     replace H:=gPD H;rcases H with ⟨c19b0,H⟩ | ⟨c19b0,H⟩
     ·have H':=ak_ H;clear H;obtain ⟨p482,q482,ad482,A482_0,c482_0,e482,hx482_0,hl482_0,hi482_0⟩:=ab_ (at_L5 HR0.out x11_2);cases e482;have HR482_0:=ak_ hi482_0;have HC482_0:=ak_ hl482_0;clear hi482_0 hl482_0;obtain ⟨p483,q483,ad483,e483,hx483_0⟩:=ab_ (Kd.at_int HR1.out x9_1);obtain rfl:ad480=ad483:=(by injection e483);obtain ⟨p484,q484,ad484,e484,hx484_0⟩:=ab_ (Kd.at_bool HR482_0.out (rd l1 x9_1))
      (try rw [<-Nbq17.out] at hx484_0)
      cases e484;obtain ⟨p485,q485,ad485,e485,hx485_0⟩:=ab_ (Kd.at_int HR2.out x11_2);obtain rfl:ad481=ad485:=(by injection e485)
      go_wp2
      repeat (go_quiet (fail);try go_wp2)
      go_roundg k2
      case measure=>have:=HK1.out;have:=HK2.out;omega
      case rel=>exact ⟨(false),(wrap64 (x11_2 + 1)),zo,zo,H',⟨zz5⟩,zz4⟩
     replace H:=gPD H;rcases H with ⟨c20b0,H⟩ | ⟨c20b0,H⟩
     ·have H':=ak_ H;clear H;obtain ⟨p482,q482,ad482,A482_0,c482_0,e482,hx482_0,hl482_0,hi482_0⟩:=ab_ (at_L5 HR0.out x11_2);cases e482;have HR482_0:=ak_ hi482_0;have HC482_0:=ak_ hl482_0;clear hi482_0 hl482_0;obtain ⟨p483,q483,ad483,e483,hx483_0⟩:=ab_ (Kd.at_int HR1.out x9_1);obtain rfl:ad480=ad483:=(by injection e483);obtain ⟨p484,q484,ad484,e484,hx484_0⟩:=ab_ (Kd.at_bool HR482_0.out (rd l1 x9_1))
      (try rw [<-Nbq17.out] at hx484_0)
      cases e484;obtain ⟨p485,q485,ad485,e485,hx485_0⟩:=ab_ (Kd.at_int HR2.out x11_2);obtain rfl:ad481=ad485:=(by injection e485);obtain ⟨p486,q486,ad486,e486,hx486_0⟩:=ab_ (Kd.at_int HR2.out x11_2);obtain rfl:ad481=ad486:=(by injection e486)
      go_wp2
      repeat (go_quiet (fail);try go_wp2)
      go_roundg k2
      case measure=>have:=HK1.out;have:=HK2.out;omega
      case rel=>exact ⟨(false),(wrap64 (x11_2 + 1)),zo,zo,H',⟨zz5⟩,zz4⟩
     have H':=ak_ H;clear H;obtain ⟨p482,q482,ad482,A482_0,c482_0,e482,hx482_0,hl482_0,hi482_0⟩:=ab_ (at_L5 HR0.out x11_2);cases e482;have HR482_0:=ak_ hi482_0;have HC482_0:=ak_ hl482_0;clear hi482_0 hl482_0;obtain ⟨p483,q483,ad483,e483,hx483_0⟩:=ab_ (Kd.at_int HR1.out x9_1);obtain rfl:ad480=ad483:=(by injection e483);obtain ⟨p484,q484,ad484,e484,hx484_0⟩:=ab_ (Kd.at_bool HR482_0.out (rd l1 x9_1))
     (try rw [<-Nbq17.out] at hx484_0)
     cases e484;obtain ⟨p485,q485,ad485,e485,hx485_0⟩:=ab_ (Kd.at_int HR2.out x11_2);obtain rfl:ad481=ad485:=(by injection e485);obtain ⟨p486,q486,ad486,e486,hx486_0⟩:=ab_ (Kd.at_int HR2.out x11_2);obtain rfl:ad481=ad486:=(by injection e486)
     go_wp2
     repeat (go_quiet (fail);try go_wp2)
     go_roundg k2
     case measure=>have:=HK1.out;have:=HK2.out;omega
     case rel=>exact ⟨(x10_2),(wrap64 (x11_2 + 1)),zo,zo,H',⟨zz5⟩,zz4⟩
def spec_l7Soon.l0:Nat->List Int->Int->Int->Int->Option (Int)
 | 0,_,_,_,_=>none
 | k + 1,x0,x1,x5,x6=>if x6<(x0.length:Int) then (if 0<=x6 then (if (rd x0 x6)>x1 then (if x5<0 then (spec_l7Soon.l0 k x0 x1 (rd x0 x6) (wrap64 (x6 + 1))) else (if (rd x0 x6)<x5 then (spec_l7Soon.l0 k x0 x1 (rd x0 x6) (wrap64 (x6 + 1))) else (spec_l7Soon.l0 k x0 x1 x5 (wrap64 (x6 + 1))))) else (spec_l7Soon.l0 k x0 x1 x5 (wrap64 (x6 + 1)))) else (none)) else (some x5)
def spec_l7Soon.f (k:Nat) (l0:List Int) (a1:Int):Option (Int):=spec_l7Soon.l0 k l0 a1 (-1) 0
theorem spec_l7Soon.calls (k:Nat) (A0:Option Addr) (c0:Nat) (l0:List Int) (a1:Int) (r:Int) (w:World) (hr0:Kd.C (Kd.int .i64) w A0 l0.length l0) (hc0:l0.length<=c0) (h:spec_l7Soon.f k l0 a1=some r) :
  Calls Try.prog 60 #[.slice A0 l0.length c0,.int .i64 a1] w fun e w'=>e=.returned (.int .i64 r)/\Drawn0 w w':=by
 have HR0:=ak_ hr0;have HC0:=ak_ hc0;clear hr0 hc0;have H:(spec_l7Soon.l0 k l0 a1 (-1) 0)=some r:=h;clear h;have H':=ak_ H;clear H
 go_enter Try.func60,Try.ntmps60
 go_wp2
 go_loopg [5,6] k (fun kq v5 v6 w'=>∃ (x5_1:Int) (x6_1:Int),v5=.int .i64 x5_1/\v6=.int .i64 x6_1/\Aside0 (spec_l7Soon.l0 kq l0 a1 x5_1 x6_1=some r)/\Aside0 (kq<=k)/\Drawn0 w w')
 case atStart=>exact ⟨((-1)),(0),zo,zo,H',⟨Nat.le_refl _⟩,zz4⟩
 case round=>
  clear H';obtain ⟨x5_1,x6_1,rfl,rfl,HA,HK1,⟨m1,rfl⟩⟩:=hrel;cases gk with
  | zero=>exact absurd HA.out (by simp [spec_l7Soon.l0])
  | succ k1=>
   have H:=HA.out;clear HA;simp only [spec_l7Soon.l0] at H;replace H:=gND H;rcases H with ⟨c3b0,H⟩ | ⟨c3b0,H⟩
   ·obtain rfl:=oi_ H
    go_wp2
    go_ret
    exact ⟨zz7,zz4⟩
   replace H:=gD H;obtain ⟨c4b0,H⟩:=H;replace H:=gND H;rcases H with ⟨c5b0,H⟩ | ⟨c5b0,H⟩
   ·have H':=ak_ H;clear H;obtain ⟨p488,q488,ad488,e488,hx488_0⟩:=ab_ (Kd.at_int HR0.out x6_1);cases e488
    go_wp2
    go_roundg k1
    case measure=>have:=HK1.out;omega
    case rel=>exact ⟨(x5_1),(wrap64 (x6_1 + 1)),zo,zo,H',⟨by have:=HK1.out;omega⟩,zz4⟩
   replace H:=gPD H;rcases H with ⟨c6b0,H⟩ | ⟨c6b0,H⟩
   ·have H':=ak_ H;clear H;obtain ⟨p488,q488,ad488,e488,hx488_0⟩:=ab_ (Kd.at_int HR0.out x6_1);cases e488;obtain ⟨p489,q489,ad489,e489,hx489_0⟩:=ab_ (Kd.at_int HR0.out x6_1);obtain rfl:ad488=ad489:=(by injection e489)
    go_wp2
    go_roundg k1
    case measure=>have:=HK1.out;omega
    case rel=>exact ⟨(rd l0 x6_1),(wrap64 (x6_1 + 1)),zo,zo,H',⟨by have:=HK1.out;omega⟩,zz4⟩
   replace H:=gND H;rcases H with ⟨c7b0,H⟩ | ⟨c7b0,H⟩
   ·have H':=ak_ H;clear H;obtain ⟨p488,q488,ad488,e488,hx488_0⟩:=ab_ (Kd.at_int HR0.out x6_1);cases e488;obtain ⟨p490,q490,ad490,e490,hx490_0⟩:=ab_ (Kd.at_int HR0.out x6_1);obtain rfl:ad488=ad490:=(by injection e490)
    go_wp2
    go_roundg k1
    case measure=>have:=HK1.out;omega
    case rel=>exact ⟨(x5_1),(wrap64 (x6_1 + 1)),zo,zo,H',⟨by have:=HK1.out;omega⟩,zz4⟩
   have H':=ak_ H;clear H;obtain ⟨p488,q488,ad488,e488,hx488_0⟩:=ab_ (Kd.at_int HR0.out x6_1);cases e488;obtain ⟨p490,q490,ad490,e490,hx490_0⟩:=ab_ (Kd.at_int HR0.out x6_1);obtain rfl:ad488=ad490:=(by injection e490);obtain ⟨p491,q491,ad491,e491,hx491_0⟩:=ab_ (Kd.at_int HR0.out x6_1);obtain rfl:ad488=ad491:=(by injection e491)
   go_wp2
   go_roundg k1
   case measure=>have:=HK1.out;omega
   case rel=>exact ⟨(rd l0 x6_1),(wrap64 (x6_1 + 1)),zo,zo,H',⟨by have:=HK1.out;omega⟩,zz4⟩
