import Derived.Test.YtndcbfifmafcoaaXFnTailsFirstx7
namespace Go.Proofs.Ytndcbfifmafcoaa.XFnTailsFirst
set_option maxRecDepth 100000
set_option maxHeartbeats 8000000
open Go.RowKit Go.Proofs.YtndcbfifmafcoaaW.PrintWords Go.Proofs.YtndcbfifmafcoaaW.PrintLast Go.Proofs.YtndcbfifmafcoaaW.PrintMore
set_option linter.unusedVariables false
set_option linter.unusedSimpArgs false
def impl_IsJobs.l0:Nat->List (S44)->Int->Int->Option (Bool)
 | 0,_,_,_=>none
 | k + 1,x8,x9,x10=>if x10<x9 then (if 0<=x10 then (if x10<(x8.length:Int) then ((impl_within.f ((rd_T44 x8 x10).f0) 1 50).bind fun t397=>(if t397=true then ((impl_within.f ((rd_T44 x8 x10).f1) 0 50).bind fun t398=>(if t398=true then ((impl_isDate.f ((rd_T44 x8 x10).f2)).bind fun t399=>(if t399=true then ((impl_isDate.f ((rd_T44 x8 x10).f3)).bind fun t400=>(if t400=true then (impl_IsJobs.l0 k x8 x9 (wrap64 (x10 + 1))) else (some false))) else (some false))) else (some false))) else (some false))) else (none)) else (none)) else (some true)
def impl_IsJobs.f (k:Nat) (l0:List (S44)):Option (Bool):=if (l0.length:Int)>8 then (some false) else (impl_IsJobs.l0 k l0 (l0.length:Int) 0)
theorem impl_IsJobs.calls (k:Nat) (A0:Option Addr) (c0:Nat) (l0:List (S44)) (r:Bool) (w:World) (hr0:Kd.C k44 w A0 l0.length l0) (hc0:l0.length<=c0) (h:impl_IsJobs.f k l0=some r) :
  Calls Try.prog 75 #[.slice A0 l0.length c0] w fun e w'=>e=.returned (.bool r)/\Below w.heap.size w w':=by
 have hu44:=Try.underlying44;have HR0:=ak_ hr0;have HC0:=ak_ hc0;clear hr0 hc0;have HB:=ak_ (Below.refl w.heap.size w);have H:(if (l0.length:Int)>8 then (some false) else (impl_IsJobs.l0 k l0 (l0.length:Int) 0))=some r:=h;clear h;replace H:=gP H;rcases H with ⟨c2,H⟩ | ⟨c2,H⟩
 ·have c2b0:=decide_eq_true c2;have c2b1:decide (8<l0.length)=true:=decide_eq_true (by omega);clear c2;obtain rfl:=oi_ H
  go_enter Try.func75,Try.ntmps75
  go_wp2
  go_ret
  exact ⟨zz3,zb⟩
 have c2b0:=decide_eq_false c2;have c2b1:decide (8<l0.length)=false:=decide_eq_false (by omega);clear c2;have H':=ak_ H;clear H
 go_enter Try.func75,Try.ntmps75
 go_wp2
 go_loopg [10] k (fun kq v10 w'=>∃ (x10_1:Int),v10=.int .i64 x10_1/\Aside0 (impl_IsJobs.l0 kq l0 (l0.length:Int) x10_1=some r)/\Aside0 (kq<=k)/\Aside0 (Below w.heap.size w w'))
 case atStart=>exact ⟨(0),zo,H',⟨Nat.le_refl _⟩,⟨zb⟩⟩
 case round=>
  clear H';obtain ⟨x10_1,rfl,HA,HK1,HB⟩:=hrel;cases gk with
  | zero=>exact absurd HA.out (by simp [impl_IsJobs.l0])
  | succ k1=>
   have H:=HA.out;clear HA;simp only [impl_IsJobs.l0] at H;replace H:=gND H;rcases H with ⟨c3b0,H⟩ | ⟨c3b0,H⟩
   ·obtain rfl:=oi_ H
    go_wp2
    go_ret
    exact ⟨zz3,zb⟩
   replace H:=gD H;obtain ⟨c4b0,H⟩:=H;replace H:=gD H;obtain ⟨c5b0,H⟩:=H;replace H:=gT H;obtain ⟨t397,A6,H⟩:=H;replace H:=gNB H;rcases H with ⟨rfl,H⟩ | ⟨rfl,H⟩
   ·obtain rfl:=oi_ H;obtain ⟨p395,q395,ad395,e395,hx395_0,hx395_1,hx395_2,hx395_3⟩:=ab_ (at_T44 (Kd.C_below HR0.out HB.out) x10_1);cases e395
    go_wp2_with (first|((with_reducible refine gate_dst (N:=4) rfl ?_);refine bxe_ (N:=4) (cs:=#[.int .i64 0,.int .i64 0,.int .i64 0,.int .i64 0]) (t:=44) ?_;intro gb396 hg w22 hbox hb;have BK396:=ak_ (hbox);have GW396:=gw_ w hg;have GE396:=gw_ w hg;replace HB:=zb1 hb;clear hb hbox hg;obtain ⟨hcz23_0,hcz23_1,hcz23_2,hcz23_3,hfz23_0,hfz23_1,hfz23_2,hfz23_3⟩:=zk4 BK396.out)|(refine zgo 16 Try.func53 #[.int .i64 ((rd_T44 l0 x10_1).f0),.int .i64 1,.int .i64 50] ?_;(with_reducible refine (impl_within.calls ((rd_T44 l0 x10_1).f0) 1 50 false _ A6.out).mono ?_);rintro e w' ⟨rfl,⟨nd,rfl⟩⟩;refine ⟨_,rfl,?_⟩))
    go_ret
    exact ⟨zz3,zz54⟩
   replace H:=gT H;obtain ⟨t398,A8,H⟩:=H;replace H:=gNB H;rcases H with ⟨rfl,H⟩ | ⟨rfl,H⟩
   ·obtain rfl:=oi_ H;obtain ⟨p395,q395,ad395,e395,hx395_0,hx395_1,hx395_2,hx395_3⟩:=ab_ (at_T44 (Kd.C_below HR0.out HB.out) x10_1);cases e395
    go_wp2_with (first|((with_reducible refine gate_dst (N:=4) rfl ?_);refine bxe_ (N:=4) (cs:=#[.int .i64 0,.int .i64 0,.int .i64 0,.int .i64 0]) (t:=44) ?_;intro gb396 hg w20 hbox hb;have BK396:=ak_ (hbox);have GW396:=gw_ w hg;have GE396:=gw_ w hg;replace HB:=zb1 hb;clear hb hbox hg;obtain ⟨hcz21_0,hcz21_1,hcz21_2,hcz21_3,hfz21_0,hfz21_1,hfz21_2,hfz21_3⟩:=zk4 BK396.out)|(refine zgo 16 Try.func53 #[.int .i64 ((rd_T44 l0 x10_1).f0),.int .i64 1,.int .i64 50] ?_;(with_reducible refine (impl_within.calls ((rd_T44 l0 x10_1).f0) 1 50 true _ A6.out).mono ?_);rintro e w' ⟨rfl,⟨nd,rfl⟩⟩;refine ⟨_,rfl,?_⟩)|(go_at_call 53;(with_reducible refine (impl_within.calls ((rd_T44 l0 x10_1).f1) 0 50 false _ A8.out).mono ?_);rintro e w' ⟨rfl,⟨nd,rfl⟩⟩))
    go_ret
    exact ⟨zz3,zz54⟩
   replace H:=gT H;obtain ⟨t399,A10,H⟩:=H;replace H:=gNB H;rcases H with ⟨rfl,H⟩ | ⟨rfl,H⟩
   ·obtain rfl:=oi_ H;obtain ⟨p395,q395,ad395,e395,hx395_0,hx395_1,hx395_2,hx395_3⟩:=ab_ (at_T44 (Kd.C_below HR0.out HB.out) x10_1);cases e395
    go_wp2_with (first|((with_reducible refine gate_dst (N:=4) rfl ?_);refine bxe_ (N:=4) (cs:=#[.int .i64 0,.int .i64 0,.int .i64 0,.int .i64 0]) (t:=44) ?_;intro gb396 hg w18 hbox hb;have BK396:=ak_ (hbox);have GW396:=gw_ w hg;have GE396:=gw_ w hg;replace HB:=zb1 hb;clear hb hbox hg;obtain ⟨hcz19_0,hcz19_1,hcz19_2,hcz19_3,hfz19_0,hfz19_1,hfz19_2,hfz19_3⟩:=zk4 BK396.out)|(refine zgo 16 Try.func53 #[.int .i64 ((rd_T44 l0 x10_1).f0),.int .i64 1,.int .i64 50] ?_;(with_reducible refine (impl_within.calls ((rd_T44 l0 x10_1).f0) 1 50 true _ A6.out).mono ?_);rintro e w' ⟨rfl,⟨nd,rfl⟩⟩;refine ⟨_,rfl,?_⟩)|(go_at_call 53;(with_reducible refine (impl_within.calls ((rd_T44 l0 x10_1).f1) 0 50 true _ A8.out).mono ?_);rintro e w' ⟨rfl,⟨nd,rfl⟩⟩)|(go_at_call 73;(with_reducible refine (impl_isDate.calls ((rd_T44 l0 x10_1).f2) false _ A10.out).mono ?_);rintro e w' ⟨rfl,⟨nd,rfl⟩⟩))
    go_ret
    exact ⟨zz3,zz54⟩
   replace H:=gT H;obtain ⟨t400,A12,H⟩:=H;replace H:=gPB H;rcases H with ⟨rfl,H⟩ | ⟨rfl,H⟩
   ·have H':=ak_ H;clear H;obtain ⟨p395,q395,ad395,e395,hx395_0,hx395_1,hx395_2,hx395_3⟩:=ab_ (at_T44 (Kd.C_below HR0.out HB.out) x10_1);cases e395
    go_wp2_with (first|((with_reducible refine gate_dst (N:=4) rfl ?_);refine bxe_ (N:=4) (cs:=#[.int .i64 0,.int .i64 0,.int .i64 0,.int .i64 0]) (t:=44) ?_;intro gb396 hg w14 hbox hb;have BK396:=ak_ (hbox);have GW396:=gw_ w hg;have GE396:=gw_ w hg;replace HB:=zb1 hb;clear hb hbox hg;obtain ⟨hcz15_0,hcz15_1,hcz15_2,hcz15_3,hfz15_0,hfz15_1,hfz15_2,hfz15_3⟩:=zk4 BK396.out)|(refine zgo 16 Try.func53 #[.int .i64 ((rd_T44 l0 x10_1).f0),.int .i64 1,.int .i64 50] ?_;(with_reducible refine (impl_within.calls ((rd_T44 l0 x10_1).f0) 1 50 true _ A6.out).mono ?_);rintro e w' ⟨rfl,⟨nd,rfl⟩⟩;refine ⟨_,rfl,?_⟩)|(go_at_call 53;(with_reducible refine (impl_within.calls ((rd_T44 l0 x10_1).f1) 0 50 true _ A8.out).mono ?_);rintro e w' ⟨rfl,⟨nd,rfl⟩⟩)|(go_at_call 73;(with_reducible refine (impl_isDate.calls ((rd_T44 l0 x10_1).f2) true _ A10.out).mono ?_);rintro e w' ⟨rfl,⟨nd,rfl⟩⟩)|(go_at_call 73;(with_reducible refine (impl_isDate.calls ((rd_T44 l0 x10_1).f3) true _ A12.out).mono ?_);rintro e w' ⟨rfl,⟨nd,rfl⟩⟩))
    go_roundg k1
    case measure=>have:=HK1.out;omega
    case rel=>exact ⟨(wrap64 (x10_1 + 1)),zo,H',⟨by have:=HK1.out;omega⟩,⟨zz54⟩⟩
   obtain rfl:=oi_ H;obtain ⟨p395,q395,ad395,e395,hx395_0,hx395_1,hx395_2,hx395_3⟩:=ab_ (at_T44 (Kd.C_below HR0.out HB.out) x10_1);cases e395
   go_wp2_with (first|((with_reducible refine gate_dst (N:=4) rfl ?_);refine bxe_ (N:=4) (cs:=#[.int .i64 0,.int .i64 0,.int .i64 0,.int .i64 0]) (t:=44) ?_;intro gb396 hg w16 hbox hb;have BK396:=ak_ (hbox);have GW396:=gw_ w hg;have GE396:=gw_ w hg;replace HB:=zb1 hb;clear hb hbox hg;obtain ⟨hcz17_0,hcz17_1,hcz17_2,hcz17_3,hfz17_0,hfz17_1,hfz17_2,hfz17_3⟩:=zk4 BK396.out)|(refine zgo 16 Try.func53 #[.int .i64 ((rd_T44 l0 x10_1).f0),.int .i64 1,.int .i64 50] ?_;(with_reducible refine (impl_within.calls ((rd_T44 l0 x10_1).f0) 1 50 true _ A6.out).mono ?_);rintro e w' ⟨rfl,⟨nd,rfl⟩⟩;refine ⟨_,rfl,?_⟩)|(go_at_call 53;(with_reducible refine (impl_within.calls ((rd_T44 l0 x10_1).f1) 0 50 true _ A8.out).mono ?_);rintro e w' ⟨rfl,⟨nd,rfl⟩⟩)|(go_at_call 73;(with_reducible refine (impl_isDate.calls ((rd_T44 l0 x10_1).f2) true _ A10.out).mono ?_);rintro e w' ⟨rfl,⟨nd,rfl⟩⟩)|(go_at_call 73;(with_reducible refine (impl_isDate.calls ((rd_T44 l0 x10_1).f3) false _ A12.out).mono ?_);rintro e w' ⟨rfl,⟨nd,rfl⟩⟩))
   go_ret
   exact ⟨zz3,zz54⟩
def impl_isPlain.l0:Nat->List (S44)->Int->Int->Option (Bool)
 | 0,_,_,_=>none
 | k + 1,x5,x6,x7=>if x7<x6 then (if 0<=x7 then (if x7<(x5.length:Int) then (if ((rd_T44 x5 x7).f2)=0 then (impl_isPlain.l0 k x5 x6 (wrap64 (x7 + 1))) else (some false)) else (none)) else (none)) else (some true)
def impl_isPlain.f (k:Nat) (l0:List (S44)):Option (Bool):=impl_isPlain.l0 k l0 (l0.length:Int) 0
theorem impl_isPlain.calls (k:Nat) (A0:Option Addr) (c0:Nat) (l0:List (S44)) (r:Bool) (w:World) (hr0:Kd.C k44 w A0 l0.length l0) (hc0:l0.length<=c0) (h:impl_isPlain.f k l0=some r) :
  Calls Try.prog 76 #[.slice A0 l0.length c0] w fun e w'=>e=.returned (.bool r)/\Below w.heap.size w w':=by
 have hu44:=Try.underlying44;have HR0:=ak_ hr0;have HC0:=ak_ hc0;clear hr0 hc0;have HB:=ak_ (Below.refl w.heap.size w);have H:(impl_isPlain.l0 k l0 (l0.length:Int) 0)=some r:=h;clear h;have H':=ak_ H;clear H
 go_enter Try.func76,Try.ntmps76
 go_wp2
 go_loopg [7] k (fun kq v7 w'=>∃ (x7_1:Int),v7=.int .i64 x7_1/\Aside0 (impl_isPlain.l0 kq l0 (l0.length:Int) x7_1=some r)/\Aside0 (kq<=k)/\Aside0 (Below w.heap.size w w'))
 case atStart=>exact ⟨(0),zo,H',⟨Nat.le_refl _⟩,⟨zb⟩⟩
 case round=>
  clear H';obtain ⟨x7_1,rfl,HA,HK1,HB⟩:=hrel;cases gk with
  | zero=>exact absurd HA.out (by simp [impl_isPlain.l0])
  | succ k1=>
   have H:=HA.out;clear HA;simp only [impl_isPlain.l0] at H;replace H:=gND H;rcases H with ⟨c2b0,H⟩ | ⟨c2b0,H⟩
   ·obtain rfl:=oi_ H
    go_wp2
    go_ret
    exact ⟨zz3,zb⟩
   replace H:=gD H;obtain ⟨c3b0,H⟩:=H;replace H:=gD H;obtain ⟨c4b0,H⟩:=H;replace H:=gN H;rcases H with ⟨c5,H⟩ | ⟨c5,H⟩
   ·have c5b0:(((rd_T44 l0 x7_1).f2) == 0)=false:=beq_eq_false_iff_ne.mpr c5;have c5b1:(((rd_T44 l0 x7_1).f2) != 0)=true:=bne_iff_ne.mpr c5;obtain rfl:=oi_ H;obtain ⟨p401,q401,ad401,e401,hx401_0,hx401_1,hx401_2,hx401_3⟩:=ab_ (at_T44 (Kd.C_below HR0.out HB.out) x7_1);cases e401
    go_wp2_with (((with_reducible refine gate_dst (N:=4) rfl ?_);refine bxe_ (N:=4) (cs:=#[.int .i64 0,.int .i64 0,.int .i64 0,.int .i64 0]) (t:=44) ?_;intro gb402 hg w8 hbox hb;have BK402:=ak_ (hbox);have GW402:=gw_ w hg;have GE402:=gw_ w hg;replace HB:=zb1 hb;clear hb hbox hg;obtain ⟨hcz9_0,hcz9_1,hcz9_2,hcz9_3,hfz9_0,hfz9_1,hfz9_2,hfz9_3⟩:=zk4 BK402.out))
    go_ret
    exact ⟨zz3,by repeat ((with_reducible first|exact HB.out|refine below_set ?_ GE402.out))⟩
   have c5b0:(((rd_T44 l0 x7_1).f2) == 0)=true:=beq_iff_eq.mpr c5;have c5b1:(((rd_T44 l0 x7_1).f2) != 0)=false:=bne_eq_false_iff_eq.mpr c5;clear c5;have H':=ak_ H;clear H;obtain ⟨p401,q401,ad401,e401,hx401_0,hx401_1,hx401_2,hx401_3⟩:=ab_ (at_T44 (Kd.C_below HR0.out HB.out) x7_1);cases e401
   go_wp2_with (((with_reducible refine gate_dst (N:=4) rfl ?_);refine bxe_ (N:=4) (cs:=#[.int .i64 0,.int .i64 0,.int .i64 0,.int .i64 0]) (t:=44) ?_;intro gb402 hg w6 hbox hb;have BK402:=ak_ (hbox);have GW402:=gw_ w hg;have GE402:=gw_ w hg;replace HB:=zb1 hb;clear hb hbox hg;obtain ⟨hcz7_0,hcz7_1,hcz7_2,hcz7_3,hfz7_0,hfz7_1,hfz7_2,hfz7_3⟩:=zk4 BK402.out))
   go_roundg k1
   case measure=>have:=HK1.out;omega
   case rel=>exact ⟨(wrap64 (x7_1 + 1)),zo,H',⟨by have:=HK1.out;omega⟩,⟨by repeat ((with_reducible first|exact HB.out|refine below_set ?_ GE402.out))⟩⟩
def impl_IsPlain.f (k:Nat) (l0:List (S44)):Option (Bool):=(impl_IsJobs.f k l0).bind fun t403=>(if t403=true then ((impl_isPlain.f k l0).bind fun t404=>(some t404)) else (some false))
theorem impl_IsPlain.calls (k:Nat) (A0:Option Addr) (c0:Nat) (l0:List (S44)) (r:Bool) (w:World) (hr0:Kd.C k44 w A0 l0.length l0) (hc0:l0.length<=c0) (h:impl_IsPlain.f k l0=some r) :
  Calls Try.prog 52 #[.slice A0 l0.length c0] w fun e w'=>e=.returned (.bool r)/\Below w.heap.size w w':=by
 have HR0:=ak_ hr0;have HC0:=ak_ hc0;clear hr0 hc0;have HB:=ak_ (Below.refl w.heap.size w);have H:((impl_IsJobs.f k l0).bind fun t403=>(if t403=true then ((impl_isPlain.f k l0).bind fun t404=>(some t404)) else (some false)))=some r:=h;clear h;replace H:=gT H;obtain ⟨t403,A2,H⟩:=H;replace H:=gNB H;rcases H with ⟨rfl,H⟩ | ⟨rfl,H⟩
 ·obtain rfl:=oi_ H
  go_enter Try.func52,Try.ntmps52
  go_wp2_with ((refine zgo 4 Try.func75 #[.slice A0 l0.length c0] ?_;(with_reducible refine (impl_IsJobs.calls k _ _ l0 false _ ?side1 ?side2 A2.out).mono ?_);(case side1=>exact zC HR0.out);(case side2=>exact HC0.out);rintro e w7 ⟨rfl,hb⟩;refine ⟨_,rfl,?_⟩;replace HB:=zb1 hb;(try clear hb)))
  go_ret
  exact ⟨zz3,zb⟩
 replace H:=gT H;obtain ⟨t404,A4,H⟩:=H;obtain rfl:=oi_ H
 go_enter Try.func52,Try.ntmps52
 go_wp2_with (first|(refine zgo 4 Try.func75 #[.slice A0 l0.length c0] ?_;(with_reducible refine (impl_IsJobs.calls k _ _ l0 true _ ?side1 ?side2 A2.out).mono ?_);(case side1=>exact zC HR0.out);(case side2=>exact HC0.out);rintro e w5 ⟨rfl,hb⟩;refine ⟨_,rfl,?_⟩;replace HB:=zb1 hb;(try clear hb))|(go_at_call 76;(with_reducible refine (impl_isPlain.calls k _ _ l0 t404 _ ?side1 ?side2 A4.out).mono ?_);(case side1=>exact zC (Kd.C_below HR0.out HB.out));(case side2=>exact HC0.out);rintro e w6 ⟨rfl,hb⟩;replace HB:=zb1 hb;(try clear hb)))
 go_ret
 exact ⟨zz3,zb⟩
def impl_isParallel.f (k:Nat) (l0:List (S44)) (a1:Int) (l2:List (S42)):Option (Bool):=(impl_IsPlain.f k l0).bind fun t405=>(if t405=true then ((impl_within.f a1 1 4).bind fun t406=>(if t406=true then ((impl_IsPrecedence.f k (l0.length:Int) l2).bind fun t407=>(some t407)) else (some false))) else (some false))
theorem impl_isParallel.calls (k:Nat) (A0:Option Addr) (c0:Nat) (l0:List (S44)) (a1:Int) (A2:Option Addr) (c2:Nat) (l2:List (S42)) (r:Bool) (w:World) (hr0:Kd.C k44 w A0 l0.length l0) (hc0:l0.length<=c0) (hr2:Kd.C k42 w A2 l2.length l2) (hc2:l2.length<=c2) (h:impl_isParallel.f k l0 a1 l2=some r) :
  Calls Try.prog 26 #[.slice A0 l0.length c0,.int .i64 a1,.slice A2 l2.length c2] w fun e w'=>e=.returned (.bool r)/\Below w.heap.size w w':=by
 have HR0:=ak_ hr0;have HC0:=ak_ hc0;clear hr0 hc0;have HR2:=ak_ hr2;have HC2:=ak_ hc2;clear hr2 hc2;have HB:=ak_ (Below.refl w.heap.size w);have H:((impl_IsPlain.f k l0).bind fun t405=>(if t405=true then ((impl_within.f a1 1 4).bind fun t406=>(if t406=true then ((impl_IsPrecedence.f k (l0.length:Int) l2).bind fun t407=>(some t407)) else (some false))) else (some false)))=some r:=h;clear h;replace H:=gT H;obtain ⟨t405,A4,H⟩:=H;replace H:=gNB H;rcases H with ⟨rfl,H⟩ | ⟨rfl,H⟩
 ·obtain rfl:=oi_ H
  go_enter Try.func26,Try.ntmps26
  go_wp2_with ((refine zgo 8 Try.func52 #[.slice A0 l0.length c0] ?_;(with_reducible refine (impl_IsPlain.calls k _ _ l0 false _ ?side1 ?side2 A4.out).mono ?_);(case side1=>exact zC HR0.out);(case side2=>exact HC0.out);rintro e w12 ⟨rfl,hb⟩;refine ⟨_,rfl,?_⟩;replace HB:=zb1 hb;(try clear hb)))
  go_ret
  exact ⟨zz3,zb⟩
 replace H:=gT H;obtain ⟨t406,A6,H⟩:=H;replace H:=gNB H;rcases H with ⟨rfl,H⟩ | ⟨rfl,H⟩
 ·obtain rfl:=oi_ H
  go_enter Try.func26,Try.ntmps26
  go_wp2_with (first|(refine zgo 8 Try.func52 #[.slice A0 l0.length c0] ?_;(with_reducible refine (impl_IsPlain.calls k _ _ l0 true _ ?side1 ?side2 A4.out).mono ?_);(case side1=>exact zC HR0.out);(case side2=>exact HC0.out);rintro e w11 ⟨rfl,hb⟩;refine ⟨_,rfl,?_⟩;replace HB:=zb1 hb;(try clear hb))|(go_at_call 53;(with_reducible refine (impl_within.calls a1 1 4 false _ A6.out).mono ?_);rintro e w' ⟨rfl,⟨nd,rfl⟩⟩))
  go_ret
  exact ⟨zz3,zb⟩
 replace H:=gT H;obtain ⟨t407,A8,H⟩:=H;obtain rfl:=oi_ H
 go_enter Try.func26,Try.ntmps26
 go_wp2_with (first|(refine zgo 8 Try.func52 #[.slice A0 l0.length c0] ?_;(with_reducible refine (impl_IsPlain.calls k _ _ l0 true _ ?side1 ?side2 A4.out).mono ?_);(case side1=>exact zC HR0.out);(case side2=>exact HC0.out);rintro e w9 ⟨rfl,hb⟩;refine ⟨_,rfl,?_⟩;replace HB:=zb1 hb;(try clear hb))|(go_at_call 53;(with_reducible refine (impl_within.calls a1 1 4 true _ A6.out).mono ?_);rintro e w' ⟨rfl,⟨nd,rfl⟩⟩)|(go_at_call 41;(with_reducible refine (impl_IsPrecedence.calls k (l0.length:Int) _ _ l2 t407 _ ?side1 ?side2 A8.out).mono ?_);(case side1=>exact zC (Kd.C_below HR2.out zb));(case side2=>exact HC2.out);rintro e w10 ⟨rfl,hb⟩;replace HB:=zb1 hb;(try clear hb)))
 go_ret
 exact ⟨zz3,zb⟩
