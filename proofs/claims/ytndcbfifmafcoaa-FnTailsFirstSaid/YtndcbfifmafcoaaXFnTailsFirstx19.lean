import Derived.Test.YtndcbfifmafcoaaXFnTailsFirstx16
import Derived.Test.YtndcbfifmafcoaaXFnTailsFirstx18
namespace Go.Proofs.Ytndcbfifmafcoaa.XFnTailsFirst
set_option maxRecDepth 100000
set_option maxHeartbeats 8000000
open Go.RowKit Go.Proofs.YtndcbfifmafcoaaW.PrintWords Go.Proofs.YtndcbfifmafcoaaW.PrintLast Go.Proofs.YtndcbfifmafcoaaW.PrintMore
set_option linter.unusedVariables false
set_option linter.unusedSimpArgs false
def spec_l4Good.l0:Nat->Int->List (List Bool)->Int->Option (Bool)
 | 0,_,_,_=>none
 | k + 1,x0,x5,x6=>if x6<x0 then (if 0<=x6 then (if x6<(x5.length:Int) then (if x6<((rd_L5 x5 x6).length:Int) then (if rdOf false (rd_L5 x5 x6) x6=true then (some false) else (spec_l4Good.l0 k x0 x5 (wrap64 (x6 + 1)))) else (none)) else (none)) else (none)) else (some true)
def spec_l4Good.f (k:Nat) (a0:Int) (l1:List (S42)):Option (Bool):=(spec_l4Pairs.f k a0 l1).bind fun t462=>(if t462=true then ((spec_l4Table.f k a0 l1).bind fun t463=>(spec_l4Good.l0 k a0 t463 0)) else (some false))
theorem spec_l4Good.calls (k:Nat) (a0:Int) (A1:Option Addr) (c1:Nat) (l1:List (S42)) (r:Bool) (w:World) (hr1:Kd.C k42 w A1 l1.length l1) (hc1:l1.length<=c1) (h:spec_l4Good.f k a0 l1=some r) :
  Calls Try.prog 43 #[.int .i64 a0,.slice A1 l1.length c1] w fun e w'=>e=.returned (.bool r)/\Below w.heap.size w w':=by
 have HR1:=ak_ hr1;have HC1:=ak_ hc1;clear hr1 hc1;have HB:=ak_ (Below.refl w.heap.size w);have H:((spec_l4Pairs.f k a0 l1).bind fun t462=>(if t462=true then ((spec_l4Table.f k a0 l1).bind fun t463=>(spec_l4Good.l0 k a0 t463 0)) else (some false)))=some r:=h;clear h;replace H:=gT H;obtain ⟨t462,A3,H⟩:=H;replace H:=gNB H;rcases H with ⟨rfl,H⟩ | ⟨rfl,H⟩
 ·obtain rfl:=oi_ H
  go_enter Try.func43,Try.ntmps43
  go_wp2_with ((refine zgo 9 Try.func69 #[.int .i64 a0,.slice A1 l1.length c1] ?_;(with_reducible refine (spec_l4Pairs.calls k a0 _ _ l1 false _ ?side1 ?side2 A3.out).mono ?_);(case side1=>exact zC HR1.out);(case side2=>exact HC1.out);rintro e w16 ⟨rfl,hb⟩;refine ⟨_,rfl,?_⟩;replace HB:=zb1 hb;(try clear hb)))
  go_ret
  exact ⟨zz3,zb⟩
 replace H:=gT H;obtain ⟨t463,A5,H⟩:=H;have H':=ak_ H;clear H
 go_enter Try.func43,Try.ntmps43
 go_wp2_with (first|(refine zgo 9 Try.func69 #[.int .i64 a0,.slice A1 l1.length c1] ?_;(with_reducible refine (spec_l4Pairs.calls k a0 _ _ l1 true _ ?side1 ?side2 A3.out).mono ?_);(case side1=>exact zC HR1.out);(case side2=>exact HC1.out);rintro e w6 ⟨rfl,hb⟩;refine ⟨_,rfl,?_⟩;replace HB:=zb1 hb;(try clear hb))|(refine zgo 13 Try.func58 #[.int .i64 a0,.slice A1 l1.length c1] ?_;(with_reducible refine (spec_l4Table.calls k a0 _ _ l1 t463 _ ?side1 ?side2 A5.out).mono ?_);(case side1=>exact zC (Kd.C_below HR1.out HB.out));(case side2=>exact HC1.out);rintro e w7 ⟨v464,rfl,ho0,hb⟩;refine ⟨_,rfl,?_⟩;have HO465:=ak_ (Kd.S_lower ho0 (below_size zb));replace HB:=zb1 hb;(try clear hb);(try clear ho0)))
 go_loopg [6] k (fun kq v6 w'=>∃ (x6_1:Int),v6=.int .i64 x6_1/\Aside0 (spec_l4Good.l0 kq a0 t463 x6_1=some r)/\Aside0 (kq<=k)/\Aside0 (Kd.S (Kd.slice 4 Kd.bool) 80 w' w.heap.size (fun _=>True) v464 t463)/\Aside0 (Below w.heap.size w w'))
 case atStart=>exact ⟨(0),zo,H',⟨Nat.le_refl _⟩,⟨zS HO465.out⟩,⟨zb⟩⟩
 case round=>
  clear H';obtain ⟨x6_1,rfl,HA,HK1,HO_5,HB⟩:=hrel;cases gk with
  | zero=>exact absurd HA.out (by simp [spec_l4Good.l0])
  | succ k1=>
   have H:=HA.out;clear HA;simp only [spec_l4Good.l0] at H;replace H:=gND H;rcases H with ⟨c8b0,H⟩ | ⟨c8b0,H⟩
   ·obtain rfl:=oi_ H
    go_wp2
    go_ret
    exact ⟨zz3,zb⟩
   replace H:=gD H;obtain ⟨c9b0,H⟩:=H;replace H:=gD H;obtain ⟨c10b0,H⟩:=H;replace H:=gD H;obtain ⟨c11b0,H⟩:=H;obtain ⟨bq12,hbq12⟩:∃ b_:Bool,b_=(rdOf false (rd_L5 t463 x6_1) x6_1):=⟨_,rfl⟩;replace H:(if bq12=true then (some false) else (spec_l4Good.l0 k1 a0 t463 (wrap64 (x6_1 + 1))))=some r:=by rw [<-hbq12] at H;exact H
   have Nbq12:=ak_ hbq12;clear hbq12;replace H:=gPB H;rcases H with ⟨rfl,H⟩ | ⟨rfl,H⟩
   ·obtain rfl:=oi_ H;obtain ⟨Ao14,co14,eo14⟩:=Kd.S_slice HO_5.out;subst eo14;obtain ⟨p466,q466,ad466,A466_0,c466_0,e466,hx466_0,hl466_0,hi466_0⟩:=ab_ (at_L5 (Kd.S_reads' HO_5.out).2.2 x6_1);cases e466;obtain ⟨ce466,hce466,hMe466,hcc466⟩:=Kd.S_get HO_5.out [] x6_1 (of_eq_true p466) (of_eq_true q466);obtain ⟨ve466_0,rfl,ge466_0⟩:=hMe466;have hv466_0:=hcc466 0 _ rfl;rw [Nat.add_zero,show ((Kd.slice 4 Kd.bool)).sz=1 from rfl,Nat.mul_one] at hv466_0;replace hv466_0:=oi_ (hv466_0.symm.trans hx466_0);rw [hv466_0] at ge466_0;have HL466_0:=ak_ (show Kd.R Kd.bool 4 _ _ _ _ (rd_L5 t463 x6_1) from ge466_0);clear hv466_0 ge466_0;clear hcc466 hce466;have HR466_0:=ak_ hi466_0;have HC466_0:=ak_ hl466_0;clear hi466_0 hl466_0;obtain ⟨p467,q467,ad467,e467,hx467_0⟩:=ab_ (Kd.at_bool (by repeat ((with_reducible exact HR466_0.out))) x6_1)
    (try rw [<-Nbq12.out] at hx467_0)
    cases e467
    go_wp2
    go_ret
    exact ⟨zz3,zb⟩
   have H':=ak_ H;clear H;obtain ⟨Ao15,co15,eo15⟩:=Kd.S_slice HO_5.out;subst eo15;obtain ⟨p466,q466,ad466,A466_0,c466_0,e466,hx466_0,hl466_0,hi466_0⟩:=ab_ (at_L5 (Kd.S_reads' HO_5.out).2.2 x6_1);cases e466;obtain ⟨ce466,hce466,hMe466,hcc466⟩:=Kd.S_get HO_5.out [] x6_1 (of_eq_true p466) (of_eq_true q466);obtain ⟨ve466_0,rfl,ge466_0⟩:=hMe466;have hv466_0:=hcc466 0 _ rfl;rw [Nat.add_zero,show ((Kd.slice 4 Kd.bool)).sz=1 from rfl,Nat.mul_one] at hv466_0;replace hv466_0:=oi_ (hv466_0.symm.trans hx466_0);rw [hv466_0] at ge466_0;have HL466_0:=ak_ (show Kd.R Kd.bool 4 _ _ _ _ (rd_L5 t463 x6_1) from ge466_0);clear hv466_0 ge466_0;clear hcc466 hce466;have HR466_0:=ak_ hi466_0;have HC466_0:=ak_ hl466_0;clear hi466_0 hl466_0;obtain ⟨p467,q467,ad467,e467,hx467_0⟩:=ab_ (Kd.at_bool (by repeat ((with_reducible exact HR466_0.out))) x6_1)
   (try rw [<-Nbq12.out] at hx467_0)
   cases e467
   go_wp2
   go_roundg k1
   case measure=>have:=HK1.out;omega
   case rel=>exact ⟨(wrap64 (x6_1 + 1)),zo,H',⟨by have:=HK1.out;omega⟩,⟨zS HO_5.out⟩,⟨zb⟩⟩
def spec_l2Job.f (a0_0:Int) (a0_1:Int) (a0_2:Int) (a0_3:Int):Option (Bool):=(spec_l1In.f a0_0 1 50).bind fun t469=>(if t469=true then ((spec_l1In.f a0_1 0 50).bind fun t470=>(if t470=true then ((spec_l1In.f a0_2 0 500).bind fun t471=>(if t471=true then ((spec_l1In.f a0_3 0 500).bind fun t472=>(some t472)) else (some false))) else (some false))) else (some false))
theorem spec_l2Job.calls (a0_0:Int) (a0_1:Int) (a0_2:Int) (a0_3:Int) (r:Bool) (w:World) (h:spec_l2Job.f a0_0 a0_1 a0_2 a0_3=some r) :
  Calls Try.prog 77 #[.agg #[.int .i64 a0_0,.int .i64 a0_1,.int .i64 a0_2,.int .i64 a0_3]] w fun e w'=>e=.returned (.bool r)/\Below w.heap.size w w':=by
 have hu44:=Try.underlying44;have HB:=ak_ (Below.refl w.heap.size w);have H:((spec_l1In.f a0_0 1 50).bind fun t469=>(if t469=true then ((spec_l1In.f a0_1 0 50).bind fun t470=>(if t470=true then ((spec_l1In.f a0_2 0 500).bind fun t471=>(if t471=true then ((spec_l1In.f a0_3 0 500).bind fun t472=>(some t472)) else (some false))) else (some false))) else (some false)))=some r:=h;clear h;replace H:=gT H;obtain ⟨t469,A2,H⟩:=H;replace H:=gNB H;rcases H with ⟨rfl,H⟩ | ⟨rfl,H⟩
 ·obtain rfl:=oi_ H
  go_enter Try.func77,Try.ntmps77
  go_wp2_with (first|((with_reducible refine gate_dst (N:=1) rfl ?_);refine bxe_ (N:=1) (cs:=#[.int .i64 a0_0,.int .i64 a0_1,.int .i64 a0_2,.int .i64 a0_3]) (t:=44) ?_;intro gb468 hg w15 hbox hb;have BK468:=ak_ (hbox);have GW468:=gw_ w hg;have GE468:=gw_ w hg;replace HB:=zb1 hb;clear hb hbox hg;obtain ⟨hcz16_0,hcz16_1,hcz16_2,hcz16_3,hfz16_0,hfz16_1,hfz16_2,hfz16_3⟩:=zk4 BK468.out)|(refine zgo 5 Try.func57 #[.int .i64 a0_0,.int .i64 1,.int .i64 50] ?_;(with_reducible refine (spec_l1In.calls a0_0 1 50 false _ A2.out).mono ?_);rintro e w' ⟨rfl,⟨nd,rfl⟩⟩;refine ⟨_,rfl,?_⟩))
  go_ret
  exact ⟨zz3,zz56⟩
 replace H:=gT H;obtain ⟨t470,A4,H⟩:=H;replace H:=gNB H;rcases H with ⟨rfl,H⟩ | ⟨rfl,H⟩
 ·obtain rfl:=oi_ H
  go_enter Try.func77,Try.ntmps77
  go_wp2_with (first|((with_reducible refine gate_dst (N:=1) rfl ?_);refine bxe_ (N:=1) (cs:=#[.int .i64 a0_0,.int .i64 a0_1,.int .i64 a0_2,.int .i64 a0_3]) (t:=44) ?_;intro gb468 hg w13 hbox hb;have BK468:=ak_ (hbox);have GW468:=gw_ w hg;have GE468:=gw_ w hg;replace HB:=zb1 hb;clear hb hbox hg;obtain ⟨hcz14_0,hcz14_1,hcz14_2,hcz14_3,hfz14_0,hfz14_1,hfz14_2,hfz14_3⟩:=zk4 BK468.out)|(refine zgo 5 Try.func57 #[.int .i64 a0_0,.int .i64 1,.int .i64 50] ?_;(with_reducible refine (spec_l1In.calls a0_0 1 50 true _ A2.out).mono ?_);rintro e w' ⟨rfl,⟨nd,rfl⟩⟩;refine ⟨_,rfl,?_⟩)|(go_at_call 57;(with_reducible refine (spec_l1In.calls a0_1 0 50 false _ A4.out).mono ?_);rintro e w' ⟨rfl,⟨nd,rfl⟩⟩))
  go_ret
  exact ⟨zz3,zz56⟩
 replace H:=gT H;obtain ⟨t471,A6,H⟩:=H;replace H:=gNB H;rcases H with ⟨rfl,H⟩ | ⟨rfl,H⟩
 ·obtain rfl:=oi_ H
  go_enter Try.func77,Try.ntmps77
  go_wp2_with (first|((with_reducible refine gate_dst (N:=1) rfl ?_);refine bxe_ (N:=1) (cs:=#[.int .i64 a0_0,.int .i64 a0_1,.int .i64 a0_2,.int .i64 a0_3]) (t:=44) ?_;intro gb468 hg w11 hbox hb;have BK468:=ak_ (hbox);have GW468:=gw_ w hg;have GE468:=gw_ w hg;replace HB:=zb1 hb;clear hb hbox hg;obtain ⟨hcz12_0,hcz12_1,hcz12_2,hcz12_3,hfz12_0,hfz12_1,hfz12_2,hfz12_3⟩:=zk4 BK468.out)|(refine zgo 5 Try.func57 #[.int .i64 a0_0,.int .i64 1,.int .i64 50] ?_;(with_reducible refine (spec_l1In.calls a0_0 1 50 true _ A2.out).mono ?_);rintro e w' ⟨rfl,⟨nd,rfl⟩⟩;refine ⟨_,rfl,?_⟩)|(go_at_call 57;(with_reducible refine (spec_l1In.calls a0_1 0 50 true _ A4.out).mono ?_);rintro e w' ⟨rfl,⟨nd,rfl⟩⟩)|(go_at_call 57;(with_reducible refine (spec_l1In.calls a0_2 0 500 false _ A6.out).mono ?_);rintro e w' ⟨rfl,⟨nd,rfl⟩⟩))
  go_ret
  exact ⟨zz3,zz56⟩
 replace H:=gT H;obtain ⟨t472,A8,H⟩:=H;obtain rfl:=oi_ H
 go_enter Try.func77,Try.ntmps77
 go_wp2_with (first|((with_reducible refine gate_dst (N:=1) rfl ?_);refine bxe_ (N:=1) (cs:=#[.int .i64 a0_0,.int .i64 a0_1,.int .i64 a0_2,.int .i64 a0_3]) (t:=44) ?_;intro gb468 hg w9 hbox hb;have BK468:=ak_ (hbox);have GW468:=gw_ w hg;have GE468:=gw_ w hg;replace HB:=zb1 hb;clear hb hbox hg;obtain ⟨hcz10_0,hcz10_1,hcz10_2,hcz10_3,hfz10_0,hfz10_1,hfz10_2,hfz10_3⟩:=zk4 BK468.out)|(refine zgo 5 Try.func57 #[.int .i64 a0_0,.int .i64 1,.int .i64 50] ?_;(with_reducible refine (spec_l1In.calls a0_0 1 50 true _ A2.out).mono ?_);rintro e w' ⟨rfl,⟨nd,rfl⟩⟩;refine ⟨_,rfl,?_⟩)|(go_at_call 57;(with_reducible refine (spec_l1In.calls a0_1 0 50 true _ A4.out).mono ?_);rintro e w' ⟨rfl,⟨nd,rfl⟩⟩)|(go_at_call 57;(with_reducible refine (spec_l1In.calls a0_2 0 500 true _ A6.out).mono ?_);rintro e w' ⟨rfl,⟨nd,rfl⟩⟩)|(go_at_call 57;(with_reducible refine (spec_l1In.calls a0_3 0 500 t472 _ A8.out).mono ?_);rintro e w' ⟨rfl,⟨nd,rfl⟩⟩))
 go_ret
 exact ⟨zz3,zz56⟩
def spec_l2Good.l0:Nat->List (S44)->Int->Option (Bool)
 | 0,_,_=>none
 | k + 1,x0,x3=>if x3<(x0.length:Int) then (if 0<=x3 then ((spec_l2Job.f ((rd_T44 x0 x3).f0) ((rd_T44 x0 x3).f1) ((rd_T44 x0 x3).f2) ((rd_T44 x0 x3).f3)).bind fun t474=>(if t474=true then (spec_l2Good.l0 k x0 (wrap64 (x3 + 1))) else (some false))) else (none)) else (some (decide ((x0.length:Int)<=8)))
def spec_l2Good.f (k:Nat) (l0:List (S44)):Option (Bool):=spec_l2Good.l0 k l0 0
theorem spec_l2Good.calls (k:Nat) (A0:Option Addr) (c0:Nat) (l0:List (S44)) (r:Bool) (w:World) (hr0:Kd.C k44 w A0 l0.length l0) (hc0:l0.length<=c0) (h:spec_l2Good.f k l0=some r) :
  Calls Try.prog 55 #[.slice A0 l0.length c0] w fun e w'=>e=.returned (.bool r)/\Below w.heap.size w w':=by
 have hu44:=Try.underlying44;have HR0:=ak_ hr0;have HC0:=ak_ hc0;clear hr0 hc0;have HB:=ak_ (Below.refl w.heap.size w);have H:(spec_l2Good.l0 k l0 0)=some r:=h;clear h;have H':=ak_ H;clear H
 go_enter Try.func55,Try.ntmps55
 go_wp2
 go_loopg [3] k (fun kq v3 w'=>∃ (x3_1:Int),v3=.int .i64 x3_1/\Aside0 (spec_l2Good.l0 kq l0 x3_1=some r)/\Aside0 (kq<=k)/\Aside0 (Below w.heap.size w w'))
 case atStart=>exact ⟨(0),zo,H',⟨Nat.le_refl _⟩,⟨zb⟩⟩
 case round=>
  clear H';obtain ⟨x3_1,rfl,HA,HK1,HB⟩:=hrel;cases gk with
  | zero=>exact absurd HA.out (by simp [spec_l2Good.l0])
  | succ k1=>
   have H:=HA.out;clear HA;simp only [spec_l2Good.l0] at H;replace H:=gND H;rcases H with ⟨c2b0,H⟩ | ⟨c2b0,H⟩
   ·obtain rfl:=oi_ H
    go_wp2
    go_ret
    exact ⟨zz3,zb⟩
   replace H:=gD H;obtain ⟨c3b0,H⟩:=H;replace H:=gT H;obtain ⟨t474,A4,H⟩:=H;replace H:=gPB H;rcases H with ⟨rfl,H⟩ | ⟨rfl,H⟩
   ·have H':=ak_ H;clear H;obtain ⟨p473,q473,ad473,e473,hx473_0,hx473_1,hx473_2,hx473_3⟩:=ab_ (at_T44 (Kd.C_below HR0.out HB.out) x3_1);cases e473
    go_wp2_with ((refine zgo 14 Try.func77 #[.agg #[.int .i64 ((rd_T44 l0 x3_1).f0),.int .i64 ((rd_T44 l0 x3_1).f1),.int .i64 ((rd_T44 l0 x3_1).f2),.int .i64 ((rd_T44 l0 x3_1).f3)]] ?_;(with_reducible refine (spec_l2Job.calls ((rd_T44 l0 x3_1).f0) ((rd_T44 l0 x3_1).f1) ((rd_T44 l0 x3_1).f2) ((rd_T44 l0 x3_1).f3) true _ A4.out).mono ?_);rintro e w6 ⟨rfl,hb⟩;refine ⟨_,rfl,?_⟩;replace HB:=zb1 hb;(try clear hb)))
    go_roundg k1
    case measure=>have:=HK1.out;omega
    case rel=>exact ⟨(wrap64 (x3_1 + 1)),zo,H',⟨by have:=HK1.out;omega⟩,⟨zb⟩⟩
   obtain rfl:=oi_ H;obtain ⟨p473,q473,ad473,e473,hx473_0,hx473_1,hx473_2,hx473_3⟩:=ab_ (at_T44 (Kd.C_below HR0.out HB.out) x3_1);cases e473
   go_wp2_with ((refine zgo 14 Try.func77 #[.agg #[.int .i64 ((rd_T44 l0 x3_1).f0),.int .i64 ((rd_T44 l0 x3_1).f1),.int .i64 ((rd_T44 l0 x3_1).f2),.int .i64 ((rd_T44 l0 x3_1).f3)]] ?_;(with_reducible refine (spec_l2Job.calls ((rd_T44 l0 x3_1).f0) ((rd_T44 l0 x3_1).f1) ((rd_T44 l0 x3_1).f2) ((rd_T44 l0 x3_1).f3) false _ A4.out).mono ?_);rintro e w7 ⟨rfl,hb⟩;refine ⟨_,rfl,?_⟩;replace HB:=zb1 hb;(try clear hb)))
   go_ret
   exact ⟨zz3,zb⟩
def spec_l3Plain.l0:Nat->List (S44)->Int->Option (Bool)
 | 0,_,_=>none
 | k + 1,x0,x3=>if x3<(x0.length:Int) then (if 0<=x3 then (if ((rd_T44 x0 x3).f2)=0 then (spec_l3Plain.l0 k x0 (wrap64 (x3 + 1))) else (some false)) else (none)) else (some true)
def spec_l3Plain.f (k:Nat) (l0:List (S44)):Option (Bool):=spec_l3Plain.l0 k l0 0
theorem spec_l3Plain.calls (k:Nat) (A0:Option Addr) (c0:Nat) (l0:List (S44)) (r:Bool) (w:World) (hr0:Kd.C k44 w A0 l0.length l0) (hc0:l0.length<=c0) (h:spec_l3Plain.f k l0=some r) :
  Calls Try.prog 56 #[.slice A0 l0.length c0] w fun e w'=>e=.returned (.bool r)/\Drawn0 w w':=by
 have HR0:=ak_ hr0;have HC0:=ak_ hc0;clear hr0 hc0;have H:(spec_l3Plain.l0 k l0 0)=some r:=h;clear h;have H':=ak_ H;clear H
 go_enter Try.func56,Try.ntmps56
 go_wp2
 go_loopg [3] k (fun kq v3 w'=>∃ (x3_1:Int),v3=.int .i64 x3_1/\Aside0 (spec_l3Plain.l0 kq l0 x3_1=some r)/\Aside0 (kq<=k)/\Drawn0 w w')
 case atStart=>exact ⟨(0),zo,H',⟨Nat.le_refl _⟩,zz4⟩
 case round=>
  clear H';obtain ⟨x3_1,rfl,HA,HK1,⟨m1,rfl⟩⟩:=hrel;cases gk with
  | zero=>exact absurd HA.out (by simp [spec_l3Plain.l0])
  | succ k1=>
   have H:=HA.out;clear HA;simp only [spec_l3Plain.l0] at H;replace H:=gND H;rcases H with ⟨c2b0,H⟩ | ⟨c2b0,H⟩
   ·obtain rfl:=oi_ H
    go_wp2
    go_ret
    exact ⟨zz7,zz4⟩
   replace H:=gD H;obtain ⟨c3b0,H⟩:=H;replace H:=gN H;rcases H with ⟨c4,H⟩ | ⟨c4,H⟩
   ·have c4b0:(((rd_T44 l0 x3_1).f2) == 0)=false:=beq_eq_false_iff_ne.mpr c4;have c4b1:(((rd_T44 l0 x3_1).f2) != 0)=true:=bne_iff_ne.mpr c4;obtain rfl:=oi_ H;obtain ⟨p475,q475,ad475,e475,hx475_0,hx475_1,hx475_2,hx475_3⟩:=ab_ (at_T44 HR0.out x3_1);cases e475
    go_wp2
    go_ret
    exact ⟨zz7,zz4⟩
   have c4b0:(((rd_T44 l0 x3_1).f2) == 0)=true:=beq_iff_eq.mpr c4;have c4b1:(((rd_T44 l0 x3_1).f2) != 0)=false:=bne_eq_false_iff_eq.mpr c4;clear c4;have H':=ak_ H;clear H;obtain ⟨p475,q475,ad475,e475,hx475_0,hx475_1,hx475_2,hx475_3⟩:=ab_ (at_T44 HR0.out x3_1);cases e475
   go_wp2
   go_roundg k1
   case measure=>have:=HK1.out;omega
   case rel=>exact ⟨(wrap64 (x3_1 + 1)),zo,H',⟨by have:=HK1.out;omega⟩,zz4⟩
def spec_l7Good.f (k:Nat) (l0:List (S44)) (a1:Int) (l2:List (S42)):Option (Bool):=(spec_l2Good.f k l0).bind fun t476=>(if t476=true then ((spec_l3Plain.f k l0).bind fun t477=>(if t477=true then ((spec_l1In.f a1 1 4).bind fun t478=>(if t478=true then ((spec_l4Good.f k (l0.length:Int) l2).bind fun t479=>(some t479)) else (some false))) else (some false))) else (some false))
theorem spec_l7Good.calls (k:Nat) (A0:Option Addr) (c0:Nat) (l0:List (S44)) (a1:Int) (A2:Option Addr) (c2:Nat) (l2:List (S42)) (r:Bool) (w:World) (hr0:Kd.C k44 w A0 l0.length l0) (hc0:l0.length<=c0) (hr2:Kd.C k42 w A2 l2.length l2) (hc2:l2.length<=c2) (h:spec_l7Good.f k l0 a1 l2=some r) :
  Calls Try.prog 32 #[.slice A0 l0.length c0,.int .i64 a1,.slice A2 l2.length c2] w fun e w'=>e=.returned (.bool r)/\Below w.heap.size w w':=by
 have HR0:=ak_ hr0;have HC0:=ak_ hc0;clear hr0 hc0;have HR2:=ak_ hr2;have HC2:=ak_ hc2;clear hr2 hc2;have HB:=ak_ (Below.refl w.heap.size w);have H:((spec_l2Good.f k l0).bind fun t476=>(if t476=true then ((spec_l3Plain.f k l0).bind fun t477=>(if t477=true then ((spec_l1In.f a1 1 4).bind fun t478=>(if t478=true then ((spec_l4Good.f k (l0.length:Int) l2).bind fun t479=>(some t479)) else (some false))) else (some false))) else (some false)))=some r:=h;clear h;replace H:=gT H;obtain ⟨t476,A4,H⟩:=H;replace H:=gNB H;rcases H with ⟨rfl,H⟩ | ⟨rfl,H⟩
 ·obtain rfl:=oi_ H
  go_enter Try.func32,Try.ntmps32
  go_wp2_with ((refine zgo 8 Try.func55 #[.slice A0 l0.length c0] ?_;(with_reducible refine (spec_l2Good.calls k _ _ l0 false _ ?side1 ?side2 A4.out).mono ?_);(case side1=>exact zC HR0.out);(case side2=>exact HC0.out);rintro e w15 ⟨rfl,hb⟩;refine ⟨_,rfl,?_⟩;replace HB:=zb1 hb;(try clear hb)))
  go_ret
  exact ⟨zz3,zb⟩
 replace H:=gT H;obtain ⟨t477,A6,H⟩:=H;replace H:=gNB H;rcases H with ⟨rfl,H⟩ | ⟨rfl,H⟩
 ·obtain rfl:=oi_ H
  go_enter Try.func32,Try.ntmps32
  go_wp2_with (first|(refine zgo 8 Try.func55 #[.slice A0 l0.length c0] ?_;(with_reducible refine (spec_l2Good.calls k _ _ l0 true _ ?side1 ?side2 A4.out).mono ?_);(case side1=>exact zC HR0.out);(case side2=>exact HC0.out);rintro e w14 ⟨rfl,hb⟩;refine ⟨_,rfl,?_⟩;replace HB:=zb1 hb;(try clear hb))|(go_at_call 56;(with_reducible refine (spec_l3Plain.calls k _ _ l0 false _ ?side1 ?side2 A6.out).mono ?_);(case side1=>exact zC (Kd.C_below HR0.out HB.out));(case side2=>exact HC0.out);rintro e w' ⟨rfl,⟨nd,rfl⟩⟩))
  go_ret
  exact ⟨zz3,zb⟩
 replace H:=gT H;obtain ⟨t478,A8,H⟩:=H;replace H:=gNB H;rcases H with ⟨rfl,H⟩ | ⟨rfl,H⟩
 ·obtain rfl:=oi_ H
  go_enter Try.func32,Try.ntmps32
  go_wp2_with (first|(refine zgo 8 Try.func55 #[.slice A0 l0.length c0] ?_;(with_reducible refine (spec_l2Good.calls k _ _ l0 true _ ?side1 ?side2 A4.out).mono ?_);(case side1=>exact zC HR0.out);(case side2=>exact HC0.out);rintro e w13 ⟨rfl,hb⟩;refine ⟨_,rfl,?_⟩;replace HB:=zb1 hb;(try clear hb))|(go_at_call 56;(with_reducible refine (spec_l3Plain.calls k _ _ l0 true _ ?side1 ?side2 A6.out).mono ?_);(case side1=>exact zC (Kd.C_below HR0.out HB.out));(case side2=>exact HC0.out);rintro e w' ⟨rfl,⟨nd,rfl⟩⟩)|(go_at_call 57;(with_reducible refine (spec_l1In.calls a1 1 4 false _ A8.out).mono ?_);rintro e w' ⟨rfl,⟨nd,rfl⟩⟩))
  go_ret
  exact ⟨zz3,zb⟩
 replace H:=gT H;obtain ⟨t479,A10,H⟩:=H;obtain rfl:=oi_ H
 go_enter Try.func32,Try.ntmps32
 go_wp2_with (first|(refine zgo 8 Try.func55 #[.slice A0 l0.length c0] ?_;(with_reducible refine (spec_l2Good.calls k _ _ l0 true _ ?side1 ?side2 A4.out).mono ?_);(case side1=>exact zC HR0.out);(case side2=>exact HC0.out);rintro e w11 ⟨rfl,hb⟩;refine ⟨_,rfl,?_⟩;replace HB:=zb1 hb;(try clear hb))|(go_at_call 56;(with_reducible refine (spec_l3Plain.calls k _ _ l0 true _ ?side1 ?side2 A6.out).mono ?_);(case side1=>exact zC (Kd.C_below HR0.out HB.out));(case side2=>exact HC0.out);rintro e w' ⟨rfl,⟨nd,rfl⟩⟩)|(go_at_call 57;(with_reducible refine (spec_l1In.calls a1 1 4 true _ A8.out).mono ?_);rintro e w' ⟨rfl,⟨nd,rfl⟩⟩)|(go_at_call 43;(with_reducible refine (spec_l4Good.calls k (l0.length:Int) _ _ l2 t479 _ ?side1 ?side2 A10.out).mono ?_);(case side1=>exact zC (Kd.C_below HR2.out zb));(case side2=>exact HC2.out);rintro e w12 ⟨rfl,hb⟩;replace HB:=zb1 hb;(try clear hb)))
 go_ret
 exact ⟨zz3,zb⟩
