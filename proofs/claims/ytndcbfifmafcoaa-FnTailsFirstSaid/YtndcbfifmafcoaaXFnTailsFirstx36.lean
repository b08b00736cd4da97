import Derived.Test.YtndcbfifmafcoaaXFnTailsFirstx8
import Derived.Test.YtndcbfifmafcoaaXFnTailsFirstx26
import Derived.Test.YtndcbfifmafcoaaXFnTailsFirstx35
namespace Go.Proofs.Ytndcbfifmafcoaa.XFnTailsFirst
set_option maxRecDepth 100000
set_option maxHeartbeats 8000000
open Go.RowKit Go.Proofs.YtndcbfifmafcoaaW.PrintWords Go.Proofs.YtndcbfifmafcoaaW.PrintLast Go.Proofs.YtndcbfifmafcoaaW.PrintMore
set_option linter.unusedVariables false
set_option linter.unusedSimpArgs false
def impl_PlanLength.f (k:Nat) (l0:List (S44)) (a1:Int) (l2:List (S42)) (l3:List (S73)):Option (Int × Bool):=(impl_isParallel.f k l0 a1 l2).bind fun t852=>(if t852=true then ((impl_isPlan.f k l0 a1 l2 l3).bind fun t853=>(if t853=true then ((impl_planLength.f k l0 l3).bind fun t854=>(some (t854,true))) else (some (0,false)))) else (some (0,false)))
theorem impl_PlanLength.calls (k:Nat) (A0:Option Addr) (c0:Nat) (l0:List (S44)) (a1:Int) (A2:Option Addr) (c2:Nat) (l2:List (S42)) (A3:Option Addr) (c3:Nat) (l3:List (S73)) (r1:Int) (r2:Bool) (w:World) (hr0:Kd.C k44 w A0 l0.length l0) (hc0:l0.length<=c0) (hr2:Kd.C k42 w A2 l2.length l2) (hc2:l2.length<=c2) (hr3:Kd.C k73 w A3 l3.length l3) (hc3:l3.length<=c3) (h:impl_PlanLength.f k l0 a1 l2 l3=some (r1,r2)) :
  Calls Try.prog 19 #[.slice A0 l0.length c0,.int .i64 a1,.slice A2 l2.length c2,.slice A3 l3.length c3] w fun e w'=>e=.returned (.tuple #[.int .i64 r1,.bool r2])/\Below w.heap.size w w':=by
 have HR0:=ak_ hr0;have HC0:=ak_ hc0;clear hr0 hc0;have HR2:=ak_ hr2;have HC2:=ak_ hc2;clear hr2 hc2;have HR3:=ak_ hr3;have HC3:=ak_ hc3;clear hr3 hc3;have HB:=ak_ (Below.refl w.heap.size w);have H:((impl_isParallel.f k l0 a1 l2).bind fun t852=>(if t852=true then ((impl_isPlan.f k l0 a1 l2 l3).bind fun t853=>(if t853=true then ((impl_planLength.f k l0 l3).bind fun t854=>(some (t854,true))) else (some (0,false)))) else (some (0,false))))=some (r1,r2):=h;clear h;replace H:=gT H;obtain ⟨t852,A5,H⟩:=H;replace H:=gNB H;rcases H with ⟨rfl,H⟩ | ⟨rfl,H⟩
 ·simp only [Option.some.injEq,Prod.mk.injEq] at H;obtain ⟨rfl,rfl⟩:=H
  go_enter Try.func19,Try.ntmps19
  go_wp2_with ((refine zgo 13 Try.func26 #[.slice A0 l0.length c0,.int .i64 a1,.slice A2 l2.length c2] ?_;(with_reducible refine (impl_isParallel.calls k _ _ l0 a1 _ _ l2 false _ ?side1 ?side2 ?side3 ?side4 A5.out).mono ?_);(case side1=>exact zC HR0.out);(case side2=>exact HC0.out);(case side3=>exact zC HR2.out);(case side4=>exact HC2.out);rintro e w15 ⟨rfl,hb⟩;refine ⟨_,rfl,?_⟩;replace HB:=zb1 hb;(try clear hb)))
  go_ret2
  exact ⟨zz3,zb⟩
 replace H:=gT H;obtain ⟨t853,A7,H⟩:=H;replace H:=gNB H;rcases H with ⟨rfl,H⟩ | ⟨rfl,H⟩
 ·simp only [Option.some.injEq,Prod.mk.injEq] at H;obtain ⟨rfl,rfl⟩:=H
  go_enter Try.func19,Try.ntmps19
  go_wp2_with (first|(refine zgo 13 Try.func26 #[.slice A0 l0.length c0,.int .i64 a1,.slice A2 l2.length c2] ?_;(with_reducible refine (impl_isParallel.calls k _ _ l0 a1 _ _ l2 true _ ?side1 ?side2 ?side3 ?side4 A5.out).mono ?_);(case side1=>exact zC HR0.out);(case side2=>exact HC0.out);(case side3=>exact zC HR2.out);(case side4=>exact HC2.out);rintro e w13 ⟨rfl,hb⟩;refine ⟨_,rfl,?_⟩;replace HB:=zb1 hb;(try clear hb))|(go_at_call 49;(with_reducible refine (impl_isPlan.calls k _ _ l0 a1 _ _ l2 _ _ l3 false _ ?side1 ?side2 ?side3 ?side4 ?side5 ?side6 A7.out).mono ?_);(case side1=>exact zC (Kd.C_below HR0.out HB.out));(case side2=>exact HC0.out);(case side3=>exact zC (Kd.C_below HR2.out HB.out));(case side4=>exact HC2.out);(case side5=>exact zC (Kd.C_below HR3.out HB.out));(case side6=>exact HC3.out);rintro e w14 ⟨rfl,hb⟩;replace HB:=zb1 hb;(try clear hb)))
  go_ret2
  exact ⟨zz3,zb⟩
 replace H:=gT H;obtain ⟨t854,A9,H⟩:=H;simp only [Option.some.injEq,Prod.mk.injEq] at H;obtain ⟨rfl,rfl⟩:=H
 go_enter Try.func19,Try.ntmps19
 go_wp2_with (first|(refine zgo 13 Try.func26 #[.slice A0 l0.length c0,.int .i64 a1,.slice A2 l2.length c2] ?_;(with_reducible refine (impl_isParallel.calls k _ _ l0 a1 _ _ l2 true _ ?side1 ?side2 ?side3 ?side4 A5.out).mono ?_);(case side1=>exact zC HR0.out);(case side2=>exact HC0.out);(case side3=>exact zC HR2.out);(case side4=>exact HC2.out);rintro e w10 ⟨rfl,hb⟩;refine ⟨_,rfl,?_⟩;replace HB:=zb1 hb;(try clear hb))|(go_at_call 49;(with_reducible refine (impl_isPlan.calls k _ _ l0 a1 _ _ l2 _ _ l3 true _ ?side1 ?side2 ?side3 ?side4 ?side5 ?side6 A7.out).mono ?_);(case side1=>exact zC (Kd.C_below HR0.out HB.out));(case side2=>exact HC0.out);(case side3=>exact zC (Kd.C_below HR2.out HB.out));(case side4=>exact HC2.out);(case side5=>exact zC (Kd.C_below HR3.out HB.out));(case side6=>exact HC3.out);rintro e w11 ⟨rfl,hb⟩;replace HB:=zb1 hb;(try clear hb))|(refine zgo 25 Try.func38 #[.slice A0 l0.length c0,.slice A3 l3.length c3] ?_;(with_reducible refine (impl_planLength.calls k _ _ l0 _ _ l3 t854 _ ?side1 ?side2 ?side3 ?side4 A9.out).mono ?_);(case side1=>exact zC (Kd.C_below HR0.out HB.out));(case side2=>exact HC0.out);(case side3=>exact zC (Kd.C_below HR3.out HB.out));(case side4=>exact HC3.out);rintro e w12 ⟨rfl,hb⟩;refine ⟨_,rfl,?_⟩;replace HB:=zb1 hb;(try clear hb)))
 go_ret2
 exact ⟨zz3,zb⟩
def laws_vHas.l0:Nat->List Int->Int->Int->Option (Bool)
 | 0,_,_,_=>none
 | k + 1,x0,x1,x5=>if x5<(x0.length:Int) then (if 0<=x5 then (if (rd x0 x5)=x1 then (some true) else (laws_vHas.l0 k x0 x1 (wrap64 (x5 + 1)))) else (none)) else (some false)
def laws_vHas.f (k:Nat) (l0:List Int) (a1:Int):Option (Bool):=laws_vHas.l0 k l0 a1 0
theorem laws_vHas.calls (k:Nat) (A0:Option Addr) (c0:Nat) (l0:List Int) (a1:Int) (r:Bool) (w:World) (hr0:Kd.C (Kd.int .i64) w A0 l0.length l0) (hc0:l0.length<=c0) (h:laws_vHas.f k l0 a1=some r) :
  Calls Try.prog 20 #[.slice A0 l0.length c0,.int .i64 a1] w fun e w'=>e=.returned (.bool r)/\Drawn0 w w':=by
 have HR0:=ak_ hr0;have HC0:=ak_ hc0;clear hr0 hc0;have H:(laws_vHas.l0 k l0 a1 0)=some r:=h;clear h;have H':=ak_ H;clear H
 go_enter Try.func20,Try.ntmps20
 go_wp2
 go_loopg [5] k (fun kq v5 w'=>∃ (x5_1:Int),v5=.int .i64 x5_1/\Aside0 (laws_vHas.l0 kq l0 a1 x5_1=some r)/\Aside0 (kq<=k)/\Drawn0 w w')
 case atStart=>exact ⟨(0),zo,H',⟨Nat.le_refl _⟩,zz4⟩
 case round=>
  clear H';obtain ⟨x5_1,rfl,HA,HK1,⟨m1,rfl⟩⟩:=hrel;cases gk with
  | zero=>exact absurd HA.out (by simp [laws_vHas.l0])
  | succ k1=>
   have H:=HA.out;clear HA;simp only [laws_vHas.l0] at H;replace H:=gND H;rcases H with ⟨c3b0,H⟩ | ⟨c3b0,H⟩
   ·obtain rfl:=oi_ H
    go_wp2
    go_ret
    exact ⟨zz7,zz4⟩
   replace H:=gD H;obtain ⟨c4b0,H⟩:=H;replace H:=gP H;rcases H with ⟨c5,H⟩ | ⟨c5,H⟩
   ·have c5b0:((rd l0 x5_1) == a1)=true:=beq_iff_eq.mpr c5;have c5b1:((rd l0 x5_1) != a1)=false:=bne_eq_false_iff_eq.mpr c5;clear c5;obtain rfl:=oi_ H;obtain ⟨p855,q855,ad855,e855,hx855_0⟩:=ab_ (Kd.at_int HR0.out x5_1);cases e855
    go_wp2
    go_ret
    exact ⟨zz7,zz4⟩
   have c5b0:((rd l0 x5_1) == a1)=false:=beq_eq_false_iff_ne.mpr c5;have c5b1:((rd l0 x5_1) != a1)=true:=bne_iff_ne.mpr c5;have H':=ak_ H;clear H;obtain ⟨p855,q855,ad855,e855,hx855_0⟩:=ab_ (Kd.at_int HR0.out x5_1);cases e855
   go_wp2
   go_roundg k1
   case measure=>have:=HK1.out;omega
   case rel=>exact ⟨(wrap64 (x5_1 + 1)),zo,H',⟨by have:=HK1.out;omega⟩,zz4⟩
