-- Words and walks of this claim.
import Derived.Test.YtkolecmpncaooaaXFnLongestFirstx14
import Derived.Test.YtkolecmpncaooaaXFnLongestFirstx16
namespace Go.Proofs.Ytkolecmpncaooaa.XFnLongestFirst
set_option maxRecDepth 100000
set_option maxHeartbeats 8000000
open Go.RowKit Go.Proofs.YtkolecmpncaooaaW.PrintWords Go.Proofs.YtkolecmpncaooaaW.PrintLast Go.Proofs.YtkolecmpncaooaaW.PrintMore
attribute [local go_sem] max2_int min2_int max_two min_two max_three min_three max_four min_four
attribute [local go_sem] idxA_51_0 idxA_51_1 fldS_45_0 fldS_45_1 fldS_45_2 fldS_96_0 fldS_96_1 fldS_96_2
set_option linter.unusedVariables false
set_option linter.unusedSimpArgs false
def spec_l4Good.l0:Nat->Int->List (List Bool)->Int->Option (Bool)
 | 0,_,_,_=>none
 | k + 1,x0,x5,x6=>if x6<x0 then (if 0<=x6 then (if x6<(x5.length:Int) then (if x6<((rd_L4 x5 x6).length:Int) then (if rdOf false (rd_L4 x5 x6) x6=true then (some false) else (spec_l4Good.l0 k x0 x5 (wrap64 (x6 + 1)))) else (none)) else (none)) else (none)) else (some true)
def spec_l4Good.f (k:Nat) (a0:Int) (l1:List (S51)):Option (Bool):=(spec_l4Pairs.f k a0 l1).bind fun t381=>(if t381=true then ((spec_l4Table.f k a0 l1).bind fun t382=>(spec_l4Good.l0 k a0 t382 0)) else (some false))
theorem spec_l4Good.calls (k:Nat) (a0:Int) (A1:Option Addr) (c1:Nat) (l1:List (S51)) (r:Bool) (w:World) (hr1:Kd.C k51 w A1 l1.length l1) (hc1:l1.length<=c1) (h:spec_l4Good.f k a0 l1=some r) :
  Calls Try.prog 79 #[.int .i64 a0,.slice A1 l1.length c1] w fun e w'=>e=.returned (.bool r)/\Below w.heap.size w w':=by
 have HR1:=ak_ hr1
 have HC1:=ak_ hc1
 clear hr1 hc1
 have HB:=ak_ (Below.refl w.heap.size w)
 have H:((spec_l4Pairs.f k a0 l1).bind fun t381=>(if t381=true then ((spec_l4Table.f k a0 l1).bind fun t382=>(spec_l4Good.l0 k a0 t382 0)) else (some false)))=some r:=h
 clear h
 replace H:=gT H;obtain ⟨t381,A3,H⟩:=H
 replace H:=gNB H;rcases H with ⟨rfl,H⟩ | ⟨rfl,H⟩
 ·obtain rfl:=oi_ H
  go_enter Try.func79,Try.ntmps79
  go_wp2_with (((with_reducible refine gate_callee (f:=105) rfl ?_);refine zgo 9 Try.func105 #[.int .i64 a0,.slice A1 l1.length c1] ?_;(with_reducible refine (spec_l4Pairs.calls k a0 _ _ l1 false _ ?side1 ?side2 A3.out).mono ?_);(case side1=>exact zC HR1.out);(case side2=>exact HC1.out);rintro e w16 ⟨rfl,hb⟩;refine ⟨_,rfl,?_⟩;replace HB:=zb1 hb;(try clear hb)))
  go_ret
  exact ⟨zz0,zb⟩
 replace H:=gT H;obtain ⟨t382,A5,H⟩:=H
 have H':=ak_ H
 clear H
 go_enter Try.func79,Try.ntmps79
 go_wp2_with (first|((with_reducible refine gate_callee (f:=105) rfl ?_);refine zgo 9 Try.func105 #[.int .i64 a0,.slice A1 l1.length c1] ?_;(with_reducible refine (spec_l4Pairs.calls k a0 _ _ l1 true _ ?side1 ?side2 A3.out).mono ?_);(case side1=>exact zC HR1.out);(case side2=>exact HC1.out);rintro e w6 ⟨rfl,hb⟩;refine ⟨_,rfl,?_⟩;replace HB:=zb1 hb;(try clear hb))|((with_reducible refine gate_callee (f:=80) rfl ?_);refine zgo 13 Try.func80 #[.int .i64 a0,.slice A1 l1.length c1] ?_;(with_reducible refine (spec_l4Table.calls k a0 _ _ l1 t382 _ ?side1 ?side2 A5.out).mono ?_);(case side1=>exact zC (Kd.C_below HR1.out HB.out));(case side2=>exact HC1.out);rintro e w7 ⟨v383,rfl,ho0,hb⟩;refine ⟨_,rfl,?_⟩;have HO384:=ak_ (Kd.S_lower ho0 (below_size zb));replace HB:=zb1 hb;(try clear hb);(try clear ho0)))
 go_loopg [6] k (fun kq v6 w'=>∃ (x6_1:Int),v6=.int .i64 x6_1/\Aside0 (spec_l4Good.l0 kq a0 t382 x6_1=some r)/\Aside0 (kq<=k)/\Aside0 (Kd.S (Kd.slice 4 Kd.bool) 82 w' w.heap.size (fun _=>True) v383 t382)/\Aside0 (Below w.heap.size w w'))
 case atStart=>exact ⟨(0),zo,H',⟨Nat.le_refl _⟩,⟨zS HO384.out⟩,⟨zb⟩⟩
 case round=>
  clear H'
  obtain ⟨x6_1,rfl,HA,HK1,HO_5,HB⟩:=hrel
  cases gk with
  | zero=>exact absurd HA.out (by simp [spec_l4Good.l0])
  | succ k1=>
   have H:=HA.out
   clear HA
   simp only [spec_l4Good.l0] at H
   replace H:=gND H;rcases H with ⟨c8b0,H⟩ | ⟨c8b0,H⟩
   ·obtain rfl:=oi_ H
    go_wp2
    go_ret
    exact ⟨zz0,zb⟩
   replace H:=gD H;obtain ⟨c9b0,H⟩:=H
   replace H:=gD H;obtain ⟨c10b0,H⟩:=H
   replace H:=gD H;obtain ⟨c11b0,H⟩:=H
   obtain ⟨bq12,hbq12⟩:∃ b_:Bool,b_=(rdOf false (rd_L4 t382 x6_1) x6_1):=⟨_,rfl⟩
   replace H:(if bq12=true then (some false) else (spec_l4Good.l0 k1 a0 t382 (wrap64 (x6_1 + 1))))=some r:=by rw [<-hbq12] at H;exact H
   have Nbq12:=ak_ hbq12
   clear hbq12
   replace H:=gPB H;rcases H with ⟨rfl,H⟩ | ⟨rfl,H⟩
   ·obtain rfl:=oi_ H
    obtain ⟨Ao14,co14,eo14⟩:=Kd.S_slice HO_5.out
    subst eo14
    have p385:0<=(x6_1:Int):=oz_
    have q385:x6_1<(t382.length:Int):=oz_
    obtain ⟨ad385,A385_0,c385_0,e385,hx385_0,hl385_0,hi385_0⟩:=at_L4 (Kd.S_reads' HO_5.out).2.2 x6_1 p385 q385
    cases e385
    obtain ⟨ce385,hce385,hMe385,hcc385⟩:=Kd.S_get HO_5.out [] x6_1 p385 (by exact q385)
    obtain ⟨ve385_0,rfl,ge385_0⟩:=hMe385
    have hv385_0:=hcc385 0 _ rfl
    rw [Nat.add_zero,show ((Kd.slice 4 Kd.bool)).sz=1 from rfl,Nat.mul_one] at hv385_0
    replace hv385_0:=oi_ (hv385_0.symm.trans hx385_0)
    rw [hv385_0] at ge385_0
    have HL385_0:=ak_ (show Kd.R Kd.bool 4 _ _ _ _ (rd_L4 t382 x6_1) from ge385_0)
    clear hv385_0 ge385_0
    clear hcc385 hce385
    have HR385_0:=ak_ hi385_0
    have HC385_0:=ak_ hl385_0
    clear hi385_0 hl385_0
    replace p385:=eq_true p385
    replace q385:=eq_true q385
    have p386:0<=(x6_1:Int):=oz_
    have q386:x6_1<((rd_L4 t382 x6_1).length:Int):=oz_
    obtain ⟨ad386,e386,hx386_0⟩:=Kd.at_bool (by repeat ((with_reducible exact HR385_0.out))) x6_1 p386 q386
    (try rw [<-Nbq12.out] at hx386_0)
    cases e386
    replace p386:=eq_true p386
    replace q386:=eq_true q386
    go_wp2
    go_ret
    exact ⟨zz0,zb⟩
   have H':=ak_ H
   clear H
   obtain ⟨Ao15,co15,eo15⟩:=Kd.S_slice HO_5.out
   subst eo15
   have p385:0<=(x6_1:Int):=oz_
   have q385:x6_1<(t382.length:Int):=oz_
   obtain ⟨ad385,A385_0,c385_0,e385,hx385_0,hl385_0,hi385_0⟩:=at_L4 (Kd.S_reads' HO_5.out).2.2 x6_1 p385 q385
   cases e385
   obtain ⟨ce385,hce385,hMe385,hcc385⟩:=Kd.S_get HO_5.out [] x6_1 p385 (by exact q385)
   obtain ⟨ve385_0,rfl,ge385_0⟩:=hMe385
   have hv385_0:=hcc385 0 _ rfl
   rw [Nat.add_zero,show ((Kd.slice 4 Kd.bool)).sz=1 from rfl,Nat.mul_one] at hv385_0
   replace hv385_0:=oi_ (hv385_0.symm.trans hx385_0)
   rw [hv385_0] at ge385_0
   have HL385_0:=ak_ (show Kd.R Kd.bool 4 _ _ _ _ (rd_L4 t382 x6_1) from ge385_0)
   clear hv385_0 ge385_0
   clear hcc385 hce385
   have HR385_0:=ak_ hi385_0
   have HC385_0:=ak_ hl385_0
   clear hi385_0 hl385_0
   replace p385:=eq_true p385
   replace q385:=eq_true q385
   have p386:0<=(x6_1:Int):=oz_
   have q386:x6_1<((rd_L4 t382 x6_1).length:Int):=oz_
   obtain ⟨ad386,e386,hx386_0⟩:=Kd.at_bool (by repeat ((with_reducible exact HR385_0.out))) x6_1 p386 q386
   (try rw [<-Nbq12.out] at hx386_0)
   cases e386
   replace p386:=eq_true p386
   replace q386:=eq_true q386
   go_wp2
   go_roundg k1
   case measure=>have:=HK1.out;omega
   case rel=>exact ⟨(wrap64 (x6_1 + 1)),zo,H',⟨by have:=HK1.out;omega⟩,⟨zS HO_5.out⟩,⟨zb⟩⟩
def spec_l7Good.f (k:Nat) (l0:List (S31)) (a1:Int) (l2:List (S51)):Option (Bool):=(spec_l2Good.f k l0).bind fun t387=>(if t387=true then ((spec_l3Plain.f k l0).bind fun t388=>(if t388=true then ((spec_l1In.f a1 1 4).bind fun t389=>(if t389=true then ((spec_l4Good.f k (l0.length:Int) l2).bind fun t390=>(some t390)) else (some false))) else (some false))) else (some false))
theorem spec_l7Good.calls (k:Nat) (A0:Option Addr) (c0:Nat) (l0:List (S31)) (a1:Int) (A2:Option Addr) (c2:Nat) (l2:List (S51)) (r:Bool) (w:World) (hr0:Kd.C k31 w A0 l0.length l0) (hc0:l0.length<=c0) (hr2:Kd.C k51 w A2 l2.length l2) (hc2:l2.length<=c2) (h:spec_l7Good.f k l0 a1 l2=some r) :
  Calls Try.prog 39 #[.slice A0 l0.length c0,.int .i64 a1,.slice A2 l2.length c2] w fun e w'=>e=.returned (.bool r)/\Below w.heap.size w w':=by
 have HR0:=ak_ hr0
 have HC0:=ak_ hc0
 clear hr0 hc0
 have HR2:=ak_ hr2
 have HC2:=ak_ hc2
 clear hr2 hc2
 have HB:=ak_ (Below.refl w.heap.size w)
 have H:((spec_l2Good.f k l0).bind fun t387=>(if t387=true then ((spec_l3Plain.f k l0).bind fun t388=>(if t388=true then ((spec_l1In.f a1 1 4).bind fun t389=>(if t389=true then ((spec_l4Good.f k (l0.length:Int) l2).bind fun t390=>(some t390)) else (some false))) else (some false))) else (some false)))=some r:=h
 clear h
 replace H:=gT H;obtain ⟨t387,A4,H⟩:=H
 replace H:=gNB H;rcases H with ⟨rfl,H⟩ | ⟨rfl,H⟩
 ·obtain rfl:=oi_ H
  go_enter Try.func39,Try.ntmps39
  go_wp2_with (((with_reducible refine gate_callee (f:=61) rfl ?_);refine zgo 8 Try.func61 #[.slice A0 l0.length c0] ?_;(with_reducible refine (spec_l2Good.calls k _ _ l0 false _ ?side1 ?side2 A4.out).mono ?_);(case side1=>exact zC HR0.out);(case side2=>exact HC0.out);rintro e w15 ⟨rfl,hb⟩;refine ⟨_,rfl,?_⟩;replace HB:=zb1 hb;(try clear hb)))
  go_ret
  exact ⟨zz0,zb⟩
 replace H:=gT H;obtain ⟨t388,A6,H⟩:=H
 replace H:=gNB H;rcases H with ⟨rfl,H⟩ | ⟨rfl,H⟩
 ·obtain rfl:=oi_ H
  go_enter Try.func39,Try.ntmps39
  go_wp2_with (first|((with_reducible refine gate_callee (f:=61) rfl ?_);refine zgo 8 Try.func61 #[.slice A0 l0.length c0] ?_;(with_reducible refine (spec_l2Good.calls k _ _ l0 true _ ?side1 ?side2 A4.out).mono ?_);(case side1=>exact zC HR0.out);(case side2=>exact HC0.out);rintro e w14 ⟨rfl,hb⟩;refine ⟨_,rfl,?_⟩;replace HB:=zb1 hb;(try clear hb))|(go_at_call 77;(with_reducible refine (spec_l3Plain.calls k _ _ l0 false _ ?side1 ?side2 A6.out).mono ?_);(case side1=>exact zC (Kd.C_below HR0.out HB.out));(case side2=>exact HC0.out);rintro e w' ⟨rfl,⟨nd,rfl⟩⟩))
  go_ret
  exact ⟨zz0,zb⟩
 replace H:=gT H;obtain ⟨t389,A8,H⟩:=H
 replace H:=gNB H;rcases H with ⟨rfl,H⟩ | ⟨rfl,H⟩
 ·obtain rfl:=oi_ H
  go_enter Try.func39,Try.ntmps39
  go_wp2_with (first|((with_reducible refine gate_callee (f:=61) rfl ?_);refine zgo 8 Try.func61 #[.slice A0 l0.length c0] ?_;(with_reducible refine (spec_l2Good.calls k _ _ l0 true _ ?side1 ?side2 A4.out).mono ?_);(case side1=>exact zC HR0.out);(case side2=>exact HC0.out);rintro e w13 ⟨rfl,hb⟩;refine ⟨_,rfl,?_⟩;replace HB:=zb1 hb;(try clear hb))|(go_at_call 77;(with_reducible refine (spec_l3Plain.calls k _ _ l0 true _ ?side1 ?side2 A6.out).mono ?_);(case side1=>exact zC (Kd.C_below HR0.out HB.out));(case side2=>exact HC0.out);rintro e w' ⟨rfl,⟨nd,rfl⟩⟩)|(go_at_call 78;(with_reducible refine (spec_l1In.calls a1 1 4 false _ A8.out).mono ?_);rintro e w' ⟨rfl,⟨nd,rfl⟩⟩))
  go_ret
  exact ⟨zz0,zb⟩
 replace H:=gT H;obtain ⟨t390,A10,H⟩:=H
 obtain rfl:=oi_ H
 go_enter Try.func39,Try.ntmps39
 go_wp2_with (first|((with_reducible refine gate_callee (f:=61) rfl ?_);refine zgo 8 Try.func61 #[.slice A0 l0.length c0] ?_;(with_reducible refine (spec_l2Good.calls k _ _ l0 true _ ?side1 ?side2 A4.out).mono ?_);(case side1=>exact zC HR0.out);(case side2=>exact HC0.out);rintro e w11 ⟨rfl,hb⟩;refine ⟨_,rfl,?_⟩;replace HB:=zb1 hb;(try clear hb))|(go_at_call 77;(with_reducible refine (spec_l3Plain.calls k _ _ l0 true _ ?side1 ?side2 A6.out).mono ?_);(case side1=>exact zC (Kd.C_below HR0.out HB.out));(case side2=>exact HC0.out);rintro e w' ⟨rfl,⟨nd,rfl⟩⟩)|(go_at_call 78;(with_reducible refine (spec_l1In.calls a1 1 4 true _ A8.out).mono ?_);rintro e w' ⟨rfl,⟨nd,rfl⟩⟩)|(go_at_call 79;(with_reducible refine (spec_l4Good.calls k (l0.length:Int) _ _ l2 t390 _ ?side1 ?side2 A10.out).mono ?_);(case side1=>exact zC (Kd.C_below HR2.out zb));(case side2=>exact HC2.out);rintro e w12 ⟨rfl,hb⟩;replace HB:=zb1 hb;(try clear hb)))
 go_ret
 exact ⟨zz0,zb⟩
mutual
def spec_l7Next.l0:Nat->List (List Bool)->List Int->List Int->Int->Int->Option (Int)
 | 0,_,_,_,_,_=>none
 | k + 1,x0,x1,x2,x3,x9=>if x9<(x1.length:Int) then (if 0<=x9 then (if 0<=(rd x1 x9) then (if (rd x1 x9)<(x2.length:Int) then (if (rd x2 (rd x1 x9))>=0 then (spec_l7Next.l0 k x0 x1 x2 x3 (wrap64 (x9 + 1))) else (spec_l7Next.l1 k x0 x1 x2 x3 x9 true 0)) else (none)) else (none)) else (none)) else (some (-1))
def spec_l7Next.l1:Nat->List (List Bool)->List Int->List Int->Int->Int->Bool->Int->Option (Int)
 | 0,_,_,_,_,_,_,_=>none
 | k + 1,x0,x1,x2,x3,x9,x10,x11=>if x11<(x2.length:Int) then (if 0<=x11 then (if x11<(x0.length:Int) then (if 0<=x9 then (if x9<(x1.length:Int) then (if 0<=(rd x1 x9) then (if (rd x1 x9)<((rd_L4 x0 x11).length:Int) then (if rdOf false (rd_L4 x0 x11) (rd x1 x9)=true then (if (rd x2 x11)<0 then (spec_l7Next.l1 k x0 x1 x2 x3 x9 false (wrap64 (x11 + 1))) else (if (rd x2 x11)>x3 then (spec_l7Next.l1 k x0 x1 x2 x3 x9 false (wrap64 (x11 + 1))) else (spec_l7Next.l1 k x0 x1 x2 x3 x9 x10 (wrap64 (x11 + 1))))) else (spec_l7Next.l1 k x0 x1 x2 x3 x9 x10 (wrap64 (x11 + 1)))) else (none)) else (none)) else (none)) else (none)) else (none)) else (none)) else (if x10=true then (if 0<=x9 then (if x9<(x1.length:Int) then (some (rd x1 x9)) else (none)) else (none)) else (spec_l7Next.l0 k x0 x1 x2 x3 (wrap64 (x9 + 1))))
end
def spec_l7Next.f (k:Nat) (l0:List (List Bool)) (l1:List Int) (l2:List Int) (a3:Int):Option (Int):=spec_l7Next.l0 k l0 l1 l2 a3 0
theorem spec_l7Next.calls (k:Nat) (A0:Option Addr) (c0:Nat) (l0:List (List Bool)) (A1:Option Addr) (c1:Nat) (l1:List Int) (A2:Option Addr) (c2:Nat) (l2:List Int) (a3:Int) (r:Int) (w:World) (hr0:Kd.C (Kd.slice 4 Kd.bool) w A0 l0.length l0) (hc0:l0.length<=c0) (hr1:Kd.C (Kd.int .i64) w A1 l1.length l1) (hc1:l1.length<=c1) (hr2:Kd.C (Kd.int .i64) w A2 l2.length l2) (hc2:l2.length<=c2) (h:spec_l7Next.f k l0 l1 l2 a3=some r) :
  Calls Try.prog 81 #[.slice A0 l0.length c0,.slice A1 l1.length c1,.slice A2 l2.length c2,.int .i64 a3] w fun e w'=>e=.returned (.int .i64 r)/\Drawn0 w w':=by
 have HR0:=ak_ hr0
 have HC0:=ak_ hc0
 clear hr0 hc0
 have HR1:=ak_ hr1
 have HC1:=ak_ hc1
 clear hr1 hc1
 have HR2:=ak_ hr2
 have HC2:=ak_ hc2
 clear hr2 hc2
 have H:(spec_l7Next.l0 k l0 l1 l2 a3 0)=some r:=h
 clear h
 have H':=ak_ H
 clear H
 go_enter Try.func81,Try.ntmps81
 go_wp2
 repeat (go_quiet (fail))
 go_loopg [9] k (fun kq v9 w'=>∃ (x9_1:Int),v9=.int .i64 x9_1/\Aside0 (spec_l7Next.l0 kq l0 l1 l2 a3 x9_1=some r)/\Aside0 (kq<=k)/\Drawn0 w w')
 case atStart=>exact ⟨(0),zo,H',⟨Nat.le_refl _⟩,zz4⟩
 case round=>
  clear H'
  obtain ⟨x9_1,rfl,HA,HK1,⟨m1,rfl⟩⟩:=hrel
  cases gk with
  | zero=>exact absurd HA.out (by simp [spec_l7Next.l0])
  | succ k1=>
   have H:=HA.out
   clear HA
   simp only [spec_l7Next.l0] at H
   replace H:=gND H;rcases H with ⟨c5b0,H⟩ | ⟨c5b0,H⟩
   ·obtain rfl:=oi_ H
    go_wp2
    repeat (go_quiet (fail))
    go_ret
    exact ⟨zz7,zz4⟩
   replace H:=gD H;obtain ⟨c6b0,H⟩:=H
   replace H:=gD H;obtain ⟨c7b0,H⟩:=H
   replace H:=gD H;obtain ⟨c8b0,H⟩:=H
   replace H:=gPD H;rcases H with ⟨c9b0,H⟩ | ⟨c9b0,H⟩
   ·have H':=ak_ H
    clear H
    have p391:0<=(x9_1:Int):=oz_
    have q391:x9_1<(l1.length:Int):=oz_
    obtain ⟨ad391,e391,hx391_0⟩:=Kd.at_int HR1.out x9_1 p391 q391
    cases e391
    replace p391:=eq_true p391
    replace q391:=eq_true q391
    have p392:0<=((rd l1 x9_1):Int):=oz_
    have q392:(rd l1 x9_1)<(l2.length:Int):=oz_
    obtain ⟨ad392,e392,hx392_0⟩:=Kd.at_int HR2.out (rd l1 x9_1) p392 q392
    cases e392
    replace p392:=eq_true p392
    replace q392:=eq_true q392
    go_wp2
    repeat (go_quiet (fail))
    go_roundg k1
    case measure=>have:=HK1.out;omega
    case rel=>exact ⟨(wrap64 (x9_1 + 1)),zo,H',⟨by have:=HK1.out;omega⟩,zz4⟩
   have H':=ak_ H
   clear H
   have p391:0<=(x9_1:Int):=oz_
   have q391:x9_1<(l1.length:Int):=oz_
   obtain ⟨ad391,e391,hx391_0⟩:=Kd.at_int HR1.out x9_1 p391 q391
   cases e391
   replace p391:=eq_true p391
   replace q391:=eq_true q391
   have p392:0<=((rd l1 x9_1):Int):=oz_
   have q392:(rd l1 x9_1)<(l2.length:Int):=oz_
   obtain ⟨ad392,e392,hx392_0⟩:=Kd.at_int HR2.out (rd l1 x9_1) p392 q392
   cases e392
   replace p392:=eq_true p392
   replace q392:=eq_true q392
   go_wp2
   repeat (go_quiet (fail))
   go_loopg [10,11] k1 (fun kq v10 v11 w'=>∃ (x10_2:Bool) (x11_2:Int),v10=.bool x10_2/\v11=.int .i64 x11_2/\Aside0 (spec_l7Next.l1 kq l0 l1 l2 a3 x9_1 x10_2 x11_2=some r)/\Aside0 (kq<=k1)/\Drawn0 w w')
   case atStart=>exact ⟨(true),(0),zo,zo,H',⟨Nat.le_refl _⟩,zz4⟩
   case round=>
    clear H'
    obtain ⟨x10_2,x11_2,rfl,rfl,HA,HK2,⟨m2,rfl⟩⟩:=hrel
    cases gk with
    | zero=>exact absurd HA.out (by simp [spec_l7Next.l1])
    | succ k2=>
     have H:=HA.out
     clear HA
     simp only [spec_l7Next.l1] at H
     replace H:=gND H;rcases H with ⟨c10b0,H⟩ | ⟨c10b0,H⟩
     ·replace H:=gNB H;rcases H with ⟨rfl,H⟩ | ⟨rfl,H⟩
      ·have H':=ak_ H
       clear H
       go_wp2
       repeat (go_quiet (fail))
       go_roundg k2
       case measure=>have:=HK1.out;have:=HK2.out;omega
       case rel=>exact ⟨(wrap64 (x9_1 + 1)),zo,H',⟨zz32⟩,zz4⟩
      replace H:=gD H;obtain ⟨c22b0,H⟩:=H
      replace H:=gD H;obtain ⟨c23b0,H⟩:=H
      obtain rfl:=oi_ H
      have p398:0<=(x9_1:Int):=oz_
      have q398:x9_1<(l1.length:Int):=oz_
      obtain ⟨ad398,e398,hx398_0⟩:=Kd.at_int HR1.out x9_1 p398 q398
      obtain rfl:ad391=ad398:=(by injection e398)
      replace p398:=eq_true p398
      replace q398:=eq_true q398
      go_wp2
      repeat (go_quiet (fail))
      go_ret
      exact ⟨zz7,zz4⟩
     replace H:=gD H;obtain ⟨c11b0,H⟩:=H
     replace H:=gD H;obtain ⟨c12b0,H⟩:=H
     replace H:=gD H;obtain ⟨c13b0,H⟩:=H
     replace H:=gD H;obtain ⟨c14b0,H⟩:=H
     replace H:=gD H;obtain ⟨c15b0,H⟩:=H
     replace H:=gD H;obtain ⟨c16b0,H⟩:=H
     obtain ⟨bq17,hbq17⟩:∃ b_:Bool,b_=(rdOf false (rd_L4 l0 x11_2) (rd l1 x9_1)):=⟨_,rfl⟩
     replace H:(if bq17=true then (if (rd l2 x11_2)<0 then (spec_l7Next.l1 k2 l0 l1 l2 a3 x9_1 false (wrap64 (x11_2 + 1))) else (if (rd l2 x11_2)>a3 then (spec_l7Next.l1 k2 l0 l1 l2 a3 x9_1 false (wrap64 (x11_2 + 1))) else (spec_l7Next.l1 k2 l0 l1 l2 a3 x9_1 x10_2 (wrap64 (x11_2 + 1))))) else (spec_l7Next.l1 k2 l0 l1 l2 a3 x9_1 x10_2 (wrap64 (x11_2 + 1))))=some r:=by rw [<-hbq17] at H;exact H
     have Nbq17:=ak_ hbq17
     clear hbq17
     replace H:=gNB H;rcases H with ⟨rfl,H⟩ | ⟨rfl,H⟩
     ·have H':=ak_ H
      clear H
      have p393:0<=(x11_2:Int):=oz_
      have q393:x11_2<(l0.length:Int):=oz_
      obtain ⟨ad393,A393_0,c393_0,e393,hx393_0,hl393_0,hi393_0⟩:=at_L4 HR0.out x11_2 p393 q393
      cases e393
      have HR393_0:=ak_ hi393_0
      have HC393_0:=ak_ hl393_0
      clear hi393_0 hl393_0
      replace p393:=eq_true p393
      replace q393:=eq_true q393
      have p394:0<=(x9_1:Int):=oz_
      have q394:x9_1<(l1.length:Int):=oz_
      obtain ⟨ad394,e394,hx394_0⟩:=Kd.at_int HR1.out x9_1 p394 q394
      obtain rfl:ad391=ad394:=(by injection e394)
      replace p394:=eq_true p394
      replace q394:=eq_true q394
      have p395:0<=((rd l1 x9_1):Int):=oz_
      have q395:(rd l1 x9_1)<((rd_L4 l0 x11_2).length:Int):=oz_
      obtain ⟨ad395,e395,hx395_0⟩:=Kd.at_bool HR393_0.out (rd l1 x9_1) p395 q395
      (try rw [<-Nbq17.out] at hx395_0)
      cases e395
      replace p395:=eq_true p395
      replace q395:=eq_true q395
      go_wp2
      repeat (go_quiet (fail);try go_wp2)
      go_roundg k2
      case measure=>have:=HK1.out;have:=HK2.out;omega
      case rel=>exact ⟨(x10_2),(wrap64 (x11_2 + 1)),zo,zo,H',⟨zz32⟩,zz4⟩
     replace H:=gPD H;rcases H with ⟨c19b0,H⟩ | ⟨c19b0,H⟩
     ·have H':=ak_ H
      clear H
      have p393:0<=(x11_2:Int):=oz_
      have q393:x11_2<(l0.length:Int):=oz_
      obtain ⟨ad393,A393_0,c393_0,e393,hx393_0,hl393_0,hi393_0⟩:=at_L4 HR0.out x11_2 p393 q393
      cases e393
      have HR393_0:=ak_ hi393_0
      have HC393_0:=ak_ hl393_0
      clear hi393_0 hl393_0
      replace p393:=eq_true p393
      replace q393:=eq_true q393
      have p394:0<=(x9_1:Int):=oz_
      have q394:x9_1<(l1.length:Int):=oz_
      obtain ⟨ad394,e394,hx394_0⟩:=Kd.at_int HR1.out x9_1 p394 q394
      obtain rfl:ad391=ad394:=(by injection e394)
      replace p394:=eq_true p394
      replace q394:=eq_true q394
      have p395:0<=((rd l1 x9_1):Int):=oz_
      have q395:(rd l1 x9_1)<((rd_L4 l0 x11_2).length:Int):=oz_
      obtain ⟨ad395,e395,hx395_0⟩:=Kd.at_bool HR393_0.out (rd l1 x9_1) p395 q395
      (try rw [<-Nbq17.out] at hx395_0)
      cases e395
      replace p395:=eq_true p395
      replace q395:=eq_true q395
      have p396:0<=(x11_2:Int):=oz_
      have q396:x11_2<(l2.length:Int):=oz_
      obtain ⟨ad396,e396,hx396_0⟩:=Kd.at_int HR2.out x11_2 p396 q396
      obtain rfl:ad392=ad396:=(by injection e396)
      replace p396:=eq_true p396
      replace q396:=eq_true q396
      go_wp2
      repeat (go_quiet (fail);try go_wp2)
      go_roundg k2
      case measure=>have:=HK1.out;have:=HK2.out;omega
      case rel=>exact ⟨(false),(wrap64 (x11_2 + 1)),zo,zo,H',⟨zz32⟩,zz4⟩
     replace H:=gPD H;rcases H with ⟨c20b0,H⟩ | ⟨c20b0,H⟩
     ·have H':=ak_ H
      clear H
      have p393:0<=(x11_2:Int):=oz_
      have q393:x11_2<(l0.length:Int):=oz_
      obtain ⟨ad393,A393_0,c393_0,e393,hx393_0,hl393_0,hi393_0⟩:=at_L4 HR0.out x11_2 p393 q393
      cases e393
      have HR393_0:=ak_ hi393_0
      have HC393_0:=ak_ hl393_0
      clear hi393_0 hl393_0
      replace p393:=eq_true p393
      replace q393:=eq_true q393
      have p394:0<=(x9_1:Int):=oz_
      have q394:x9_1<(l1.length:Int):=oz_
      obtain ⟨ad394,e394,hx394_0⟩:=Kd.at_int HR1.out x9_1 p394 q394
      obtain rfl:ad391=ad394:=(by injection e394)
      replace p394:=eq_true p394
      replace q394:=eq_true q394
      have p395:0<=((rd l1 x9_1):Int):=oz_
      have q395:(rd l1 x9_1)<((rd_L4 l0 x11_2).length:Int):=oz_
      obtain ⟨ad395,e395,hx395_0⟩:=Kd.at_bool HR393_0.out (rd l1 x9_1) p395 q395
      (try rw [<-Nbq17.out] at hx395_0)
      cases e395
      replace p395:=eq_true p395
      replace q395:=eq_true q395
      have p396:0<=(x11_2:Int):=oz_
      have q396:x11_2<(l2.length:Int):=oz_
      obtain ⟨ad396,e396,hx396_0⟩:=Kd.at_int HR2.out x11_2 p396 q396
      obtain rfl:ad392=ad396:=(by injection e396)
      replace p396:=eq_true p396
      replace q396:=eq_true q396
      have p397:0<=(x11_2:Int):=oz_
      have q397:x11_2<(l2.length:Int):=oz_
      obtain ⟨ad397,e397,hx397_0⟩:=Kd.at_int HR2.out x11_2 p397 q397
      obtain rfl:ad392=ad397:=(by injection e397)
      replace p397:=eq_true p397
      replace q397:=eq_true q397
      go_wp2
      repeat (go_quiet (fail);try go_wp2)
      go_roundg k2
      case measure=>have:=HK1.out;have:=HK2.out;omega
      case rel=>exact ⟨(false),(wrap64 (x11_2 + 1)),zo,zo,H',⟨zz32⟩,zz4⟩
     have H':=ak_ H
     clear H
     have p393:0<=(x11_2:Int):=oz_
     have q393:x11_2<(l0.length:Int):=oz_
     obtain ⟨ad393,A393_0,c393_0,e393,hx393_0,hl393_0,hi393_0⟩:=at_L4 HR0.out x11_2 p393 q393
     cases e393
     have HR393_0:=ak_ hi393_0
     have HC393_0:=ak_ hl393_0
     clear hi393_0 hl393_0
     replace p393:=eq_true p393
     replace q393:=eq_true q393
     have p394:0<=(x9_1:Int):=oz_
     have q394:x9_1<(l1.length:Int):=oz_
     obtain ⟨ad394,e394,hx394_0⟩:=Kd.at_int HR1.out x9_1 p394 q394
     obtain rfl:ad391=ad394:=(by injection e394)
     replace p394:=eq_true p394
     replace q394:=eq_true q394
     have p395:0<=((rd l1 x9_1):Int):=oz_
     have q395:(rd l1 x9_1)<((rd_L4 l0 x11_2).length:Int):=oz_
     obtain ⟨ad395,e395,hx395_0⟩:=Kd.at_bool HR393_0.out (rd l1 x9_1) p395 q395
     (try rw [<-Nbq17.out] at hx395_0)
     cases e395
     replace p395:=eq_true p395
     replace q395:=eq_true q395
     have p396:0<=(x11_2:Int):=oz_
     have q396:x11_2<(l2.length:Int):=oz_
     obtain ⟨ad396,e396,hx396_0⟩:=Kd.at_int HR2.out x11_2 p396 q396
     obtain rfl:ad392=ad396:=(by injection e396)
     replace p396:=eq_true p396
     replace q396:=eq_true q396
     have p397:0<=(x11_2:Int):=oz_
     have q397:x11_2<(l2.length:Int):=oz_
     obtain ⟨ad397,e397,hx397_0⟩:=Kd.at_int HR2.out x11_2 p397 q397
     obtain rfl:ad392=ad397:=(by injection e397)
     replace p397:=eq_true p397
     replace q397:=eq_true q397
     go_wp2
     repeat (go_quiet (fail);try go_wp2)
     go_roundg k2
     case measure=>have:=HK1.out;have:=HK2.out;omega
     case rel=>exact ⟨(x10_2),(wrap64 (x11_2 + 1)),zo,zo,H',⟨zz32⟩,zz4⟩
