import Derived.Test.YtndcbfifmafcoaaXFnTailsFirstx19
import Derived.Test.YtndcbfifmafcoaaXFnTailsFirstx22
namespace Go.Proofs.Ytndcbfifmafcoaa.XFnTailsFirst
set_option maxRecDepth 100000
set_option maxHeartbeats 8000000
open Go.RowKit Go.Proofs.YtndcbfifmafcoaaW.PrintWords Go.Proofs.YtndcbfifmafcoaaW.PrintLast Go.Proofs.YtndcbfifmafcoaaW.PrintMore
set_option linter.unusedVariables false
set_option linter.unusedSimpArgs false
def spec_l1Most.f (a0:Int) (a1:Int):Option (Int):=if a0>a1 then (some a0) else (some a1)
theorem spec_l1Most.calls (a0:Int) (a1:Int) (r:Int) (w:World) (h:spec_l1Most.f a0 a1=some r) :
  Calls Try.prog 78 #[.int .i64 a0,.int .i64 a1] w fun e w'=>e=.returned (.int .i64 r)/\Drawn0 w w':=by
 have H:(if a0>a1 then (some a0) else (some a1))=some r:=h;clear h;replace H:=gPD H;rcases H with ⟨c3b0,H⟩ | ⟨c3b0,H⟩
 ·obtain rfl:=oi_ H
  go_enter Try.func78,Try.ntmps78
  go_wp2
  go_ret
  exact ⟨zz7,zz4⟩
 obtain rfl:=oi_ H
 go_enter Try.func78,Try.ntmps78
 go_wp2
 go_ret
 exact ⟨zz7,zz4⟩
mutual
def spec_l7Tail.l0:Nat->List (S44)->List (List Bool)->Int->Int->Int->Option (Int)
 | 0,_,_,_,_,_=>none
 | k + 1,x0,x1,x2,x7,x8=>if x8<(x0.length:Int) then (if 0<=x2 then (if x2<(x1.length:Int) then (if 0<=x8 then (if x8<((rd_L5 x1 x2).length:Int) then (if rdOf false (rd_L5 x1 x2) x8=true then ((spec_l7Tail.f k x0 x1 x8).bind fun t573=>((spec_l1Most.f x7 t573).bind fun t574=>(spec_l7Tail.l0 k x0 x1 x2 t574 (wrap64 (x8 + 1))))) else (spec_l7Tail.l0 k x0 x1 x2 x7 (wrap64 (x8 + 1)))) else (none)) else (none)) else (none)) else (none)) else (if 0<=x2 then (if x2<(x0.length:Int) then (some (wrap64 (((rd_T44 x0 x2).f0) + x7))) else (none)) else (none))
def spec_l7Tail.f:Nat->List (S44)->List (List Bool)->Int->Option (Int)
 | 0,_,_,_=>none
 | k + 1,l0,l1,a2=>spec_l7Tail.l0 k l0 l1 a2 0 0
end
theorem spec_l7Tail.calls (k:Nat):∀ (A0:Option Addr) (c0:Nat) (l0:List (S44)) (A1:Option Addr) (c1:Nat) (l1:List (List Bool)) (a2:Int) (r:Int) (w:World) (hr0:Kd.C k44 w A0 l0.length l0) (hc0:l0.length<=c0) (hr1:Kd.C (Kd.slice 4 Kd.bool) w A1 l1.length l1) (hc1:l1.length<=c1) (h:spec_l7Tail.f k l0 l1 a2=some r),
  Calls Try.prog 62 #[.slice A0 l0.length c0,.slice A1 l1.length c1,.int .i64 a2] w fun e w'=>e=.returned (.int .i64 r)/\Drawn0 w w':=by
 induction k using Nat.strongRecOn with
 | _ k ih=>
 intro A0 c0 l0 A1 c1 l1 a2 r w hr0 hc0 hr1 hc1 h;cases k with
 | zero=>exact absurd h (by simp [spec_l7Tail.f])
 | succ k=>
 simp only [spec_l7Tail.f] at h;have HR0:=ak_ hr0;have HC0:=ak_ hc0;clear hr0 hc0;have HR1:=ak_ hr1;have HC1:=ak_ hc1;clear hr1 hc1;have H:(spec_l7Tail.l0 k l0 l1 a2 0 0)=some r:=h;clear h;have H':=ak_ H;clear H
 go_enter Try.func62,Try.ntmps62
 go_wp2
 go_loopg [7,8] k (fun kq v7 v8 w'=>∃ (x7_1:Int) (x8_1:Int),v7=.int .i64 x7_1/\v8=.int .i64 x8_1/\Aside0 (spec_l7Tail.l0 kq l0 l1 a2 x7_1 x8_1=some r)/\Aside0 (kq<=k)/\Drawn0 w w')
 case atStart=>exact ⟨(0),(0),zo,zo,H',⟨Nat.le_refl _⟩,zz4⟩
 case round=>
  clear H';obtain ⟨x7_1,x8_1,rfl,rfl,HA,HK1,⟨m1,rfl⟩⟩:=hrel;cases gk with
  | zero=>exact absurd HA.out (by simp [spec_l7Tail.l0])
  | succ k1=>
   have H:=HA.out;clear HA;simp only [spec_l7Tail.l0] at H;replace H:=gND H;rcases H with ⟨c4b0,H⟩ | ⟨c4b0,H⟩
   ·replace H:=gD H;obtain ⟨c13b0,H⟩:=H;replace H:=gD H;obtain ⟨c14b0,H⟩:=H;obtain rfl:=oi_ H;obtain ⟨p570,q570,ad570,e570,hx570_0,hx570_1,hx570_2,hx570_3⟩:=ab_ (at_T44 HR0.out a2);cases e570
    go_wp2
    go_ret
    exact ⟨zz7,zz4⟩
   replace H:=gD H;obtain ⟨c5b0,H⟩:=H;replace H:=gD H;obtain ⟨c6b0,H⟩:=H;replace H:=gD H;obtain ⟨c7b0,H⟩:=H;replace H:=gD H;obtain ⟨c8b0,H⟩:=H;obtain ⟨bq9,hbq9⟩:∃ b_:Bool,b_=(rdOf false (rd_L5 l1 a2) x8_1):=⟨_,rfl⟩;replace H:(if bq9=true then ((spec_l7Tail.f k1 l0 l1 x8_1).bind fun t573=>((spec_l1Most.f x7_1 t573).bind fun t574=>(spec_l7Tail.l0 k1 l0 l1 a2 t574 (wrap64 (x8_1 + 1))))) else (spec_l7Tail.l0 k1 l0 l1 a2 x7_1 (wrap64 (x8_1 + 1))))=some r:=by rw [<-hbq9] at H;exact H
   have Nbq9:=ak_ hbq9;clear hbq9;replace H:=gNB H;rcases H with ⟨rfl,H⟩ | ⟨rfl,H⟩
   ·have H':=ak_ H;clear H;obtain ⟨p571,q571,ad571,A571_0,c571_0,e571,hx571_0,hl571_0,hi571_0⟩:=ab_ (at_L5 HR1.out a2);cases e571;have HR571_0:=ak_ hi571_0;have HC571_0:=ak_ hl571_0;clear hi571_0 hl571_0;obtain ⟨p572,q572,ad572,e572,hx572_0⟩:=ab_ (Kd.at_bool HR571_0.out x8_1)
    (try rw [<-Nbq9.out] at hx572_0)
    cases e572
    go_wp2
    go_roundg k1
    case measure=>have:=HK1.out;omega
    case rel=>exact ⟨(x7_1),(wrap64 (x8_1 + 1)),zo,zo,H',⟨by have:=HK1.out;omega⟩,zz4⟩
   replace H:=gT H;obtain ⟨t573,A11,H⟩:=H;replace H:=gT H;obtain ⟨t574,A12,H⟩:=H;have H':=ak_ H;clear H;obtain ⟨p571,q571,ad571,A571_0,c571_0,e571,hx571_0,hl571_0,hi571_0⟩:=ab_ (at_L5 HR1.out a2);cases e571;have HR571_0:=ak_ hi571_0;have HC571_0:=ak_ hl571_0;clear hi571_0 hl571_0;obtain ⟨p572,q572,ad572,e572,hx572_0⟩:=ab_ (Kd.at_bool HR571_0.out x8_1)
   (try rw [<-Nbq9.out] at hx572_0)
   cases e572
   go_wp2_with (first|(refine zgo 26 Try.func62 #[.slice A0 l0.length c0,.slice (some ad571) l1.length c1,.int .i64 x8_1] ?_;(with_reducible refine (ih k1 (by have:=HK1.out;omega) _ _ l0 _ _ l1 x8_1 t573 _ ?side1 ?side2 ?side3 ?side4 A11.out).mono ?_);(case side1=>exact zC HR0.out);(case side2=>exact HC0.out);(case side3=>exact zC HR1.out);(case side4=>exact HC1.out);rintro e w' ⟨rfl,⟨nd,rfl⟩⟩;refine ⟨_,rfl,?_⟩)|(refine zgo 27 Try.func78 #[.int .i64 x7_1,.int .i64 t573] ?_;(with_reducible refine (spec_l1Most.calls x7_1 t573 t574 _ A12.out).mono ?_);rintro e w' ⟨rfl,⟨nd,rfl⟩⟩;refine ⟨_,rfl,?_⟩))
   go_roundg k1
   case measure=>have:=HK1.out;omega
   case rel=>exact ⟨(t574),(wrap64 (x8_1 + 1)),zo,zo,H',⟨by have:=HK1.out;omega⟩,zz4⟩
def spec_l7Tails.l0:Nat->List (S44)->List Int->List (List Bool)->Int->Option (List Int)
 | 0,_,_,_,_=>none
 | k + 1,x0,x5,x6,x7=>if x7<(x0.length:Int) then ((spec_l7Tail.f k x0 x6 x7).bind fun t581=>(if x5.length<17592186044416 then (spec_l7Tails.l0 k x0 (x5++[t581]) x6 (wrap64 (x7 + 1))) else (none))) else (some x5)
def spec_l7Tails.f (k:Nat) (l0:List (S44)) (l1:List (S42)):Option (List Int):=(spec_l4Table.f k (l0.length:Int) l1).bind fun t578=>(spec_l7Tails.l0 k l0 (([]:List Int)) t578 0)
theorem spec_l7Tails.calls (k:Nat) (A0:Option Addr) (c0:Nat) (l0:List (S44)) (A1:Option Addr) (c1:Nat) (l1:List (S42)) (r:List Int) (w:World) (hr0:Kd.C k44 w A0 l0.length l0) (hc0:l0.length<=c0) (hr1:Kd.C k42 w A1 l1.length l1) (hc1:l1.length<=c1) (h:spec_l7Tails.f k l0 l1=some r) :
  Calls Try.prog 35 #[.slice A0 l0.length c0,.slice A1 l1.length c1] w fun e w'=>∃ v0_:Value,e=.returned (v0_)/\Kd.R (Kd.int .i64) 3 w' w.heap.size (fun _=>True) v0_ r/\Below w.heap.size w w':=by
 have HR0:=ak_ hr0;have HC0:=ak_ hc0;clear hr0 hc0;have HR1:=ak_ hr1;have HC1:=ak_ hc1;clear hr1 hc1;have HB:=ak_ (Below.refl w.heap.size w);have H:((spec_l4Table.f k (l0.length:Int) l1).bind fun t578=>(spec_l7Tails.l0 k l0 (([]:List Int)) t578 0))=some r:=h;clear h;generalize hy575:(([]:List Int):List Int)=y575 at H;have Ny575:=ak_ hy575.symm;clear hy575;replace H:=gT H;obtain ⟨t578,A3,H⟩:=H;have H':=ak_ H;clear H
 go_enter Try.func35,Try.ntmps35
 go_wp2_with (first|((with_reducible refine gate_dst (N:=8) rfl ?_);refine rl_ (Kd.int .i64) 3 (N:=8) (xs:=([]:List Int)) (inner:=[]) (Reps.none _ _) ?_;intro v576 w4 ho5 hb hg_ hnew_;clear hg_ hnew_;(rw [<-Ny575.out] at ho5);have HO577:=ak_ (Kd.R_lower ho5 (below_size zb));replace HB:=zb1 hb;clear hb ho5)|(refine zgo 12 Try.func58 #[.int .i64 (l0.length:Int),.slice A1 l1.length c1] ?_;(with_reducible refine (spec_l4Table.calls k (l0.length:Int) _ _ l1 t578 _ ?side1 ?side2 A3.out).mono ?_);(case side1=>exact zC (Kd.C_below HR1.out HB.out));(case side2=>exact HC1.out);rintro e w6 ⟨v579,rfl,ho0,hb⟩;refine ⟨_,rfl,?_⟩;replace HO577:=zRb HO577 hb;have HO580:=ak_ (Kd.S_lower ho0 (below_size zb));replace HB:=zb1 hb;(try clear hb);(try clear ho0)))
 go_loopg [5,7] k (fun kq v5 v7 w'=>∃ (x5_1:List Int) (x7_1:Int),v7=.int .i64 x7_1/\Aside0 (spec_l7Tails.l0 kq l0 x5_1 t578 x7_1=some r)/\Aside0 (kq<=k)/\Aside0 (Kd.R (Kd.int .i64) 3 w' w.heap.size (fun _=>True) v5 x5_1)/\Aside0 (Kd.S (Kd.slice 4 Kd.bool) 80 w' w.heap.size (fun _=>True) v579 t578)/\Aside0 (Below w.heap.size w w'))
 case atStart=>exact ⟨(y575),(0),zo,H',⟨Nat.le_refl _⟩,⟨zR HO577.out⟩,⟨zS HO580.out⟩,⟨zb⟩⟩
 case round=>
  clear H';obtain ⟨x5_1,x7_1,rfl,HA,HK1,HO_5,HO_6,HB⟩:=hrel;cases gk with
  | zero=>exact absurd HA.out (by simp [spec_l7Tails.l0])
  | succ k1=>
   have H:=HA.out;clear HA;simp only [spec_l7Tails.l0] at H;replace H:=gND H;rcases H with ⟨c7b0,H⟩ | ⟨c7b0,H⟩
   ·obtain rfl:=oi_ H
    go_wp2
    go_ret
    exact ⟨_,zz3,zR HO_5.out,zb⟩
   replace H:=gT H;obtain ⟨t581,A8,H⟩:=H;replace H:=gL H;obtain ⟨LMc9,H⟩:=H;generalize hy582:(x5_1++[t581]:List Int)=y582 at H;have Ny582:=ak_ hy582.symm;clear hy582;have H':=ak_ H;clear H;obtain ⟨Ao10,co10,eo10⟩:=Kd.S_slice HO_6.out;subst eo10
   go_wp2_with (first|(refine zgo 23 Try.func62 #[.slice A0 l0.length c0,.slice Ao10 t578.length co10,.int .i64 x7_1] ?_;(with_reducible refine (spec_l7Tail.calls k1 _ _ l0 _ _ t578 x7_1 t581 _ ?side1 ?side2 ?side3 ?side4 A8.out).mono ?_);(case side1=>exact zC (Kd.C_below HR0.out HB.out));(case side2=>exact HC0.out);(case side3=>exact zC ((Kd.S_reads' HO_6.out).2.2));(case side4=>exact (Kd.S_reads' HO_6.out).2.1);rintro e w' ⟨rfl,⟨nd,rfl⟩⟩;refine ⟨_,rfl,?_⟩)|((with_reducible refine gate_builtin (b:=.append) (xs:=#[.tmp 19,.tmp 24]) rfl ?_);at_builtin;refine Kd.R_append (Kd.int .i64) (w0:=w) w.heap.size rfl (.tmp 19) (.tmp 24) 34 3 (.int .i64 0) 8 rfl Try.underlying34 info3 rfl (by decide) (by omega) u5 x5_1 t581 [.int .i64 t581] (fun _=>True) (fun _=>False) rfl rfl ?aP (fun _ hk=>hk.elim) ?aF ?aO ?aB ?aS ?aL ?_;(case aP=>exact rfl);(case aB=>exact zb);(case aF=>exact (fun _ _=>trivial));(case aO=>exact (zR HO_5.out));(case aS=>exact (below_size zb));(case aL=>have:=LMc9.out;omega);intro v583 w11 ho hb hg hat;rw [<-Ny582.out] at ho;replace HO_6:=ak_ (Kd.S_over' (zS HO_6.out) (Kd.R_typed (zR HO_5.out)) (by decide) hg);replace HB:=ak_ (hb);have HO584:=ak_ (ho);clear HO_5;clear ho hb hg hat))
   go_roundg k1
   case measure=>have:=HK1.out;omega
   case rel=>exact ⟨(y582),(wrap64 (x7_1 + 1)),zo,H',⟨by have:=HK1.out;omega⟩,⟨zR HO584.out⟩,⟨zS HO_6.out⟩,⟨zb⟩⟩
def spec_TailsFirst.f (k:Nat) (l0:List (S44)) (a1:Int) (l2:List (S42)):Option ((List (S73)) × Bool):=(spec_l7Good.f k l0 a1 l2).bind fun t585=>(if t585=true then ((spec_l7Tails.f k l0 l2).bind fun t586=>((spec_l7Falling.f k t586).bind fun t589=>((spec_l7List.f k l0 a1 l2 t589).bind fun t592=>(some (t592,true))))) else (some ((([]:List (S73))),false)))
theorem spec_TailsFirst.calls (k:Nat) (A0:Option Addr) (c0:Nat) (l0:List (S44)) (a1:Int) (A2:Option Addr) (c2:Nat) (l2:List (S42)) (r1:List (S73)) (r2:Bool) (w:World) (hr0:Kd.C k44 w A0 l0.length l0) (hc0:l0.length<=c0) (hr2:Kd.C k42 w A2 l2.length l2) (hc2:l2.length<=c2) (h:spec_TailsFirst.f k l0 a1 l2=some (r1,r2)) :
  Calls Try.prog 7 #[.slice A0 l0.length c0,.int .i64 a1,.slice A2 l2.length c2] w fun e w'=>∃ v0_:Value,e=.returned (.tuple #[v0_,.bool r2])/\Kd.R k73 73 w' w.heap.size (fun _=>True) v0_ r1/\Below w.heap.size w w':=by
 have HR0:=ak_ hr0;have HC0:=ak_ hc0;clear hr0 hc0;have HR2:=ak_ hr2;have HC2:=ak_ hc2;clear hr2 hc2;have HB:=ak_ (Below.refl w.heap.size w);have H:((spec_l7Good.f k l0 a1 l2).bind fun t585=>(if t585=true then ((spec_l7Tails.f k l0 l2).bind fun t586=>((spec_l7Falling.f k t586).bind fun t589=>((spec_l7List.f k l0 a1 l2 t589).bind fun t592=>(some (t592,true))))) else (some ((([]:List (S73))),false))))=some (r1,r2):=h;clear h;replace H:=gT H;obtain ⟨t585,A4,H⟩:=H;replace H:=gNB H;rcases H with ⟨rfl,H⟩ | ⟨rfl,H⟩
 ·generalize hy595:(([]:List (S73)):List (S73))=y595 at H;have Ny595:=ak_ hy595.symm;clear hy595;simp only [Option.some.injEq,Prod.mk.injEq] at H;obtain ⟨rfl,rfl⟩:=H
  go_enter Try.func7,Try.ntmps7
  go_wp2_with (first|(refine zgo 11 Try.func32 #[.slice A0 l0.length c0,.int .i64 a1,.slice A2 l2.length c2] ?_;(with_reducible refine (spec_l7Good.calls k _ _ l0 a1 _ _ l2 false _ ?side1 ?side2 ?side3 ?side4 A4.out).mono ?_);(case side1=>exact zC HR0.out);(case side2=>exact HC0.out);(case side3=>exact zC HR2.out);(case side4=>exact HC2.out);rintro e w15 ⟨rfl,hb⟩;refine ⟨_,rfl,?_⟩;replace HB:=zb1 hb;(try clear hb))|((with_reducible refine gate_dst (N:=13) rfl ?_);refine rl_ k73 73 (N:=13) (xs:=([]:List (S73))) (inner:=[]) (Reps.none _ _) ?_;intro v596 w16 ho17 hb hg_ hnew_;clear hg_ hnew_;(rw [<-Ny595.out] at ho17);have HO597:=ak_ (Kd.R_lower ho17 (below_size zb));replace HB:=zb1 hb;clear hb ho17))
  go_ret2
  exact ⟨_,zz3,zR HO597.out,zb⟩
 replace H:=gT H;obtain ⟨t586,A6,H⟩:=H;replace H:=gT H;obtain ⟨t589,A7,H⟩:=H;replace H:=gT H;obtain ⟨t592,A8,H⟩:=H;simp only [Option.some.injEq,Prod.mk.injEq] at H;obtain ⟨rfl,rfl⟩:=H
 go_enter Try.func7,Try.ntmps7
 go_wp2_with (first|(refine zgo 11 Try.func32 #[.slice A0 l0.length c0,.int .i64 a1,.slice A2 l2.length c2] ?_;(with_reducible refine (spec_l7Good.calls k _ _ l0 a1 _ _ l2 true _ ?side1 ?side2 ?side3 ?side4 A4.out).mono ?_);(case side1=>exact zC HR0.out);(case side2=>exact HC0.out);(case side3=>exact zC HR2.out);(case side4=>exact HC2.out);rintro e w9 ⟨rfl,hb⟩;refine ⟨_,rfl,?_⟩;replace HB:=zb1 hb;(try clear hb))|(refine zgo 19 Try.func35 #[.slice A0 l0.length c0,.slice A2 l2.length c2] ?_;(with_reducible refine (spec_l7Tails.calls k _ _ l0 _ _ l2 t586 _ ?side1 ?side2 ?side3 ?side4 A6.out).mono ?_);(case side1=>exact zC (Kd.C_below HR0.out HB.out));(case side2=>exact HC0.out);(case side3=>exact zC (Kd.C_below HR2.out HB.out));(case side4=>exact HC2.out);rintro e w10 ⟨v587,rfl,ho0,hb⟩;refine ⟨_,rfl,?_⟩;have HO588:=ak_ (Kd.R_lower ho0 (below_size zb));replace HB:=zb1 hb;(try clear hb);(try clear ho0);obtain ⟨Ao11,co11,eo11⟩:=Kd.R_slice HO588.out;subst eo11)|(refine zgo 20 Try.func34 #[.slice Ao11 t586.length co11] ?_;(with_reducible refine (spec_l7Falling.calls k _ _ t586 t589 _ ?side1 ?side2 A7.out).mono ?_);(case side1=>exact zC (r2_ HO588));(case side2=>exact r1_ HO588);rintro e w12 ⟨v590,rfl,ho0,hb⟩;refine ⟨_,rfl,?_⟩;have HO591:=ak_ (Kd.R_lower (Kd.R_new' ho0 (Kd.R_lt (zR HO588.out))) (below_size zb));replace HO588:=ak_ (Kd.R_elder' (zR HO588.out) (Kd.R_base ho0) hb);replace HB:=zb1 hb;(try clear hb);(try clear ho0);obtain ⟨Ao13,co13,eo13⟩:=Kd.R_slice HO591.out;subst eo13)|(refine zgo 21 Try.func33 #[.slice A0 l0.length c0,.int .i64 a1,.slice A2 l2.length c2,.slice Ao13 t589.length co13] ?_;(with_reducible refine (spec_l7List.calls k _ _ l0 a1 _ _ l2 _ _ t589 t592 _ ?side1 ?side2 ?side3 ?side4 ?side5 ?side6 A8.out).mono ?_);(case side1=>exact zC (Kd.C_below HR0.out HB.out));(case side2=>exact HC0.out);(case side3=>exact zC (Kd.C_below HR2.out HB.out));(case side4=>exact HC2.out);(case side5=>exact zC (r2_ HO591));(case side6=>exact r1_ HO591);rintro e w14 ⟨v593,rfl,ho0,hb⟩;refine ⟨_,rfl,?_⟩;replace HO588:=zRb HO588 hb;replace HO591:=zRb HO591 hb;have HO594:=ak_ (Kd.R_lower ho0 (below_size zb));replace HB:=zb1 hb;(try clear hb);(try clear ho0)))
 go_ret2
 exact ⟨_,zz3,zR HO594.out,zb⟩
