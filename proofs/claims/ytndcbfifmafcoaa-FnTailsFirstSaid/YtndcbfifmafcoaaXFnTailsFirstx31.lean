import Derived.Test.YtndcbfifmafcoaaXFnTailsFirstx7
import Derived.Test.YtndcbfifmafcoaaXFnTailsFirstx30
namespace Go.Proofs.Ytndcbfifmafcoaa.XFnTailsFirst
set_option maxRecDepth 100000
set_option maxHeartbeats 8000000
open Go.RowKit Go.Proofs.YtndcbfifmafcoaaW.PrintWords Go.Proofs.YtndcbfifmafcoaaW.PrintLast Go.Proofs.YtndcbfifmafcoaaW.PrintMore
set_option linter.unusedVariables false
set_option linter.unusedSimpArgs false
def impl_LabelsOf.f (k:Nat) (a0:Int) (l1:List (S42)):Option (List Int × Bool):=(impl_IsPrecedence.f k a0 l1).bind fun t749=>(if t749=true then ((impl_labelsOf.f k a0 l1).bind fun t750=>(some (t750,true))) else (some (([]:List Int),false)))
theorem impl_LabelsOf.calls (k:Nat) (a0:Int) (A1:Option Addr) (c1:Nat) (l1:List (S42)) (r1:List Int) (r2:Bool) (w:World) (hr1:Kd.C k42 w A1 l1.length l1) (hc1:l1.length<=c1) (h:impl_LabelsOf.f k a0 l1=some (r1,r2)) :
  Calls Try.prog 12 #[.int .i64 a0,.slice A1 l1.length c1] w fun e w'=>∃ v0_:Value,e=.returned (.tuple #[v0_,.bool r2])/\Kd.R (Kd.int .i64) 3 w' w.heap.size (fun _=>True) v0_ r1/\Below w.heap.size w w':=by
 have HR1:=ak_ hr1;have HC1:=ak_ hc1;clear hr1 hc1;have HB:=ak_ (Below.refl w.heap.size w);have H:((impl_IsPrecedence.f k a0 l1).bind fun t749=>(if t749=true then ((impl_labelsOf.f k a0 l1).bind fun t750=>(some (t750,true))) else (some (([]:List Int),false))))=some (r1,r2):=h;clear h;replace H:=gT H;obtain ⟨t749,A3,H⟩:=H;replace H:=gNB H;rcases H with ⟨rfl,H⟩ | ⟨rfl,H⟩
 ·simp only [Option.some.injEq,Prod.mk.injEq] at H;obtain ⟨rfl,rfl⟩:=H
  go_enter Try.func12,Try.ntmps12
  go_wp2_with ((refine zgo 8 Try.func41 #[.int .i64 a0,.slice A1 l1.length c1] ?_;(with_reducible refine (impl_IsPrecedence.calls k a0 _ _ l1 false _ ?side1 ?side2 A3.out).mono ?_);(case side1=>exact zC HR1.out);(case side2=>exact HC1.out);rintro e w8 ⟨rfl,hb⟩;refine ⟨_,rfl,?_⟩;replace HB:=zb1 hb;(try clear hb)))
  go_ret2
  exact ⟨_,zz3,zz46,zb⟩
 replace H:=gT H;obtain ⟨t750,A5,H⟩:=H;simp only [Option.some.injEq,Prod.mk.injEq] at H;obtain ⟨rfl,rfl⟩:=H
 go_enter Try.func12,Try.ntmps12
 go_wp2_with (first|(refine zgo 8 Try.func41 #[.int .i64 a0,.slice A1 l1.length c1] ?_;(with_reducible refine (impl_IsPrecedence.calls k a0 _ _ l1 true _ ?side1 ?side2 A3.out).mono ?_);(case side1=>exact zC HR1.out);(case side2=>exact HC1.out);rintro e w6 ⟨rfl,hb⟩;refine ⟨_,rfl,?_⟩;replace HB:=zb1 hb;(try clear hb))|(refine zgo 12 Try.func42 #[.int .i64 a0,.slice A1 l1.length c1] ?_;(with_reducible refine (impl_labelsOf.calls k a0 _ _ l1 t750 _ ?side1 ?side2 A5.out).mono ?_);(case side1=>exact zC (Kd.C_below HR1.out HB.out));(case side2=>exact HC1.out);rintro e w7 ⟨v751,rfl,ho0,hb⟩;refine ⟨_,rfl,?_⟩;have HO752:=ak_ (Kd.R_lower ho0 (below_size zb));replace HB:=zb1 hb;(try clear hb);(try clear ho0)))
 go_ret2
 exact ⟨_,zz3,zR HO752.out,zb⟩
def spec_l4Through.l0:Nat->List (List Bool)->Int->Int->Int->Option (Bool)
 | 0,_,_,_,_=>none
 | k + 1,x0,x1,x2,x7=>if x7<(x0.length:Int) then (if 0<=x1 then (if x1<(x0.length:Int) then (if 0<=x7 then (if x7<((rd_L5 x0 x1).length:Int) then (if rdOf false (rd_L5 x0 x1) x7=true then (if 0<=x2 then (if x2<((rd_L5 x0 x7).length:Int) then (if rdOf false (rd_L5 x0 x7) x2=true then (some true) else (spec_l4Through.l0 k x0 x1 x2 (wrap64 (x7 + 1)))) else (none)) else (none)) else (spec_l4Through.l0 k x0 x1 x2 (wrap64 (x7 + 1)))) else (none)) else (none)) else (none)) else (none)) else (some false)
def spec_l4Through.f (k:Nat) (l0:List (List Bool)) (a1:Int) (a2:Int):Option (Bool):=spec_l4Through.l0 k l0 a1 a2 0
theorem spec_l4Through.calls (k:Nat) (A0:Option Addr) (c0:Nat) (l0:List (List Bool)) (a1:Int) (a2:Int) (r:Bool) (w:World) (hr0:Kd.C (Kd.slice 4 Kd.bool) w A0 l0.length l0) (hc0:l0.length<=c0) (h:spec_l4Through.f k l0 a1 a2=some r) :
  Calls Try.prog 82 #[.slice A0 l0.length c0,.int .i64 a1,.int .i64 a2] w fun e w'=>e=.returned (.bool r)/\Drawn0 w w':=by
 have HR0:=ak_ hr0;have HC0:=ak_ hc0;clear hr0 hc0;have H:(spec_l4Through.l0 k l0 a1 a2 0)=some r:=h;clear h;have H':=ak_ H;clear H
 go_enter Try.func82,Try.ntmps82
 go_wp2
 go_loopg [7] k (fun kq v7 w'=>∃ (x7_1:Int),v7=.int .i64 x7_1/\Aside0 (spec_l4Through.l0 kq l0 a1 a2 x7_1=some r)/\Aside0 (kq<=k)/\Drawn0 w w')
 case atStart=>exact ⟨(0),zo,H',⟨Nat.le_refl _⟩,zz4⟩
 case round=>
  clear H';obtain ⟨x7_1,rfl,HA,HK1,⟨m1,rfl⟩⟩:=hrel;cases gk with
  | zero=>exact absurd HA.out (by simp [spec_l4Through.l0])
  | succ k1=>
   have H:=HA.out;clear HA;simp only [spec_l4Through.l0] at H;replace H:=gND H;rcases H with ⟨c4b0,H⟩ | ⟨c4b0,H⟩
   ·obtain rfl:=oi_ H
    go_wp2
    go_ret
    exact ⟨zz7,zz4⟩
   replace H:=gD H;obtain ⟨c5b0,H⟩:=H;replace H:=gD H;obtain ⟨c6b0,H⟩:=H;replace H:=gD H;obtain ⟨c7b0,H⟩:=H;replace H:=gD H;obtain ⟨c8b0,H⟩:=H;obtain ⟨bq9,hbq9⟩:∃ b_:Bool,b_=(rdOf false (rd_L5 l0 a1) x7_1):=⟨_,rfl⟩;replace H:(if bq9=true then (if 0<=a2 then (if a2<((rd_L5 l0 x7_1).length:Int) then (if rdOf false (rd_L5 l0 x7_1) a2=true then (some true) else (spec_l4Through.l0 k1 l0 a1 a2 (wrap64 (x7_1 + 1)))) else (none)) else (none)) else (spec_l4Through.l0 k1 l0 a1 a2 (wrap64 (x7_1 + 1))))=some r:=by rw [<-hbq9] at H;exact H
   have Nbq9:=ak_ hbq9;clear hbq9;replace H:=gNB H;rcases H with ⟨rfl,H⟩ | ⟨rfl,H⟩
   ·have H':=ak_ H;clear H;obtain ⟨p753,q753,ad753,A753_0,c753_0,e753,hx753_0,hl753_0,hi753_0⟩:=ab_ (at_L5 HR0.out a1);cases e753;have HR753_0:=ak_ hi753_0;have HC753_0:=ak_ hl753_0;clear hi753_0 hl753_0;obtain ⟨p754,q754,ad754,e754,hx754_0⟩:=ab_ (Kd.at_bool HR753_0.out x7_1)
    (try rw [<-Nbq9.out] at hx754_0)
    cases e754
    go_wp2
    go_roundg k1
    case measure=>have:=HK1.out;omega
    case rel=>exact ⟨(wrap64 (x7_1 + 1)),zo,H',⟨by have:=HK1.out;omega⟩,zz4⟩
   replace H:=gD H;obtain ⟨c11b0,H⟩:=H;replace H:=gD H;obtain ⟨c12b0,H⟩:=H;obtain ⟨bq13,hbq13⟩:∃ b_:Bool,b_=(rdOf false (rd_L5 l0 x7_1) a2):=⟨_,rfl⟩;replace H:(if bq13=true then (some true) else (spec_l4Through.l0 k1 l0 a1 a2 (wrap64 (x7_1 + 1))))=some r:=by rw [<-hbq13] at H;exact H
   have Nbq13:=ak_ hbq13;clear hbq13;replace H:=gPB H;rcases H with ⟨rfl,H⟩ | ⟨rfl,H⟩
   ·obtain rfl:=oi_ H;obtain ⟨p753,q753,ad753,A753_0,c753_0,e753,hx753_0,hl753_0,hi753_0⟩:=ab_ (at_L5 HR0.out a1);cases e753;have HR753_0:=ak_ hi753_0;have HC753_0:=ak_ hl753_0;clear hi753_0 hl753_0;obtain ⟨p754,q754,ad754,e754,hx754_0⟩:=ab_ (Kd.at_bool HR753_0.out x7_1)
    (try rw [<-Nbq9.out] at hx754_0)
    cases e754;obtain ⟨p755,q755,ad755,A755_0,c755_0,e755,hx755_0,hl755_0,hi755_0⟩:=ab_ (at_L5 HR0.out x7_1);obtain rfl:ad753=ad755:=(by injection e755);have HR755_0:=ak_ hi755_0;have HC755_0:=ak_ hl755_0;clear hi755_0 hl755_0;obtain ⟨p756,q756,ad756,e756,hx756_0⟩:=ab_ (Kd.at_bool HR755_0.out a2)
    (try rw [<-Nbq13.out] at hx756_0)
    cases e756
    go_wp2
    go_ret
    exact ⟨zz7,zz4⟩
   have H':=ak_ H;clear H;obtain ⟨p753,q753,ad753,A753_0,c753_0,e753,hx753_0,hl753_0,hi753_0⟩:=ab_ (at_L5 HR0.out a1);cases e753;have HR753_0:=ak_ hi753_0;have HC753_0:=ak_ hl753_0;clear hi753_0 hl753_0;obtain ⟨p754,q754,ad754,e754,hx754_0⟩:=ab_ (Kd.at_bool HR753_0.out x7_1)
   (try rw [<-Nbq9.out] at hx754_0)
   cases e754;obtain ⟨p755,q755,ad755,A755_0,c755_0,e755,hx755_0,hl755_0,hi755_0⟩:=ab_ (at_L5 HR0.out x7_1);obtain rfl:ad753=ad755:=(by injection e755);have HR755_0:=ak_ hi755_0;have HC755_0:=ak_ hl755_0;clear hi755_0 hl755_0;obtain ⟨p756,q756,ad756,e756,hx756_0⟩:=ab_ (Kd.at_bool HR755_0.out a2)
   (try rw [<-Nbq13.out] at hx756_0)
   cases e756
   go_wp2
   go_roundg k1
   case measure=>have:=HK1.out;omega
   case rel=>exact ⟨(wrap64 (x7_1 + 1)),zo,H',⟨by have:=HK1.out;omega⟩,zz4⟩
def spec_l7Followers.l0:Nat->List (List Bool)->Int->List Int->Int->Option (List Int)
 | 0,_,_,_,_=>none
 | k + 1,x0,x1,x5,x6=>if x6<(x0.length:Int) then (if 0<=x1 then (if x1<(x0.length:Int) then (if 0<=x6 then (if x6<((rd_L5 x0 x1).length:Int) then (if rdOf false (rd_L5 x0 x1) x6=true then ((spec_l4Through.f k x0 x1 x6).bind fun t762=>(if t762=true then (spec_l7Followers.l0 k x0 x1 x5 (wrap64 (x6 + 1))) else (if x5.length<17592186044416 then (spec_l7Followers.l0 k x0 x1 (x5++[x6]) (wrap64 (x6 + 1))) else (none)))) else (spec_l7Followers.l0 k x0 x1 x5 (wrap64 (x6 + 1)))) else (none)) else (none)) else (none)) else (none)) else (some x5)
def spec_l7Followers.f (k:Nat) (l0:List (List Bool)) (a1:Int):Option (List Int):=spec_l7Followers.l0 k l0 a1 (([]:List Int)) 0
theorem spec_l7Followers.calls (k:Nat) (A0:Option Addr) (c0:Nat) (l0:List (List Bool)) (a1:Int) (r:List Int) (w:World) (hr0:Kd.C (Kd.slice 4 Kd.bool) w A0 l0.length l0) (hc0:l0.length<=c0) (h:spec_l7Followers.f k l0 a1=some r) :
  Calls Try.prog 80 #[.slice A0 l0.length c0,.int .i64 a1] w fun e w'=>∃ v0_:Value,e=.returned (v0_)/\Kd.R (Kd.int .i64) 3 w' w.heap.size (fun _=>True) v0_ r/\Below w.heap.size w w':=by
 have HR0:=ak_ hr0;have HC0:=ak_ hc0;clear hr0 hc0;have HB:=ak_ (Below.refl w.heap.size w);have H:(spec_l7Followers.l0 k l0 a1 (([]:List Int)) 0)=some r:=h;clear h;generalize hy757:(([]:List Int):List Int)=y757 at H;have Ny757:=ak_ hy757.symm;clear hy757;have H':=ak_ H;clear H
 go_enter Try.func80,Try.ntmps80
 go_wp2_with (((with_reducible refine gate_dst (N:=7) rfl ?_);refine rl_ (Kd.int .i64) 3 (N:=7) (xs:=([]:List Int)) (inner:=[]) (Reps.none _ _) ?_;intro v758 w3 ho4 hb hg_ hnew_;clear hg_ hnew_;(rw [<-Ny757.out] at ho4);have HO759:=ak_ (Kd.R_lower ho4 (below_size zb));replace HB:=zb1 hb;clear hb ho4))
 go_loopg [5,6] k (fun kq v5 v6 w'=>∃ (x5_1:List Int) (x6_1:Int),v6=.int .i64 x6_1/\Aside0 (spec_l7Followers.l0 kq l0 a1 x5_1 x6_1=some r)/\Aside0 (kq<=k)/\Aside0 (Kd.R (Kd.int .i64) 3 w' w.heap.size (fun _=>True) v5 x5_1)/\Aside0 (Below w.heap.size w w'))
 case atStart=>exact ⟨(y757),(0),zo,H',⟨Nat.le_refl _⟩,⟨zR HO759.out⟩,⟨zb⟩⟩
 case round=>
  clear H';obtain ⟨x5_1,x6_1,rfl,HA,HK1,HO_5,HB⟩:=hrel;cases gk with
  | zero=>exact absurd HA.out (by simp [spec_l7Followers.l0])
  | succ k1=>
   have H:=HA.out;clear HA;simp only [spec_l7Followers.l0] at H;replace H:=gND H;rcases H with ⟨c5b0,H⟩ | ⟨c5b0,H⟩
   ·obtain rfl:=oi_ H
    go_wp2
    go_ret
    exact ⟨_,zz3,zR HO_5.out,zb⟩
   replace H:=gD H;obtain ⟨c6b0,H⟩:=H;replace H:=gD H;obtain ⟨c7b0,H⟩:=H;replace H:=gD H;obtain ⟨c8b0,H⟩:=H;replace H:=gD H;obtain ⟨c9b0,H⟩:=H;obtain ⟨bq10,hbq10⟩:∃ b_:Bool,b_=(rdOf false (rd_L5 l0 a1) x6_1):=⟨_,rfl⟩;replace H:(if bq10=true then ((spec_l4Through.f k1 l0 a1 x6_1).bind fun t762=>(if t762=true then (spec_l7Followers.l0 k1 l0 a1 x5_1 (wrap64 (x6_1 + 1))) else (if x5_1.length<17592186044416 then (spec_l7Followers.l0 k1 l0 a1 (x5_1++[x6_1]) (wrap64 (x6_1 + 1))) else (none)))) else (spec_l7Followers.l0 k1 l0 a1 x5_1 (wrap64 (x6_1 + 1))))=some r:=by rw [<-hbq10] at H;exact H
   have Nbq10:=ak_ hbq10;clear hbq10;replace H:=gNB H;rcases H with ⟨rfl,H⟩ | ⟨rfl,H⟩
   ·have H':=ak_ H;clear H;obtain ⟨p760,q760,ad760,A760_0,c760_0,e760,hx760_0,hl760_0,hi760_0⟩:=ab_ (at_L5 HR0.out a1);cases e760;replace hx760_0:=zh_ HB hx760_0;have HR760_0:=ak_ hi760_0;have HC760_0:=ak_ hl760_0;clear hi760_0 hl760_0;obtain ⟨p761,q761,ad761,e761,hx761_0⟩:=ab_ (Kd.at_bool HR760_0.out x6_1)
    (try rw [<-Nbq10.out] at hx761_0)
    cases e761;replace hx761_0:=zh_ HB hx761_0
    go_wp2
    go_roundg k1
    case measure=>have:=HK1.out;omega
    case rel=>exact ⟨(x5_1),(wrap64 (x6_1 + 1)),zo,H',⟨by have:=HK1.out;omega⟩,⟨zR HO_5.out⟩,⟨zb⟩⟩
   replace H:=gT H;obtain ⟨t762,A12,H⟩:=H;replace H:=gPB H;rcases H with ⟨rfl,H⟩ | ⟨rfl,H⟩
   ·have H':=ak_ H;clear H;obtain ⟨p760,q760,ad760,A760_0,c760_0,e760,hx760_0,hl760_0,hi760_0⟩:=ab_ (at_L5 HR0.out a1);cases e760;replace hx760_0:=zh_ HB hx760_0;have HR760_0:=ak_ hi760_0;have HC760_0:=ak_ hl760_0;clear hi760_0 hl760_0;obtain ⟨p761,q761,ad761,e761,hx761_0⟩:=ab_ (Kd.at_bool HR760_0.out x6_1)
    (try rw [<-Nbq10.out] at hx761_0)
    cases e761;replace hx761_0:=zh_ HB hx761_0
    go_wp2_with ((go_at_call 82;(with_reducible refine (spec_l4Through.calls k1 _ _ l0 a1 x6_1 true _ ?side1 ?side2 A12.out).mono ?_);(case side1=>exact zC (Kd.C_below HR0.out HB.out));(case side2=>exact HC0.out);rintro e w' ⟨rfl,⟨nd,rfl⟩⟩))
    go_roundg k1
    case measure=>have:=HK1.out;omega
    case rel=>exact ⟨(x5_1),(wrap64 (x6_1 + 1)),zo,H',⟨by have:=HK1.out;omega⟩,⟨zR HO_5.out⟩,⟨zb⟩⟩
   replace H:=gL H;obtain ⟨LMc14,H⟩:=H;generalize hy763:(x5_1++[x6_1]:List Int)=y763 at H;have Ny763:=ak_ hy763.symm;clear hy763;have H':=ak_ H;clear H;obtain ⟨p760,q760,ad760,A760_0,c760_0,e760,hx760_0,hl760_0,hi760_0⟩:=ab_ (at_L5 HR0.out a1);cases e760;replace hx760_0:=zh_ HB hx760_0;have HR760_0:=ak_ hi760_0;have HC760_0:=ak_ hl760_0;clear hi760_0 hl760_0;obtain ⟨p761,q761,ad761,e761,hx761_0⟩:=ab_ (Kd.at_bool HR760_0.out x6_1)
   (try rw [<-Nbq10.out] at hx761_0)
   cases e761;replace hx761_0:=zh_ HB hx761_0
   go_wp2_with (first|(go_at_call 82;(with_reducible refine (spec_l4Through.calls k1 _ _ l0 a1 x6_1 false _ ?side1 ?side2 A12.out).mono ?_);(case side1=>exact zC (Kd.C_below HR0.out HB.out));(case side2=>exact HC0.out);rintro e w' ⟨rfl,⟨nd,rfl⟩⟩)|((with_reducible refine gate_builtin (b:=.append) (xs:=#[.tmp 28,.tmp 30]) rfl ?_);at_builtin;refine Kd.R_append (Kd.int .i64) (w0:=w) w.heap.size rfl (.tmp 28) (.tmp 30) 34 3 (.int .i64 0) 8 rfl Try.underlying34 info3 rfl (by decide) (by omega) u5 x5_1 x6_1 [.int .i64 x6_1] (fun _=>True) (fun _=>False) rfl rfl ?aP (fun _ hk=>hk.elim) ?aF ?aO ?aB ?aS ?aL ?_;(case aP=>exact rfl);(case aB=>exact zb);(case aF=>exact (fun _ _=>trivial));(case aO=>exact (zR HO_5.out));(case aS=>exact (below_size zb));(case aL=>have:=LMc14.out;omega);intro v764 w15 ho hb hg hat;rw [<-Ny763.out] at ho;replace HB:=ak_ (hb);have HO765:=ak_ (ho);clear HO_5;clear ho hb hg hat))
   go_roundg k1
   case measure=>have:=HK1.out;omega
   case rel=>exact ⟨(y763),(wrap64 (x6_1 + 1)),zo,H',⟨by have:=HK1.out;omega⟩,⟨zR HO765.out⟩,⟨zb⟩⟩
mutual
def spec_l7Told.l0:Nat->List Int->List Int->List Int->Int->Option (List Int × Bool)
 | 0,_,_,_,_=>none
 | k + 1,x1,x8,x9,x10=>if x10>0 then (spec_l7Told.l1 k x1 x8 x9 x10 0) else (some (x9,((x9.length:Int) == (x8.length:Int))))
def spec_l7Told.l1:Nat->List Int->List Int->List Int->Int->Int->Option (List Int × Bool)
 | 0,_,_,_,_,_=>none
 | k + 1,x1,x8,x9,x10,x11=>if x11<(x8.length:Int) then (if 0<=x11 then (if 0<=(rd x8 x11) then (if (rd x8 x11)<(x1.length:Int) then (if (rd x1 (rd x8 x11))=x10 then (if x9.length<17592186044416 then (spec_l7Told.l1 k x1 x8 (x9++[x10]) x10 (wrap64 (x11 + 1))) else (none)) else (spec_l7Told.l1 k x1 x8 x9 x10 (wrap64 (x11 + 1)))) else (none)) else (none)) else (none)) else (spec_l7Told.l0 k x1 x8 x9 (wrap64 (x10 - 1)))
end
def spec_l7Told.f (k:Nat) (l0:List (List Bool)) (l1:List Int) (a2:Int):Option (List Int × Bool):=(spec_l7Followers.f k l0 a2).bind fun t766=>(spec_l7Told.l0 k l1 t766 (([]:List Int)) (l1.length:Int))
theorem spec_l7Told.calls (k:Nat) (A0:Option Addr) (c0:Nat) (l0:List (List Bool)) (A1:Option Addr) (c1:Nat) (l1:List Int) (a2:Int) (r1:List Int) (r2:Bool) (w:World) (hr0:Kd.C (Kd.slice 4 Kd.bool) w A0 l0.length l0) (hc0:l0.length<=c0) (hr1:Kd.C (Kd.int .i64) w A1 l1.length l1) (hc1:l1.length<=c1) (h:spec_l7Told.f k l0 l1 a2=some (r1,r2)) :
  Calls Try.prog 70 #[.slice A0 l0.length c0,.slice A1 l1.length c1,.int .i64 a2] w fun e w'=>∃ v0_:Value,e=.returned (.tuple #[v0_,.bool r2])/\Kd.R (Kd.int .i64) 3 w' w.heap.size (fun _=>True) v0_ r1/\Below w.heap.size w w':=by
 have HR0:=ak_ hr0;have HC0:=ak_ hc0;clear hr0 hc0;have HR1:=ak_ hr1;have HC1:=ak_ hc1;clear hr1 hc1;have HB:=ak_ (Below.refl w.heap.size w);have H:((spec_l7Followers.f k l0 a2).bind fun t766=>(spec_l7Told.l0 k l1 t766 (([]:List Int)) (l1.length:Int)))=some (r1,r2):=h;clear h;replace H:=gT H;obtain ⟨t766,A4,H⟩:=H;generalize hy769:(([]:List Int):List Int)=y769 at H;have Ny769:=ak_ hy769.symm;clear hy769;have H':=ak_ H;clear H
 go_enter Try.func70,Try.ntmps70
 go_wp2_with (first|(refine zgo 14 Try.func80 #[.slice A0 l0.length c0,.int .i64 a2] ?_;(with_reducible refine (spec_l7Followers.calls k _ _ l0 a2 t766 _ ?side1 ?side2 A4.out).mono ?_);(case side1=>exact zC HR0.out);(case side2=>exact HC0.out);rintro e w5 ⟨v767,rfl,ho0,hb⟩;refine ⟨_,rfl,?_⟩;have HO768:=ak_ (Kd.R_lower ho0 (below_size zb));replace HB:=zb1 hb;(try clear hb);(try clear ho0))|((with_reducible refine gate_dst (N:=15) rfl ?_);refine rl_ (Kd.int .i64) 3 (N:=15) (xs:=([]:List Int)) (inner:=[]) (Reps.none _ _) ?_;intro v770 w6 ho7 hb hg_ hnew_;clear hg_ hnew_;(rw [<-Ny769.out] at ho7);have HO771:=ak_ (Kd.R_lower (Kd.R_new' ho7 (Kd.R_lt (zR HO768.out))) (below_size zb));replace HO768:=ak_ (Kd.R_elder' (zR HO768.out) (Kd.R_base ho7) hb);replace HB:=zb1 hb;clear hb ho7))
 go_loopg [9,10] k (fun kq v9 v10 w'=>∃ (x9_1:List Int) (x10_1:Int),v10=.int .i64 x10_1/\Aside0 (spec_l7Told.l0 kq l1 t766 x9_1 x10_1=some (r1,r2))/\Aside0 (kq<=k)/\Aside0 (Kd.R (Kd.int .i64) 3 w' w.heap.size (fun k_=>some k_≠(v9:Value).ownBlock) v767 t766)/\Aside0 (Kd.R (Kd.int .i64) 3 w' w.heap.size (fun k_=>some k_≠(v767:Value).ownBlock) v9 x9_1)/\Aside0 (Below w.heap.size w w'))
 case atStart=>exact ⟨(y769),((l1.length:Int)),zo,H',⟨Nat.le_refl _⟩,⟨zR (Kd.R_mono HO768.out (fun _ hk=>hk.2))⟩,⟨zR (Kd.R_mono HO771.out (fun _ hk=>hk.2))⟩,⟨zb⟩⟩
 case round=>
  clear H';obtain ⟨x9_1,x10_1,rfl,HA,HK1,HO_8,HO_9,HB⟩:=hrel;cases gk with
  | zero=>exact absurd HA.out (by simp [spec_l7Told.l0])
  | succ k1=>
   have H:=HA.out;clear HA;simp only [spec_l7Told.l0] at H;replace H:=gND H;rcases H with ⟨c8b0,H⟩ | ⟨c8b0,H⟩
   ·simp only [Option.some.injEq,Prod.mk.injEq] at H;obtain ⟨rfl,rfl⟩:=H;obtain ⟨Ao19,co19,rfl⟩:=Kd.R_slice HO_9.out;obtain ⟨Ao20,co20,rfl⟩:=Kd.R_slice HO_8.out
    go_wp2
    go_ret2
    exact ⟨_,zz3,zR (Kd.R_mono HO_9.out (fun _ hk=>trivial)),zb⟩
   have H':=ak_ H;clear H
   go_wp2
   go_loopg [9,11] k1 (fun kq v9 v11 w'=>∃ (x9_2:List Int) (x11_2:Int),v11=.int .i64 x11_2/\Aside0 (spec_l7Told.l1 kq l1 t766 x9_2 x10_1 x11_2=some (r1,r2))/\Aside0 (kq<=k1)/\Aside0 (Kd.R (Kd.int .i64) 3 w' w.heap.size (fun k_=>some k_≠(v9:Value).ownBlock) v767 t766)/\Aside0 (Kd.R (Kd.int .i64) 3 w' w.heap.size (fun k_=>some k_≠(v767:Value).ownBlock) v9 x9_2)/\Aside0 (Below w.heap.size w w'))
   case atStart=>exact ⟨(x9_1),(0),zo,H',⟨Nat.le_refl _⟩,⟨zR HO_8.out⟩,⟨zR HO_9.out⟩,⟨zb⟩⟩
   case round=>
    clear H';obtain ⟨x9_2,x11_2,rfl,HA,HK2,HO_8,HO_9,HB⟩:=hrel;cases gk with
    | zero=>exact absurd HA.out (by simp [spec_l7Told.l1])
    | succ k2=>
     have H:=HA.out;clear HA;simp only [spec_l7Told.l1] at H;replace H:=gND H;rcases H with ⟨c9b0,H⟩ | ⟨c9b0,H⟩
     ·have H':=ak_ H;clear H;obtain ⟨Ao18,co18,rfl⟩:=Kd.R_slice HO_8.out
      go_wp2
      go_roundg k2
      case measure=>have:=HK1.out;have:=HK2.out;omega
      case rel=>exact ⟨(x9_2),(wrap64 (x10_1 - 1)),zo,H',⟨zz5⟩,⟨zR HO_8.out⟩,⟨zR HO_9.out⟩,⟨zb⟩⟩
     replace H:=gD H;obtain ⟨c10b0,H⟩:=H;replace H:=gD H;obtain ⟨c11b0,H⟩:=H;replace H:=gD H;obtain ⟨c12b0,H⟩:=H;replace H:=gN H;rcases H with ⟨c13,H⟩ | ⟨c13,H⟩
     ·have c13b0:((rd l1 (rd t766 x11_2)) == x10_1)=false:=beq_eq_false_iff_ne.mpr c13;have c13b1:((rd l1 (rd t766 x11_2)) != x10_1)=true:=bne_iff_ne.mpr c13;have H':=ak_ H;clear H;obtain ⟨Ao17,co17,rfl⟩:=Kd.R_slice HO_8.out;obtain ⟨p772,q772,ad772,e772,hx772_0⟩:=ab_ (Kd.at_int (r2_ HO_8) x11_2);cases e772;obtain ⟨p773,q773,ad773,e773,hx773_0⟩:=ab_ (Kd.at_int (Kd.C_below HR1.out HB.out) (rd t766 x11_2));cases e773
      go_wp2
      go_roundg k2
      case measure=>have:=HK1.out;have:=HK2.out;omega
      case rel=>exact ⟨(x9_2),(wrap64 (x11_2 + 1)),zo,H',⟨zz5⟩,⟨zR HO_8.out⟩,⟨zR HO_9.out⟩,⟨zb⟩⟩
     have c13b0:((rd l1 (rd t766 x11_2)) == x10_1)=true:=beq_iff_eq.mpr c13;have c13b1:((rd l1 (rd t766 x11_2)) != x10_1)=false:=bne_eq_false_iff_eq.mpr c13;clear c13;replace H:=gL H;obtain ⟨LMc14,H⟩:=H;generalize hy774:(x9_2++[x10_1]:List Int)=y774 at H;have Ny774:=ak_ hy774.symm;clear hy774;have H':=ak_ H;clear H;obtain ⟨Ao15,co15,rfl⟩:=Kd.R_slice HO_8.out;obtain ⟨p772,q772,ad772,e772,hx772_0⟩:=ab_ (Kd.at_int (r2_ HO_8) x11_2);cases e772;obtain ⟨p773,q773,ad773,e773,hx773_0⟩:=ab_ (Kd.at_int (Kd.C_below HR1.out HB.out) (rd t766 x11_2));cases e773
     go_wp2_with (((with_reducible refine gate_builtin (b:=.append) (xs:=#[.tmp 37,.tmp 39]) rfl ?_);at_builtin;refine Kd.R_append (Kd.int .i64) (w0:=w) w.heap.size rfl (.tmp 37) (.tmp 39) 34 3 (.int .i64 0) 8 rfl Try.underlying34 info3 rfl (by decide) (by omega) u9 x9_2 x10_1 [.int .i64 x10_1] (fun k_=>some k_≠(.slice (some ad772) t766.length co15:Value).ownBlock) (fun _=>False) rfl rfl ?aP (fun _ hk=>hk.elim) ?aF ?aO ?aB ?aS ?aL ?_;(case aP=>exact rfl);(case aB=>exact zb);(case aF=>exact (fun k_ hk=>Kd.fresh' (Kd.R_lt (zR HO_8.out)) k_ hk));(case aO=>exact (zR HO_9.out));(case aS=>exact (below_size zb));(case aL=>have:=LMc14.out;omega);intro v775 w16 ho hb hg hat;rw [<-Ny774.out] at ho;replace HO_8:=ak_ (Kd.R_after (ok:=(fun _=>True)) (zR (Kd.R_mono HO_8.out (fun _ hk=>⟨trivial,hk⟩))) hg hat);replace HB:=ak_ (hb);have HO776:=ak_ (ho);clear HO_9;clear ho hb hg hat))
     go_roundg k2
     case measure=>have:=HK1.out;have:=HK2.out;omega
     case rel=>exact ⟨(y774),(wrap64 (x11_2 + 1)),zo,H',⟨zz5⟩,⟨zR (Kd.R_mono HO_8.out (fun _ hk=>hk.2))⟩,⟨zR HO776.out⟩,⟨zb⟩⟩
