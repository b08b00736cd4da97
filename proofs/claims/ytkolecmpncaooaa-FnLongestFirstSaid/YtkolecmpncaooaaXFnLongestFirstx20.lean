-- Words and walks of this claim.
import Derived.Test.YtkolecmpncaooaaXFnLongestFirstx19
namespace Go.Proofs.Ytkolecmpncaooaa.XFnLongestFirst
set_option maxRecDepth 100000
set_option maxHeartbeats 8000000
open Go.RowKit Go.Proofs.YtkolecmpncaooaaW.PrintWords Go.Proofs.YtkolecmpncaooaaW.PrintLast Go.Proofs.YtkolecmpncaooaaW.PrintMore
attribute [local go_sem] max2_int min2_int max_two min_two max_three min_three max_four min_four
attribute [local go_sem] idxA_51_0 idxA_51_1 fldS_45_0 fldS_45_1 fldS_45_2 fldS_96_0 fldS_96_1 fldS_96_2
set_option linter.unusedVariables false
set_option linter.unusedSimpArgs false
def spec_l5Rests.l0:Nat->List (S31)->List Int->Int->Option (List Int)
 | 0,_,_,_=>none
 | k + 1,x0,x3,x4=>if x4<(x0.length:Int) then (if 0<=x4 then (if x3.length<17592186044416 then (spec_l5Rests.l0 k x0 (x3++[(rd_T31 x0 x4).f0]) (wrap64 (x4 + 1))) else (none)) else (none)) else (some x3)
def spec_l5Rests.f (k:Nat) (l0:List (S31)):Option (List Int):=spec_l5Rests.l0 k l0 (([]:List Int)) 0
theorem spec_l5Rests.calls (k:Nat) (A0:Option Addr) (c0:Nat) (l0:List (S31)) (r:List Int) (w:World) (hr0:Kd.C k31 w A0 l0.length l0) (hc0:l0.length<=c0) (h:spec_l5Rests.f k l0=some r) :
  Calls Try.prog 42 #[.slice A0 l0.length c0] w fun e w'=>∃ v0_:Value,e=.returned (v0_)/\Kd.R (Kd.int .i64) 3 w' w.heap.size (fun _=>True) v0_ r/\Below w.heap.size w w':=by
 have HR0:=ak_ hr0
 have HC0:=ak_ hc0
 clear hr0 hc0
 have HB:=ak_ (Below.refl w.heap.size w)
 have H:(spec_l5Rests.l0 k l0 (([]:List Int)) 0)=some r:=h
 clear h
 generalize hy481:(([]:List Int):List Int)=y481 at H
 have Ny481:=ak_ hy481.symm
 clear hy481
 have H':=ak_ H
 clear H
 go_enter Try.func42,Try.ntmps42
 go_wp2_with (((with_reducible refine gate_dst (N:=5) rfl ?_);refine Kd.R_lit (Kd.int .i64) _ 3 ?hg (N:=5) ?hd (xs:=([]:List Int)) (inner:=[]) (ok:=fun _=>True) (okp:=fun _=>True) ?hr ?hp (fun _ hk=>hk) trivial (Below.refl _ _) (Nat.le_refl _) (by simp) ?_;(case hd=>rfl);(case hg=>rfl);(case hr=>(go_simp;done));(case hp=>exact (Reps.none _ _));intro v482 w2 ho3 hb hg_ hnew_;clear hg_ hnew_;(rw [<-Ny481.out] at ho3);have HO483:=ak_ (Kd.R_lower ho3 (below_size zb));replace HB:=zb1 hb;clear hb ho3))
 go_loopg [3,4] k (fun kq v3 v4 w'=>∃ (x3_1:List Int) (x4_1:Int),v4=.int .i64 x4_1/\Aside0 (spec_l5Rests.l0 kq l0 x3_1 x4_1=some r)/\Aside0 (kq<=k)/\Aside0 (Kd.R (Kd.int .i64) 3 w' w.heap.size (fun _=>True) v3 x3_1)/\Aside0 (Below w.heap.size w w'))
 case atStart=>exact ⟨(y481),(0),zo,H',⟨Nat.le_refl _⟩,⟨zR HO483.out⟩,⟨zb⟩⟩
 case round=>
  clear H'
  obtain ⟨x3_1,x4_1,rfl,HA,HK1,HO_3,HB⟩:=hrel
  cases gk with
  | zero=>exact absurd HA.out (by simp [spec_l5Rests.l0])
  | succ k1=>
   have H:=HA.out
   clear HA
   simp only [spec_l5Rests.l0] at H
   replace H:=gND H;rcases H with ⟨c4b0,H⟩ | ⟨c4b0,H⟩
   ·obtain rfl:=oi_ H
    go_wp2
    go_ret
    exact ⟨_,zz0,zR HO_3.out,zb⟩
   replace H:=gD H;obtain ⟨c5b0,H⟩:=H
   replace H:=gL H;obtain ⟨LMc6,H⟩:=H
   generalize hy485:(x3_1++[(rd_T31 l0 x4_1).f0]:List Int)=y485 at H
   have Ny485:=ak_ hy485.symm
   clear hy485
   have H':=ak_ H
   clear H
   have p484:0<=(x4_1:Int):=oz_
   have q484:x4_1<(l0.length:Int):=oz_
   obtain ⟨ad484,e484,hx484_0,hx484_1,hx484_2,hx484_3⟩:=at_T31 HR0.out x4_1 p484 q484
   cases e484
   replace hx484_0:=zh_ HB hx484_0
   replace hx484_1:=zh_ HB hx484_1
   replace hx484_2:=zh_ HB hx484_2
   replace hx484_3:=zh_ HB hx484_3
   replace p484:=eq_true p484
   replace q484:=eq_true q484
   go_wp2_with (((with_reducible refine gate_builtin (b:=.append) (xs:=#[.tmp 12,.tmp 18]) rfl ?_);at_builtin;refine Kd.R_append (Kd.int .i64) (w0:=w) w.heap.size rfl (.tmp 12) (.tmp 18) 49 3 (.int .i64 0) 8 rfl Try.underlying49 info3 rfl (by decide) (by omega) u3 x3_1 ((rd_T31 l0 x4_1).f0) [.int .i64 ((rd_T31 l0 x4_1).f0)] (fun _=>True) (fun _=>False) rfl rfl ?aP (fun _ hk=>hk.elim) ?aF ?aO ?aB ?aS ?aL ?_;(case aP=>exact rfl);(case aB=>exact zb);(case aF=>exact (fun _ _=>trivial));(case aO=>exact (zR HO_3.out));(case aS=>exact (below_size zb));(case aL=>have:=LMc6.out;omega);intro v486 w7 ho hb hg hat;rw [<-Ny485.out] at ho;replace HB:=ak_ (hb);have HO487:=ak_ (ho);clear HO_3;clear ho hb hg hat))
   go_roundg k1
   case measure=>have:=HK1.out;omega
   case rel=>exact ⟨(y485),(wrap64 (x4_1 + 1)),zo,H',⟨by have:=HK1.out;omega⟩,⟨zR HO487.out⟩,⟨zb⟩⟩
def spec_LongestFirst.f (k:Nat) (l0:List (S31)) (a1:Int):Option ((List (S40)) × Bool):=(some (([]:List (S51)):List (S51))).bind fun y488=>((spec_l7Good.f k l0 a1 y488).bind fun t491=>(if t491=true then ((spec_l5Rests.f k l0).bind fun t492=>((spec_l7Falling.f k t492).bind fun t495=>((spec_l7List.f k l0 a1 y488 t495).bind fun t498=>(some (t498,true))))) else (some ((([]:List (S40))),false))))
theorem spec_LongestFirst.calls (k:Nat) (A0:Option Addr) (c0:Nat) (l0:List (S31)) (a1:Int) (r1:List (S40)) (r2:Bool) (w:World) (hr0:Kd.C k31 w A0 l0.length l0) (hc0:l0.length<=c0) (h:spec_LongestFirst.f k l0 a1=some (r1,r2)) :
  Calls Try.prog 13 #[.slice A0 l0.length c0,.int .i64 a1] w fun e w'=>∃ v0_:Value,e=.returned (.tuple #[v0_,.bool r2])/\Kd.R k40 40 w' w.heap.size (fun _=>True) v0_ r1/\Below w.heap.size w w':=by
 have HR0:=ak_ hr0
 have HC0:=ak_ hc0
 clear hr0 hc0
 have HB:=ak_ (Below.refl w.heap.size w)
 have H:((some (([]:List (S51)):List (S51))).bind fun y488=>((spec_l7Good.f k l0 a1 y488).bind fun t491=>(if t491=true then ((spec_l5Rests.f k l0).bind fun t492=>((spec_l7Falling.f k t492).bind fun t495=>((spec_l7List.f k l0 a1 y488 t495).bind fun t498=>(some (t498,true))))) else (some ((([]:List (S40))),false)))))=some (r1,r2):=h
 clear h
 replace H:=gY H;obtain ⟨y488,Ny488,H⟩:=H
 replace H:=gT H;obtain ⟨t491,A3,H⟩:=H
 replace H:=gNB H;rcases H with ⟨rfl,H⟩ | ⟨rfl,H⟩
 ·generalize hy501:(([]:List (S40)):List (S40))=y501 at H
  have Ny501:=ak_ hy501.symm
  clear hy501
  simp only [Option.some.injEq,Prod.mk.injEq] at H
  obtain ⟨rfl,rfl⟩:=H
  go_enter Try.func13,Try.ntmps13
  go_wp2_with (first|((with_reducible refine gate_dst (N:=7) rfl ?_);refine Kd.R_lit k51 _ 51 ?hg (N:=7) ?hd (xs:=([]:List (S51))) (inner:=[]) (ok:=fun _=>True) (okp:=fun _=>True) ?hr ?hp (fun _ hk=>hk) trivial (Below.refl _ _) (Nat.le_refl _) (by simp) ?_;(case hd=>rfl);(case hg=>rfl);(case hr=>(go_simp;done));(case hp=>exact (Reps.none _ _));intro v489 w17 ho18 hb hg_ hnew_;clear hg_ hnew_;(rw [<-Ny488.out] at ho18);have HO490:=ak_ (Kd.R_lower ho18 (below_size zb));replace HB:=zb1 hb;clear hb ho18;obtain ⟨Ao19,co19,eo19⟩:=Kd.R_slice HO490.out;subst eo19)|((with_reducible refine gate_callee (f:=39) rfl ?_);refine zgo 11 Try.func39 #[.slice A0 l0.length c0,.int .i64 a1,.slice Ao19 y488.length co19] ?_;(with_reducible refine (spec_l7Good.calls k _ _ l0 a1 _ _ y488 false _ ?side1 ?side2 ?side3 ?side4 A3.out).mono ?_);(case side1=>exact zC (Kd.C_below HR0.out HB.out));(case side2=>exact HC0.out);(case side3=>exact zC ((Kd.R_reads' HO490.out).2.2));(case side4=>exact (Kd.R_reads' HO490.out).2.1);rintro e w20 ⟨rfl,hb⟩;refine ⟨_,rfl,?_⟩;replace HO490:=zRb HO490 hb;replace HB:=zb1 hb;(try clear hb))|((with_reducible refine gate_dst (N:=13) rfl ?_);refine Kd.R_lit k40 _ 40 ?hg (N:=13) ?hd (xs:=([]:List (S40))) (inner:=[]) (ok:=fun _=>True) (okp:=fun _=>True) ?hr ?hp (fun _ hk=>hk) trivial (Below.refl _ _) (Nat.le_refl _) (by simp) ?_;(case hd=>rfl);(case hg=>rfl);(case hr=>(go_simp;done));(case hp=>exact (Reps.none _ _));intro v502 w21 ho22 hb hg_ hnew_;clear hg_ hnew_;(rw [<-Ny501.out] at ho22);replace HO490:=zRb HO490 hb;have HO503:=ak_ (Kd.R_lower ho22 (below_size zb));replace HB:=zb1 hb;clear hb ho22))
  go_ret2
  exact ⟨_,zz0,zR HO503.out,zb⟩
 replace H:=gT H;obtain ⟨t492,A5,H⟩:=H
 replace H:=gT H;obtain ⟨t495,A6,H⟩:=H
 replace H:=gT H;obtain ⟨t498,A7,H⟩:=H
 simp only [Option.some.injEq,Prod.mk.injEq] at H
 obtain ⟨rfl,rfl⟩:=H
 go_enter Try.func13,Try.ntmps13
 go_wp2_with (first|((with_reducible refine gate_dst (N:=7) rfl ?_);refine Kd.R_lit k51 _ 51 ?hg (N:=7) ?hd (xs:=([]:List (S51))) (inner:=[]) (ok:=fun _=>True) (okp:=fun _=>True) ?hr ?hp (fun _ hk=>hk) trivial (Below.refl _ _) (Nat.le_refl _) (by simp) ?_;(case hd=>rfl);(case hg=>rfl);(case hr=>(go_simp;done));(case hp=>exact (Reps.none _ _));intro v489 w8 ho9 hb hg_ hnew_;clear hg_ hnew_;(rw [<-Ny488.out] at ho9);have HO490:=ak_ (Kd.R_lower ho9 (below_size zb));replace HB:=zb1 hb;clear hb ho9;obtain ⟨Ao10,co10,eo10⟩:=Kd.R_slice HO490.out;subst eo10)|((with_reducible refine gate_callee (f:=39) rfl ?_);refine zgo 11 Try.func39 #[.slice A0 l0.length c0,.int .i64 a1,.slice Ao10 y488.length co10] ?_;(with_reducible refine (spec_l7Good.calls k _ _ l0 a1 _ _ y488 true _ ?side1 ?side2 ?side3 ?side4 A3.out).mono ?_);(case side1=>exact zC (Kd.C_below HR0.out HB.out));(case side2=>exact HC0.out);(case side3=>exact zC ((Kd.R_reads' HO490.out).2.2));(case side4=>exact (Kd.R_reads' HO490.out).2.1);rintro e w11 ⟨rfl,hb⟩;refine ⟨_,rfl,?_⟩;replace HO490:=zRb HO490 hb;replace HB:=zb1 hb;(try clear hb))|((with_reducible refine gate_callee (f:=42) rfl ?_);refine zgo 18 Try.func42 #[.slice A0 l0.length c0] ?_;(with_reducible refine (spec_l5Rests.calls k _ _ l0 t492 _ ?side1 ?side2 A5.out).mono ?_);(case side1=>exact zC (Kd.C_below HR0.out HB.out));(case side2=>exact HC0.out);rintro e w12 ⟨v493,rfl,ho0,hb⟩;refine ⟨_,rfl,?_⟩;replace HO490:=zRb HO490 hb;have HO494:=ak_ (Kd.R_lower ho0 (below_size zb));replace HB:=zb1 hb;(try clear hb);(try clear ho0);obtain ⟨Ao13,co13,eo13⟩:=Kd.R_slice HO494.out;subst eo13)|((with_reducible refine gate_callee (f:=41) rfl ?_);refine zgo 19 Try.func41 #[.slice Ao13 t492.length co13] ?_;(with_reducible refine (spec_l7Falling.calls k _ _ t492 t495 _ ?side1 ?side2 A6.out).mono ?_);(case side1=>exact zC ((Kd.R_reads' HO494.out).2.2));(case side2=>exact (Kd.R_reads' HO494.out).2.1);rintro e w14 ⟨v496,rfl,ho0,hb⟩;refine ⟨_,rfl,?_⟩;replace HO490:=zRb HO490 hb;have HO497:=ak_ (Kd.R_lower (Kd.R_new' ho0 (Kd.R_lt (zR HO494.out))) (below_size zb));replace HO494:=ak_ (Kd.R_elder' (zR HO494.out) (Kd.R_base ho0) hb);replace HB:=zb1 hb;(try clear hb);(try clear ho0);obtain ⟨Ao15,co15,eo15⟩:=Kd.R_slice HO497.out;subst eo15)|((with_reducible refine gate_callee (f:=40) rfl ?_);refine zgo 20 Try.func40 #[.slice A0 l0.length c0,.int .i64 a1,.slice Ao10 y488.length co10,.slice Ao15 t495.length co15] ?_;(with_reducible refine (spec_l7List.calls k _ _ l0 a1 _ _ y488 _ _ t495 t498 _ ?side1 ?side2 ?side3 ?side4 ?side5 ?side6 A7.out).mono ?_);(case side1=>exact zC (Kd.C_below HR0.out HB.out));(case side2=>exact HC0.out);(case side3=>exact zC ((Kd.R_reads' HO490.out).2.2));(case side4=>exact (Kd.R_reads' HO490.out).2.1);(case side5=>exact zC ((Kd.R_reads' HO497.out).2.2));(case side6=>exact (Kd.R_reads' HO497.out).2.1);rintro e w16 ⟨v499,rfl,ho0,hb⟩;refine ⟨_,rfl,?_⟩;replace HO490:=zRb HO490 hb;replace HO494:=zRb HO494 hb;replace HO497:=zRb HO497 hb;have HO500:=ak_ (Kd.R_lower ho0 (below_size zb));replace HB:=zb1 hb;(try clear hb);(try clear ho0)))
 go_ret2
 exact ⟨_,zz0,zR HO500.out,zb⟩
def impl_greatestOf.l0:Nat->Int->List Int->Int->Int->Option (Int)
 | 0,_,_,_,_=>none
 | k + 1,x3,x6,x7,x8=>if x8<x7 then (if 0<=x8 then (if x8<(x6.length:Int) then (impl_greatestOf.l0 k (mx x3 (rd x6 x8)) x6 x7 (wrap64 (x8 + 1))) else (none)) else (none)) else (some x3)
def impl_greatestOf.f (k:Nat) (l0:List Int):Option (Int):=impl_greatestOf.l0 k 0 l0 (l0.length:Int) 0
theorem impl_greatestOf.calls (k:Nat) (A0:Option Addr) (c0:Nat) (l0:List Int) (r:Int) (w:World) (hr0:Kd.C (Kd.int .i64) w A0 l0.length l0) (hc0:l0.length<=c0) (h:impl_greatestOf.f k l0=some r) :
  Calls Try.prog 84 #[.slice A0 l0.length c0] w fun e w'=>e=.returned (.int .i64 r)/\Below w.heap.size w w':=by
 have HR0:=ak_ hr0
 have HC0:=ak_ hc0
 clear hr0 hc0
 have HB:=ak_ (Below.refl w.heap.size w)
 have H:(impl_greatestOf.l0 k 0 l0 (l0.length:Int) 0)=some r:=h
 clear h
 have H':=ak_ H
 clear H
 go_enter Try.func84,Try.ntmps84
 go_wp2
 go_loopg [3,8] k (fun kq v3 v8 w'=>∃ (x3_1:Int) (x8_1:Int),v3=.int .i64 x3_1/\v8=.int .i64 x8_1/\Aside0 (impl_greatestOf.l0 kq x3_1 l0 (l0.length:Int) x8_1=some r)/\Aside0 (kq<=k)/\Aside0 (Below w.heap.size w w'))
 case atStart=>exact ⟨(0),(0),zo,zo,H',⟨Nat.le_refl _⟩,⟨zb⟩⟩
 case round=>
  clear H'
  obtain ⟨x3_1,x8_1,rfl,rfl,HA,HK1,HB⟩:=hrel
  cases gk with
  | zero=>exact absurd HA.out (by simp [impl_greatestOf.l0])
  | succ k1=>
   have H:=HA.out
   clear HA
   simp only [impl_greatestOf.l0] at H
   replace H:=gND H;rcases H with ⟨c2b0,H⟩ | ⟨c2b0,H⟩
   ·obtain rfl:=oi_ H
    go_wp2
    go_ret
    exact ⟨zz0,zb⟩
   replace H:=gD H;obtain ⟨c3b0,H⟩:=H
   replace H:=gD H;obtain ⟨c4b0,H⟩:=H
   obtain ⟨ji5,hji5⟩:∃ j_:Int,(mx x3_1 (rd l0 x8_1))=j_:=⟨_,rfl⟩
   replace H:(impl_greatestOf.l0 k1 ji5 l0 (l0.length:Int) (wrap64 (x8_1 + 1)))=some r:=by (rw [hji5] at H;exact H)
   have hji5_:(if x3_1<(rd l0 x8_1) then (rd l0 x8_1) else x3_1)=ji5:=hji5
   have H':=ak_ H
   clear H
   have p504:0<=(x8_1:Int):=oz_
   have q504:x8_1<(l0.length:Int):=oz_
   obtain ⟨ad504,e504,hx504_0⟩:=Kd.at_int HR0.out x8_1 p504 q504
   cases e504
   replace hx504_0:=zh_ HB hx504_0
   replace p504:=eq_true p504
   replace q504:=eq_true q504
   go_wp2
   go_roundg k1
   case measure=>have:=HK1.out;omega
   case rel=>exact ⟨(ji5),(wrap64 (x8_1 + 1)),(by rfl),zo,H',⟨by have:=HK1.out;omega⟩,⟨zb⟩⟩
def impl_copyInts.f (l0:List Int):Option (List Int):=(some (([]:List Int):List Int)).bind fun y505=>(if y505.length + l0.length<17592186044416 then (some (y505++l0)) else (none))
theorem impl_copyInts.calls (A0:Option Addr) (c0:Nat) (l0:List Int) (r:List Int) (w:World) (hr0:Kd.C (Kd.int .i64) w A0 l0.length l0) (hc0:l0.length<=c0) (h:impl_copyInts.f l0=some r) :
  Calls Try.prog 85 #[.slice A0 l0.length c0] w fun e w'=>∃ v0_:Value,e=.returned (v0_)/\Kd.R (Kd.int .i64) 3 w' w.heap.size (fun _=>True) v0_ r/\Below w.heap.size w w':=by
 have HR0:=ak_ hr0
 have HC0:=ak_ hc0
 clear hr0 hc0
 have HB:=ak_ (Below.refl w.heap.size w)
 have H:((some (([]:List Int):List Int)).bind fun y505=>(if y505.length + l0.length<17592186044416 then (some (y505++l0)) else (none)))=some r:=h
 clear h
 replace H:=gY H;obtain ⟨y505,Ny505,H⟩:=H
 replace H:=gL H;obtain ⟨LMc2,H⟩:=H
 generalize hy508:(y505++l0:List Int)=y508 at H
 have Ny508:=ak_ hy508.symm
 clear hy508
 obtain rfl:=oi_ H
 go_enter Try.func85,Try.ntmps85
 go_wp2_with (first|((with_reducible refine gate_dst (N:=3) rfl ?_);refine Kd.R_lit (Kd.int .i64) _ 3 ?hg (N:=3) ?hd (xs:=([]:List Int)) (inner:=[]) (ok:=fun _=>True) (okp:=fun _=>True) ?hr ?hp (fun _ hk=>hk) trivial (Below.refl _ _) (Nat.le_refl _) (by simp) ?_;(case hd=>rfl);(case hg=>rfl);(case hr=>(go_simp;done));(case hp=>exact (Reps.none _ _));intro v506 w3 ho4 hb hg_ hnew_;clear hg_ hnew_;(rw [<-Ny505.out] at ho4);have HO507:=ak_ (Kd.R_lower ho4 (below_size zb));replace HB:=zb1 hb;clear hb ho4)|((with_reducible refine gate_builtin (b:=.append) (xs:=#[.tmp 3,.tmp 4]) rfl ?_);at_builtin;refine Kd.R_append_rows (Kd.int .i64) (w0:=w) w.heap.size rfl (.tmp 3) (.tmp 4) 49 3 (.int .i64 0) 8 rfl Try.underlying49 info3 rfl (by decide) (by omega) v506 y505 l0 _ _ _ (fun _=>True) (fun _=>False) rfl rfl ?aO ?aR (fun _ _ h=>h) (fun _ h=>h.elim) ?aF ?aB ?aS ?aL ?_;(case aR=>exact zC (Kd.C_below HR0.out HB.out));(case aB=>exact zb);(case aF=>exact (fun _ _=>trivial));(case aO=>exact (zR HO507.out));(case aS=>exact (below_size zb));(case aL=>have:=LMc2.out;omega);intro v509 w5 ho hb hg hat;rw [<-Ny508.out] at ho;replace HB:=ak_ (hb);have HO510:=ak_ (ho);clear HO507;clear ho hb hg hat))
 go_ret
 exact ⟨_,zz0,zR HO510.out,zb⟩
mutual
def impl_leastLoad.l0:Nat->List (S31)->List Int->Int->Int->Int->Int->Option (Int)
 | 0,_,_,_,_,_,_=>none
 | k + 1,x0,x1,x2,x7,x18,x19=>if x19<x18 then ((impl_copyInts.f x1).bind fun t512=>(if 0<=x19 then (if x19<(t512.length:Int) then (if 0<=x2 then (if x2<(x0.length:Int) then ((impl_leastLoad.f k x0 (t512.set (x19:Int).toNat (wrap64 ((rd t512 x19) + ((rd_T31 x0 x2).f0)))) (wrap64 (x2 + 1))).bind fun t518=>(if x7<0 then (impl_leastLoad.j1 k x0 x1 x2 x7 x19 t518 x18 x19 true) else (impl_leastLoad.j1 k x0 x1 x2 x7 x19 t518 x18 x19 (decide (t518<x7))))) else (none)) else (none)) else (none)) else (none))) else (some x7)
def impl_leastLoad.j1:Nat->List (S31)->List Int->Int->Int->Int->Int->Int->Int->Bool->Option (Int)
 | 0,_,_,_,_,_,_,_,_,_=>none
 | k + 1,x0,x1,x2,x7,x8,x10,x18,x19,x46=>if x46=true then (if 0<=x8 then (if x8<(x1.length:Int) then (if (rd x1 x8)=0 then (some x10) else (impl_leastLoad.l0 k x0 x1 x2 x10 x18 (wrap64 (x19 + 1)))) else (none)) else (none)) else (if 0<=x8 then (if x8<(x1.length:Int) then (if (rd x1 x8)=0 then (some x7) else (impl_leastLoad.l0 k x0 x1 x2 x7 x18 (wrap64 (x19 + 1)))) else (none)) else (none))
def impl_leastLoad.f:Nat->List (S31)->List Int->Int->Option (Int)
 | 0,_,_,_=>none
 | k + 1,l0,l1,a2=>if a2=(l0.length:Int) then ((impl_greatestOf.f k l1).bind fun t511=>(some t511)) else (impl_leastLoad.l0 k l0 l1 a2 (-1) (l1.length:Int) 0)
end
def impl_leastLoad.T8:Bool × List (List Nat × List Nat):=(true,[([],[]),([],[]),([0,1],[0,1]),([2],[2]),([],[]),([],[]),([4,5],[4,5]),([6],[6]),([7],[7]),([3,8],[3,8]),([0,1,0,1,2,3,4,5,6,7,8,9],[0,1]),([10,9,0,1,2,3,4,5,6,7,8,9],[9,10])])
def impl_leastLoad.B8:List Nat:=[0,0,3,7,0,0,48,112,240,511,1023,2047]
theorem impl_leastLoad.tab8:rtab .any (opsOf Try.f43 8)=impl_leastLoad.T8:=by kernel_rfl
theorem impl_leastLoad.bits8:waitsOk impl_leastLoad.T8.2 impl_leastLoad.B8=true:=by kernel_rfl
theorem impl_leastLoad.calls (k:Nat):∀ (A0:Option Addr) (c0:Nat) (l0:List (S31)) (A1:Option Addr) (c1:Nat) (l1:List Int) (a2:Int) (r:Int) (w:World) (hr0:Kd.C k31 w A0 l0.length l0) (hc0:l0.length<=c0) (hr1:Kd.C (Kd.int .i64) w A1 l1.length l1) (hc1:l1.length<=c1) (h:impl_leastLoad.f k l0 l1 a2=some r),
  Calls Try.prog 43 #[.slice A0 l0.length c0,.slice A1 l1.length c1,.int .i64 a2] w fun e w'=>e=.returned (.int .i64 r)/\Below w.heap.size w w':=by
 induction k using Nat.strongRecOn with
 | _ k ih=>
 intro A0 c0 l0 A1 c1 l1 a2 r w hr0 hc0 hr1 hc1 h
 cases k with
 | zero=>exact absurd h (by simp [impl_leastLoad.f])
 | succ k=>
 simp only [impl_leastLoad.f] at h
 have HR0:=ak_ hr0
 have HC0:=ak_ hc0
 clear hr0 hc0
 have HR1:=ak_ hr1
 have HC1:=ak_ hc1
 clear hr1 hc1
 have HB:=ak_ (Below.refl w.heap.size w)
 have H:(if a2=(l0.length:Int) then ((impl_greatestOf.f k l1).bind fun t511=>(some t511)) else (impl_leastLoad.l0 k l0 l1 a2 (-1) (l1.length:Int) 0))=some r:=h
 clear h
 replace H:=gP H;rcases H with ⟨c4,H⟩ | ⟨c4,H⟩
 ·have c4b0:(a2 == (l0.length:Int))=true:=beq_iff_eq.mpr c4
  have c4b1:(a2 != (l0.length:Int))=false:=bne_eq_false_iff_eq.mpr c4
  clear c4
  replace H:=gT H;obtain ⟨t511,A5,H⟩:=H
  obtain rfl:=oi_ H
  go_enter Try.func43,Try.ntmps43
  go_wp2_with (((with_reducible refine gate_callee (f:=84) rfl ?_);refine zgo 16 Try.func84 #[.slice A1 l1.length c1] ?_;(with_reducible refine (impl_greatestOf.calls k _ _ l1 t511 _ ?side1 ?side2 A5.out).mono ?_);(case side1=>exact zC HR1.out);(case side2=>exact HC1.out);rintro e w6 ⟨rfl,hb⟩;refine ⟨_,rfl,?_⟩;replace HB:=zb1 hb;(try clear hb)))
  go_ret
  exact ⟨zz0,zb⟩
 have c4b0:(a2 == (l0.length:Int))=false:=beq_eq_false_iff_ne.mpr c4
 have c4b1:(a2 != (l0.length:Int))=true:=bne_iff_ne.mpr c4
 have H':=ak_ H
 clear H
 go_enter Try.func43,Try.ntmps43
 go_wp2
 go_loopg [7,19] k (fun kq v7 v19 w'=>∃ (x7_1:Int) (x19_1:Int),v7=.int .i64 x7_1/\v19=.int .i64 x19_1/\Aside0 (impl_leastLoad.l0 kq l0 l1 a2 x7_1 (l1.length:Int) x19_1=some r)/\Aside0 (kq<=k)/\Aside0 (Below w.heap.size w w'))
 case atStart=>exact ⟨((-1)),(0),zo,zo,H',⟨Nat.le_refl _⟩,⟨zb⟩⟩
 case round=>
  clear H'
  obtain ⟨x7_1,x19_1,rfl,rfl,HA,HK1,HB⟩:=hrel
  cases gk with
  | zero=>exact absurd HA.out (by simp [impl_leastLoad.l0])
  | succ k1=>
   have H:=HA.out
   clear HA
   simp only [impl_leastLoad.l0] at H
   replace H:=gND H;rcases H with ⟨c7b0,H⟩ | ⟨c7b0,H⟩
   ·obtain rfl:=oi_ H
    go_wp2
    go_ret
    exact ⟨zz0,zb⟩
   replace H:=gT H;obtain ⟨t512,A8,H⟩:=H
   replace H:=gD H;obtain ⟨c9b0,H⟩:=H
   replace H:=gD H;obtain ⟨c10b0,H⟩:=H
   replace H:=gD H;obtain ⟨c11b0,H⟩:=H
   replace H:=gD H;obtain ⟨c12b0,H⟩:=H
   generalize hy517:(t512.set (x19_1:Int).toNat (wrap64 ((rd t512 x19_1) + ((rd_T31 l0 a2).f0))):List Int)=y517 at H
   have Ny517:=ak_ hy517.symm
   clear hy517
   replace H:=gT H;obtain ⟨t518,A14,H⟩:=H
   have HC15:=ak_ H
   clear H
   try go_wp2_with (((with_reducible refine gate_callee (f:=85) rfl ?_);refine zgo 23 Try.func85 #[.slice A1 l1.length c1] ?_;(with_reducible refine (impl_copyInts.calls _ _ l1 t512 _ ?side1 ?side2 A8.out).mono ?_);(case side1=>exact zC (Kd.C_below HR1.out HB.out));(case side2=>exact HC1.out);rintro e w16 ⟨v513,rfl,ho0,hb⟩;refine ⟨_,rfl,?_⟩;have HO514:=ak_ (Kd.R_lower ho0 (below_size zb));replace HB:=zb1 hb;(try clear hb);(try clear ho0)))
   replace HO514:=ak_ (Kd.R_drew HO514.out)
   replace HB:=ak_ (below_drew1 HB.out)
   obtain ⟨Ao18,co18,eo18⟩:=Kd.R_slice HO514.out
   (subst eo18)
   have p515:0<=(x19_1:Int):=oz_
   have q515:x19_1<(t512.length:Int):=oz_
   obtain ⟨ad515,e515,hx515_0⟩:=Kd.at_int (Kd.R_reads' HO514.out).2.2 x19_1 p515 q515
   cases e515
   replace p515:=eq_true p515
   replace q515:=eq_true q515
   have p516:0<=(a2:Int):=oz_
   have q516:a2<(l0.length:Int):=oz_
   obtain ⟨ad516,e516,hx516_0,hx516_1,hx516_2,hx516_3⟩:=at_T31 HR0.out a2 p516 q516
   have hw516_3:=hx516_3
   have hw516_2:=hx516_2
   have hw516_1:=hx516_1
   have hw516_0:=hx516_0
   cases e516
   replace hx516_0:=zh_ HB hx516_0
   replace hx516_1:=zh_ HB hx516_1
   replace hx516_2:=zh_ HB hx516_2
   replace hx516_3:=zh_ HB hx516_3
   replace p516:=eq_true p516
   replace q516:=eq_true q516
   have p13:0<=(x19_1:Int):=oz_
   have q13:(x19_1:Int)<((t512.length:Int):Int):=oz_
   obtain ⟨go13,co13,eo13,gb13,gl13,cl13,HG13⟩:=Kd.R_form HO514.out (by omega)
   (cases eo13)
   have GB13:=ak_ gb13
   have GG13:=ak_ HG13
   clear gb13 gl13 HG13
   (simp only [add_plain] at hx515_0)
   obtain ⟨hx13_0,hf13_0⟩:=Kd.R_celln 0 HO514.out (x19_1:Int) p13 q13
   replace p13:=eq_true p13
   replace q13:=eq_true q13
   have HP19:=Kd.R_putn HO514.out (x19_1:Int) (wrap64 ((rd t512 x19_1) + ((rd_T31 l0 a2).f0)))
   rw [<-Ny517.out] at HP19
   have HQ19:=ak_ HP19
   clear HP19
   refine start_ (n:=12) (S:=fun w'=>w'.cell? ⟨go13,(x19_1).toNat,none⟩=some (.int .i64 (rd t512 x19_1))/\w'.cell? (ad516.add ((a2).toNat * 4))=some (.int .i64 ((rd_T31 l0 a2).f0))/\w'.cell? ⟨(ad516.add ((a2).toNat * 4)).block,(ad516.add ((a2).toNat * 4)).off + 1,none⟩=some (.int .i64 ((rd_T31 l0 a2).f1))/\w'.cell? ⟨(ad516.add ((a2).toNat * 4)).block,(ad516.add ((a2).toNat * 4)).off + 2,none⟩=some (.int .i64 ((rd_T31 l0 a2).f2))/\w'.cell? ⟨(ad516.add ((a2).toNat * 4)).block,(ad516.add ((a2).toNat * 4)).off + 3,none⟩=some (.int .i64 ((rd_T31 l0 a2).f3))) (ds:=[11]) #[false,false,false,false,false,false,false,false,false,false,false,false] (by kernel_rfl) rfl rfl ⟨hx515_0,(zq_ HB hw516_0),(zq_ HB hw516_1),(zq_ HB hw516_2),(zq_ HB hw516_3)⟩ (fun hHeld=>?_);refine with_tabW impl_leastLoad.tab8 impl_leastLoad.bits8 (fun HT_ HW_=>?_)
   generalize w16.drew=w17 at HO514 HB GG13 HQ19 hf13_0 hx13_0 hx515_0 hx516_0 hx516_1 hx516_2 hx516_3 hHeld ⊢
   refine pu_ 0 24 ?_
   refine pu_ 1 25 ?_
   refine pu_ 2 26 ?_
   refine pu_ 4 28 ?_
   refine pu_ 5 29 ?_
   refine pu_ 6 30 ?_
   refine pu_ 7 31 ?_
   refine tk_ 3 27 hHeld ?_
   refine tk_ 8 32 hHeld ?_
   refine pu_ 9 33 ?_
   refine pu_ 10 34 ?_
   refine last_ (i:=11) (N:=none) #[true,true,true,true,true,true,true,true,true,true,true,true] rfl rfl (one_of HT_.out (by kernel_rfl)) (by decide) (fun K hK=>?_)
   refine skip_ (w1:=?_) (by rfl) rfl ?_ ?_
   rotate_left
   ·go_simp
    rfl
   refine hK.out _ _ ?_
   clear hK K
   refine done_ (done_of HT_.out (by kernel_rfl)) ?_
   go_upto_region 10 with ((((with_reducible refine gate_callee (f:=43) rfl ?_);refine goesL_ (some 39) rfl rfl Try.func43 (by kernel_rfl) rfl #[.slice (some ad516) l0.length c0,.slice (some ⟨go13,0,none⟩) y517.length co18,.int .i64 (wrap64 (a2 + 1))] rfl (by (try simp only [List.map_toArray,List.map_cons,List.map_nil]);((rw [show y517.length=t512.length from (Kd.R_reads' HQ19.out).1.symm] <;> rfl))) ?_;(with_reducible refine (ih k1 (by have:=HK1.out;omega) _ _ l0 _ _ y517 (wrap64 (a2 + 1)) t518 _ ?side1 ?side2 ?side3 ?side4 A14.out).mono ?_);(case side1=>exact Kd.C_below HR0.out (by repeat ((with_reducible first|exact HB.out|refine below_set ?_ GB13.out))));(case side2=>exact HC0.out);(case side3=>refine (Kd.R_reads' (e:=3) (base:=w.heap.size) (ok:=fun k_=>True) (n:=t512.length) (c:=co18) ?_).2.2;exact (by (with_reducible repeat (apply Kd.R_alloc));exact HQ19.out));(case side4=>rw [show y517.length=t512.length from (Kd.R_reads' HQ19.out).1.symm];exact (Kd.R_reads' HO514.out).2.1);rintro e w20 ⟨rfl,hb⟩;refine ⟨_,rfl,?_⟩;replace HO514:=ak_ (Kd.R_below (by (with_reducible repeat (apply Kd.R_alloc));exact HQ19.out) hb);replace HB:=ak_ (below_step (by repeat ((with_reducible first|exact HB.out|refine below_set ?_ GB13.out))) hb);(try clear hb))))
   go_cut [46] (fun v46 wc=>∃ (kq:Nat) (x46_14:Bool),v46=.bool x46_14/\Aside0 (impl_leastLoad.j1 kq l0 l1 a2 x7_1 x19_1 t518 (l1.length:Int) x19_1 x46_14=some r)/\Aside0 (kq<=k1)/\Aside0 (Below w.heap.size w wc))
   case first=>
    have H:=HC15.out
    clear HC15
    replace H:=gPD H;rcases H with ⟨c21b0,H⟩ | ⟨c21b0,H⟩
    ·skip
     have H':=ak_ H
     clear H
     go_wp2
     go_meet
     case rel=>exact ⟨_,(true),zo,H',⟨by have:=HK1.out;omega⟩,⟨zb⟩⟩
    have H':=ak_ H
    clear H
    go_wp2
    go_meet
    case rel=>exact ⟨_,(decide (t518<x7_1)),zo,H',⟨by have:=HK1.out;omega⟩,⟨zb⟩⟩
   case rest=>
    clear HC15
    obtain ⟨kq,x46_14,rfl,HA,HJ14,HB⟩:=hcut
    cases kq with
    | zero=>exact absurd HA.out (by simp [impl_leastLoad.j1])
    | succ kj14=>
     have H:=HA.out
     clear HA
     simp only [impl_leastLoad.j1] at H
     replace H:=gPB H;rcases H with ⟨rfl,H⟩ | ⟨rfl,H⟩
     ·replace H:=gD H;obtain ⟨c23b0,H⟩:=H
      replace H:=gD H;obtain ⟨c24b0,H⟩:=H
      replace H:=gP H;rcases H with ⟨c25,H⟩ | ⟨c25,H⟩
      ·have c25b0:((rd l1 x19_1) == 0)=true:=beq_iff_eq.mpr c25
       have c25b1:((rd l1 x19_1) != 0)=false:=bne_eq_false_iff_eq.mpr c25
       clear c25
       obtain rfl:=oi_ H
       have p519:0<=(x19_1:Int):=oz_
       have q519:x19_1<(l1.length:Int):=oz_
       obtain ⟨ad519,e519,hx519_0⟩:=Kd.at_int HR1.out x19_1 p519 q519
       cases e519
       replace hx519_0:=zh_ HB hx519_0
       replace p519:=eq_true p519
       replace q519:=eq_true q519
       go_wp2
       go_ret
       exact ⟨zz0,zb⟩
      have c25b0:((rd l1 x19_1) == 0)=false:=beq_eq_false_iff_ne.mpr c25
      have c25b1:((rd l1 x19_1) != 0)=true:=bne_iff_ne.mpr c25
      have H':=ak_ H
      clear H
      have p519:0<=(x19_1:Int):=oz_
      have q519:x19_1<(l1.length:Int):=oz_
      obtain ⟨ad519,e519,hx519_0⟩:=Kd.at_int HR1.out x19_1 p519 q519
      cases e519
      replace hx519_0:=zh_ HB hx519_0
      replace p519:=eq_true p519
      replace q519:=eq_true q519
      go_wp2
      go_roundg kj14
      case measure=>have:=HK1.out;have:=HJ14.out;omega
      case rel=>exact ⟨(t518),(wrap64 (x19_1 + 1)),zo,zo,H',⟨by have:=HK1.out;have:=HJ14.out;omega⟩,⟨zb⟩⟩
     replace H:=gD H;obtain ⟨c26b0,H⟩:=H
     replace H:=gD H;obtain ⟨c27b0,H⟩:=H
     replace H:=gP H;rcases H with ⟨c28,H⟩ | ⟨c28,H⟩
     ·have c28b0:((rd l1 x19_1) == 0)=true:=beq_iff_eq.mpr c28
      have c28b1:((rd l1 x19_1) != 0)=false:=bne_eq_false_iff_eq.mpr c28
      clear c28
      obtain rfl:=oi_ H
      have p520:0<=(x19_1:Int):=oz_
      have q520:x19_1<(l1.length:Int):=oz_
      obtain ⟨ad520,e520,hx520_0⟩:=Kd.at_int HR1.out x19_1 p520 q520
      cases e520
      replace hx520_0:=zh_ HB hx520_0
      replace p520:=eq_true p520
      replace q520:=eq_true q520
      go_wp2
      go_ret
      exact ⟨zz0,zb⟩
     have c28b0:((rd l1 x19_1) == 0)=false:=beq_eq_false_iff_ne.mpr c28
     have c28b1:((rd l1 x19_1) != 0)=true:=bne_iff_ne.mpr c28
     have H':=ak_ H
     clear H
     have p520:0<=(x19_1:Int):=oz_
     have q520:x19_1<(l1.length:Int):=oz_
     obtain ⟨ad520,e520,hx520_0⟩:=Kd.at_int HR1.out x19_1 p520 q520
     cases e520
     replace hx520_0:=zh_ HB hx520_0
     replace p520:=eq_true p520
     replace q520:=eq_true q520
     go_wp2
     go_roundg kj14
     case measure=>have:=HK1.out;have:=HJ14.out;omega
     case rel=>exact ⟨(x7_1),(wrap64 (x19_1 + 1)),zo,zo,H',⟨by have:=HK1.out;have:=HJ14.out;omega⟩,⟨zb⟩⟩
