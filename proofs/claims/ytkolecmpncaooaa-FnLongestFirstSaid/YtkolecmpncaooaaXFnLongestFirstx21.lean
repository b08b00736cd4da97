-- Words and walks of this claim.
import Derived.Test.YtkolecmpncaooaaXFnLongestFirstx7
import Derived.Test.YtkolecmpncaooaaXFnLongestFirstx20
namespace Go.Proofs.Ytkolecmpncaooaa.XFnLongestFirst
set_option maxRecDepth 100000
set_option maxHeartbeats 8000000
open Go.RowKit Go.Proofs.YtkolecmpncaooaaW.PrintWords Go.Proofs.YtkolecmpncaooaaW.PrintLast Go.Proofs.YtkolecmpncaooaaW.PrintMore
attribute [local go_sem] max2_int min2_int max_two min_two max_three min_three max_four min_four
attribute [local go_sem] idxA_51_0 idxA_51_1 fldS_45_0 fldS_45_1 fldS_45_2 fldS_96_0 fldS_96_1 fldS_96_2
set_option linter.unusedVariables false
set_option linter.unusedSimpArgs false
def impl_LeastLoad.f (k:Nat) (l0:List (S31)) (a1:Int):Option (Int × Bool):=(impl_isParallel.f k l0 a1 ([]:List (S51))).bind fun t521=>(if t521=true then (if 0<=a1 then (if (a1:Int).toNat<=35184372088832 then ((impl_leastLoad.f k l0 (List.replicate (a1:Int).toNat 0) 0).bind fun t525=>(some (t525,true))) else (none)) else (none)) else (some (0,false)))
theorem impl_LeastLoad.calls (k:Nat) (A0:Option Addr) (c0:Nat) (l0:List (S31)) (a1:Int) (r1:Int) (r2:Bool) (w:World) (hr0:Kd.C k31 w A0 l0.length l0) (hc0:l0.length<=c0) (h:impl_LeastLoad.f k l0 a1=some (r1,r2)) :
  Calls Try.prog 14 #[.slice A0 l0.length c0,.int .i64 a1] w fun e w'=>e=.returned (.tuple #[.int .i64 r1,.bool r2])/\Below w.heap.size w w':=by
 have HR0:=ak_ hr0
 have HC0:=ak_ hc0
 clear hr0 hc0
 have HB:=ak_ (Below.refl w.heap.size w)
 have H:((impl_isParallel.f k l0 a1 ([]:List (S51))).bind fun t521=>(if t521=true then (if 0<=a1 then (if (a1:Int).toNat<=35184372088832 then ((impl_leastLoad.f k l0 (List.replicate (a1:Int).toNat 0) 0).bind fun t525=>(some (t525,true))) else (none)) else (none)) else (some (0,false))))=some (r1,r2):=h
 clear h
 replace H:=gT H;obtain ⟨t521,A3,H⟩:=H
 replace H:=gNB H;rcases H with ⟨rfl,H⟩ | ⟨rfl,H⟩
 ·simp only [Option.some.injEq,Prod.mk.injEq] at H
  obtain ⟨rfl,rfl⟩:=H
  go_enter Try.func14,Try.ntmps14
  go_wp2_with (((with_reducible refine gate_callee (f:=35) rfl ?_);refine zgo 8 Try.func35 #[.slice A0 l0.length c0,.int .i64 a1,.slice none 0 0] ?_;(refine (impl_isParallel.calls k _ _ l0 a1 _ _ ([]:List (S51)) false _ ?side1 ?side2 ?side3 ?side4 A3.out).mono ?_);(case side1=>exact zC HR0.out);(case side2=>exact HC0.out);(case side3=>exact Kd.C_nil _ _);(case side4=>exact Nat.le_refl _);rintro e w13 ⟨rfl,hb⟩;refine ⟨_,rfl,?_⟩;replace HB:=zb1 hb;(try clear hb)))
  go_ret2
  exact ⟨zz0,zb⟩
 replace H:=gE H;obtain ⟨c5b0,c5b1,H⟩:=H
 replace H:=gE H;obtain ⟨c6b0,c6b1,H⟩:=H
 generalize hy522:(List.replicate (a1:Int).toNat 0:List Int)=y522 at H
 have Ny522:=ak_ hy522.symm
 clear hy522
 replace H:=gT H;obtain ⟨t525,A7,H⟩:=H
 simp only [Option.some.injEq,Prod.mk.injEq] at H
 obtain ⟨rfl,rfl⟩:=H
 go_enter Try.func14,Try.ntmps14
 go_wp2_with (first|((with_reducible refine gate_callee (f:=35) rfl ?_);refine zgo 8 Try.func35 #[.slice A0 l0.length c0,.int .i64 a1,.slice none 0 0] ?_;(refine (impl_isParallel.calls k _ _ l0 a1 _ _ ([]:List (S51)) true _ ?side1 ?side2 ?side3 ?side4 A3.out).mono ?_);(case side1=>exact zC HR0.out);(case side2=>exact HC0.out);(case side3=>exact Kd.C_nil _ _);(case side4=>exact Nat.le_refl _);rintro e w8 ⟨rfl,hb⟩;refine ⟨_,rfl,?_⟩;replace HB:=zb1 hb;(try clear hb))|((with_reducible refine gate_dst (N:=12) rfl ?_);refine Kd.R_make (Kd.int .i64) _ 3 rfl (N:=12) rfl 49 _ _ rfl a1 rfl rfl Try.underlying49 (.int .i64 0) 8 info3 rfl (by decide) (by omega) 0 (ok:=fun _=>True) (okp:=fun _=>True) rfl (fun _ hk=>hk) trivial (oz_) (Nat.le_trans (Nat.mul_le_mul_right _ (oz_:a1.toNat<=35184372088832)) (by omega)) (Below.refl _ _) (Nat.le_refl _) ?_;intro v523 w9 ho10 hb hg_ hnew_;clear hg_ hnew_;(rw [<-Ny522.out] at ho10);have HO524:=ak_ (Kd.R_lower ho10 (below_size zb));replace HB:=zb1 hb;clear hb ho10;obtain ⟨Ao11,co11,eo11⟩:=Kd.R_slice HO524.out;subst eo11)|((with_reducible refine gate_callee (f:=43) rfl ?_);refine zgo 13 Try.func43 #[.slice A0 l0.length c0,.slice Ao11 y522.length co11,.int .i64 0] ?_;(with_reducible refine (impl_leastLoad.calls k _ _ l0 _ _ y522 0 t525 _ ?side1 ?side2 ?side3 ?side4 A7.out).mono ?_);(case side1=>exact zC (Kd.C_below HR0.out HB.out));(case side2=>exact HC0.out);(case side3=>exact zC ((Kd.R_reads' HO524.out).2.2));(case side4=>exact (Kd.R_reads' HO524.out).2.1);rintro e w12 ⟨rfl,hb⟩;refine ⟨_,rfl,?_⟩;replace HO524:=zRb HO524 hb;replace HB:=zb1 hb;(try clear hb)))
 go_ret2
 exact ⟨zz0,zb⟩
def spec_l1Most.f (a0:Int) (a1:Int):Option (Int):=if a0>a1 then (some a0) else (some a1)
theorem spec_l1Most.calls (a0:Int) (a1:Int) (r:Int) (w:World) (h:spec_l1Most.f a0 a1=some r) :
  Calls Try.prog 63 #[.int .i64 a0,.int .i64 a1] w fun e w'=>e=.returned (.int .i64 r)/\Drawn0 w w':=by
 have H:(if a0>a1 then (some a0) else (some a1))=some r:=h
 clear h
 replace H:=gPD H;rcases H with ⟨c3b0,H⟩ | ⟨c3b0,H⟩
 ·obtain rfl:=oi_ H
  go_enter Try.func63,Try.ntmps63
  go_wp2
  go_ret
  exact ⟨zz7,zz4⟩
 obtain rfl:=oi_ H
 go_enter Try.func63,Try.ntmps63
 go_wp2
 go_ret
 exact ⟨zz7,zz4⟩
def spec_l2Last.l0:Nat->List Int->Int->Int->Option (Int)
 | 0,_,_,_=>none
 | k + 1,x0,x3,x4=>if x4<(x0.length:Int) then (if 0<=x4 then ((spec_l1Most.f x3 (rd x0 x4)).bind fun t527=>(spec_l2Last.l0 k x0 t527 (wrap64 (x4 + 1)))) else (none)) else (some x3)
def spec_l2Last.f (k:Nat) (l0:List Int):Option (Int):=spec_l2Last.l0 k l0 0 0
theorem spec_l2Last.calls (k:Nat) (A0:Option Addr) (c0:Nat) (l0:List Int) (r:Int) (w:World) (hr0:Kd.C (Kd.int .i64) w A0 l0.length l0) (hc0:l0.length<=c0) (h:spec_l2Last.f k l0=some r) :
  Calls Try.prog 29 #[.slice A0 l0.length c0] w fun e w'=>e=.returned (.int .i64 r)/\Drawn0 w w':=by
 have HR0:=ak_ hr0
 have HC0:=ak_ hc0
 clear hr0 hc0
 have H:(spec_l2Last.l0 k l0 0 0)=some r:=h
 clear h
 have H':=ak_ H
 clear H
 go_enter Try.func29,Try.ntmps29
 go_wp2
 go_loopg [3,4] k (fun kq v3 v4 w'=>∃ (x3_1:Int) (x4_1:Int),v3=.int .i64 x3_1/\v4=.int .i64 x4_1/\Aside0 (spec_l2Last.l0 kq l0 x3_1 x4_1=some r)/\Aside0 (kq<=k)/\Drawn0 w w')
 case atStart=>exact ⟨(0),(0),zo,zo,H',⟨Nat.le_refl _⟩,zz4⟩
 case round=>
  clear H'
  obtain ⟨x3_1,x4_1,rfl,rfl,HA,HK1,⟨m1,rfl⟩⟩:=hrel
  cases gk with
  | zero=>exact absurd HA.out (by simp [spec_l2Last.l0])
  | succ k1=>
   have H:=HA.out
   clear HA
   simp only [spec_l2Last.l0] at H
   replace H:=gND H;rcases H with ⟨c2b0,H⟩ | ⟨c2b0,H⟩
   ·obtain rfl:=oi_ H
    go_wp2
    go_ret
    exact ⟨zz7,zz4⟩
   replace H:=gD H;obtain ⟨c3b0,H⟩:=H
   replace H:=gT H;obtain ⟨t527,A4,H⟩:=H
   have H':=ak_ H
   clear H
   have p526:0<=(x4_1:Int):=oz_
   have q526:x4_1<(l0.length:Int):=oz_
   obtain ⟨ad526,e526,hx526_0⟩:=Kd.at_int HR0.out x4_1 p526 q526
   cases e526
   replace p526:=eq_true p526
   replace q526:=eq_true q526
   go_wp2_with (((with_reducible refine gate_callee (f:=63) rfl ?_);refine zgo 16 Try.func63 #[.int .i64 x3_1,.int .i64 (rd l0 x4_1)] ?_;(with_reducible refine (spec_l1Most.calls x3_1 (rd l0 x4_1) t527 _ A4.out).mono ?_);rintro e w' ⟨rfl,⟨nd,rfl⟩⟩;refine ⟨_,rfl,?_⟩))
   go_roundg k1
   case measure=>have:=HK1.out;omega
   case rel=>exact ⟨(t527),(wrap64 (x4_1 + 1)),zo,zo,H',⟨by have:=HK1.out;omega⟩,zz4⟩
mutual
def spec_l7Load.l0:Nat->List (S31)->List Int->Int->Int->Int->Option (Int)
 | 0,_,_,_,_,_=>none
 | k + 1,x0,x1,x2,x7,x8=>if x8<(x1.length:Int) then ((spec_l1Own.f x1).bind fun t529=>(if 0<=x8 then (if x8<(t529.length:Int) then (if 0<=x2 then (if x2<(x0.length:Int) then ((spec_l7Load.f k x0 (t529.set (x8:Int).toNat (wrap64 ((rd t529 x8) + ((rd_T31 x0 x2).f0)))) (wrap64 (x2 + 1))).bind fun t535=>(if x7<0 then (spec_l7Load.l0 k x0 x1 x2 t535 (wrap64 (x8 + 1))) else (if t535<x7 then (spec_l7Load.l0 k x0 x1 x2 t535 (wrap64 (x8 + 1))) else (spec_l7Load.l0 k x0 x1 x2 x7 (wrap64 (x8 + 1)))))) else (none)) else (none)) else (none)) else (none))) else (some x7)
def spec_l7Load.f:Nat->List (S31)->List Int->Int->Option (Int)
 | 0,_,_,_=>none
 | k + 1,l0,l1,a2=>if a2=(l0.length:Int) then ((spec_l2Last.f k l1).bind fun t528=>(some t528)) else (spec_l7Load.l0 k l0 l1 a2 (-1) 0)
end
def spec_l7Load.T8:Bool × List (List Nat × List Nat):=(true,[([],[]),([],[]),([],[]),([],[]),([2,3],[2,3]),([4],[4]),([],[]),([],[]),([6,7],[6,7]),([8],[8]),([9],[9]),([5,10],[5,10]),([0,1,0,1,2,3,4,5,6,7,8,9,10,11],[0,1]),([12,11,0,1,2,3,4,5,6,7,8,9,10,11],[11,12])])
def spec_l7Load.B8:List Nat:=[0,0,0,0,12,28,0,0,192,448,960,2044,4095,8191]
theorem spec_l7Load.tab8:rtab .any (opsOf Try.f44 8)=spec_l7Load.T8:=by kernel_rfl
theorem spec_l7Load.bits8:waitsOk spec_l7Load.T8.2 spec_l7Load.B8=true:=by kernel_rfl
theorem spec_l7Load.calls (k:Nat):∀ (A0:Option Addr) (c0:Nat) (l0:List (S31)) (A1:Option Addr) (c1:Nat) (l1:List Int) (a2:Int) (r:Int) (w:World) (hr0:Kd.C k31 w A0 l0.length l0) (hc0:l0.length<=c0) (hr1:Kd.C (Kd.int .i64) w A1 l1.length l1) (hc1:l1.length<=c1) (h:spec_l7Load.f k l0 l1 a2=some r),
  Calls Try.prog 44 #[.slice A0 l0.length c0,.slice A1 l1.length c1,.int .i64 a2] w fun e w'=>e=.returned (.int .i64 r)/\Below w.heap.size w w':=by
 induction k using Nat.strongRecOn with
 | _ k ih=>
 intro A0 c0 l0 A1 c1 l1 a2 r w hr0 hc0 hr1 hc1 h
 cases k with
 | zero=>exact absurd h (by simp [spec_l7Load.f])
 | succ k=>
 simp only [spec_l7Load.f] at h
 have HR0:=ak_ hr0
 have HC0:=ak_ hc0
 clear hr0 hc0
 have HR1:=ak_ hr1
 have HC1:=ak_ hc1
 clear hr1 hc1
 have HB:=ak_ (Below.refl w.heap.size w)
 have H:(if a2=(l0.length:Int) then ((spec_l2Last.f k l1).bind fun t528=>(some t528)) else (spec_l7Load.l0 k l0 l1 a2 (-1) 0))=some r:=h
 clear h
 replace H:=gP H;rcases H with ⟨c4,H⟩ | ⟨c4,H⟩
 ·have c4b0:(a2 == (l0.length:Int))=true:=beq_iff_eq.mpr c4
  have c4b1:(a2 != (l0.length:Int))=false:=bne_eq_false_iff_eq.mpr c4
  clear c4
  replace H:=gT H;obtain ⟨t528,A5,H⟩:=H
  obtain rfl:=oi_ H
  go_enter Try.func44,Try.ntmps44
  go_wp2_with (((with_reducible refine gate_callee (f:=29) rfl ?_);refine zgo 16 Try.func29 #[.slice A1 l1.length c1] ?_;(with_reducible refine (spec_l2Last.calls k _ _ l1 t528 _ ?side1 ?side2 A5.out).mono ?_);(case side1=>exact zC HR1.out);(case side2=>exact HC1.out);rintro e w' ⟨rfl,⟨nd,rfl⟩⟩;refine ⟨_,rfl,?_⟩))
  go_ret
  exact ⟨zz0,zb⟩
 have c4b0:(a2 == (l0.length:Int))=false:=beq_eq_false_iff_ne.mpr c4
 have c4b1:(a2 != (l0.length:Int))=true:=bne_iff_ne.mpr c4
 have H':=ak_ H
 clear H
 go_enter Try.func44,Try.ntmps44
 go_wp2
 go_loopg [7,8] k (fun kq v7 v8 w'=>∃ (x7_1:Int) (x8_1:Int),v7=.int .i64 x7_1/\v8=.int .i64 x8_1/\Aside0 (spec_l7Load.l0 kq l0 l1 a2 x7_1 x8_1=some r)/\Aside0 (kq<=k)/\Aside0 (Below w.heap.size w w'))
 case atStart=>exact ⟨((-1)),(0),zo,zo,H',⟨Nat.le_refl _⟩,⟨zb⟩⟩
 case round=>
  clear H'
  obtain ⟨x7_1,x8_1,rfl,rfl,HA,HK1,HB⟩:=hrel
  cases gk with
  | zero=>exact absurd HA.out (by simp [spec_l7Load.l0])
  | succ k1=>
   have H:=HA.out
   clear HA
   simp only [spec_l7Load.l0] at H
   replace H:=gND H;rcases H with ⟨c6b0,H⟩ | ⟨c6b0,H⟩
   ·obtain rfl:=oi_ H
    go_wp2
    go_ret
    exact ⟨zz0,zb⟩
   replace H:=gT H;obtain ⟨t529,A7,H⟩:=H
   replace H:=gD H;obtain ⟨c8b0,H⟩:=H
   replace H:=gD H;obtain ⟨c9b0,H⟩:=H
   replace H:=gD H;obtain ⟨c10b0,H⟩:=H
   replace H:=gD H;obtain ⟨c11b0,H⟩:=H
   generalize hy534:(t529.set (x8_1:Int).toNat (wrap64 ((rd t529 x8_1) + ((rd_T31 l0 a2).f0))):List Int)=y534 at H
   have Ny534:=ak_ hy534.symm
   clear hy534
   replace H:=gT H;obtain ⟨t535,A13,H⟩:=H
   replace H:=gPD H;rcases H with ⟨c14b0,H⟩ | ⟨c14b0,H⟩
   ·have H':=ak_ H
    clear H
    try go_wp2_with (((with_reducible refine gate_callee (f:=83) rfl ?_);refine zgo 24 Try.func83 #[.slice A1 l1.length c1] ?_;(with_reducible refine (spec_l1Own.calls _ _ l1 t529 _ ?side1 ?side2 A7.out).mono ?_);(case side1=>exact zC (Kd.C_below HR1.out HB.out));(case side2=>exact HC1.out);rintro e w15 ⟨v530,rfl,ho0,hb⟩;refine ⟨_,rfl,?_⟩;have HO531:=ak_ (Kd.R_lower ho0 (below_size zb));replace HB:=zb1 hb;(try clear hb);(try clear ho0)))
    replace HO531:=ak_ (Kd.R_drew HO531.out)
    replace HB:=ak_ (below_drew1 HB.out)
    obtain ⟨Ao17,co17,eo17⟩:=Kd.R_slice HO531.out
    (subst eo17)
    have p532:0<=(x8_1:Int):=oz_
    have q532:x8_1<(t529.length:Int):=oz_
    obtain ⟨ad532,e532,hx532_0⟩:=Kd.at_int (Kd.R_reads' HO531.out).2.2 x8_1 p532 q532
    cases e532
    replace p532:=eq_true p532
    replace q532:=eq_true q532
    have p533:0<=(a2:Int):=oz_
    have q533:a2<(l0.length:Int):=oz_
    obtain ⟨ad533,e533,hx533_0,hx533_1,hx533_2,hx533_3⟩:=at_T31 HR0.out a2 p533 q533
    have hw533_3:=hx533_3
    have hw533_2:=hx533_2
    have hw533_1:=hx533_1
    have hw533_0:=hx533_0
    cases e533
    replace hx533_0:=zh_ HB hx533_0
    replace hx533_1:=zh_ HB hx533_1
    replace hx533_2:=zh_ HB hx533_2
    replace hx533_3:=zh_ HB hx533_3
    replace p533:=eq_true p533
    replace q533:=eq_true q533
    have p12:0<=(x8_1:Int):=oz_
    have q12:(x8_1:Int)<((t529.length:Int):Int):=oz_
    obtain ⟨go12,co12,eo12,gb12,gl12,cl12,HG12⟩:=Kd.R_form HO531.out (by omega)
    (cases eo12)
    have GB12:=ak_ gb12
    have GG12:=ak_ HG12
    clear gb12 gl12 HG12
    (simp only [add_plain] at hx532_0)
    obtain ⟨hx12_0,hf12_0⟩:=Kd.R_celln 0 HO531.out (x8_1:Int) p12 q12
    replace p12:=eq_true p12
    replace q12:=eq_true q12
    have HP18:=Kd.R_putn HO531.out (x8_1:Int) (wrap64 ((rd t529 x8_1) + ((rd_T31 l0 a2).f0)))
    rw [<-Ny534.out] at HP18
    have HQ18:=ak_ HP18
    clear HP18
    refine start_ (n:=14) (S:=fun w'=>w'.cell? ⟨go12,(x8_1).toNat,none⟩=some (.int .i64 (rd t529 x8_1))/\w'.cell? (ad533.add ((a2).toNat * 4))=some (.int .i64 ((rd_T31 l0 a2).f0))/\w'.cell? ⟨(ad533.add ((a2).toNat * 4)).block,(ad533.add ((a2).toNat * 4)).off + 1,none⟩=some (.int .i64 ((rd_T31 l0 a2).f1))/\w'.cell? ⟨(ad533.add ((a2).toNat * 4)).block,(ad533.add ((a2).toNat * 4)).off + 2,none⟩=some (.int .i64 ((rd_T31 l0 a2).f2))/\w'.cell? ⟨(ad533.add ((a2).toNat * 4)).block,(ad533.add ((a2).toNat * 4)).off + 3,none⟩=some (.int .i64 ((rd_T31 l0 a2).f3))) (ds:=[13]) #[false,false,false,false,false,false,false,false,false,false,false,false,false,false] (by kernel_rfl) rfl rfl ⟨hx532_0,(zq_ HB hw533_0),(zq_ HB hw533_1),(zq_ HB hw533_2),(zq_ HB hw533_3)⟩ (fun hHeld=>?_);refine with_tabW spec_l7Load.tab8 spec_l7Load.bits8 (fun HT_ HW_=>?_)
    generalize w15.drew=w16 at HO531 HB GG12 HQ18 hf12_0 hx12_0 hx532_0 hx533_0 hx533_1 hx533_2 hx533_3 hHeld ⊢
    refine pu_ 0 25 ?_
    refine pu_ 1 26 ?_
    refine pu_ 2 27 ?_
    refine pu_ 3 28 ?_
    refine pu_ 4 29 ?_
    refine pu_ 6 31 ?_
    refine pu_ 7 32 ?_
    refine pu_ 8 33 ?_
    refine pu_ 9 34 ?_
    refine tk_ 5 30 hHeld ?_
    refine tk_ 10 35 hHeld ?_
    refine pu_ 11 36 ?_
    refine pu_ 12 37 ?_
    refine last_ (i:=13) (N:=none) #[true,true,true,true,true,true,true,true,true,true,true,true,true,true] rfl rfl (one_of HT_.out (by kernel_rfl)) (by decide) (fun K hK=>?_)
    refine skip_ (w1:=?_) (by rfl) rfl ?_ ?_
    rotate_left
    ·go_simp
     rfl
    refine hK.out _ _ ?_
    clear hK K
    refine done_ (done_of HT_.out (by kernel_rfl)) ?_
    try go_wp2_with ((((with_reducible refine gate_callee (f:=44) rfl ?_);refine goesL_ (some 42) rfl rfl Try.func44 (by kernel_rfl) rfl #[.slice (some ad533) l0.length c0,.slice (some ⟨go12,0,none⟩) y534.length co17,.int .i64 (wrap64 (a2 + 1))] rfl (by (try simp only [List.map_toArray,List.map_cons,List.map_nil]);((rw [show y534.length=t529.length from (Kd.R_reads' HQ18.out).1.symm] <;> rfl))) ?_;(with_reducible refine (ih k1 (by have:=HK1.out;omega) _ _ l0 _ _ y534 (wrap64 (a2 + 1)) t535 _ ?side1 ?side2 ?side3 ?side4 A13.out).mono ?_);(case side1=>exact Kd.C_below HR0.out zz67);(case side2=>exact HC0.out);(case side3=>refine (Kd.R_reads' (e:=3) (base:=w.heap.size) (ok:=fun k_=>True) (n:=t529.length) (c:=co17) ?_).2.2;exact (by (with_reducible repeat (apply Kd.R_alloc));exact HQ18.out));(case side4=>rw [show y534.length=t529.length from (Kd.R_reads' HQ18.out).1.symm];exact (Kd.R_reads' HO531.out).2.1);rintro e w19 ⟨rfl,hb⟩;refine ⟨_,rfl,?_⟩;replace HO531:=ak_ (Kd.R_below (by (with_reducible repeat (apply Kd.R_alloc));exact HQ18.out) hb);replace HB:=ak_ (below_step zz67 hb);(try clear hb))))
    go_roundg k1
    case measure=>have:=HK1.out;omega
    case rel=>exact ⟨(t535),(wrap64 (x8_1 + 1)),zo,zo,H',⟨by have:=HK1.out;omega⟩,⟨zb⟩⟩
   replace H:=gPD H;rcases H with ⟨c20b0,H⟩ | ⟨c20b0,H⟩
   ·have H':=ak_ H
    clear H
    try go_wp2_with (((with_reducible refine gate_callee (f:=83) rfl ?_);refine zgo 24 Try.func83 #[.slice A1 l1.length c1] ?_;(with_reducible refine (spec_l1Own.calls _ _ l1 t529 _ ?side1 ?side2 A7.out).mono ?_);(case side1=>exact zC (Kd.C_below HR1.out HB.out));(case side2=>exact HC1.out);rintro e w21 ⟨v530,rfl,ho0,hb⟩;refine ⟨_,rfl,?_⟩;have HO531:=ak_ (Kd.R_lower ho0 (below_size zb));replace HB:=zb1 hb;(try clear hb);(try clear ho0)))
    replace HO531:=ak_ (Kd.R_drew HO531.out)
    replace HB:=ak_ (below_drew1 HB.out)
    obtain ⟨Ao23,co23,eo23⟩:=Kd.R_slice HO531.out
    (subst eo23)
    have p532:0<=(x8_1:Int):=oz_
    have q532:x8_1<(t529.length:Int):=oz_
    obtain ⟨ad532,e532,hx532_0⟩:=Kd.at_int (Kd.R_reads' HO531.out).2.2 x8_1 p532 q532
    cases e532
    replace p532:=eq_true p532
    replace q532:=eq_true q532
    have p533:0<=(a2:Int):=oz_
    have q533:a2<(l0.length:Int):=oz_
    obtain ⟨ad533,e533,hx533_0,hx533_1,hx533_2,hx533_3⟩:=at_T31 HR0.out a2 p533 q533
    have hw533_3:=hx533_3
    have hw533_2:=hx533_2
    have hw533_1:=hx533_1
    have hw533_0:=hx533_0
    cases e533
    replace hx533_0:=zh_ HB hx533_0
    replace hx533_1:=zh_ HB hx533_1
    replace hx533_2:=zh_ HB hx533_2
    replace hx533_3:=zh_ HB hx533_3
    replace p533:=eq_true p533
    replace q533:=eq_true q533
    have p12:0<=(x8_1:Int):=oz_
    have q12:(x8_1:Int)<((t529.length:Int):Int):=oz_
    obtain ⟨go12,co12,eo12,gb12,gl12,cl12,HG12⟩:=Kd.R_form HO531.out (by omega)
    (cases eo12)
    have GB12:=ak_ gb12
    have GG12:=ak_ HG12
    clear gb12 gl12 HG12
    (simp only [add_plain] at hx532_0)
    obtain ⟨hx12_0,hf12_0⟩:=Kd.R_celln 0 HO531.out (x8_1:Int) p12 q12
    replace p12:=eq_true p12
    replace q12:=eq_true q12
    have HP24:=Kd.R_putn HO531.out (x8_1:Int) (wrap64 ((rd t529 x8_1) + ((rd_T31 l0 a2).f0)))
    rw [<-Ny534.out] at HP24
    have HQ24:=ak_ HP24
    clear HP24
    refine start_ (n:=14) (S:=fun w'=>w'.cell? ⟨go12,(x8_1).toNat,none⟩=some (.int .i64 (rd t529 x8_1))/\w'.cell? (ad533.add ((a2).toNat * 4))=some (.int .i64 ((rd_T31 l0 a2).f0))/\w'.cell? ⟨(ad533.add ((a2).toNat * 4)).block,(ad533.add ((a2).toNat * 4)).off + 1,none⟩=some (.int .i64 ((rd_T31 l0 a2).f1))/\w'.cell? ⟨(ad533.add ((a2).toNat * 4)).block,(ad533.add ((a2).toNat * 4)).off + 2,none⟩=some (.int .i64 ((rd_T31 l0 a2).f2))/\w'.cell? ⟨(ad533.add ((a2).toNat * 4)).block,(ad533.add ((a2).toNat * 4)).off + 3,none⟩=some (.int .i64 ((rd_T31 l0 a2).f3))) (ds:=[13]) #[false,false,false,false,false,false,false,false,false,false,false,false,false,false] (by kernel_rfl) rfl rfl ⟨hx532_0,(zq_ HB hw533_0),(zq_ HB hw533_1),(zq_ HB hw533_2),(zq_ HB hw533_3)⟩ (fun hHeld=>?_);refine with_tabW spec_l7Load.tab8 spec_l7Load.bits8 (fun HT_ HW_=>?_)
    generalize w21.drew=w22 at HO531 HB GG12 HQ24 hf12_0 hx12_0 hx532_0 hx533_0 hx533_1 hx533_2 hx533_3 hHeld ⊢
    refine pu_ 0 25 ?_
    refine pu_ 1 26 ?_
    refine pu_ 2 27 ?_
    refine pu_ 3 28 ?_
    refine pu_ 4 29 ?_
    refine pu_ 6 31 ?_
    refine pu_ 7 32 ?_
    refine pu_ 8 33 ?_
    refine pu_ 9 34 ?_
    refine tk_ 5 30 hHeld ?_
    refine tk_ 10 35 hHeld ?_
    refine pu_ 11 36 ?_
    refine pu_ 12 37 ?_
    refine last_ (i:=13) (N:=none) #[true,true,true,true,true,true,true,true,true,true,true,true,true,true] rfl rfl (one_of HT_.out (by kernel_rfl)) (by decide) (fun K hK=>?_)
    refine skip_ (w1:=?_) (by rfl) rfl ?_ ?_
    rotate_left
    ·go_simp
     rfl
    refine hK.out _ _ ?_
    clear hK K
    refine done_ (done_of HT_.out (by kernel_rfl)) ?_
    try go_wp2_with ((((with_reducible refine gate_callee (f:=44) rfl ?_);refine goesL_ (some 42) rfl rfl Try.func44 (by kernel_rfl) rfl #[.slice (some ad533) l0.length c0,.slice (some ⟨go12,0,none⟩) y534.length co23,.int .i64 (wrap64 (a2 + 1))] rfl (by (try simp only [List.map_toArray,List.map_cons,List.map_nil]);((rw [show y534.length=t529.length from (Kd.R_reads' HQ24.out).1.symm] <;> rfl))) ?_;(with_reducible refine (ih k1 (by have:=HK1.out;omega) _ _ l0 _ _ y534 (wrap64 (a2 + 1)) t535 _ ?side1 ?side2 ?side3 ?side4 A13.out).mono ?_);(case side1=>exact Kd.C_below HR0.out zz67);(case side2=>exact HC0.out);(case side3=>refine (Kd.R_reads' (e:=3) (base:=w.heap.size) (ok:=fun k_=>True) (n:=t529.length) (c:=co23) ?_).2.2;exact (by (with_reducible repeat (apply Kd.R_alloc));exact HQ24.out));(case side4=>rw [show y534.length=t529.length from (Kd.R_reads' HQ24.out).1.symm];exact (Kd.R_reads' HO531.out).2.1);rintro e w25 ⟨rfl,hb⟩;refine ⟨_,rfl,?_⟩;replace HO531:=ak_ (Kd.R_below (by (with_reducible repeat (apply Kd.R_alloc));exact HQ24.out) hb);replace HB:=ak_ (below_step zz67 hb);(try clear hb))))
    go_roundg k1
    case measure=>have:=HK1.out;omega
    case rel=>exact ⟨(t535),(wrap64 (x8_1 + 1)),zo,zo,H',⟨by have:=HK1.out;omega⟩,⟨zb⟩⟩
   have H':=ak_ H
   clear H
   try go_wp2_with (((with_reducible refine gate_callee (f:=83) rfl ?_);refine zgo 24 Try.func83 #[.slice A1 l1.length c1] ?_;(with_reducible refine (spec_l1Own.calls _ _ l1 t529 _ ?side1 ?side2 A7.out).mono ?_);(case side1=>exact zC (Kd.C_below HR1.out HB.out));(case side2=>exact HC1.out);rintro e w26 ⟨v530,rfl,ho0,hb⟩;refine ⟨_,rfl,?_⟩;have HO531:=ak_ (Kd.R_lower ho0 (below_size zb));replace HB:=zb1 hb;(try clear hb);(try clear ho0)))
   replace HO531:=ak_ (Kd.R_drew HO531.out)
   replace HB:=ak_ (below_drew1 HB.out)
   obtain ⟨Ao28,co28,eo28⟩:=Kd.R_slice HO531.out
   (subst eo28)
   have p532:0<=(x8_1:Int):=oz_
   have q532:x8_1<(t529.length:Int):=oz_
   obtain ⟨ad532,e532,hx532_0⟩:=Kd.at_int (Kd.R_reads' HO531.out).2.2 x8_1 p532 q532
   cases e532
   replace p532:=eq_true p532
   replace q532:=eq_true q532
   have p533:0<=(a2:Int):=oz_
   have q533:a2<(l0.length:Int):=oz_
   obtain ⟨ad533,e533,hx533_0,hx533_1,hx533_2,hx533_3⟩:=at_T31 HR0.out a2 p533 q533
   have hw533_3:=hx533_3
   have hw533_2:=hx533_2
   have hw533_1:=hx533_1
   have hw533_0:=hx533_0
   cases e533
   replace hx533_0:=zh_ HB hx533_0
   replace hx533_1:=zh_ HB hx533_1
   replace hx533_2:=zh_ HB hx533_2
   replace hx533_3:=zh_ HB hx533_3
   replace p533:=eq_true p533
   replace q533:=eq_true q533
   have p12:0<=(x8_1:Int):=oz_
   have q12:(x8_1:Int)<((t529.length:Int):Int):=oz_
   obtain ⟨go12,co12,eo12,gb12,gl12,cl12,HG12⟩:=Kd.R_form HO531.out (by omega)
   (cases eo12)
   have GB12:=ak_ gb12
   have GG12:=ak_ HG12
   clear gb12 gl12 HG12
   (simp only [add_plain] at hx532_0)
   obtain ⟨hx12_0,hf12_0⟩:=Kd.R_celln 0 HO531.out (x8_1:Int) p12 q12
   replace p12:=eq_true p12
   replace q12:=eq_true q12
   have HP29:=Kd.R_putn HO531.out (x8_1:Int) (wrap64 ((rd t529 x8_1) + ((rd_T31 l0 a2).f0)))
   rw [<-Ny534.out] at HP29
   have HQ29:=ak_ HP29
   clear HP29
   refine start_ (n:=14) (S:=fun w'=>w'.cell? ⟨go12,(x8_1).toNat,none⟩=some (.int .i64 (rd t529 x8_1))/\w'.cell? (ad533.add ((a2).toNat * 4))=some (.int .i64 ((rd_T31 l0 a2).f0))/\w'.cell? ⟨(ad533.add ((a2).toNat * 4)).block,(ad533.add ((a2).toNat * 4)).off + 1,none⟩=some (.int .i64 ((rd_T31 l0 a2).f1))/\w'.cell? ⟨(ad533.add ((a2).toNat * 4)).block,(ad533.add ((a2).toNat * 4)).off + 2,none⟩=some (.int .i64 ((rd_T31 l0 a2).f2))/\w'.cell? ⟨(ad533.add ((a2).toNat * 4)).block,(ad533.add ((a2).toNat * 4)).off + 3,none⟩=some (.int .i64 ((rd_T31 l0 a2).f3))) (ds:=[13]) #[false,false,false,false,false,false,false,false,false,false,false,false,false,false] (by kernel_rfl) rfl rfl ⟨hx532_0,(zq_ HB hw533_0),(zq_ HB hw533_1),(zq_ HB hw533_2),(zq_ HB hw533_3)⟩ (fun hHeld=>?_);refine with_tabW spec_l7Load.tab8 spec_l7Load.bits8 (fun HT_ HW_=>?_)
   generalize w26.drew=w27 at HO531 HB GG12 HQ29 hf12_0 hx12_0 hx532_0 hx533_0 hx533_1 hx533_2 hx533_3 hHeld ⊢
   refine pu_ 0 25 ?_
   refine pu_ 1 26 ?_
   refine pu_ 2 27 ?_
   refine pu_ 3 28 ?_
   refine pu_ 4 29 ?_
   refine pu_ 6 31 ?_
   refine pu_ 7 32 ?_
   refine pu_ 8 33 ?_
   refine pu_ 9 34 ?_
   refine tk_ 5 30 hHeld ?_
   refine tk_ 10 35 hHeld ?_
   refine pu_ 11 36 ?_
   refine pu_ 12 37 ?_
   refine last_ (i:=13) (N:=none) #[true,true,true,true,true,true,true,true,true,true,true,true,true,true] rfl rfl (one_of HT_.out (by kernel_rfl)) (by decide) (fun K hK=>?_)
   refine skip_ (w1:=?_) (by rfl) rfl ?_ ?_
   rotate_left
   ·go_simp
    rfl
   refine hK.out _ _ ?_
   clear hK K
   refine done_ (done_of HT_.out (by kernel_rfl)) ?_
   try go_wp2_with ((((with_reducible refine gate_callee (f:=44) rfl ?_);refine goesL_ (some 42) rfl rfl Try.func44 (by kernel_rfl) rfl #[.slice (some ad533) l0.length c0,.slice (some ⟨go12,0,none⟩) y534.length co28,.int .i64 (wrap64 (a2 + 1))] rfl (by (try simp only [List.map_toArray,List.map_cons,List.map_nil]);((rw [show y534.length=t529.length from (Kd.R_reads' HQ29.out).1.symm] <;> rfl))) ?_;(with_reducible refine (ih k1 (by have:=HK1.out;omega) _ _ l0 _ _ y534 (wrap64 (a2 + 1)) t535 _ ?side1 ?side2 ?side3 ?side4 A13.out).mono ?_);(case side1=>exact Kd.C_below HR0.out zz67);(case side2=>exact HC0.out);(case side3=>refine (Kd.R_reads' (e:=3) (base:=w.heap.size) (ok:=fun k_=>True) (n:=t529.length) (c:=co28) ?_).2.2;exact (by (with_reducible repeat (apply Kd.R_alloc));exact HQ29.out));(case side4=>rw [show y534.length=t529.length from (Kd.R_reads' HQ29.out).1.symm];exact (Kd.R_reads' HO531.out).2.1);rintro e w30 ⟨rfl,hb⟩;refine ⟨_,rfl,?_⟩;replace HO531:=ak_ (Kd.R_below (by (with_reducible repeat (apply Kd.R_alloc));exact HQ29.out) hb);replace HB:=ak_ (below_step zz67 hb);(try clear hb))))
   go_roundg k1
   case measure=>have:=HK1.out;omega
   case rel=>exact ⟨(x7_1),(wrap64 (x8_1 + 1)),zo,zo,H',⟨by have:=HK1.out;omega⟩,⟨zb⟩⟩
