-- Words and walks of this claim.
import Derived.Test.YtkolecmpncaooaaXFnLongestFirstx17
namespace Go.Proofs.Ytkolecmpncaooaa.XFnLongestFirst
set_option maxRecDepth 100000
set_option maxHeartbeats 8000000
open Go.RowKit Go.Proofs.YtkolecmpncaooaaW.PrintWords Go.Proofs.YtkolecmpncaooaaW.PrintLast Go.Proofs.YtkolecmpncaooaaW.PrintMore
attribute [local go_sem] max2_int min2_int max_two min_two max_three min_three max_four min_four
attribute [local go_sem] idxA_51_0 idxA_51_1 fldS_45_0 fldS_45_1 fldS_45_2 fldS_96_0 fldS_96_1 fldS_96_2
set_option linter.unusedVariables false
set_option linter.unusedSimpArgs false
def spec_l7Soon.l0:Nat->List Int->Int->Int->Int->Option (Int)
 | 0,_,_,_,_=>none
 | k + 1,x0,x1,x5,x6=>if x6<(x0.length:Int) then (if 0<=x6 then (if (rd x0 x6)>x1 then (if x5<0 then (spec_l7Soon.l0 k x0 x1 (rd x0 x6) (wrap64 (x6 + 1))) else (if (rd x0 x6)<x5 then (spec_l7Soon.l0 k x0 x1 (rd x0 x6) (wrap64 (x6 + 1))) else (spec_l7Soon.l0 k x0 x1 x5 (wrap64 (x6 + 1))))) else (spec_l7Soon.l0 k x0 x1 x5 (wrap64 (x6 + 1)))) else (none)) else (some x5)
def spec_l7Soon.f (k:Nat) (l0:List Int) (a1:Int):Option (Int):=spec_l7Soon.l0 k l0 a1 (-1) 0
theorem spec_l7Soon.calls (k:Nat) (A0:Option Addr) (c0:Nat) (l0:List Int) (a1:Int) (r:Int) (w:World) (hr0:Kd.C (Kd.int .i64) w A0 l0.length l0) (hc0:l0.length<=c0) (h:spec_l7Soon.f k l0 a1=some r) :
  Calls Try.prog 82 #[.slice A0 l0.length c0,.int .i64 a1] w fun e w'=>e=.returned (.int .i64 r)/\Drawn0 w w':=by
 have HR0:=ak_ hr0
 have HC0:=ak_ hc0
 clear hr0 hc0
 have H:(spec_l7Soon.l0 k l0 a1 (-1) 0)=some r:=h
 clear h
 have H':=ak_ H
 clear H
 go_enter Try.func82,Try.ntmps82
 go_wp2
 go_loopg [5,6] k (fun kq v5 v6 w'=>∃ (x5_1:Int) (x6_1:Int),v5=.int .i64 x5_1/\v6=.int .i64 x6_1/\Aside0 (spec_l7Soon.l0 kq l0 a1 x5_1 x6_1=some r)/\Aside0 (kq<=k)/\Drawn0 w w')
 case atStart=>exact ⟨((-1)),(0),zo,zo,H',⟨Nat.le_refl _⟩,zz4⟩
 case round=>
  clear H'
  obtain ⟨x5_1,x6_1,rfl,rfl,HA,HK1,⟨m1,rfl⟩⟩:=hrel
  cases gk with
  | zero=>exact absurd HA.out (by simp [spec_l7Soon.l0])
  | succ k1=>
   have H:=HA.out
   clear HA
   simp only [spec_l7Soon.l0] at H
   replace H:=gND H;rcases H with ⟨c3b0,H⟩ | ⟨c3b0,H⟩
   ·obtain rfl:=oi_ H
    go_wp2
    go_ret
    exact ⟨zz7,zz4⟩
   replace H:=gD H;obtain ⟨c4b0,H⟩:=H
   replace H:=gND H;rcases H with ⟨c5b0,H⟩ | ⟨c5b0,H⟩
   ·have H':=ak_ H
    clear H
    have p399:0<=(x6_1:Int):=oz_
    have q399:x6_1<(l0.length:Int):=oz_
    obtain ⟨ad399,e399,hx399_0⟩:=Kd.at_int HR0.out x6_1 p399 q399
    cases e399
    replace p399:=eq_true p399
    replace q399:=eq_true q399
    go_wp2
    go_roundg k1
    case measure=>have:=HK1.out;omega
    case rel=>exact ⟨(x5_1),(wrap64 (x6_1 + 1)),zo,zo,H',⟨by have:=HK1.out;omega⟩,zz4⟩
   replace H:=gPD H;rcases H with ⟨c6b0,H⟩ | ⟨c6b0,H⟩
   ·have H':=ak_ H
    clear H
    have p399:0<=(x6_1:Int):=oz_
    have q399:x6_1<(l0.length:Int):=oz_
    obtain ⟨ad399,e399,hx399_0⟩:=Kd.at_int HR0.out x6_1 p399 q399
    cases e399
    replace p399:=eq_true p399
    replace q399:=eq_true q399
    have p400:0<=(x6_1:Int):=oz_
    have q400:x6_1<(l0.length:Int):=oz_
    obtain ⟨ad400,e400,hx400_0⟩:=Kd.at_int HR0.out x6_1 p400 q400
    obtain rfl:ad399=ad400:=(by injection e400)
    replace p400:=eq_true p400
    replace q400:=eq_true q400
    go_wp2
    go_roundg k1
    case measure=>have:=HK1.out;omega
    case rel=>exact ⟨(rd l0 x6_1),(wrap64 (x6_1 + 1)),zo,zo,H',⟨by have:=HK1.out;omega⟩,zz4⟩
   replace H:=gND H;rcases H with ⟨c7b0,H⟩ | ⟨c7b0,H⟩
   ·have H':=ak_ H
    clear H
    have p399:0<=(x6_1:Int):=oz_
    have q399:x6_1<(l0.length:Int):=oz_
    obtain ⟨ad399,e399,hx399_0⟩:=Kd.at_int HR0.out x6_1 p399 q399
    cases e399
    replace p399:=eq_true p399
    replace q399:=eq_true q399
    have p401:0<=(x6_1:Int):=oz_
    have q401:x6_1<(l0.length:Int):=oz_
    obtain ⟨ad401,e401,hx401_0⟩:=Kd.at_int HR0.out x6_1 p401 q401
    obtain rfl:ad399=ad401:=(by injection e401)
    replace p401:=eq_true p401
    replace q401:=eq_true q401
    go_wp2
    go_roundg k1
    case measure=>have:=HK1.out;omega
    case rel=>exact ⟨(x5_1),(wrap64 (x6_1 + 1)),zo,zo,H',⟨by have:=HK1.out;omega⟩,zz4⟩
   have H':=ak_ H
   clear H
   have p399:0<=(x6_1:Int):=oz_
   have q399:x6_1<(l0.length:Int):=oz_
   obtain ⟨ad399,e399,hx399_0⟩:=Kd.at_int HR0.out x6_1 p399 q399
   cases e399
   replace p399:=eq_true p399
   replace q399:=eq_true q399
   have p401:0<=(x6_1:Int):=oz_
   have q401:x6_1<(l0.length:Int):=oz_
   obtain ⟨ad401,e401,hx401_0⟩:=Kd.at_int HR0.out x6_1 p401 q401
   obtain rfl:ad399=ad401:=(by injection e401)
   replace p401:=eq_true p401
   replace q401:=eq_true q401
   have p402:0<=(x6_1:Int):=oz_
   have q402:x6_1<(l0.length:Int):=oz_
   obtain ⟨ad402,e402,hx402_0⟩:=Kd.at_int HR0.out x6_1 p402 q402
   obtain rfl:ad399=ad402:=(by injection e402)
   replace p402:=eq_true p402
   replace q402:=eq_true q402
   go_wp2
   go_roundg k1
   case measure=>have:=HK1.out;omega
   case rel=>exact ⟨(rd l0 x6_1),(wrap64 (x6_1 + 1)),zo,zo,H',⟨by have:=HK1.out;omega⟩,zz4⟩
mutual
def spec_l7List.l0:Nat->List (S31)->Int->List Int->Int->List (List Bool)->List (S40)->List Int->Int->Option ((List (S40)))
 | 0,_,_,_,_,_,_,_,_=>none
 | k + 1,x0,x1,x3,x9,x10,x11,x12,x13=>if x13<x9 then (if 0<=x13 then (if x13<(x12.length:Int) then (spec_l7List.l0 k x0 x1 x3 x9 x10 x11 (x12.set (x13:Int).toNat (-1)) (wrap64 (x13 + 1))) else (none)) else (none)) else (if 0<=x1 then (if (x1:Int).toNat<=35184372088832 then (spec_l7List.l1 k x0 x1 x3 x10 x11 x12 (List.replicate (x1:Int).toNat 0) 0 x9) else (none)) else (none))
def spec_l7List.l1:Nat->List (S31)->Int->List Int->List (List Bool)->List (S40)->List Int->List Int->Int->Int->Option ((List (S40)))
 | 0,_,_,_,_,_,_,_,_,_=>none
 | k + 1,x0,x1,x3,x10,x11,x12,x14,x15,x16=>if x16>0 then (spec_l7List.l2 k x0 x1 x3 x10 x11 x12 x14 x15 x16 0) else (some x11)
def spec_l7List.l2:Nat->List (S31)->Int->List Int->List (List Bool)->List (S40)->List Int->List Int->Int->Int->Int->Option ((List (S40)))
 | 0,_,_,_,_,_,_,_,_,_,_=>none
 | k + 1,x0,x1,x3,x10,x11,x12,x14,x15,x16,x17=>if x17<x1 then (if 0<=x17 then (if x17<(x14.length:Int) then (if (rd x14 x17)<=x15 then ((spec_l7Next.f k x10 x3 x12 x15).bind fun t418=>(if t418>=0 then (if 0<=t418 then (if t418<(x11.length:Int) then (if t418<(x0.length:Int) then (if t418<(x12.length:Int) then ((some (x12.set (t418:Int).toNat (wrap64 (x15 + ((rd_T31 x0 t418).f0))):List Int)).bind fun y421=>(spec_l7List.l2 k x0 x1 x3 x10 (x11.set (t418:Int).toNat (⟨t418,x17,x15⟩:S40)) y421 (x14.set (x17:Int).toNat (rd y421 t418)) x15 (wrap64 (x16 - 1)) (wrap64 (x17 + 1)))) else (none)) else (none)) else (none)) else (none)) else (spec_l7List.l2 k x0 x1 x3 x10 x11 x12 x14 x15 x16 (wrap64 (x17 + 1))))) else (if (-1)>=0 then (if 0<=(-1) then (if (-1)<(x11.length:Int) then (if (-1)<(x0.length:Int) then (if (-1)<(x12.length:Int) then ((some (x12.set ((-1):Int).toNat (wrap64 (x15 + ((rd_T31 x0 (-1)).f0))):List Int)).bind fun y426=>(spec_l7List.l2 k x0 x1 x3 x10 (x11.set ((-1):Int).toNat (⟨(-1),x17,x15⟩:S40)) y426 (x14.set (x17:Int).toNat (rd y426 (-1))) x15 (wrap64 (x16 - 1)) (wrap64 (x17 + 1)))) else (none)) else (none)) else (none)) else (none)) else (spec_l7List.l2 k x0 x1 x3 x10 x11 x12 x14 x15 x16 (wrap64 (x17 + 1))))) else (none)) else (none)) else ((spec_l7Soon.f k x12 x15).bind fun t416=>(spec_l7List.l1 k x0 x1 x3 x10 x11 x12 x14 t416 x16))
end
def spec_l7List.f (k:Nat) (l0:List (S31)) (a1:Int) (l2:List (S51)) (l3:List Int):Option ((List (S40))):=(spec_l4Table.f k (l0.length:Int) l2).bind fun t403=>(if 0<=(l0.length:Int) then (if ((l0.length:Int):Int).toNat<=11728124029610 then (if ((l0.length:Int):Int).toNat<=35184372088832 then (spec_l7List.l0 k l0 a1 l3 (l0.length:Int) t403 (List.replicate ((l0.length:Int):Int).toNat z40) (List.replicate ((l0.length:Int):Int).toNat 0) 0) else (none)) else (none)) else (none))
theorem spec_l7List.calls (k:Nat) (A0:Option Addr) (c0:Nat) (l0:List (S31)) (a1:Int) (A2:Option Addr) (c2:Nat) (l2:List (S51)) (A3:Option Addr) (c3:Nat) (l3:List Int) (r:List (S40)) (w:World) (hr0:Kd.C k31 w A0 l0.length l0) (hc0:l0.length<=c0) (hr2:Kd.C k51 w A2 l2.length l2) (hc2:l2.length<=c2) (hr3:Kd.C (Kd.int .i64) w A3 l3.length l3) (hc3:l3.length<=c3) (h:spec_l7List.f k l0 a1 l2 l3=some r) :
  Calls Try.prog 40 #[.slice A0 l0.length c0,.int .i64 a1,.slice A2 l2.length c2,.slice A3 l3.length c3] w fun e w'=>∃ v0_:Value,e=.returned (v0_)/\Kd.R k40 40 w' w.heap.size (fun _=>True) v0_ r/\Below w.heap.size w w':=by
 have hu40:=Try.underlying40
 have HR0:=ak_ hr0
 have HC0:=ak_ hc0
 clear hr0 hc0
 have HR2:=ak_ hr2
 have HC2:=ak_ hc2
 clear hr2 hc2
 have HR3:=ak_ hr3
 have HC3:=ak_ hc3
 clear hr3 hc3
 have HB:=ak_ (Below.refl w.heap.size w)
 have H:((spec_l4Table.f k (l0.length:Int) l2).bind fun t403=>(if 0<=(l0.length:Int) then (if ((l0.length:Int):Int).toNat<=11728124029610 then (if ((l0.length:Int):Int).toNat<=35184372088832 then (spec_l7List.l0 k l0 a1 l3 (l0.length:Int) t403 (List.replicate ((l0.length:Int):Int).toNat z40) (List.replicate ((l0.length:Int):Int).toNat 0) 0) else (none)) else (none)) else (none)))=some r:=h
 clear h
 replace H:=gT H;obtain ⟨t403,A5,H⟩:=H
 replace H:=gE H;obtain ⟨c6b0,c6b1,H⟩:=H
 replace H:=gE H;obtain ⟨c7b0,c7b1,H⟩:=H
 generalize hy406:(List.replicate ((l0.length:Int):Int).toNat z40:List (S40))=y406 at H
 have Ny406:=ak_ hy406.symm
 clear hy406
 replace H:=gE H;obtain ⟨c8b0,c8b1,H⟩:=H
 generalize hy409:(List.replicate ((l0.length:Int):Int).toNat 0:List Int)=y409 at H
 have Ny409:=ak_ hy409.symm
 clear hy409
 have H':=ak_ H
 clear H
 go_enter Try.func40,Try.ntmps40
 go_wp2_with (first|((with_reducible refine gate_callee (f:=80) rfl ?_);refine zgo 23 Try.func80 #[.int .i64 (l0.length:Int),.slice A2 l2.length c2] ?_;(with_reducible refine (spec_l4Table.calls k (l0.length:Int) _ _ l2 t403 _ ?side1 ?side2 A5.out).mono ?_);(case side1=>exact zC HR2.out);(case side2=>exact HC2.out);rintro e w9 ⟨v404,rfl,ho0,hb⟩;refine ⟨_,rfl,?_⟩;have HO405:=ak_ (Kd.S_lower ho0 (below_size zb));replace HB:=zb1 hb;(try clear hb);(try clear ho0))|((with_reducible refine gate_dst (N:=25) rfl ?_);refine Kd.R_make k40 _ 40 rfl (N:=25) rfl 32 _ _ rfl (l0.length:Int) rfl rfl Try.underlying32 (.agg #[(.int .i64 0),(.int .i64 0),(.int .i64 0)]) 24 info40 rfl (by decide) (by omega) z40 (ok:=fun _=>True) (okp:=fun _=>True) (k40_mkM _ _ _ z40) (fun _ hk=>hk) trivial (oz_) (Nat.le_trans (Nat.mul_le_mul_right _ (oz_:(l0.length:Int).toNat<=11728124029610)) (by omega)) (Below.refl _ _) (Nat.le_refl _) ?_;intro v407 w10 ho11 hb hg_ hnew_;clear hg_ hnew_;(rw [<-Ny406.out] at ho11);replace HO405:=zSb HO405 hb;have HO408:=ak_ (Kd.R_lower ho11 (below_size zb));replace HB:=zb1 hb;clear hb ho11)|((with_reducible refine gate_dst (N:=27) rfl ?_);refine Kd.R_make (Kd.int .i64) _ 3 rfl (N:=27) rfl 49 _ _ rfl (l0.length:Int) rfl rfl Try.underlying49 (.int .i64 0) 8 info3 rfl (by decide) (by omega) 0 (ok:=fun _=>True) (okp:=fun _=>True) rfl (fun _ hk=>hk) trivial (oz_) (Nat.le_trans (Nat.mul_le_mul_right _ (oz_:(l0.length:Int).toNat<=35184372088832)) (by omega)) (Below.refl _ _) (Nat.le_refl _) ?_;intro v410 w12 ho13 hb hg_ hnew_;clear hg_ hnew_;(rw [<-Ny409.out] at ho13);replace HO405:=zSb HO405 hb;replace HO408:=zRb HO408 hb;have HO411:=ak_ (Kd.R_lower ho13 (below_size zb));replace HB:=zb1 hb;clear hb ho13))
 go_loopg [13] k (fun kq v13 w'=>∃ (x12_1:List Int) (x13_1:Int),v13=.int .i64 x13_1/\Aside0 (spec_l7List.l0 kq l0 a1 l3 (l0.length:Int) t403 y406 x12_1 x13_1=some r)/\Aside0 (kq<=k)/\Aside0 (Kd.S (Kd.slice 4 Kd.bool) 82 w' w.heap.size (fun _=>True) v404 t403)/\Aside0 (Kd.R k40 40 w' w.heap.size (fun _=>True) v407 y406)/\Aside0 (Kd.R (Kd.int .i64) 3 w' w.heap.size (fun _=>True) v410 x12_1)/\Aside0 (Below w.heap.size w w'))
 case atStart=>exact ⟨(y409),(0),zo,H',⟨Nat.le_refl _⟩,⟨zS HO405.out⟩,⟨zR HO408.out⟩,⟨zR HO411.out⟩,⟨zb⟩⟩
 case round=>
  clear H'
  obtain ⟨x12_1,x13_1,rfl,HA,HK1,HO_10,HO_11,HO_12,HB⟩:=hrel
  cases gk with
  | zero=>exact absurd HA.out (by simp [spec_l7List.l0])
  | succ k1=>
   have H:=HA.out
   clear HA
   simp only [spec_l7List.l0] at H
   replace H:=gPD H;rcases H with ⟨c14b0,H⟩ | ⟨c14b0,H⟩
   ·replace H:=gD H;obtain ⟨c15b0,H⟩:=H
    replace H:=gD H;obtain ⟨c16b0,H⟩:=H
    generalize hy412:(x12_1.set (x13_1:Int).toNat (-1):List Int)=y412 at H
    have Ny412:=ak_ hy412.symm
    clear hy412
    have H':=ak_ H
    clear H
    have p17:0<=(x13_1:Int):=oz_
    have q17:(x13_1:Int)<((x12_1.length:Int):Int):=oz_
    obtain ⟨go17,co17,eo17,gb17,gl17,cl17,HG17⟩:=Kd.R_form HO_12.out (by omega)
    (cases eo17)
    have GB17:=ak_ gb17
    have GG17:=ak_ HG17
    clear gb17 gl17 HG17
    obtain ⟨hx17_0,hf17_0⟩:=Kd.R_celln 0 HO_12.out (x13_1:Int) p17 q17
    replace p17:=eq_true p17
    replace q17:=eq_true q17
    have HP18:=Kd.R_putg HO_12.out (x13_1:Int) (-1)
    go_wp2_with (((with_reducible refine gate_store (t:=3) (p:=35) rfl ?_);refine store_event (t:=3) (p:=35) (v:=?vo_w19) (w1:=(wr.setCell ⟨go17,(x13_1:Int).toNat,none⟩ (.int .i64 (-1)))) ?hg ?ho ?hn ?hr ?_;(case ho=>rfl);(case hg=>rfl);(case hn=>rfl);(case hr=>(go_simp;done));intro w19 hw;have hg:wr.grownBy w19 (some go17):=(by rw [hw];exact HP18.2);have hp_:Kd.R (Kd.int .i64) 3 w19 w.heap.size (fun _=>True) (.slice (some ⟨go17,0,none⟩) x12_1.length co17) y412:=(by rw [hw,Ny412.out];exact HP18.1);clear HP18;replace HO_10:=ak_ (Kd.S_over' (v:=(.slice (some ⟨go17,0,none⟩) x12_1.length co17)) (zS HO_10.out) (Kd.R_typed HO_12.out) (by decide) hg);replace HO_11:=ak_ (Kd.R_over' (v:=(.slice (some ⟨go17,0,none⟩) x12_1.length co17)) (zR HO_11.out) (Kd.R_typed HO_12.out) (by decide) hg);replace HO_12:=ak_ (hp_);replace HB:=ak_ ((by rw [hw];exact below_set (HB.out) GB17.out:Below w.heap.size w w19));clear hg hw hp_))
    go_roundg k1
    case measure=>have:=HK1.out;omega
    case rel=>exact ⟨(y412),(wrap64 (x13_1 + 1)),zo,H',⟨by have:=HK1.out;omega⟩,⟨zS HO_10.out⟩,⟨zR HO_11.out⟩,⟨zR HO_12.out⟩,⟨zb⟩⟩
   replace H:=gE H;obtain ⟨c20b0,c20b1,H⟩:=H
   replace H:=gE H;obtain ⟨c21b0,c21b1,H⟩:=H
   generalize hy413:(List.replicate (a1:Int).toNat 0:List Int)=y413 at H
   have Ny413:=ak_ hy413.symm
   clear hy413
   have H':=ak_ H
   clear H
   go_wp2_with (((with_reducible refine gate_dst (N:=37) rfl ?_);refine Kd.R_make (Kd.int .i64) _ 3 rfl (N:=37) rfl 49 _ _ rfl a1 rfl rfl Try.underlying49 (.int .i64 0) 8 info3 rfl (by decide) (by omega) 0 (ok:=fun _=>True) (okp:=fun _=>True) rfl (fun _ hk=>hk) trivial (oz_) (Nat.le_trans (Nat.mul_le_mul_right _ (oz_:a1.toNat<=35184372088832)) (by omega)) (Below.refl _ _) (Nat.le_refl _) ?_;intro v414 w22 ho23 hb hg_ hnew_;clear hg_ hnew_;(rw [<-Ny413.out] at ho23);replace HO_10:=zSb HO_10 hb;replace HO_11:=zRb HO_11 hb;have HO415:=ak_ (Kd.R_lower (Kd.R_new' ho23 (Kd.R_lt (zR HO_12.out))) (below_size zb));replace HO_12:=ak_ (Kd.R_elder' (zR HO_12.out) (Kd.R_base ho23) hb);replace HB:=zb1 hb;clear hb ho23))
   go_loopg [15,16] k1 (fun kq v15 v16 w'=>∃ (x11_2:List (S40)) (x12_2:List Int) (x14_2:List Int) (x15_2:Int) (x16_2:Int),v15=.int .i64 x15_2/\v16=.int .i64 x16_2/\Aside0 (spec_l7List.l1 kq l0 a1 l3 t403 x11_2 x12_2 x14_2 x15_2 x16_2=some r)/\Aside0 (kq<=k1)/\Aside0 (Kd.S (Kd.slice 4 Kd.bool) 82 w' w.heap.size (fun _=>True) v404 t403)/\Aside0 (Kd.R k40 40 w' w.heap.size (fun _=>True) v407 x11_2)/\Aside0 (Kd.R (Kd.int .i64) 3 w' w.heap.size (fun k_=>some k_≠(v414:Value).ownBlock) v410 x12_2)/\Aside0 (Kd.R (Kd.int .i64) 3 w' w.heap.size (fun k_=>some k_≠(v410:Value).ownBlock) v414 x14_2)/\Aside0 (Below w.heap.size w w'))
   case atStart=>exact ⟨(y406),(x12_1),(y413),(0),((l0.length:Int)),zo,zo,H',⟨Nat.le_refl _⟩,⟨zS HO_10.out⟩,⟨zR HO_11.out⟩,⟨zR (Kd.R_mono HO_12.out (fun _ hk=>hk.2))⟩,⟨zR (Kd.R_mono HO415.out (fun _ hk=>hk.2))⟩,⟨zb⟩⟩
   case round=>
    clear H'
    obtain ⟨x11_2,x12_2,x14_2,x15_2,x16_2,rfl,rfl,HA,HK2,HO_10,HO_11,HO_12,HO_14,HB⟩:=hrel
    cases gk with
    | zero=>exact absurd HA.out (by simp [spec_l7List.l1])
    | succ k2=>
     have H:=HA.out
     clear HA
     simp only [spec_l7List.l1] at H
     replace H:=gND H;rcases H with ⟨c24b0,H⟩ | ⟨c24b0,H⟩
     ·obtain rfl:=oi_ H
      go_wp2
      go_ret
      exact ⟨_,zz0,zR HO_11.out,zb⟩
     have H':=ak_ H
     clear H
     go_wp2
     go_loopg [16,17] k2 (fun kq v16 v17 w'=>∃ (x11_3:List (S40)) (x12_3:List Int) (x14_3:List Int) (x16_3:Int) (x17_3:Int),v16=.int .i64 x16_3/\v17=.int .i64 x17_3/\Aside0 (spec_l7List.l2 kq l0 a1 l3 t403 x11_3 x12_3 x14_3 x15_2 x16_3 x17_3=some r)/\Aside0 (kq<=k2)/\Aside0 (Kd.S (Kd.slice 4 Kd.bool) 82 w' w.heap.size (fun _=>True) v404 t403)/\Aside0 (Kd.R k40 40 w' w.heap.size (fun _=>True) v407 x11_3)/\Aside0 (Kd.R (Kd.int .i64) 3 w' w.heap.size (fun k_=>some k_≠(v414:Value).ownBlock) v410 x12_3)/\Aside0 (Kd.R (Kd.int .i64) 3 w' w.heap.size (fun k_=>some k_≠(v410:Value).ownBlock) v414 x14_3)/\Aside0 (Below w.heap.size w w'))
     case atStart=>exact ⟨(x11_2),(x12_2),(x14_2),(x16_2),(0),zo,zo,H',⟨Nat.le_refl _⟩,⟨zS HO_10.out⟩,⟨zR HO_11.out⟩,⟨zR HO_12.out⟩,⟨zR HO_14.out⟩,⟨zb⟩⟩
     case round=>
      clear H'
      obtain ⟨x11_3,x12_3,x14_3,x16_3,x17_3,rfl,rfl,HA,HK3,HO_10,HO_11,HO_12,HO_14,HB⟩:=hrel
      cases gk with
      | zero=>exact absurd HA.out (by simp [spec_l7List.l2])
      | succ k3=>
       have H:=HA.out
       clear HA
       simp only [spec_l7List.l2] at H
       replace H:=gND H;rcases H with ⟨c25b0,H⟩ | ⟨c25b0,H⟩
       ·replace H:=gT H;obtain ⟨t416,A66,H⟩:=H
        have H':=ak_ H
        clear H
        obtain ⟨Ao67,co67,eo67⟩:=Kd.R_slice HO_12.out
        subst eo67
        go_wp2_with (((with_reducible refine gate_callee (f:=82) rfl ?_);refine zgo 87 Try.func82 #[.slice Ao67 x12_3.length co67,.int .i64 x15_2] ?_;(with_reducible refine (spec_l7Soon.calls k3 _ _ x12_3 x15_2 t416 _ ?side1 ?side2 A66.out).mono ?_);(case side1=>exact zC ((Kd.R_reads' HO_12.out).2.2));(case side2=>exact (Kd.R_reads' HO_12.out).2.1);rintro e w' ⟨rfl,⟨nd,rfl⟩⟩;refine ⟨_,rfl,?_⟩))
        go_roundg k3
        case measure=>have:=HK1.out;have:=HK2.out;have:=HK3.out;omega
        case rel=>exact ⟨(x11_3),(x12_3),(x14_3),(t416),(x16_3),zo,zo,H',⟨zz61⟩,⟨zS HO_10.out⟩,⟨zR HO_11.out⟩,⟨zR HO_12.out⟩,⟨zR HO_14.out⟩,⟨zb⟩⟩
       replace H:=gD H;obtain ⟨c26b0,H⟩:=H
       replace H:=gD H;obtain ⟨c27b0,H⟩:=H
       replace H:=gND H;rcases H with ⟨c28b0,H⟩ | ⟨c28b0,H⟩
       ·by_cases c50:(-1)>=0
        ·exact absurd c50 (by decide)
        rw [if_neg c50] at H
        have c50b0:=decide_eq_false c50
        clear c50
        have H':=ak_ H
        clear H
        obtain ⟨Ao65,co65,eo65⟩:=Kd.R_slice HO_14.out
        subst eo65
        have p417:0<=(x17_3:Int):=oz_
        have q417:x17_3<(x14_3.length:Int):=oz_
        obtain ⟨ad417,e417,hx417_0⟩:=Kd.at_int (Kd.R_reads' HO_14.out).2.2 x17_3 p417 q417
        cases e417
        replace p417:=eq_true p417
        replace q417:=eq_true q417
        go_wp2
        go_roundg k3
        case measure=>have:=HK1.out;have:=HK2.out;have:=HK3.out;omega
        case rel=>exact ⟨(x11_3),(x12_3),(x14_3),(x16_3),(wrap64 (x17_3 + 1)),zo,zo,H',⟨zz61⟩,⟨zS HO_10.out⟩,⟨zR HO_11.out⟩,⟨zR HO_12.out⟩,⟨zR HO_14.out⟩,⟨zb⟩⟩
       replace H:=gT H;obtain ⟨t418,A29,H⟩:=H
       replace H:=gND H;rcases H with ⟨c30b0,H⟩ | ⟨c30b0,H⟩
       ·have H':=ak_ H
        clear H
        obtain ⟨Ao47,co47,eo47⟩:=Kd.R_slice HO_14.out
        subst eo47
        have p417:0<=(x17_3:Int):=oz_
        have q417:x17_3<(x14_3.length:Int):=oz_
        obtain ⟨ad417,e417,hx417_0⟩:=Kd.at_int (Kd.R_reads' HO_14.out).2.2 x17_3 p417 q417
        cases e417
        replace p417:=eq_true p417
        replace q417:=eq_true q417
        obtain ⟨Ao48,co48,eo48⟩:=Kd.S_slice HO_10.out
        subst eo48
        obtain ⟨Ao49,co49,eo49⟩:=Kd.R_slice HO_12.out
        subst eo49
        go_wp2_with (((with_reducible refine gate_callee (f:=81) rfl ?_);refine zgo 56 Try.func81 #[.slice Ao48 t403.length co48,.slice A3 l3.length c3,.slice Ao49 x12_3.length co49,.int .i64 x15_2] ?_;(with_reducible refine (spec_l7Next.calls k3 _ _ t403 _ _ l3 _ _ x12_3 x15_2 t418 _ ?side1 ?side2 ?side3 ?side4 ?side5 ?side6 A29.out).mono ?_);(case side1=>exact zC ((Kd.S_reads' HO_10.out).2.2));(case side2=>exact (Kd.S_reads' HO_10.out).2.1);(case side3=>exact zC (Kd.C_below HR3.out HB.out));(case side4=>exact HC3.out);(case side5=>exact zC ((Kd.R_reads' HO_12.out).2.2));(case side6=>exact (Kd.R_reads' HO_12.out).2.1);rintro e w' ⟨rfl,⟨nd,rfl⟩⟩;refine ⟨_,rfl,?_⟩))
        go_roundg k3
        case measure=>have:=HK1.out;have:=HK2.out;have:=HK3.out;omega
        case rel=>exact ⟨(x11_3),(x12_3),(x14_3),(x16_3),(wrap64 (x17_3 + 1)),zo,zo,H',⟨zz61⟩,⟨zS HO_10.out⟩,⟨zR HO_11.out⟩,⟨zR HO_12.out⟩,⟨zR HO_14.out⟩,⟨zb⟩⟩
       replace H:=gD H;obtain ⟨c31b0,H⟩:=H
       replace H:=gD H;obtain ⟨c32b0,H⟩:=H
       generalize hy419:(x11_3.set (t418:Int).toNat (⟨t418,x17_3,x15_2⟩:S40):List (S40))=y419 at H
       have Ny419:=ak_ hy419.symm
       clear hy419
       replace H:=gD H;obtain ⟨c34b0,H⟩:=H
       replace H:=gD H;obtain ⟨c35b0,H⟩:=H
       replace H:=gY H;obtain ⟨y421,Ny421,H⟩:=H
       generalize hy423:(x14_3.set (x17_3:Int).toNat (rd y421 t418):List Int)=y423 at H
       have Ny423:=ak_ hy423.symm
       clear hy423
       have H':=ak_ H
       clear H
       obtain ⟨Ao38,co38,eo38⟩:=Kd.R_slice HO_14.out
       subst eo38
       have p417:0<=(x17_3:Int):=oz_
       have q417:x17_3<(x14_3.length:Int):=oz_
       obtain ⟨ad417,e417,hx417_0⟩:=Kd.at_int (Kd.R_reads' HO_14.out).2.2 x17_3 p417 q417
       cases e417
       replace p417:=eq_true p417
       replace q417:=eq_true q417
       obtain ⟨Ao39,co39,eo39⟩:=Kd.S_slice HO_10.out
       subst eo39
       obtain ⟨Ao40,co40,eo40⟩:=Kd.R_slice HO_12.out
       subst eo40
       go_wp2_with (first|((with_reducible refine gate_callee (f:=81) rfl ?_);refine zgo 56 Try.func81 #[.slice Ao39 t403.length co39,.slice A3 l3.length c3,.slice Ao40 x12_3.length co40,.int .i64 x15_2] ?_;(with_reducible refine (spec_l7Next.calls k3 _ _ t403 _ _ l3 _ _ x12_3 x15_2 t418 _ ?side1 ?side2 ?side3 ?side4 ?side5 ?side6 A29.out).mono ?_);(case side1=>exact zC ((Kd.S_reads' HO_10.out).2.2));(case side2=>exact (Kd.S_reads' HO_10.out).2.1);(case side3=>exact zC (Kd.C_below HR3.out HB.out));(case side4=>exact HC3.out);(case side5=>exact zC ((Kd.R_reads' HO_12.out).2.2));(case side6=>exact (Kd.R_reads' HO_12.out).2.1);rintro e w' ⟨rfl,⟨nd,rfl⟩⟩;refine ⟨_,rfl,?_⟩;(try (rw [drewN_self wr];generalize hq_:World.drewN wr _=wr;have n0_:Aside0 (Kd.S (Kd.slice 4 Kd.bool) 82 wr w.heap.size (fun _=>True) (.slice Ao39 t403.length co39) t403):=⟨by rw [<-hq_];exact (zS HO_10.out)⟩;have n1_:Aside0 (Kd.R k40 40 wr w.heap.size (fun _=>True) v407 x11_3):=⟨by rw [<-hq_];exact (zR HO_11.out)⟩;have n2_:Aside0 (Kd.R (Kd.int .i64) 3 wr w.heap.size (fun k_=>some k_≠(.slice (some ad417) x14_3.length co38:Value).ownBlock) (.slice Ao40 x12_3.length co40) x12_3):=⟨by rw [<-hq_];exact (zR HO_12.out)⟩;have n3_:Aside0 (Kd.R (Kd.int .i64) 3 wr w.heap.size (fun k_=>some k_≠(.slice Ao40 x12_3.length co40:Value).ownBlock) (.slice (some ad417) x14_3.length co38) x14_3):=⟨by rw [<-hq_];exact (zR HO_14.out)⟩;have n4_:Aside0 (Below w.heap.size w wr):=⟨by rw [<-hq_];exact zb⟩;clear HO_10 HO_11 HO_12 HO_14 HB hq_;have HO_10:=n0_;have HO_11:=n1_;have HO_12:=n2_;have HO_14:=n3_;have HB:=n4_;clear n0_ n1_ n2_ n3_ n4_));have p33:0<=(t418:Int):=oz_;have q33:(t418:Int)<((x11_3.length:Int):Int):=oz_;obtain ⟨go33,co33,eo33,gb33,gl33,cl33,HG33⟩:=Kd.R_form HO_11.out (by omega);(cases eo33);have GB33:=ak_ gb33;have GG33:=ak_ HG33;clear gb33 gl33 HG33;obtain ⟨ce33,hcl33,hM33,hcc33,hfr33⟩:=Kd.R_elem HO_11.out z40 (t418:Int) p33 q33;obtain rfl:=k40_openM hM33;have hx33_0:wr.cell? ⟨go33,(t418:Int).toNat * 3,none⟩=some (.int .i64 ((rd_T40 x11_3 t418).f0)):=hcc33 0 _ rfl;have hx33_1:wr.cell? ⟨go33,(t418:Int).toNat * 3 + 1,none⟩=some (.int .i64 ((rd_T40 x11_3 t418).f1)):=hcc33 1 _ rfl;have hx33_2:wr.cell? ⟨go33,(t418:Int).toNat * 3 + 2,none⟩=some (.int .i64 ((rd_T40 x11_3 t418).f2)):=hcc33 2 _ rfl;have hf33_0:wr.frozen? ⟨go33,(t418:Int).toNat * 3,none⟩=false:=hfr33 0;have hf33_1:wr.frozen? ⟨go33,(t418:Int).toNat * 3 + 1,none⟩=false:=hfr33 1;have hf33_2:wr.frozen? ⟨go33,(t418:Int).toNat * 3 + 2,none⟩=false:=hfr33 2;(clear hcl33 hcc33 hfr33;(try clear hM33));replace p33:=eq_true p33;replace q33:=eq_true q33;have HX41:=ak_ (show Kd.R k40 40 wr w.heap.size (fun _=>True) (.slice (some ⟨go33,0,none⟩) x11_3.length co33) x11_3 from (zR HO_11.out));obtain ⟨ce41,hcl41,hM41,hcc41,hfr41⟩:=Kd.R_elem HX41.out z40 (t418:Int) (oz_) (by have h_:(t418:Int)<((x11_3.length:Int):Int):=oz_;exact h_);obtain rfl:=k40_openM hM41;have HP41:=Kd.R_seg HX41.out (t418:Int) (oz_) (by have h_:(t418:Int)<((x11_3.length:Int):Int):=oz_;exact h_) (seg:=[.int .i64 t418,.int .i64 x17_3,.int .i64 x15_2]) (j:=0) hcl41 hcc41 (show 3<=3 from by decide) (x':=(⟨t418,x17_3,x15_2⟩:S40)) (k40_mkM _ _ _ (⟨t418,x17_3,x15_2⟩:S40)) (fun _ hk=>hk);have hx41_0:=hcc41 0 _ rfl;(try simp only [show (k40).sz=3 from rfl,Nat.mul_one,Nat.add_zero] at hx41_0);have hf41_0:=hfr41 0;(try simp only [show (k40).sz=3 from rfl,Nat.mul_one,Nat.add_zero] at hf41_0);have hx41_1:=hcc41 1 _ rfl;(try simp only [show (k40).sz=3 from rfl,Nat.mul_one,Nat.add_zero] at hx41_1);have hf41_1:=hfr41 1;(try simp only [show (k40).sz=3 from rfl,Nat.mul_one,Nat.add_zero] at hf41_1);have hx41_2:=hcc41 2 _ rfl;(try simp only [show (k40).sz=3 from rfl,Nat.mul_one,Nat.add_zero] at hx41_2);have hf41_2:=hfr41 2;(try simp only [show (k40).sz=3 from rfl,Nat.mul_one,Nat.add_zero] at hf41_2);(clear hcl41 hcc41 hfr41;(try clear hM41)))|((with_reducible refine gate_store (t:=40) (p:=65) rfl ?_);refine store_event (t:=40) (p:=65) (v:=?vo_w42) (w1:=(((wr.setCell ⟨go33,(t418:Int).toNat * 3,none⟩ (.int .i64 t418)).setCell ⟨go33,(t418:Int).toNat * 3 + 1,none⟩ (.int .i64 x17_3)).setCell ⟨go33,(t418:Int).toNat * 3 + 2,none⟩ (.int .i64 x15_2))) ?hg ?ho ?hn ?hr ?_;(case ho=>rfl);(case hg=>rfl);(case hn=>rfl);(case hr=>(go_simp;done));intro w42 hw;have hg:wr.grownBy w42 (some go33):=(by rw [hw];exact HP41.2);have hp_:Kd.R k40 40 w42 w.heap.size (fun _=>True) (.slice (some ⟨go33,0,none⟩) x11_3.length co33) y419:=(by rw [hw,Ny419.out];exact HP41.1);clear HP41;replace HO_10:=ak_ (Kd.S_over' (v:=(.slice (some ⟨go33,0,none⟩) x11_3.length co33)) (zS HO_10.out) (Kd.R_typed HO_11.out) (by decide) hg);replace HO_12:=ak_ (Kd.R_over' (v:=(.slice (some ⟨go33,0,none⟩) x11_3.length co33)) (zR HO_12.out) (Kd.R_typed HO_11.out) (by decide) hg);replace HO_14:=ak_ (Kd.R_over' (v:=(.slice (some ⟨go33,0,none⟩) x11_3.length co33)) (zR HO_14.out) (Kd.R_typed HO_11.out) (by decide) hg);replace HO_11:=ak_ (hp_);replace HB:=ak_ ((by rw [hw];exact below_set (below_set (below_set (HB.out) GB33.out) GB33.out) GB33.out:Below w.heap.size w w42));clear hg hw hp_;have p420:0<=(t418:Int):=oz_;have q420:t418<(l0.length:Int):=oz_;obtain ⟨ad420,e420,hx420_0,hx420_1,hx420_2,hx420_3⟩:=at_T31 HR0.out t418 p420 q420;cases e420;replace hx420_0:=zh_ HB hx420_0;replace hx420_1:=zh_ HB hx420_1;replace hx420_2:=zh_ HB hx420_2;replace hx420_3:=zh_ HB hx420_3;replace p420:=eq_true p420;replace q420:=eq_true q420;have p36:0<=(t418:Int):=oz_;have q36:(t418:Int)<((x12_3.length:Int):Int):=oz_;obtain ⟨go36,co36,eo36,gb36,gl36,cl36,HG36⟩:=Kd.R_form HO_12.out (by omega);(cases eo36);have GB36:=ak_ gb36;have GG36:=ak_ HG36;clear gb36 gl36 HG36;obtain ⟨hx36_0,hf36_0⟩:=Kd.R_celln 0 HO_12.out (t418:Int) p36 q36;replace p36:=eq_true p36;replace q36:=eq_true q36;obtain ⟨hy43_,hz43_⟩:=Kd.R_celln 0 HO_12.out (t418:Int) (oz_) (oz_);have HP43:=Kd.R_putg HO_12.out (t418:Int) (wrap64 (x15_2 + ((rd_T31 l0 t418).f0))))|((with_reducible refine gate_store (t:=3) (p:=75) rfl ?_);refine store_event (t:=3) (p:=75) (v:=?vo_w44) (w1:=(w42.setCell ⟨go36,(t418:Int).toNat,none⟩ (.int .i64 (wrap64 (x15_2 + ((rd_T31 l0 t418).f0)))))) ?hg ?ho ?hn ?hr ?_;(case ho=>rfl);(case hg=>rfl);(case hn=>rfl);(case hr=>(go_simp;done));intro w44 hw;have hg:w42.grownBy w44 (some go36):=(by rw [hw];exact HP43.2);have hp_:Kd.R (Kd.int .i64) 3 w44 w.heap.size (fun k_=>some k_≠(.slice (some ad417) x14_3.length co38:Value).ownBlock) (.slice (some ⟨go36,0,none⟩) x12_3.length co40) y421:=(by rw [hw,Ny421.out];exact HP43.1);clear HP43;replace HO_10:=ak_ (Kd.S_over' (v:=(.slice (some ⟨go36,0,none⟩) x12_3.length co40)) (zS HO_10.out) (Kd.R_typed HO_12.out) (by decide) hg);replace HO_11:=ak_ (Kd.R_over' (v:=(.slice (some ⟨go36,0,none⟩) x12_3.length co40)) (zR HO_11.out) (Kd.R_typed HO_12.out) (by decide) hg);replace HO_12:=ak_ (hp_);replace HO_14:=ak_ (Kd.R_after (v:=(.slice (some ⟨go36,0,none⟩) x12_3.length co40)) (v1:=(.slice (some ⟨go36,0,none⟩) x12_3.length co40)) (ok:=(fun _=>True)) (zR (Kd.R_mono HO_14.out (fun _ hk=>⟨trivial,hk⟩))) hg (.inl rfl));replace HB:=ak_ ((by rw [hw];exact below_set (HB.out) GB36.out:Below w.heap.size w w44));clear hg hw hp_;have p422:0<=(t418:Int):=oz_;have q422:t418<(y421.length:Int):=(by have h_:(t418:Int)<((x12_3.length:Int):Int):=oz_;(have e_:=(Kd.R_reads' HO_12.out).1;omega));have ql422:((t418:Int)<((x12_3.length:Int):Int))=True:=eq_true (oz_);obtain ⟨ad422,e422,hx422_0⟩:=Kd.at_int (Kd.R_reads' HO_12.out).2.2 t418 p422 q422;obtain rfl:(⟨go36,0,none⟩:Addr)=ad422:=(by injection e422);(simp only [add_plain] at hx422_0);replace p422:=eq_true p422;replace q422:=eq_true q422;have p37:0<=(x17_3:Int):=oz_;have q37:(x17_3:Int)<((x14_3.length:Int):Int):=oz_;obtain ⟨go37,co37,eo37,gb37,gl37,cl37,HG37⟩:=Kd.R_form HO_14.out (by omega);(cases eo37);have GB37:=ak_ gb37;have GG37:=ak_ HG37;clear gb37 gl37 HG37;(simp only [add_plain] at hx417_0);obtain ⟨hx37_0,hf37_0⟩:=Kd.R_celln 0 HO_14.out (x17_3:Int) p37 q37;replace p37:=eq_true p37;replace q37:=eq_true q37;have n_:=ak_ (Kd.R_mono (ok':=(fun k_=>some k_≠(.slice (some ⟨go36,0,none⟩) x12_3.length co40:Value).ownBlock)) HO_14.out (fun k_ hk=>hk.2));clear HO_14;have HO_14:=n_;clear n_;obtain ⟨hy45_,hz45_⟩:=Kd.R_celln 0 HO_14.out (x17_3:Int) (oz_) (oz_);have HP45:=Kd.R_putg HO_14.out (x17_3:Int) (rd y421 t418))|((with_reducible refine gate_store (t:=3) (p:=82) rfl ?_);refine store_event (t:=3) (p:=82) (v:=?vo_w46) (w1:=(w44.setCell ⟨go37,(x17_3:Int).toNat,none⟩ (.int .i64 (rd y421 t418)))) ?hg ?ho ?hn ?hr ?_;(case ho=>rfl);(case hg=>rfl);(case hn=>rfl);(case hr=>(go_simp;done));intro w46 hw;have hg:w44.grownBy w46 (some go37):=(by rw [hw];exact HP45.2);have hp_:Kd.R (Kd.int .i64) 3 w46 w.heap.size (fun k_=>some k_≠(.slice (some ⟨go36,0,none⟩) x12_3.length co40:Value).ownBlock) (.slice (some ⟨go37,0,none⟩) x14_3.length co38) y423:=(by rw [hw,Ny423.out];exact HP45.1);clear HP45;replace HO_10:=ak_ (Kd.S_over' (v:=(.slice (some ⟨go37,0,none⟩) x14_3.length co38)) (zS HO_10.out) (Kd.R_typed HO_14.out) (by decide) hg);replace HO_11:=ak_ (Kd.R_over' (v:=(.slice (some ⟨go37,0,none⟩) x14_3.length co38)) (zR HO_11.out) (Kd.R_typed HO_14.out) (by decide) hg);replace HO_12:=ak_ (Kd.R_after (v:=(.slice (some ⟨go37,0,none⟩) x14_3.length co38)) (v1:=(.slice (some ⟨go37,0,none⟩) x14_3.length co38)) (ok:=(fun _=>True)) (zR (Kd.R_mono HO_12.out (fun _ hk=>⟨trivial,hk⟩))) hg (.inl rfl));replace HO_14:=ak_ (hp_);replace HB:=ak_ ((by rw [hw];exact below_set (HB.out) GB37.out:Below w.heap.size w w46));clear hg hw hp_))
       go_roundg k3
       case measure=>have:=HK1.out;have:=HK2.out;have:=HK3.out;omega
       case rel=>exact ⟨(y419),(y421),(y423),(wrap64 (x16_3 - 1)),(wrap64 (x17_3 + 1)),zo,zo,H',⟨zz61⟩,⟨zS HO_10.out⟩,⟨zR HO_11.out⟩,⟨zR (Kd.R_mono HO_12.out (fun _ hk=>hk.2))⟩,⟨zR HO_14.out⟩,⟨zb⟩⟩
def spec_l1Own.f (l0:List Int):Option (List Int):=(some (([]:List Int):List Int)).bind fun y429=>(if y429.length + l0.length<17592186044416 then (some (y429++l0)) else (none))
theorem spec_l1Own.calls (A0:Option Addr) (c0:Nat) (l0:List Int) (r:List Int) (w:World) (hr0:Kd.C (Kd.int .i64) w A0 l0.length l0) (hc0:l0.length<=c0) (h:spec_l1Own.f l0=some r) :
  Calls Try.prog 83 #[.slice A0 l0.length c0] w fun e w'=>∃ v0_:Value,e=.returned (v0_)/\Kd.R (Kd.int .i64) 3 w' w.heap.size (fun _=>True) v0_ r/\Below w.heap.size w w':=by
 have HR0:=ak_ hr0
 have HC0:=ak_ hc0
 clear hr0 hc0
 have HB:=ak_ (Below.refl w.heap.size w)
 have H:((some (([]:List Int):List Int)).bind fun y429=>(if y429.length + l0.length<17592186044416 then (some (y429++l0)) else (none)))=some r:=h
 clear h
 replace H:=gY H;obtain ⟨y429,Ny429,H⟩:=H
 replace H:=gL H;obtain ⟨LMc2,H⟩:=H
 generalize hy432:(y429++l0:List Int)=y432 at H
 have Ny432:=ak_ hy432.symm
 clear hy432
 obtain rfl:=oi_ H
 go_enter Try.func83,Try.ntmps83
 go_wp2_with (first|((with_reducible refine gate_dst (N:=3) rfl ?_);refine Kd.R_lit (Kd.int .i64) _ 3 ?hg (N:=3) ?hd (xs:=([]:List Int)) (inner:=[]) (ok:=fun _=>True) (okp:=fun _=>True) ?hr ?hp (fun _ hk=>hk) trivial (Below.refl _ _) (Nat.le_refl _) (by simp) ?_;(case hd=>rfl);(case hg=>rfl);(case hr=>(go_simp;done));(case hp=>exact (Reps.none _ _));intro v430 w3 ho4 hb hg_ hnew_;clear hg_ hnew_;(rw [<-Ny429.out] at ho4);have HO431:=ak_ (Kd.R_lower ho4 (below_size zb));replace HB:=zb1 hb;clear hb ho4)|((with_reducible refine gate_builtin (b:=.append) (xs:=#[.tmp 3,.tmp 4]) rfl ?_);at_builtin;refine Kd.R_append_rows (Kd.int .i64) (w0:=w) w.heap.size rfl (.tmp 3) (.tmp 4) 49 3 (.int .i64 0) 8 rfl Try.underlying49 info3 rfl (by decide) (by omega) v430 y429 l0 _ _ _ (fun _=>True) (fun _=>False) rfl rfl ?aO ?aR (fun _ _ h=>h) (fun _ h=>h.elim) ?aF ?aB ?aS ?aL ?_;(case aR=>exact zC (Kd.C_below HR0.out HB.out));(case aB=>exact zb);(case aF=>exact (fun _ _=>trivial));(case aO=>exact (zR HO431.out));(case aS=>exact (below_size zb));(case aL=>have:=LMc2.out;omega);intro v433 w5 ho hb hg hat;rw [<-Ny432.out] at ho;replace HB:=ak_ (hb);have HO434:=ak_ (ho);clear HO431;clear ho hb hg hat))
 go_ret
 exact ⟨_,zz0,zR HO434.out,zb⟩
