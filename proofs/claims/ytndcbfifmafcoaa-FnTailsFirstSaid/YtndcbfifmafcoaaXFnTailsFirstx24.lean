import Derived.Test.YtndcbfifmafcoaaXFnTailsFirstx0
namespace Go.Proofs.Ytndcbfifmafcoaa.XFnTailsFirst
open Go.RowKit Go.Proofs.YtndcbfifmafcoaaW.PrintWords Go.Proofs.YtndcbfifmafcoaaW.PrintLast Go.Proofs.YtndcbfifmafcoaaW.PrintMore
set_option linter.unusedVariables false
set_option linter.unusedSimpArgs false
mutual
def impl_nextOrder.j1:Nat->List Int->Int->Option (Bool × List Int)
 | 0,_,_=>none
 | k + 1,x0,x3=>if x3<0 then (some (false,x0)) else (impl_nextOrder.l1 k x0 x3 (wrap64 ((x0.length:Int) - 1)))
def impl_nextOrder.l1:Nat->List Int->Int->Int->Option (Bool × List Int)
 | 0,_,_,_=>none
 | k + 1,x0,x3,x4=>if 0<=x4 then (if x4<(x0.length:Int) then (if 0<=x3 then (if x3<(x0.length:Int) then (if (rd x0 x4)<(rd x0 x3) then (impl_nextOrder.l1 k x0 x3 (wrap64 (x4 - 1))) else (impl_nextOrder.l2 k ((x0.set (x3:Int).toNat (rd x0 x4)).set (x4:Int).toNat (rd x0 x3)) (wrap64 (x3 + 1)) (wrap64 ((x0.length:Int) - 1)))) else (none)) else (none)) else (none)) else (none)
def impl_nextOrder.l2:Nat->List Int->Int->Int->Option (Bool × List Int)
 | 0,_,_,_=>none
 | k + 1,x0,x5,x6=>if x5<x6 then (if 0<=x6 then (if x6<(x0.length:Int) then (if 0<=x5 then (if x5<(x0.length:Int) then (impl_nextOrder.l2 k ((x0.set (x5:Int).toNat (rd x0 x6)).set (x6:Int).toNat (rd x0 x5)) (wrap64 (x5 + 1)) (wrap64 (x6 - 1))) else (none)) else (none)) else (none)) else (none)) else (some (true,x0))
def impl_nextOrder.l0:Nat->List Int->Int->Option (Bool × List Int)
 | 0,_,_=>none
 | k + 1,x0,x3=>if x3>=0 then (if 0<=x3 then (if x3<(x0.length:Int) then (if 0<=(wrap64 (x3 + 1)) then (if (wrap64 (x3 + 1))<(x0.length:Int) then (if (rd x0 x3)>(rd x0 (wrap64 (x3 + 1))) then (impl_nextOrder.l0 k x0 (wrap64 (x3 - 1))) else (impl_nextOrder.j1 k x0 x3)) else (none)) else (none)) else (none)) else (none)) else (impl_nextOrder.j1 k x0 x3)
end
def impl_nextOrder.f (k:Nat) (l0:List Int):Option (Bool × List Int):=impl_nextOrder.l0 k l0 (wrap64 ((l0.length:Int) - 2))
def impl_nextOrder.T2:Bool × List (List Nat × List Nat):=(true,[([],[]),([0],[0]),([1],[1]),([2],[2]),([2],[2]),([3,4,2],[2,3,4]),([5,2],[2,5]),([2],[2]),([2],[2]),([8,2],[2,8]),([7,9,2],[2,7,9]),([10,2],[2,10]),([6,11,2],[2,6,11]),([2,12],[2,12])])
def impl_nextOrder.B2:List Nat:=[0,1,3,7,7,31,63,7,7,263,903,1927,4095,8191]
theorem impl_nextOrder.tab2:rtab .any (opsOf Try.f63 2)=impl_nextOrder.T2:=by kernel_rfl
theorem impl_nextOrder.bits2:waitsOk impl_nextOrder.T2.2 impl_nextOrder.B2=true:=by kernel_rfl
def impl_nextOrder.T7:Bool × List (List Nat × List Nat):=(true,[([],[]),([],[]),([0,1],[0,1]),([2],[2]),([],[]),([],[]),([4,5],[4,5]),([6],[6]),([3,7],[3,7])])
def impl_nextOrder.B7:List Nat:=[0,0,3,7,0,0,48,112,255]
theorem impl_nextOrder.tab7:rtab .any (opsOf Try.f63 7)=impl_nextOrder.T7:=by kernel_rfl
theorem impl_nextOrder.bits7:waitsOk impl_nextOrder.T7.2 impl_nextOrder.B7=true:=by kernel_rfl
def impl_nextOrder.T9:Bool × List (List Nat × List Nat):=(true,[([],[]),([],[]),([],[]),([],[]),([],[]),([],[]),([4,5],[4,5]),([6],[6]),([],[]),([],[]),([8,9],[8,9]),([10],[10]),([0,1,0,1,4,5,6,7,11],[0,1]),([12,7,0,1,4,5,6,7,11],[7,12]),([2,3,0,1,2,3,4,5,6,7,8,9,10,11,12,13],[2,3]),([14,11,13,0,1,2,3,4,5,6,7,8,9,10,11,12,13],[11,14])])
def impl_nextOrder.B9:List Nat:=[0,0,0,0,0,0,48,112,0,0,768,1792,4083,8179,16383,32767]
theorem impl_nextOrder.tab9:rtab .any (opsOf Try.f63 9)=impl_nextOrder.T9:=by kernel_rfl
theorem impl_nextOrder.bits9:waitsOk impl_nextOrder.T9.2 impl_nextOrder.B9=true:=by kernel_rfl
def impl_nextOrder.T13:Bool × List (List Nat × List Nat):=(true,[([],[]),([],[]),([],[]),([],[]),([],[]),([],[]),([4,5],[4,5]),([6],[6]),([],[]),([],[]),([8,9],[8,9]),([10],[10]),([0,1,0,1,4,5,6,7,11],[0,1]),([12,7,0,1,4,5,6,7,11],[7,12]),([2,3,0,1,2,3,4,5,6,7,8,9,10,11,12,13],[2,3]),([14,11,13,0,1,2,3,4,5,6,7,8,9,10,11,12,13],[11,14])])
def impl_nextOrder.B13:List Nat:=[0,0,0,0,0,0,48,112,0,0,768,1792,4083,8179,16383,32767]
theorem impl_nextOrder.tab13:rtab .any (opsOf Try.f63 13)=impl_nextOrder.T13:=by kernel_rfl
theorem impl_nextOrder.bits13:waitsOk impl_nextOrder.T13.2 impl_nextOrder.B13=true:=by kernel_rfl
set_option maxHeartbeats 8000000 in
set_option maxRecDepth 100000 in
theorem impl_nextOrder.calls (k:Nat) (P0_:Nat->Prop) (u9000_:Value) (l0:List Int) (r1:Bool) (r2:List Int) (w0 w:World) (hB:Below w0.heap.size w0 w) (ho0:Kd.R (Kd.int .i64) 3 w w0.heap.size P0_ u9000_ l0) (h:impl_nextOrder.f k l0=some (r1,r2)) :
  Calls Try.prog 63 #[u9000_] w fun e w'=>e=.returned (.bool r1)/\Kd.R (Kd.int .i64) 3 w' w0.heap.size (fun k_=>(P0_ k_\/w.heap.size<=k_)) u9000_ r2/\Below w0.heap.size w0 w'/\Kept w w' (fun k_=>P0_ k_):=by
 have HO0:=ak_ (show Kd.R (Kd.int .i64) 3 w w0.heap.size (fun k_=>(P0_ k_\/w.heap.size<=k_)) u9000_ l0 from Kd.R_mono ho0 (fun k_ hk=>(.inl hk)));have HK:=ak_ (Kept.refl w (fun k_=>P0_ k_));have HW0:=ak_ hB.size;have HB:=ak_ hB;clear hB;have H:(impl_nextOrder.l0 k l0 (wrap64 ((l0.length:Int) - 2)))=some (r1,r2):=h;clear h;have HC2:=ak_ H;clear H;obtain ⟨Ao3,co3,rfl⟩:=Kd.R_slice HO0.out
 go_enter Try.func63,Try.ntmps63
 go_upto_block 0 with (fail)
 go_cut [3] (fun v3 wc=>∃ (kq:Nat) (x3_1:Int),v3=.int .i64 x3_1/\Aside0 (impl_nextOrder.j1 kq l0 x3_1=some (r1,r2))/\Aside0 (kq<=k)/\Aside0 (Kd.R (Kd.int .i64) 3 wc w0.heap.size (fun k_=>(P0_ k_\/w.heap.size<=k_)) (.slice Ao3 l0.length co3) l0)/\Aside0 (Kept w wc (fun k_=>P0_ k_))/\Aside0 (Below w0.heap.size w0 wc))
 case first=>
  have H:=HC2.out;clear HC2;have H':=ak_ H;clear H
  go_wp2
  go_loopg [3] k (fun kq v3 w'=>∃ (x3_1:Int),v3=.int .i64 x3_1/\Aside0 (impl_nextOrder.l0 kq l0 x3_1=some (r1,r2))/\Aside0 (kq<=k)/\Aside0 (Kd.R (Kd.int .i64) 3 w' w0.heap.size (fun k_=>(P0_ k_\/w.heap.size<=k_)) (.slice Ao3 l0.length co3) l0)/\Aside0 (Kept w w' (fun k_=>P0_ k_))/\Aside0 (Below w0.heap.size w0 w'))
  case atStart=>exact ⟨(wrap64 ((l0.length:Int) - 2)),zo,H',⟨Nat.le_refl _⟩,⟨zR HO0.out⟩,⟨zz6⟩,⟨zb⟩⟩
  case round=>
   clear H';obtain ⟨x3_1,rfl,HA,HK1,HO_0,HK,HB⟩:=hrel;cases gk with
   | zero=>exact absurd HA.out (by simp [impl_nextOrder.l0])
   | succ k1=>
    have H:=HA.out;clear HA;simp only [impl_nextOrder.l0] at H;replace H:=gND H;rcases H with ⟨c4b0,H⟩ | ⟨c4b0,H⟩
    ·skip
     have H':=ak_ H;clear H
     try go_wp2
     replace HO_0:=ak_ (Kd.R_drew HO_0.out);replace HK:=ak_ (Kept.drew HK.out);replace HB:=ak_ (below_drew1 HB.out);refine start_ (n:=14) (S:=fun w'=>True) (ds:=[]) #[false,false,false,false,false,false,false,false,false,false,false,false,false,false] (by kernel_rfl) rfl rfl trivial (fun hHeld=>?_);refine with_tabW impl_nextOrder.tab2 impl_nextOrder.bits2 (fun HT_ HW_=>?_);generalize wr.drew=w13 at HO_0 HK HB hHeld ⊢;refine pu_ 0 10 ?_;refine pu_ 1 11 ?_;refine pu_ 2 12 ?_;refine pv_ 3 13 ?_;refine pv_ 4 14 ?_;refine pv_ 5 15 ?_;refine pv_ 6 16 ?_;refine pv_ 7 17 ?_;refine pv_ 8 18 ?_;refine pv_ 9 19 ?_;refine pv_ 10 20 ?_;refine pv_ 11 21 ?_;refine pv_ 12 22 ?_;refine pu_ 13 23 ?_;refine done_ (done_of HT_.out (by kernel_rfl)) ?_
     try go_wp2
     go_meet
     case rel=>exact ⟨_,(x3_1),zo,H',⟨zz43⟩,⟨zR HO_0.out⟩,⟨zz6⟩,⟨zb⟩⟩
    replace H:=gD H;obtain ⟨c5b0,H⟩:=H;replace H:=gD H;obtain ⟨c6b0,H⟩:=H;obtain ⟨ji7,hji7⟩:∃ j_:Int,(wrap64 (x3_1 + 1))=j_:=⟨_,rfl⟩;replace H:(if 0<=(ji7) then (if (ji7)<(l0.length:Int) then (if (rd l0 x3_1)>(rd l0 (ji7)) then (impl_nextOrder.l0 k1 l0 (wrap64 (x3_1 - 1))) else (impl_nextOrder.j1 k1 l0 x3_1)) else (none)) else (none))=some (r1,r2):=by (rw [hji7] at H;exact H)
    have hji7w:(IntKind.i64.wrap (x3_1 + 1))=ji7:=(i64_w _).trans hji7;replace H:=gD H;obtain ⟨c8b0,H⟩:=H;replace H:=gD H;obtain ⟨c9b0,H⟩:=H;replace H:=gND H;rcases H with ⟨c10b0,H⟩ | ⟨c10b0,H⟩
    ·have H':=ak_ H;clear H
     try go_wp2
     replace HO_0:=ak_ (Kd.R_drew HO_0.out);replace HK:=ak_ (Kept.drew HK.out);replace HB:=ak_ (below_drew1 HB.out);obtain ⟨p598,q598,ad598,e598,hx598_0⟩:=ab_ (Kd.at_int (r2_ HO_0) x3_1);cases e598;obtain ⟨p599,q599,ad599,e599,hx599_0⟩:=ab_ (Kd.at_int (r2_ HO_0) (ji7));obtain rfl:ad598=ad599:=(by injection e599);refine start_ (n:=14) (S:=fun w'=>w'.cell? (ad598.add (x3_1).toNat)=some (.int .i64 (rd l0 x3_1))/\w'.cell? (ad598.add ((ji7)).toNat)=some (.int .i64 (rd l0 (ji7)))) (ds:=[]) #[false,false,false,false,false,false,false,false,false,false,false,false,false,false] (by kernel_rfl) rfl rfl ⟨hx598_0,hx599_0⟩ (fun hHeld=>?_);refine with_tabW impl_nextOrder.tab2 impl_nextOrder.bits2 (fun HT_ HW_=>?_);generalize wr.drew=w12 at HO_0 HK HB hx598_0 hx599_0 hHeld ⊢;refine pu_ 0 10 ?_;refine pu_ 1 11 ?_;refine pu_ 2 12 ?_;refine pu_ 3 13 ?_;refine pu_ 4 14 ?_;refine pu_ 5 15 ?_;refine pu_ 7 17 ?_;refine pu_ 8 18 ?_;refine pu_ 9 19 ?_;refine pu_ 10 20 ?_;refine tk_ 6 16 hHeld ?_;refine tk_ 11 21 hHeld ?_;refine pu_ 12 22 ?_;refine pu_ 13 23 ?_;refine done_ (done_of HT_.out (by kernel_rfl)) ?_
     try go_wp2
     go_meet
     case rel=>exact ⟨_,(x3_1),zo,H',⟨zz43⟩,⟨zR HO_0.out⟩,⟨zz6⟩,⟨zb⟩⟩
    have H':=ak_ H;clear H
    try go_wp2
    replace HO_0:=ak_ (Kd.R_drew HO_0.out);replace HK:=ak_ (Kept.drew HK.out);replace HB:=ak_ (below_drew1 HB.out);obtain ⟨p598,q598,ad598,e598,hx598_0⟩:=ab_ (Kd.at_int (r2_ HO_0) x3_1);cases e598;obtain ⟨p599,q599,ad599,e599,hx599_0⟩:=ab_ (Kd.at_int (r2_ HO_0) (ji7));obtain rfl:ad598=ad599:=(by injection e599);refine start_ (n:=14) (S:=fun w'=>w'.cell? (ad598.add (x3_1).toNat)=some (.int .i64 (rd l0 x3_1))/\w'.cell? (ad598.add ((ji7)).toNat)=some (.int .i64 (rd l0 (ji7)))) (ds:=[]) #[false,false,false,false,false,false,false,false,false,false,false,false,false,false] (by kernel_rfl) rfl rfl ⟨hx598_0,hx599_0⟩ (fun hHeld=>?_);refine with_tabW impl_nextOrder.tab2 impl_nextOrder.bits2 (fun HT_ HW_=>?_);generalize wr.drew=w11 at HO_0 HK HB hx598_0 hx599_0 hHeld ⊢;refine pu_ 0 10 ?_;refine pu_ 1 11 ?_;refine pu_ 2 12 ?_;refine pu_ 3 13 ?_;refine pu_ 4 14 ?_;refine pu_ 5 15 ?_;refine pu_ 7 17 ?_;refine pu_ 8 18 ?_;refine pu_ 9 19 ?_;refine pu_ 10 20 ?_;refine tk_ 6 16 hHeld ?_;refine tk_ 11 21 hHeld ?_;refine pu_ 12 22 ?_;refine pu_ 13 23 ?_;refine done_ (done_of HT_.out (by kernel_rfl)) ?_
    try go_wp2
    go_roundg k1
    case measure=>have:=HK1.out;omega
    case rel=>exact ⟨(wrap64 (x3_1 - 1)),zo,H',⟨by have:=HK1.out;omega⟩,⟨zR HO_0.out⟩,⟨zz6⟩,⟨zb⟩⟩
 case rest=>
  clear HC2;obtain ⟨kq,x3_1,rfl,HA,HJ1,HO_0,HK,HB⟩:=hcut;cases kq with
  | zero=>exact absurd HA.out (by simp [impl_nextOrder.j1])
  | succ kj1=>
   have H:=HA.out;clear HA;simp only [impl_nextOrder.j1] at H;replace H:=gPD H;rcases H with ⟨c14b0,H⟩ | ⟨c14b0,H⟩
   ·simp only [Option.some.injEq,Prod.mk.injEq] at H;obtain ⟨rfl,rfl⟩:=H
    go_wp2
    go_ret
    exact ⟨zz3,zR HO_0.out,zz44,zz6⟩
   have H':=ak_ H;clear H
   go_wp2
   go_loopg [4] kj1 (fun kq v4 w'=>∃ (x4_2:Int),v4=.int .i64 x4_2/\Aside0 (impl_nextOrder.l1 kq l0 x3_1 x4_2=some (r1,r2))/\Aside0 (kq<=kj1)/\Aside0 (Kd.R (Kd.int .i64) 3 w' w0.heap.size (fun k_=>(P0_ k_\/w.heap.size<=k_)) (.slice Ao3 l0.length co3) l0)/\Aside0 (Kept w w' (fun k_=>P0_ k_))/\Aside0 (Below w0.heap.size w0 w'))
   case atStart=>exact ⟨(wrap64 ((l0.length:Int) - 1)),zo,H',⟨Nat.le_refl _⟩,⟨zR HO_0.out⟩,⟨zz6⟩,⟨zb⟩⟩
   case round=>
    clear H';obtain ⟨x4_2,rfl,HA,HK2,HO_0,HK,HB⟩:=hrel;cases gk with
    | zero=>exact absurd HA.out (by simp [impl_nextOrder.l1])
    | succ k2=>
     have H:=HA.out;clear HA;simp only [impl_nextOrder.l1] at H;replace H:=gD H;obtain ⟨c15b0,H⟩:=H;replace H:=gD H;obtain ⟨c16b0,H⟩:=H;replace H:=gD H;obtain ⟨c17b0,H⟩:=H;replace H:=gD H;obtain ⟨c18b0,H⟩:=H;replace H:=gPD H;rcases H with ⟨c19b0,H⟩ | ⟨c19b0,H⟩
     ·have H':=ak_ H;clear H
      try go_wp2
      replace HO_0:=ak_ (Kd.R_drew HO_0.out);replace HK:=ak_ (Kept.drew HK.out);replace HB:=ak_ (below_drew1 HB.out);obtain ⟨p600,q600,ad600,e600,hx600_0⟩:=ab_ (Kd.at_int (r2_ HO_0) x4_2);cases e600;obtain ⟨p601,q601,ad601,e601,hx601_0⟩:=ab_ (Kd.at_int (r2_ HO_0) x3_1);obtain rfl:ad600=ad601:=(by injection e601);refine start_ (n:=9) (S:=fun w'=>w'.cell? (ad600.add (x4_2).toNat)=some (.int .i64 (rd l0 x4_2))/\w'.cell? (ad600.add (x3_1).toNat)=some (.int .i64 (rd l0 x3_1))) (ds:=[]) #[false,false,false,false,false,false,false,false,false] (by kernel_rfl) rfl rfl ⟨hx600_0,hx601_0⟩ (fun hHeld=>?_);refine with_tabW impl_nextOrder.tab7 impl_nextOrder.bits7 (fun HT_ HW_=>?_);generalize wr.drew=w20 at HO_0 HK HB hx600_0 hx601_0 hHeld ⊢;refine pu_ 0 31 ?_;refine pu_ 1 32 ?_;refine pu_ 2 33 ?_;refine pu_ 4 35 ?_;refine pu_ 5 36 ?_;refine pu_ 6 37 ?_;refine tk_ 3 34 hHeld ?_;refine tk_ 7 38 hHeld ?_;refine pu_ 8 39 ?_;refine done_ (done_of HT_.out (by kernel_rfl)) ?_
      try go_wp2
      go_roundg k2
      case measure=>have:=HJ1.out;have:=HK2.out;omega
      case rel=>exact ⟨(wrap64 (x4_2 - 1)),zo,H',⟨by have:=HJ1.out;have:=HK2.out;omega⟩,⟨zR HO_0.out⟩,⟨zz6⟩,⟨zb⟩⟩
     generalize hy604:(l0.set (x3_1:Int).toNat (rd l0 x4_2):List Int)=y604 at H;have Ny604:=ak_ hy604.symm;clear hy604;generalize hy605:(y604.set (x4_2:Int).toNat (rd l0 x3_1):List Int)=y605 at H;have Ny605:=ak_ hy605.symm;clear hy605;have H':=ak_ H;clear H
     try go_wp2
     replace HO_0:=ak_ (Kd.R_drew HO_0.out);replace HK:=ak_ (Kept.drew HK.out);replace HB:=ak_ (below_drew1 HB.out);obtain ⟨p600,q600,ad600,e600,hx600_0⟩:=ab_ (Kd.at_int (r2_ HO_0) x4_2);cases e600;obtain ⟨p601,q601,ad601,e601,hx601_0⟩:=ab_ (Kd.at_int (r2_ HO_0) x3_1);obtain rfl:ad600=ad601:=(by injection e601);refine start_ (n:=9) (S:=fun w'=>w'.cell? (ad600.add (x4_2).toNat)=some (.int .i64 (rd l0 x4_2))/\w'.cell? (ad600.add (x3_1).toNat)=some (.int .i64 (rd l0 x3_1))) (ds:=[]) #[false,false,false,false,false,false,false,false,false] (by kernel_rfl) rfl rfl ⟨hx600_0,hx601_0⟩ (fun hHeld=>?_);refine with_tabW impl_nextOrder.tab7 impl_nextOrder.bits7 (fun HT_ HW_=>?_);generalize wr.drew=w23 at HO_0 HK HB hx600_0 hx601_0 hHeld ⊢;refine pu_ 0 31 ?_;refine pu_ 1 32 ?_;refine pu_ 2 33 ?_;refine pu_ 4 35 ?_;refine pu_ 5 36 ?_;refine pu_ 6 37 ?_;refine tk_ 3 34 hHeld ?_;refine tk_ 7 38 hHeld ?_;refine pu_ 8 39 ?_;refine done_ (done_of HT_.out (by kernel_rfl)) ?_
     try go_wp2
     replace HO_0:=ak_ (Kd.R_drew HO_0.out);replace HK:=ak_ (Kept.drew HK.out);replace HB:=ak_ (below_drew1 HB.out);obtain ⟨p602,q602,ad602,e602,hx602_0⟩:=ab_ (Kd.at_int (r2_ HO_0) x4_2);obtain rfl:ad600=ad602:=(by injection e602);obtain ⟨p603,q603,ad603,e603,hx603_0⟩:=ab_ (Kd.at_int (r2_ HO_0) x3_1);obtain rfl:ad600=ad603:=(by injection e603);have p21:0<=(x3_1:Int):=oz_;have q21:(x3_1:Int)<((l0.length:Int):Int):=oz_;obtain ⟨go21,co21,eo21,gb21,gl21,cl21,HG21⟩:=Kd.R_form HO_0.out (by omega)
     (cases eo21)
     have GB21:=ak_ gb21;have GG21:=ak_ HG21;clear gb21 gl21 HG21;have HMgo21:=ak_ (show (P0_ go21\/w.heap.size<=go21) from (HO_0.out.1 _ rfl))
     (simp only [add_plain] at hx600_0)
     (simp only [add_plain] at hx601_0)
     (simp only [add_plain] at hx602_0)
     (simp only [add_plain] at hx603_0)
     obtain ⟨hx21_0,hf21_0⟩:=Kd.R_celln 0 HO_0.out (x3_1:Int) p21 q21;replace p21:=eq_true p21;replace q21:=eq_true q21;have HP25:=Kd.R_putn HO_0.out (x3_1:Int) (rd l0 x4_2);rw [<-Ny604.out] at HP25;have HQ25:=ak_ HP25;clear HP25;obtain ⟨p22,q22,hx22_0,hf22_0⟩:=ab_ (Kd.R_celln 0 HQ25.out (x4_2:Int));have HP26:=Kd.R_putn HQ25.out (x4_2:Int) (rd l0 x3_1);rw [<-Ny605.out] at HP26;have HQ26:=ak_ HP26;clear HP26;refine start_ (n:=16) (S:=fun w'=>w'.cell? ⟨go21,(x4_2).toNat,none⟩=some (.int .i64 (rd l0 x4_2))/\w'.cell? ⟨go21,(x3_1).toNat,none⟩=some (.int .i64 (rd l0 x3_1))) (ds:=[13,15]) #[false,false,false,false,false,false,false,false,false,false,false,false,false,false,false,false] (by kernel_rfl) rfl rfl ⟨hx602_0,hx603_0⟩ (fun hHeld=>?_);refine with_tabW impl_nextOrder.tab9 impl_nextOrder.bits9 (fun HT_ HW_=>?_);generalize w23.drew=w24 at HO_0 HK HB GG21 HQ25 HQ26 hf21_0 hf22_0 hx21_0 hx22_0 hx600_0 hx601_0 hx602_0 hx603_0 hHeld ⊢;refine pu_ 0 42 ?_;refine pu_ 1 43 ?_;refine pu_ 2 44 ?_;refine pu_ 3 45 ?_;refine pu_ 4 46 ?_;refine pu_ 5 47 ?_;refine pu_ 6 48 ?_;refine pu_ 8 50 ?_;refine pu_ 9 51 ?_;refine pu_ 10 52 ?_;refine tk_ 7 49 hHeld ?_;refine tk_ 11 53 hHeld ?_;refine pu_ 12 54 ?_;refine last_ (i:=13) (N:=none) #[true,true,true,true,true,true,true,true,true,true,true,true,true,true,false,false] rfl rfl (one_of HT_.out (by kernel_rfl)) (by decide) (fun K hK=>?_);refine skip_ (w1:=?_) (by rfl) rfl ?_ ?_;rotate_left
     ·go_simp
      rfl
     refine hK.out _ _ ?_;clear hK K;refine pu_ 14 55 ?_;refine last_ (i:=15) (N:=none) #[true,true,true,true,true,true,true,true,true,true,true,true,true,true,true,true] rfl rfl (one_of HT_.out (by kernel_rfl)) (by decide) (fun K hK=>?_);refine skip_ (w1:=?_) (by rfl) rfl ?_ ?_;rotate_left
     ·go_simp
      rfl
     refine hK.out _ _ ?_;clear hK K;refine done_ (done_of HT_.out (by kernel_rfl)) ?_
     try go_wp2
     go_loopg [5,6] k2 (fun kq v5 v6 w'=>∃ (x0_3:List Int) (x5_3:Int) (x6_3:Int),v5=.int .i64 x5_3/\v6=.int .i64 x6_3/\Aside0 (impl_nextOrder.l2 kq x0_3 x5_3 x6_3=some (r1,r2))/\Aside0 (kq<=k2)/\Aside0 (Kd.R (Kd.int .i64) 3 w' w0.heap.size (fun k_=>(P0_ k_\/w.heap.size<=k_)) (.slice (some ⟨go21,0,none⟩) l0.length co3) x0_3)/\Aside0 (Kept w w' (fun k_=>P0_ k_))/\Aside0 (Below w0.heap.size w0 w'))
     case atStart=>exact ⟨(y605),(wrap64 (x3_1 + 1)),(wrap64 ((l0.length:Int) - 1)),zo,zo,H',⟨Nat.le_refl _⟩,⟨by (with_reducible repeat (apply Kd.R_alloc));exact HQ26.out⟩,⟨by repeat ((with_reducible first|exact HK.out|refine Kept.setCell ?_ HMgo21.out _))⟩,⟨by repeat ((with_reducible first|exact HB.out|refine below_set ?_ GB21.out))⟩⟩
     case round=>
      clear H';obtain ⟨x0_3,x5_3,x6_3,rfl,rfl,HA,HK3,HO_0,HK,HB⟩:=hrel;have hl0_3:=(Kd.R_reads' HO_0.out).1;rw [hl0_3] at HO_0
      (try simp only [hl0_3])
      cases gk with
      | zero=>exact absurd HA.out (by simp [impl_nextOrder.l2])
      | succ k3=>
       have H:=HA.out;clear HA;simp only [impl_nextOrder.l2] at H;replace H:=gND H;rcases H with ⟨c27b0,H⟩ | ⟨c27b0,H⟩
       ·simp only [Option.some.injEq,Prod.mk.injEq] at H;obtain ⟨rfl,rfl⟩:=H
        go_wp2
        go_ret
        exact ⟨zz3,(by (simp only [hl0_3];exact (zR HO_0.out))),zz44,zz6⟩
       replace H:=gD H;obtain ⟨c28b0,H⟩:=H;replace H:=gD H;obtain ⟨c29b0,H⟩:=H;replace H:=gD H;obtain ⟨c30b0,H⟩:=H;replace H:=gD H;obtain ⟨c31b0,H⟩:=H;generalize hy608:(x0_3.set (x5_3:Int).toNat (rd x0_3 x6_3):List Int)=y608 at H;have Ny608:=ak_ hy608.symm;clear hy608;generalize hy609:(y608.set (x6_3:Int).toNat (rd x0_3 x5_3):List Int)=y609 at H;have Ny609:=ak_ hy609.symm;clear hy609;have H':=ak_ H;clear H
       try go_wp2
       replace HO_0:=ak_ (Kd.R_drew HO_0.out);replace HK:=ak_ (Kept.drew HK.out);replace HB:=ak_ (below_drew1 HB.out);obtain ⟨p606,q606,ad606,e606,hx606_0⟩:=ab_ (Kd.at_int (r2_ HO_0) x6_3);obtain rfl:(⟨go21,0,none⟩:Addr)=ad606:=(by injection e606)
       (simp only [add_plain] at hx606_0)
       obtain ⟨p607,q607,ad607,e607,hx607_0⟩:=ab_ (Kd.at_int (r2_ HO_0) x5_3);obtain rfl:(⟨go21,0,none⟩:Addr)=ad607:=(by injection e607)
       (simp only [add_plain] at hx607_0)
       obtain ⟨p32,q32,hx32_0,hf32_0⟩:=ab_ (Kd.R_celln 0 HO_0.out (x5_3:Int));have HP35:=Kd.R_putn HO_0.out (x5_3:Int) (rd x0_3 x6_3);rw [<-Ny608.out] at HP35;have HQ35:=ak_ HP35;clear HP35;obtain ⟨p33,q33,hx33_0,hf33_0⟩:=ab_ (Kd.R_celln 0 HQ35.out (x6_3:Int));have HP36:=Kd.R_putn HQ35.out (x6_3:Int) (rd x0_3 x5_3);rw [<-Ny609.out] at HP36;have HQ36:=ak_ HP36;clear HP36;refine start_ (n:=16) (S:=fun w'=>w'.cell? ⟨go21,(x6_3).toNat,none⟩=some (.int .i64 (rd x0_3 x6_3))/\w'.cell? ⟨go21,(x5_3).toNat,none⟩=some (.int .i64 (rd x0_3 x5_3))) (ds:=[13,15]) #[false,false,false,false,false,false,false,false,false,false,false,false,false,false,false,false] (by kernel_rfl) rfl rfl ⟨hx606_0,hx607_0⟩ (fun hHeld=>?_);refine with_tabW impl_nextOrder.tab13 impl_nextOrder.bits13 (fun HT_ HW_=>?_);generalize wr.drew=w34 at HO_0 HK HB HQ35 HQ36 hf32_0 hf33_0 hx32_0 hx33_0 hx606_0 hx607_0 hHeld ⊢;refine pu_ 0 68 ?_;refine pu_ 1 69 ?_;refine pu_ 2 70 ?_;refine pu_ 3 71 ?_;refine pu_ 4 72 ?_;refine pu_ 5 73 ?_;refine pu_ 6 74 ?_;refine pu_ 8 76 ?_;refine pu_ 9 77 ?_;refine pu_ 10 78 ?_;refine tk_ 7 75 hHeld ?_;refine tk_ 11 79 hHeld ?_;refine pu_ 12 80 ?_;refine last_ (i:=13) (N:=none) #[true,true,true,true,true,true,true,true,true,true,true,true,true,true,false,false] rfl rfl (one_of HT_.out (by kernel_rfl)) (by decide) (fun K hK=>?_);refine skip_ (w1:=?_) (by rfl) rfl ?_ ?_;rotate_left
       ·go_simp
        rfl
       refine hK.out _ _ ?_;clear hK K;refine pu_ 14 81 ?_;refine last_ (i:=15) (N:=none) #[true,true,true,true,true,true,true,true,true,true,true,true,true,true,true,true] rfl rfl (one_of HT_.out (by kernel_rfl)) (by decide) (fun K hK=>?_);refine skip_ (w1:=?_) (by rfl) rfl ?_ ?_;rotate_left
       ·go_simp
        rfl
       refine hK.out _ _ ?_;clear hK K;refine done_ (done_of HT_.out (by kernel_rfl)) ?_
       try go_wp2
       (try simp only [<-hl0_3])
       go_roundg k3
       case measure=>have:=HJ1.out;have:=HK2.out;have:=HK3.out;omega
       case rel=>exact ⟨(y609),(wrap64 (x5_3 + 1)),(wrap64 (x6_3 - 1)),zo,zo,H',⟨by have:=HJ1.out;have:=HK2.out;have:=HK3.out;omega⟩,⟨by (try simp only [hl0_3]);(with_reducible repeat (apply Kd.R_alloc));exact HQ36.out⟩,⟨by repeat ((with_reducible first|exact HK.out|refine Kept.setCell ?_ HMgo21.out _))⟩,⟨by repeat ((with_reducible first|exact HB.out|refine below_set ?_ GB21.out))⟩⟩
