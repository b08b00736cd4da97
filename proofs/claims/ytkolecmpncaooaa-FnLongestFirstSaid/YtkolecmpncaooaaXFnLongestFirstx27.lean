-- Words and walks of this claim.
import Derived.Test.YtkolecmpncaooaaXFnLongestFirstx1
import Derived.Test.YtkolecmpncaooaaXFnLongestFirstx26
namespace Go.Proofs.Ytkolecmpncaooaa.XFnLongestFirst
set_option maxRecDepth 100000
set_option maxHeartbeats 8000000
open Go.RowKit Go.Proofs.YtkolecmpncaooaaW.PrintWords Go.Proofs.YtkolecmpncaooaaW.PrintLast Go.Proofs.YtkolecmpncaooaaW.PrintMore
attribute [local go_sem] max2_int min2_int max_two min_two max_three min_three max_four min_four
attribute [local go_sem] idxA_51_0 idxA_51_1 fldS_45_0 fldS_45_1 fldS_45_2 fldS_96_0 fldS_96_1 fldS_96_2
set_option linter.unusedVariables false
set_option linter.unusedSimpArgs false
def ixV (i:Nat):Value→Int
 | .agg a=>match a[i]? with
  | some (.int _ n)=>n
  | _=>0
 | _=>0
def agV:Value→Bool
 | .agg ⟨[.int .i64 _,.int .i64 _,.int .i64 _]⟩=>true
 | _=>false
theorem agV_3 (a b c:Int):agV (.agg #[.int .i64 a,.int .i64 b,.int .i64 c])=true:=id rfl
theorem ixV_0 (k:IntKind) (a:Int) (b c:Value):ixV 0 (.agg #[.int k a,b,c])=a:=rfl
theorem ixV_1 (k:IntKind) (a:Int) (b c:Value):ixV 1 (.agg #[b,.int k a,c])=a:=rfl
theorem ixV_2 (k:IntKind) (a:Int) (b c:Value):ixV 2 (.agg #[b,c,.int k a])=a:=rfl
theorem agV_ex {x:Value} (h:agV x=true):∃ a b c,x=.agg #[.int .i64 a,.int .i64 b,.int .i64 c]:=by
 unfold agV at h
 split at h
 · exact ⟨_,_,_,rfl⟩
 · cases h
theorem eqV40 (d:Nat) (P:Program) (w:World) (t:TypeId) (x y:Value) (hP:P=Try.prog) (ht:t=40) (hx:agV x=true) (hy:agV y=true):(Op.equalIn (d + 2) t x y).run P w=.ok (ixV 0 x == ixV 0 y && (ixV 1 x == ixV 1 y && (ixV 2 x == ixV 2 y))) w:=by
 subst hP ht
 obtain ⟨x0,x1,x2,rfl⟩:=agV_ex hx
 obtain ⟨y0,y1,y2,rfl⟩:=agV_ex hy
 exact eqA40 d w x0 y0 x1 y1 x2 y2
attribute [local go_sem] agV_3 ixV_0 ixV_1 ixV_2 eqV40
def spec_TotalEnd.l0:Nat->List (S31)->List (S40)->Int->Int->Option (Int × Bool)
 | 0,_,_,_,_=>none
 | k + 1,x0,x7,x8,x9=>if x9<(x7.length:Int) then (if 0<=x9 then (if x9<(x0.length:Int) then (spec_TotalEnd.l0 k x0 x7 (wrap64 ((wrap64 (x8 + ((rd_T40 x7 x9).f2))) + ((rd_T31 x0 x9).f0))) (wrap64 (x9 + 1))) else (none)) else (none)) else (some (x8,true))
def spec_TotalEnd.f (k:Nat) (l0:List (S31)) (a1:Int):Option (Int × Bool):=(some (([]:List (S51)):List (S51))).bind fun y605=>((spec_l7Good.f k l0 a1 y605).bind fun t608=>(if t608=true then ((spec_l3Order.f k l0 2).bind fun t609=>((spec_l7List.f k l0 a1 y605 t609).bind fun t612=>(spec_TotalEnd.l0 k l0 t612 0 0))) else (some (0,false))))
theorem spec_TotalEnd.calls (k:Nat) (A0:Option Addr) (c0:Nat) (l0:List (S31)) (a1:Int) (r1:Int) (r2:Bool) (w:World) (hr0:Kd.C k31 w A0 l0.length l0) (hc0:l0.length<=c0) (h:spec_TotalEnd.f k l0 a1=some (r1,r2)) :
  Calls Try.prog 17 #[.slice A0 l0.length c0,.int .i64 a1] w fun e w'=>e=.returned (.tuple #[.int .i64 r1,.bool r2])/\Below w.heap.size w w':=by
 have HR0:=ak_ hr0
 have HC0:=ak_ hc0
 clear hr0 hc0
 have HB:=ak_ (Below.refl w.heap.size w)
 have H:((some (([]:List (S51)):List (S51))).bind fun y605=>((spec_l7Good.f k l0 a1 y605).bind fun t608=>(if t608=true then ((spec_l3Order.f k l0 2).bind fun t609=>((spec_l7List.f k l0 a1 y605 t609).bind fun t612=>(spec_TotalEnd.l0 k l0 t612 0 0))) else (some (0,false)))))=some (r1,r2):=h
 clear h
 replace H:=gY H;obtain ⟨y605,Ny605,H⟩:=H
 replace H:=gT H;obtain ⟨t608,A3,H⟩:=H
 replace H:=gNB H;rcases H with ⟨rfl,H⟩ | ⟨rfl,H⟩
 ·simp only [Option.some.injEq,Prod.mk.injEq] at H
  obtain ⟨rfl,rfl⟩:=H
  go_enter Try.func17,Try.ntmps17
  go_wp2_with (first|((with_reducible refine gate_dst (N:=10) rfl ?_);refine Kd.R_lit k51 _ 51 ?hg (N:=10) ?hd (xs:=([]:List (S51))) (inner:=[]) (ok:=fun _=>True) (okp:=fun _=>True) ?hr ?hp (fun _ hk=>hk) trivial (Below.refl _ _) (Nat.le_refl _) (by simp) ?_;(case hd=>rfl);(case hg=>rfl);(case hr=>(go_simp;done));(case hp=>exact (Reps.none _ _));intro v606 w19 ho20 hb hg_ hnew_;clear hg_ hnew_;(rw [<-Ny605.out] at ho20);have HO607:=ak_ (Kd.R_lower ho20 (below_size zb));replace HB:=zb1 hb;clear hb ho20;obtain ⟨Ao21,co21,eo21⟩:=Kd.R_slice HO607.out;subst eo21)|(go_at_call 39;(with_reducible refine (spec_l7Good.calls k _ _ l0 a1 _ _ y605 false _ ?side1 ?side2 ?side3 ?side4 A3.out).mono ?_);(case side1=>exact zC (Kd.C_below HR0.out HB.out));(case side2=>exact HC0.out);(case side3=>exact zC ((Kd.R_reads' HO607.out).2.2));(case side4=>exact (Kd.R_reads' HO607.out).2.1);rintro e w22 ⟨rfl,hb⟩;replace HO607:=zRb HO607 hb;replace HB:=zb1 hb;(try clear hb)))
  repeat (go_quiet (((with_reducible refine gate_dst (N:=10) rfl ?_);refine Kd.R_lit k51 _ 51 ?hg (N:=10) ?hd (xs:=([]:List (S51))) (inner:=[]) (ok:=fun _=>True) (okp:=fun _=>True) ?hr ?hp (fun _ hk=>hk) trivial (Below.refl _ _) (Nat.le_refl _) (by simp) ?_;(case hd=>rfl);(case hg=>rfl);(case hr=>(go_simp;done));(case hp=>exact (Reps.none _ _));intro v606 w19 ho20 hb hg_ hnew_;clear hg_ hnew_;(rw [<-Ny605.out] at ho20);have HO607:=ak_ (Kd.R_lower ho20 (below_size zb));replace HB:=zb1 hb;clear hb ho20;obtain ⟨Ao21,co21,eo21⟩:=Kd.R_slice HO607.out;subst eo21)))
  go_ret2
  exact ⟨zz0,zb⟩
 replace H:=gT H;obtain ⟨t609,A5,H⟩:=H
 replace H:=gT H;obtain ⟨t612,A6,H⟩:=H
 have H':=ak_ H
 clear H
 go_enter Try.func17,Try.ntmps17
 go_wp2_with (first|((with_reducible refine gate_dst (N:=10) rfl ?_);refine Kd.R_lit k51 _ 51 ?hg (N:=10) ?hd (xs:=([]:List (S51))) (inner:=[]) (ok:=fun _=>True) (okp:=fun _=>True) ?hr ?hp (fun _ hk=>hk) trivial (Below.refl _ _) (Nat.le_refl _) (by simp) ?_;(case hd=>rfl);(case hg=>rfl);(case hr=>(go_simp;done));(case hp=>exact (Reps.none _ _));intro v606 w7 ho8 hb hg_ hnew_;clear hg_ hnew_;(rw [<-Ny605.out] at ho8);have HO607:=ak_ (Kd.R_lower ho8 (below_size zb));replace HB:=zb1 hb;clear hb ho8;obtain ⟨Ao9,co9,eo9⟩:=Kd.R_slice HO607.out;subst eo9)|(go_at_call 39;(with_reducible refine (spec_l7Good.calls k _ _ l0 a1 _ _ y605 true _ ?side1 ?side2 ?side3 ?side4 A3.out).mono ?_);(case side1=>exact zC (Kd.C_below HR0.out HB.out));(case side2=>exact HC0.out);(case side3=>exact zC ((Kd.R_reads' HO607.out).2.2));(case side4=>exact (Kd.R_reads' HO607.out).2.1);rintro e w10 ⟨rfl,hb⟩;replace HO607:=zRb HO607 hb;replace HB:=zb1 hb;(try clear hb))|(go_at_call 46;(with_reducible refine (spec_l3Order.calls k _ _ l0 2 t609 _ ?side1 ?side2 A5.out).mono ?_);(case side1=>exact zC (Kd.C_below HR0.out HB.out));(case side2=>exact HC0.out);rintro e w11 ⟨v610,rfl,ho0,hb⟩;replace HO607:=zRb HO607 hb;have HO611:=ak_ (Kd.R_lower ho0 (below_size zb));replace HB:=zb1 hb;(try clear hb);(try clear ho0);obtain ⟨Ao12,co12,eo12⟩:=Kd.R_slice HO611.out;subst eo12)|(go_at_call 40;(with_reducible refine (spec_l7List.calls k _ _ l0 a1 _ _ y605 _ _ t609 t612 _ ?side1 ?side2 ?side3 ?side4 ?side5 ?side6 A6.out).mono ?_);(case side1=>exact zC (Kd.C_below HR0.out HB.out));(case side2=>exact HC0.out);(case side3=>exact zC ((Kd.R_reads' HO607.out).2.2));(case side4=>exact (Kd.R_reads' HO607.out).2.1);(case side5=>exact zC ((Kd.R_reads' HO611.out).2.2));(case side6=>exact (Kd.R_reads' HO611.out).2.1);rintro e w13 ⟨v613,rfl,ho0,hb⟩;replace HO607:=zRb HO607 hb;replace HO611:=zRb HO611 hb;have HO614:=ak_ (Kd.R_lower ho0 (below_size zb));replace HB:=zb1 hb;(try clear hb);(try clear ho0)))
 repeat (go_quiet (((with_reducible refine gate_dst (N:=10) rfl ?_);refine Kd.R_lit k51 _ 51 ?hg (N:=10) ?hd (xs:=([]:List (S51))) (inner:=[]) (ok:=fun _=>True) (okp:=fun _=>True) ?hr ?hp (fun _ hk=>hk) trivial (Below.refl _ _) (Nat.le_refl _) (by simp) ?_;(case hd=>rfl);(case hg=>rfl);(case hr=>(go_simp;done));(case hp=>exact (Reps.none _ _));intro v606 w7 ho8 hb hg_ hnew_;clear hg_ hnew_;(rw [<-Ny605.out] at ho8);have HO607:=ak_ (Kd.R_lower ho8 (below_size zb));replace HB:=zb1 hb;clear hb ho8;obtain ⟨Ao9,co9,eo9⟩:=Kd.R_slice HO607.out;subst eo9)))
 go_loopg [8,9] k (fun kq v8 v9 w'=>∃ (x8_1:Int) (x9_1:Int),v8=.int .i64 x8_1/\v9=.int .i64 x9_1/\Aside0 (spec_TotalEnd.l0 kq l0 t612 x8_1 x9_1=some (r1,r2))/\Aside0 (kq<=k)/\Aside0 (Kd.R k40 40 w' w.heap.size (fun _=>True) v613 t612)/\Aside0 (Below w.heap.size w w'))
 case atStart=>exact ⟨(0),(0),zo,zo,H',⟨Nat.le_refl _⟩,⟨zR HO614.out⟩,⟨zb⟩⟩
 case round=>
  clear H'
  obtain ⟨x8_1,x9_1,rfl,rfl,HA,HK1,HO_7,HB⟩:=hrel
  cases gk with
  | zero=>exact absurd HA.out (by simp [spec_TotalEnd.l0])
  | succ k1=>
   have H:=HA.out
   clear HA
   simp only [spec_TotalEnd.l0] at H
   replace H:=gND H;rcases H with ⟨c14b0,H⟩ | ⟨c14b0,H⟩
   ·simp only [Option.some.injEq,Prod.mk.injEq] at H
    obtain ⟨rfl,rfl⟩:=H
    obtain ⟨Ao18,co18,eo18⟩:=Kd.R_slice HO_7.out
    subst eo18
    go_wp2
    repeat (go_quiet (fail))
    go_ret2
    exact ⟨zz0,zb⟩
   replace H:=gD H;obtain ⟨c15b0,H⟩:=H
   replace H:=gD H;obtain ⟨c16b0,H⟩:=H
   have H':=ak_ H
   clear H
   obtain ⟨Ao17,co17,eo17⟩:=Kd.R_slice HO_7.out
   subst eo17
   have p615:0<=(x9_1:Int):=oz_
   have q615:x9_1<(t612.length:Int):=oz_
   obtain ⟨ad615,e615,hx615_0,hx615_1,hx615_2⟩:=at_T40 (Kd.R_reads' HO_7.out).2.2 x9_1 p615 q615
   cases e615
   replace p615:=eq_true p615
   replace q615:=eq_true q615
   have p616:0<=(x9_1:Int):=oz_
   have q616:x9_1<(l0.length:Int):=oz_
   obtain ⟨ad616,e616,hx616_0,hx616_1,hx616_2,hx616_3⟩:=at_T31 HR0.out x9_1 p616 q616
   cases e616
   replace hx616_0:=zh_ HB hx616_0
   replace hx616_1:=zh_ HB hx616_1
   replace hx616_2:=zh_ HB hx616_2
   replace hx616_3:=zh_ HB hx616_3
   replace p616:=eq_true p616
   replace q616:=eq_true q616
   go_wp2
   repeat (go_quiet (fail);try go_wp2)
   go_roundg k1
   case measure=>have:=HK1.out;omega
   case rel=>exact ⟨(wrap64 ((wrap64 (x8_1 + ((rd_T40 t612 x9_1).f2))) + ((rd_T31 l0 x9_1).f0))),(wrap64 (x9_1 + 1)),zo,zo,H',⟨by have:=HK1.out;omega⟩,⟨zR HO_7.out⟩,⟨zb⟩⟩
def laws_vTasks.l0:Nat->List (S40)->List (S40)->Int->Option (Bool)
 | 0,_,_,_=>none
 | k + 1,x0,x1,x5=>if x5<(x0.length:Int) then (if 0<=x5 then (if x5<(x1.length:Int) then (if (!(((rd_T40 x0 x5).f0) == ((rd_T40 x1 x5).f0)) || (!(((rd_T40 x0 x5).f1) == ((rd_T40 x1 x5).f1)) || (!(((rd_T40 x0 x5).f2) == ((rd_T40 x1 x5).f2)))))=true then (some false) else (laws_vTasks.l0 k x0 x1 (wrap64 (x5 + 1)))) else (none)) else (none)) else (some true)
def laws_vTasks.f (k:Nat) (l0:List (S40)) (l1:List (S40)):Option (Bool):=if (l0.length:Int)=(l1.length:Int) then (laws_vTasks.l0 k l0 l1 0) else (some false)
theorem laws_vTasks.calls (k:Nat) (A0:Option Addr) (c0:Nat) (l0:List (S40)) (A1:Option Addr) (c1:Nat) (l1:List (S40)) (r:Bool) (w:World) (hr0:Kd.C k40 w A0 l0.length l0) (hc0:l0.length<=c0) (hr1:Kd.C k40 w A1 l1.length l1) (hc1:l1.length<=c1) (h:laws_vTasks.f k l0 l1=some r) :
  Calls Try.prog 18 #[.slice A0 l0.length c0,.slice A1 l1.length c1] w fun e w'=>e=.returned (.bool r)/\Drawn0 w w':=by
 have hu40:=Try.underlying40
 have HR0:=ak_ hr0
 have HC0:=ak_ hc0
 clear hr0 hc0
 have HR1:=ak_ hr1
 have HC1:=ak_ hc1
 clear hr1 hc1
 have H:(if (l0.length:Int)=(l1.length:Int) then (laws_vTasks.l0 k l0 l1 0) else (some false))=some r:=h
 clear h
 replace H:=gN H;rcases H with ⟨c3,H⟩ | ⟨c3,H⟩
 ·have c3b0:((l0.length:Int) == (l1.length:Int))=false:=beq_eq_false_iff_ne.mpr c3
  have c3b1:((l0.length:Int) != (l1.length:Int))=true:=bne_iff_ne.mpr c3
  have c3b2:(l0.length == l1.length)=false:=by (simp at c3 ⊢;omega)
  obtain rfl:=oi_ H
  go_enter Try.func18,Try.ntmps18
  go_wp2
  repeat (go_quiet (fail))
  go_ret
  exact ⟨zz7,zz4⟩
 have c3b0:((l0.length:Int) == (l1.length:Int))=true:=beq_iff_eq.mpr c3
 have c3b1:((l0.length:Int) != (l1.length:Int))=false:=bne_eq_false_iff_eq.mpr c3
 have c3b2:(l0.length == l1.length)=true:=by (simp at c3 ⊢;omega)
 clear c3
 have H':=ak_ H
 clear H
 go_enter Try.func18,Try.ntmps18
 go_wp2
 repeat (go_quiet (fail))
 go_loopg [5] k (fun kq v5 w'=>∃ (x5_1:Int),v5=.int .i64 x5_1/\Aside0 (laws_vTasks.l0 kq l0 l1 x5_1=some r)/\Aside0 (kq<=k)/\Drawn0 w w')
 case atStart=>exact ⟨(0),zo,H',⟨Nat.le_refl _⟩,zz4⟩
 case round=>
  clear H'
  obtain ⟨x5_1,rfl,HA,HK1,⟨m1,rfl⟩⟩:=hrel
  cases gk with
  | zero=>exact absurd HA.out (by simp [laws_vTasks.l0])
  | succ k1=>
   have H:=HA.out
   clear HA
   simp only [laws_vTasks.l0] at H
   replace H:=gND H;rcases H with ⟨c4b0,H⟩ | ⟨c4b0,H⟩
   ·obtain rfl:=oi_ H
    go_wp2
    repeat (go_quiet (fail))
    go_ret
    exact ⟨zz7,zz4⟩
   replace H:=gD H;obtain ⟨c5b0,H⟩:=H
   replace H:=gD H;obtain ⟨c6b0,H⟩:=H
   replace H:=gP H;rcases H with ⟨c7,H⟩ | ⟨c7,H⟩
   ·have c7b0:(!(((rd_T40 l0 x5_1).f0) == ((rd_T40 l1 x5_1).f0)) || (!(((rd_T40 l0 x5_1).f1) == ((rd_T40 l1 x5_1).f1)) || (!(((rd_T40 l0 x5_1).f2) == ((rd_T40 l1 x5_1).f2)))))=true:=c7
    clear c7
    obtain rfl:=oi_ H
    have p617:0<=(x5_1:Int):=oz_
    have q617:x5_1<(l0.length:Int):=oz_
    obtain ⟨ad617,e617,hx617_0,hx617_1,hx617_2⟩:=at_T40 HR0.out x5_1 p617 q617
    cases e617
    replace p617:=eq_true p617
    replace q617:=eq_true q617
    have p618:0<=(x5_1:Int):=oz_
    have q618:x5_1<(l1.length:Int):=oz_
    obtain ⟨ad618,e618,hx618_0,hx618_1,hx618_2⟩:=at_T40 HR1.out x5_1 p618 q618
    cases e618
    replace p618:=eq_true p618
    replace q618:=eq_true q618
    go_wp2
    repeat (go_quiet (fail);try go_wp2)
    go_ret
    exact ⟨zz7,zz4⟩
   have c7b0:(!(((rd_T40 l0 x5_1).f0) == ((rd_T40 l1 x5_1).f0)) || (!(((rd_T40 l0 x5_1).f1) == ((rd_T40 l1 x5_1).f1)) || (!(((rd_T40 l0 x5_1).f2) == ((rd_T40 l1 x5_1).f2)))))=false:=by simpa using c7
   clear c7
   have H':=ak_ H
   clear H
   have p617:0<=(x5_1:Int):=oz_
   have q617:x5_1<(l0.length:Int):=oz_
   obtain ⟨ad617,e617,hx617_0,hx617_1,hx617_2⟩:=at_T40 HR0.out x5_1 p617 q617
   cases e617
   replace p617:=eq_true p617
   replace q617:=eq_true q617
   have p618:0<=(x5_1:Int):=oz_
   have q618:x5_1<(l1.length:Int):=oz_
   obtain ⟨ad618,e618,hx618_0,hx618_1,hx618_2⟩:=at_T40 HR1.out x5_1 p618 q618
   cases e618
   replace p618:=eq_true p618
   replace q618:=eq_true q618
   go_wp2
   repeat (go_quiet (fail);try go_wp2)
   go_roundg k1
   case measure=>have:=HK1.out;omega
   case rel=>exact ⟨(wrap64 (x5_1 + 1)),zo,H',⟨by have:=HK1.out;omega⟩,zz4⟩
