import Derived.Test.YtndcbfifmafcoaaXFnTailsFirstx1
import Derived.Test.YtndcbfifmafcoaaXFnTailsFirstx22
import Derived.Test.YtndcbfifmafcoaaXFnTailsFirstx32
namespace Go.Proofs.Ytndcbfifmafcoaa.XFnTailsFirst
set_option maxRecDepth 100000
set_option maxHeartbeats 8000000
open Go.RowKit Go.Proofs.YtndcbfifmafcoaaW.PrintWords Go.Proofs.YtndcbfifmafcoaaW.PrintLast Go.Proofs.YtndcbfifmafcoaaW.PrintMore
set_option linter.unusedVariables false
set_option linter.unusedSimpArgs false
def ixV (i:Nat):Value→Int
 | .agg a=>match a[i]? with
  | some (.int _ n)=>n
  | _=>0
 | _=>0
def agV:Value→Bool
 | .agg ⟨[.int .i64 _,.int .i64 _,.int .i64 _]⟩=>true
 | _=>false
theorem agV_3 (a b c:Int):agV (.agg #[.int .i64 a,.int .i64 b,.int .i64 c])=true:=id rfl
theorem ixV_0 (k:IntKind) (a:Int) (b c:Value):ixV 0 (.agg #[.int k a,b,c])=a:=rfl
theorem ixV_1 (k:IntKind) (a:Int) (b c:Value):ixV 1 (.agg #[b,.int k a,c])=a:=rfl
theorem ixV_2 (k:IntKind) (a:Int) (b c:Value):ixV 2 (.agg #[b,c,.int k a])=a:=rfl
theorem agV_ex {x:Value} (h:agV x=true):∃ a b c,x=.agg #[.int .i64 a,.int .i64 b,.int .i64 c]:=by
 unfold agV at h
 split at h
 · exact ⟨_,_,_,rfl⟩
 · cases h
theorem eqV73 (d:Nat) (P:Program) (w:World) (t:TypeId) (x y:Value) (hP:P=Try.prog) (ht:t=73) (hx:agV x=true) (hy:agV y=true):(Op.equalIn (d + 2) t x y).run P w=.ok (ixV 0 x == ixV 0 y && (ixV 1 x == ixV 1 y && (ixV 2 x == ixV 2 y))) w:=by
 subst hP ht
 obtain ⟨x0,x1,x2,rfl⟩:=agV_ex hx
 obtain ⟨y0,y1,y2,rfl⟩:=agV_ex hy
 exact eqA73 d w x0 y0 x1 y1 x2 y2
attribute [local go_sem] agV_3 ixV_0 ixV_1 ixV_2 eqV73
def spec_l7Units.l0:Nat->Int->List (S44)->Int->Option ((List (S44)))
 | 0,_,_,_=>none
 | k + 1,x0,x3,x4=>if x4<x0 then (if x3.length<4398046511104 then (spec_l7Units.l0 k x0 (x3++[(⟨1,0,0,0⟩:S44)]) (wrap64 (x4 + 1))) else (none)) else (some x3)
def spec_l7Units.f (k:Nat) (a0:Int):Option ((List (S44))):=spec_l7Units.l0 k a0 (([]:List (S44))) 0
theorem spec_l7Units.calls (k:Nat) (a0:Int) (r:List (S44)) (w:World) (h:spec_l7Units.f k a0=some r) :
  Calls Try.prog 46 #[.int .i64 a0] w fun e w'=>∃ v0_:Value,e=.returned (v0_)/\Kd.R k44 44 w' w.heap.size (fun _=>True) v0_ r/\Below w.heap.size w w':=by
 have hu44:=Try.underlying44;have HB:=ak_ (Below.refl w.heap.size w);have H:(spec_l7Units.l0 k a0 (([]:List (S44))) 0)=some r:=h;clear h;generalize hy804:(([]:List (S44)):List (S44))=y804 at H;have Ny804:=ak_ hy804.symm;clear hy804;have H':=ak_ H;clear H
 go_enter Try.func46,Try.ntmps46
 go_wp2_with (((with_reducible refine gate_dst (N:=5) rfl ?_);refine rl_ k44 44 (N:=5) (xs:=([]:List (S44))) (inner:=[]) (Reps.none _ _) ?_;intro v805 w2 ho3 hb hg_ hnew_;clear hg_ hnew_;(rw [<-Ny804.out] at ho3);have HO806:=ak_ (Kd.R_lower ho3 (below_size zb));replace HB:=zb1 hb;clear hb ho3))
 go_loopg [3,4] k (fun kq v3 v4 w'=>∃ (x3_1:List (S44)) (x4_1:Int),v4=.int .i64 x4_1/\Aside0 (spec_l7Units.l0 kq a0 x3_1 x4_1=some r)/\Aside0 (kq<=k)/\Aside0 (Kd.R k44 44 w' w.heap.size (fun _=>True) v3 x3_1)/\Aside0 (Below w.heap.size w w'))
 case atStart=>exact ⟨(y804),(0),zo,H',⟨Nat.le_refl _⟩,⟨zR HO806.out⟩,⟨zb⟩⟩
 case round=>
  clear H';obtain ⟨x3_1,x4_1,rfl,HA,HK1,HO_3,HB⟩:=hrel;cases gk with
  | zero=>exact absurd HA.out (by simp [spec_l7Units.l0])
  | succ k1=>
   have H:=HA.out;clear HA;simp only [spec_l7Units.l0] at H;replace H:=gND H;rcases H with ⟨c4b0,H⟩ | ⟨c4b0,H⟩
   ·obtain rfl:=oi_ H
    go_wp2
    go_ret
    exact ⟨_,zz3,zR HO_3.out,zb⟩
   replace H:=gL H;obtain ⟨LMc5,H⟩:=H;generalize hy807:(x3_1++[(⟨1,0,0,0⟩:S44)]:List (S44))=y807 at H;have Ny807:=ak_ hy807.symm;clear hy807;have H':=ak_ H;clear H
   go_wp2_with (((with_reducible refine gate_builtin (b:=.append) (xs:=#[.tmp 11,.tmp 13]) rfl ?_);at_builtin;refine Kd.R_append k44 (w0:=w) w.heap.size rfl (.tmp 11) (.tmp 13) 24 44 (.agg #[(.int .i64 0),(.int .i64 0),(.int .i64 0),(.int .i64 0)]) 32 rfl Try.underlying24 info44 rfl (by decide) (by omega) u3 x3_1 (⟨1,0,0,0⟩:S44) [.int .i64 1,.int .i64 0,.int .i64 0,.int .i64 0] (fun _=>True) (fun _=>False) rfl rfl ?aP (fun _ hk=>hk.elim) ?aF ?aO ?aB ?aS ?aL ?_;(case aP=>exact k44_mkM _ _ _ (⟨1,0,0,0⟩:S44));(case aB=>exact zb);(case aF=>exact (fun _ _=>trivial));(case aO=>exact (zR HO_3.out));(case aS=>exact (below_size zb));(case aL=>have:=LMc5.out;omega);intro v808 w6 ho hb hg hat;rw [<-Ny807.out] at ho;replace HB:=ak_ (hb);have HO809:=ak_ (ho);clear HO_3;clear ho hb hg hat))
   go_roundg k1
   case measure=>have:=HK1.out;omega
   case rel=>exact ⟨(y807),(wrap64 (x4_1 + 1)),zo,H',⟨by have:=HK1.out;omega⟩,⟨zR HO809.out⟩,⟨zb⟩⟩
def spec_LabelPlan.f (k:Nat) (a0:Int) (l1:List (S42)):Option ((List (S73)) × Bool):=(spec_l4Good.f k a0 l1).bind fun t810=>(if t810=true then ((spec_l7Units.f k a0).bind fun t814=>((spec_l7Labels.f k a0 l1).bind fun t817=>((spec_l7Falling.f k t817).bind fun t820=>((spec_l7List.f k t814 2 l1 t820).bind fun t823=>(some (t823,true)))))) else (some ((([]:List (S73))),false)))
theorem spec_LabelPlan.calls (k:Nat) (a0:Int) (A1:Option Addr) (c1:Nat) (l1:List (S42)) (r1:List (S73)) (r2:Bool) (w:World) (hr1:Kd.C k42 w A1 l1.length l1) (hc1:l1.length<=c1) (h:spec_LabelPlan.f k a0 l1=some (r1,r2)) :
  Calls Try.prog 15 #[.int .i64 a0,.slice A1 l1.length c1] w fun e w'=>∃ v0_:Value,e=.returned (.tuple #[v0_,.bool r2])/\Kd.R k73 73 w' w.heap.size (fun _=>True) v0_ r1/\Below w.heap.size w w':=by
 have HR1:=ak_ hr1;have HC1:=ak_ hc1;clear hr1 hc1;have HB:=ak_ (Below.refl w.heap.size w);have H:((spec_l4Good.f k a0 l1).bind fun t810=>(if t810=true then ((spec_l7Units.f k a0).bind fun t814=>((spec_l7Labels.f k a0 l1).bind fun t817=>((spec_l7Falling.f k t817).bind fun t820=>((spec_l7List.f k t814 2 l1 t820).bind fun t823=>(some (t823,true)))))) else (some ((([]:List (S73))),false))))=some (r1,r2):=h;clear h;replace H:=gT H;obtain ⟨t810,A3,H⟩:=H;replace H:=gNB H;rcases H with ⟨rfl,H⟩ | ⟨rfl,H⟩
 ·generalize hy811:(([]:List (S73)):List (S73))=y811 at H;have Ny811:=ak_ hy811.symm;clear hy811;simp only [Option.some.injEq,Prod.mk.injEq] at H;obtain ⟨rfl,rfl⟩:=H
  go_enter Try.func15,Try.ntmps15
  go_wp2_with (first|(refine zgo 8 Try.func43 #[.int .i64 a0,.slice A1 l1.length c1] ?_;(with_reducible refine (spec_l4Good.calls k a0 _ _ l1 false _ ?side1 ?side2 A3.out).mono ?_);(case side1=>exact zC HR1.out);(case side2=>exact HC1.out);rintro e w17 ⟨rfl,hb⟩;refine ⟨_,rfl,?_⟩;replace HB:=zb1 hb;(try clear hb))|((with_reducible refine gate_dst (N:=10) rfl ?_);refine rl_ k73 73 (N:=10) (xs:=([]:List (S73))) (inner:=[]) (Reps.none _ _) ?_;intro v812 w18 ho19 hb hg_ hnew_;clear hg_ hnew_;(rw [<-Ny811.out] at ho19);have HO813:=ak_ (Kd.R_lower ho19 (below_size zb));replace HB:=zb1 hb;clear hb ho19))
  go_ret2
  exact ⟨_,zz3,zR HO813.out,zb⟩
 replace H:=gT H;obtain ⟨t814,A5,H⟩:=H;replace H:=gT H;obtain ⟨t817,A6,H⟩:=H;replace H:=gT H;obtain ⟨t820,A7,H⟩:=H;replace H:=gT H;obtain ⟨t823,A8,H⟩:=H;simp only [Option.some.injEq,Prod.mk.injEq] at H;obtain ⟨rfl,rfl⟩:=H
 go_enter Try.func15,Try.ntmps15
 go_wp2_with (first|(refine zgo 8 Try.func43 #[.int .i64 a0,.slice A1 l1.length c1] ?_;(with_reducible refine (spec_l4Good.calls k a0 _ _ l1 true _ ?side1 ?side2 A3.out).mono ?_);(case side1=>exact zC HR1.out);(case side2=>exact HC1.out);rintro e w9 ⟨rfl,hb⟩;refine ⟨_,rfl,?_⟩;replace HB:=zb1 hb;(try clear hb))|(refine zgo 12 Try.func46 #[.int .i64 a0] ?_;(with_reducible refine (spec_l7Units.calls k a0 t814 _ A5.out).mono ?_);rintro e w10 ⟨v815,rfl,ho0,hb⟩;refine ⟨_,rfl,?_⟩;have HO816:=ak_ (Kd.R_lower ho0 (below_size zb));replace HB:=zb1 hb;(try clear hb);(try clear ho0))|(refine zgo 16 Try.func44 #[.int .i64 a0,.slice A1 l1.length c1] ?_;(with_reducible refine (spec_l7Labels.calls k a0 _ _ l1 t817 _ ?side1 ?side2 A6.out).mono ?_);(case side1=>exact zC (Kd.C_below HR1.out HB.out));(case side2=>exact HC1.out);rintro e w11 ⟨v818,rfl,ho0,hb⟩;refine ⟨_,rfl,?_⟩;replace HO816:=zRb HO816 hb;have HO819:=ak_ (Kd.R_lower ho0 (below_size zb));replace HB:=zb1 hb;(try clear hb);(try clear ho0);obtain ⟨Ao12,co12,eo12⟩:=Kd.R_slice HO819.out;subst eo12)|(refine zgo 17 Try.func34 #[.slice Ao12 t817.length co12] ?_;(with_reducible refine (spec_l7Falling.calls k _ _ t817 t820 _ ?side1 ?side2 A7.out).mono ?_);(case side1=>exact zC (r2_ HO819));(case side2=>exact r1_ HO819);rintro e w13 ⟨v821,rfl,ho0,hb⟩;refine ⟨_,rfl,?_⟩;replace HO816:=zRb HO816 hb;have HO822:=ak_ (Kd.R_lower (Kd.R_new' ho0 (Kd.R_lt (zR HO819.out))) (below_size zb));replace HO819:=ak_ (Kd.R_elder' (zR HO819.out) (Kd.R_base ho0) hb);replace HB:=zb1 hb;(try clear hb);(try clear ho0);obtain ⟨Ao14,co14,eo14⟩:=Kd.R_slice HO816.out;subst eo14;obtain ⟨Ao15,co15,eo15⟩:=Kd.R_slice HO822.out;subst eo15)|(refine zgo 18 Try.func33 #[.slice Ao14 t814.length co14,.int .i64 2,.slice A1 l1.length c1,.slice Ao15 t820.length co15] ?_;(with_reducible refine (spec_l7List.calls k _ _ t814 2 _ _ l1 _ _ t820 t823 _ ?side1 ?side2 ?side3 ?side4 ?side5 ?side6 A8.out).mono ?_);(case side1=>exact zC (r2_ HO816));(case side2=>exact r1_ HO816);(case side3=>exact zC (Kd.C_below HR1.out HB.out));(case side4=>exact HC1.out);(case side5=>exact zC (r2_ HO822));(case side6=>exact r1_ HO822);rintro e w16 ⟨v824,rfl,ho0,hb⟩;refine ⟨_,rfl,?_⟩;replace HO816:=zRb HO816 hb;replace HO819:=zRb HO819 hb;replace HO822:=zRb HO822 hb;have HO825:=ak_ (Kd.R_lower ho0 (below_size zb));replace HB:=zb1 hb;(try clear hb);(try clear ho0)))
 go_ret2
 exact ⟨_,zz3,zR HO825.out,zb⟩
def laws_vTasks.l0:Nat->List (S73)->List (S73)->Int->Option (Bool)
 | 0,_,_,_=>none
 | k + 1,x0,x1,x5=>if x5<(x0.length:Int) then (if 0<=x5 then (if x5<(x1.length:Int) then (if (!(((rd_T73 x0 x5).f0) == ((rd_T73 x1 x5).f0)) || (!(((rd_T73 x0 x5).f1) == ((rd_T73 x1 x5).f1)) || (!(((rd_T73 x0 x5).f2) == ((rd_T73 x1 x5).f2)))))=true then (some false) else (laws_vTasks.l0 k x0 x1 (wrap64 (x5 + 1)))) else (none)) else (none)) else (some true)
def laws_vTasks.f (k:Nat) (l0:List (S73)) (l1:List (S73)):Option (Bool):=if (l0.length:Int)=(l1.length:Int) then (laws_vTasks.l0 k l0 l1 0) else (some false)
theorem laws_vTasks.calls (k:Nat) (A0:Option Addr) (c0:Nat) (l0:List (S73)) (A1:Option Addr) (c1:Nat) (l1:List (S73)) (r:Bool) (w:World) (hr0:Kd.C k73 w A0 l0.length l0) (hc0:l0.length<=c0) (hr1:Kd.C k73 w A1 l1.length l1) (hc1:l1.length<=c1) (h:laws_vTasks.f k l0 l1=some r) :
  Calls Try.prog 16 #[.slice A0 l0.length c0,.slice A1 l1.length c1] w fun e w'=>e=.returned (.bool r)/\Drawn0 w w':=by
 have hu73:=Try.underlying73;have HR0:=ak_ hr0;have HC0:=ak_ hc0;clear hr0 hc0;have HR1:=ak_ hr1;have HC1:=ak_ hc1;clear hr1 hc1;have H:(if (l0.length:Int)=(l1.length:Int) then (laws_vTasks.l0 k l0 l1 0) else (some false))=some r:=h;clear h;replace H:=gN H;rcases H with ⟨c3,H⟩ | ⟨c3,H⟩
 ·have c3b0:((l0.length:Int) == (l1.length:Int))=false:=beq_eq_false_iff_ne.mpr c3;have c3b1:((l0.length:Int) != (l1.length:Int))=true:=bne_iff_ne.mpr c3;have c3b2:(l0.length == l1.length)=false:=by (simp at c3 ⊢;omega)
  obtain rfl:=oi_ H
  go_enter Try.func16,Try.ntmps16
  go_wp2
  repeat (go_quiet (fail))
  go_ret
  exact ⟨zz7,zz4⟩
 have c3b0:((l0.length:Int) == (l1.length:Int))=true:=beq_iff_eq.mpr c3;have c3b1:((l0.length:Int) != (l1.length:Int))=false:=bne_eq_false_iff_eq.mpr c3;have c3b2:(l0.length == l1.length)=true:=by (simp at c3 ⊢;omega)
 clear c3;have H':=ak_ H;clear H
 go_enter Try.func16,Try.ntmps16
 go_wp2
 repeat (go_quiet (fail))
 go_loopg [5] k (fun kq v5 w'=>∃ (x5_1:Int),v5=.int .i64 x5_1/\Aside0 (laws_vTasks.l0 kq l0 l1 x5_1=some r)/\Aside0 (kq<=k)/\Drawn0 w w')
 case atStart=>exact ⟨(0),zo,H',⟨Nat.le_refl _⟩,zz4⟩
 case round=>
  clear H';obtain ⟨x5_1,rfl,HA,HK1,⟨m1,rfl⟩⟩:=hrel;cases gk with
  | zero=>exact absurd HA.out (by simp [laws_vTasks.l0])
  | succ k1=>
   have H:=HA.out;clear HA;simp only [laws_vTasks.l0] at H;replace H:=gND H;rcases H with ⟨c4b0,H⟩ | ⟨c4b0,H⟩
   ·obtain rfl:=oi_ H
    go_wp2
    repeat (go_quiet (fail))
    go_ret
    exact ⟨zz7,zz4⟩
   replace H:=gD H;obtain ⟨c5b0,H⟩:=H;replace H:=gD H;obtain ⟨c6b0,H⟩:=H;replace H:=gP H;rcases H with ⟨c7,H⟩ | ⟨c7,H⟩
   ·have c7b0:(!(((rd_T73 l0 x5_1).f0) == ((rd_T73 l1 x5_1).f0)) || (!(((rd_T73 l0 x5_1).f1) == ((rd_T73 l1 x5_1).f1)) || (!(((rd_T73 l0 x5_1).f2) == ((rd_T73 l1 x5_1).f2)))))=true:=c7;clear c7;obtain rfl:=oi_ H;obtain ⟨p826,q826,ad826,e826,hx826_0,hx826_1,hx826_2⟩:=ab_ (at_T73 HR0.out x5_1);cases e826;obtain ⟨p827,q827,ad827,e827,hx827_0,hx827_1,hx827_2⟩:=ab_ (at_T73 HR1.out x5_1);cases e827
    go_wp2
    repeat (go_quiet (fail);try go_wp2)
    go_ret
    exact ⟨zz7,zz4⟩
   have c7b0:(!(((rd_T73 l0 x5_1).f0) == ((rd_T73 l1 x5_1).f0)) || (!(((rd_T73 l0 x5_1).f1) == ((rd_T73 l1 x5_1).f1)) || (!(((rd_T73 l0 x5_1).f2) == ((rd_T73 l1 x5_1).f2)))))=false:=by simpa using c7
   clear c7;have H':=ak_ H;clear H;obtain ⟨p826,q826,ad826,e826,hx826_0,hx826_1,hx826_2⟩:=ab_ (at_T73 HR0.out x5_1);cases e826;obtain ⟨p827,q827,ad827,e827,hx827_0,hx827_1,hx827_2⟩:=ab_ (at_T73 HR1.out x5_1);cases e827
   go_wp2
   repeat (go_quiet (fail);try go_wp2)
   go_roundg k1
   case measure=>have:=HK1.out;omega
   case rel=>exact ⟨(wrap64 (x5_1 + 1)),zo,H',⟨by have:=HK1.out;omega⟩,zz4⟩
def laws_vInts.l0:Nat->List Int->List Int->Int->Option (Bool)
 | 0,_,_,_=>none
 | k + 1,x0,x1,x5=>if x5<(x0.length:Int) then (if 0<=x5 then (if x5<(x1.length:Int) then (if (rd x0 x5)=(rd x1 x5) then (laws_vInts.l0 k x0 x1 (wrap64 (x5 + 1))) else (some false)) else (none)) else (none)) else (some true)
def laws_vInts.f (k:Nat) (l0:List Int) (l1:List Int):Option (Bool):=if (l0.length:Int)=(l1.length:Int) then (laws_vInts.l0 k l0 l1 0) else (some false)
theorem laws_vInts.calls (k:Nat) (A0:Option Addr) (c0:Nat) (l0:List Int) (A1:Option Addr) (c1:Nat) (l1:List Int) (r:Bool) (w:World) (hr0:Kd.C (Kd.int .i64) w A0 l0.length l0) (hc0:l0.length<=c0) (hr1:Kd.C (Kd.int .i64) w A1 l1.length l1) (hc1:l1.length<=c1) (h:laws_vInts.f k l0 l1=some r) :
  Calls Try.prog 17 #[.slice A0 l0.length c0,.slice A1 l1.length c1] w fun e w'=>e=.returned (.bool r)/\Drawn0 w w':=by
 have HR0:=ak_ hr0;have HC0:=ak_ hc0;clear hr0 hc0;have HR1:=ak_ hr1;have HC1:=ak_ hc1;clear hr1 hc1;have H:(if (l0.length:Int)=(l1.length:Int) then (laws_vInts.l0 k l0 l1 0) else (some false))=some r:=h;clear h;replace H:=gN H;rcases H with ⟨c3,H⟩ | ⟨c3,H⟩
 ·have c3b0:((l0.length:Int) == (l1.length:Int))=false:=beq_eq_false_iff_ne.mpr c3;have c3b1:((l0.length:Int) != (l1.length:Int))=true:=bne_iff_ne.mpr c3;have c3b2:(l0.length == l1.length)=false:=by (simp at c3 ⊢;omega)
  obtain rfl:=oi_ H
  go_enter Try.func17,Try.ntmps17
  go_wp2
  repeat (go_quiet (fail))
  go_ret
  exact ⟨zz7,zz4⟩
 have c3b0:((l0.length:Int) == (l1.length:Int))=true:=beq_iff_eq.mpr c3;have c3b1:((l0.length:Int) != (l1.length:Int))=false:=bne_eq_false_iff_eq.mpr c3;have c3b2:(l0.length == l1.length)=true:=by (simp at c3 ⊢;omega)
 clear c3;have H':=ak_ H;clear H
 go_enter Try.func17,Try.ntmps17
 go_wp2
 repeat (go_quiet (fail))
 go_loopg [5] k (fun kq v5 w'=>∃ (x5_1:Int),v5=.int .i64 x5_1/\Aside0 (laws_vInts.l0 kq l0 l1 x5_1=some r)/\Aside0 (kq<=k)/\Drawn0 w w')
 case atStart=>exact ⟨(0),zo,H',⟨Nat.le_refl _⟩,zz4⟩
 case round=>
  clear H';obtain ⟨x5_1,rfl,HA,HK1,⟨m1,rfl⟩⟩:=hrel;cases gk with
  | zero=>exact absurd HA.out (by simp [laws_vInts.l0])
  | succ k1=>
   have H:=HA.out;clear HA;simp only [laws_vInts.l0] at H;replace H:=gND H;rcases H with ⟨c4b0,H⟩ | ⟨c4b0,H⟩
   ·obtain rfl:=oi_ H
    go_wp2
    repeat (go_quiet (fail))
    go_ret
    exact ⟨zz7,zz4⟩
   replace H:=gD H;obtain ⟨c5b0,H⟩:=H;replace H:=gD H;obtain ⟨c6b0,H⟩:=H;replace H:=gN H;rcases H with ⟨c7,H⟩ | ⟨c7,H⟩
   ·have c7b0:((rd l0 x5_1) == (rd l1 x5_1))=false:=beq_eq_false_iff_ne.mpr c7;have c7b1:((rd l0 x5_1) != (rd l1 x5_1))=true:=bne_iff_ne.mpr c7;obtain rfl:=oi_ H;obtain ⟨p828,q828,ad828,e828,hx828_0⟩:=ab_ (Kd.at_int HR0.out x5_1);cases e828;obtain ⟨p829,q829,ad829,e829,hx829_0⟩:=ab_ (Kd.at_int HR1.out x5_1);cases e829
    go_wp2
    repeat (go_quiet (fail);try go_wp2)
    go_ret
    exact ⟨zz7,zz4⟩
   have c7b0:((rd l0 x5_1) == (rd l1 x5_1))=true:=beq_iff_eq.mpr c7;have c7b1:((rd l0 x5_1) != (rd l1 x5_1))=false:=bne_eq_false_iff_eq.mpr c7;clear c7;have H':=ak_ H;clear H;obtain ⟨p828,q828,ad828,e828,hx828_0⟩:=ab_ (Kd.at_int HR0.out x5_1);cases e828;obtain ⟨p829,q829,ad829,e829,hx829_0⟩:=ab_ (Kd.at_int HR1.out x5_1);cases e829
   go_wp2
   repeat (go_quiet (fail);try go_wp2)
   go_roundg k1
   case measure=>have:=HK1.out;omega
   case rel=>exact ⟨(wrap64 (x5_1 + 1)),zo,H',⟨by have:=HK1.out;omega⟩,zz4⟩
def impl_PrecedenceReduction.f (k:Nat) (a0:Int) (l1:List (S42)):Option ((List (S42)) × Bool):=(impl_IsPrecedence.f k a0 l1).bind fun t830=>(if t830=true then ((impl_closure.f k a0 l1).bind fun t831=>((impl_reduction.f k t831).bind fun t834=>(some (t834,true)))) else (some (([]:List (S42)),false)))
theorem impl_PrecedenceReduction.calls (k:Nat) (a0:Int) (A1:Option Addr) (c1:Nat) (l1:List (S42)) (r1:List (S42)) (r2:Bool) (w:World) (hr1:Kd.C k42 w A1 l1.length l1) (hc1:l1.length<=c1) (h:impl_PrecedenceReduction.f k a0 l1=some (r1,r2)) :
  Calls Try.prog 18 #[.int .i64 a0,.slice A1 l1.length c1] w fun e w'=>∃ v0_:Value,e=.returned (.tuple #[v0_,.bool r2])/\Kd.R k42 42 w' w.heap.size (fun _=>True) v0_ r1/\Below w.heap.size w w':=by
 have HR1:=ak_ hr1;have HC1:=ak_ hc1;clear hr1 hc1;have HB:=ak_ (Below.refl w.heap.size w);have H:((impl_IsPrecedence.f k a0 l1).bind fun t830=>(if t830=true then ((impl_closure.f k a0 l1).bind fun t831=>((impl_reduction.f k t831).bind fun t834=>(some (t834,true)))) else (some (([]:List (S42)),false))))=some (r1,r2):=h;clear h;replace H:=gT H;obtain ⟨t830,A3,H⟩:=H;replace H:=gNB H;rcases H with ⟨rfl,H⟩ | ⟨rfl,H⟩
 ·simp only [Option.some.injEq,Prod.mk.injEq] at H;obtain ⟨rfl,rfl⟩:=H
  go_enter Try.func18,Try.ntmps18
  go_wp2_with ((refine zgo 8 Try.func41 #[.int .i64 a0,.slice A1 l1.length c1] ?_;(with_reducible refine (impl_IsPrecedence.calls k a0 _ _ l1 false _ ?side1 ?side2 A3.out).mono ?_);(case side1=>exact zC HR1.out);(case side2=>exact HC1.out);rintro e w11 ⟨rfl,hb⟩;refine ⟨_,rfl,?_⟩;replace HB:=zb1 hb;(try clear hb)))
  go_ret2
  exact ⟨_,zz3,zz46,zb⟩
 replace H:=gT H;obtain ⟨t831,A5,H⟩:=H;replace H:=gT H;obtain ⟨t834,A6,H⟩:=H;simp only [Option.some.injEq,Prod.mk.injEq] at H;obtain ⟨rfl,rfl⟩:=H
 go_enter Try.func18,Try.ntmps18
 go_wp2_with (first|(refine zgo 8 Try.func41 #[.int .i64 a0,.slice A1 l1.length c1] ?_;(with_reducible refine (impl_IsPrecedence.calls k a0 _ _ l1 true _ ?side1 ?side2 A3.out).mono ?_);(case side1=>exact zC HR1.out);(case side2=>exact HC1.out);rintro e w7 ⟨rfl,hb⟩;refine ⟨_,rfl,?_⟩;replace HB:=zb1 hb;(try clear hb))|(refine zgo 12 Try.func48 #[.int .i64 a0,.slice A1 l1.length c1] ?_;(with_reducible refine (impl_closure.calls k a0 _ _ l1 t831 _ ?side1 ?side2 A5.out).mono ?_);(case side1=>exact zC (Kd.C_below HR1.out HB.out));(case side2=>exact HC1.out);rintro e w8 ⟨v832,rfl,ho0,hb⟩;refine ⟨_,rfl,?_⟩;have HO833:=ak_ (Kd.S_lower ho0 (below_size zb));replace HB:=zb1 hb;(try clear hb);(try clear ho0);obtain ⟨Ao9,co9,eo9⟩:=Kd.S_slice HO833.out;subst eo9)|(refine zgo 13 Try.func47 #[.slice Ao9 t831.length co9] ?_;(with_reducible refine (impl_reduction.calls k _ _ t831 t834 _ ?side1 ?side2 A6.out).mono ?_);(case side1=>exact zC ((Kd.S_reads' HO833.out).2.2));(case side2=>exact (Kd.S_reads' HO833.out).2.1);rintro e w10 ⟨v835,rfl,ho0,hb⟩;refine ⟨_,rfl,?_⟩;replace HO833:=zSb HO833 hb;have HO836:=ak_ (Kd.R_lower ho0 (below_size zb));replace HB:=zb1 hb;(try clear hb);(try clear ho0)))
 go_ret2
 exact ⟨_,zz3,zR HO836.out,zb⟩
