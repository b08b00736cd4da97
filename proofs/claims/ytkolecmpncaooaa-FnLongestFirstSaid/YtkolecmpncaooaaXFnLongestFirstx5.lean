-- Words and walks of this claim.
import Derived.Test.YtkolecmpncaooaaXFnLongestFirstx4
namespace Go.Proofs.Ytkolecmpncaooaa.XFnLongestFirst
set_option maxRecDepth 100000
set_option maxHeartbeats 8000000
open Go.RowKit Go.Proofs.YtkolecmpncaooaaW.PrintWords Go.Proofs.YtkolecmpncaooaaW.PrintLast Go.Proofs.YtkolecmpncaooaaW.PrintMore
attribute [local go_sem] max2_int min2_int max_two min_two max_three min_three max_four min_four
attribute [local go_sem] idxA_51_0 idxA_51_1 fldS_45_0 fldS_45_1 fldS_45_2 fldS_96_0 fldS_96_1 fldS_96_2
set_option linter.unusedVariables false
set_option linter.unusedSimpArgs false
def impl_isPlain.l0:Nat->List (S31)->Int->Int->Option (Bool)
 | 0,_,_,_=>none
 | k + 1,x5,x6,x7=>if x7<x6 then (if 0<=x7 then (if x7<(x5.length:Int) then (if ((rd_T31 x5 x7).f2)=0 then (impl_isPlain.l0 k x5 x6 (wrap64 (x7 + 1))) else (some false)) else (none)) else (none)) else (some true)
def impl_isPlain.f (k:Nat) (l0:List (S31)):Option (Bool):=impl_isPlain.l0 k l0 (l0.length:Int) 0
theorem impl_isPlain.calls (k:Nat) (A0:Option Addr) (c0:Nat) (l0:List (S31)) (r:Bool) (w:World) (hr0:Kd.C k31 w A0 l0.length l0) (hc0:l0.length<=c0) (h:impl_isPlain.f k l0=some r) :
  Calls Try.prog 57 #[.slice A0 l0.length c0] w fun e w'=>e=.returned (.bool r)/\Below w.heap.size w w':=by
 have hu31:=Try.underlying31
 have HR0:=ak_ hr0
 have HC0:=ak_ hc0
 clear hr0 hc0
 have HB:=ak_ (Below.refl w.heap.size w)
 have H:(impl_isPlain.l0 k l0 (l0.length:Int) 0)=some r:=h
 clear h
 have H':=ak_ H
 clear H
 go_enter Try.func57,Try.ntmps57
 go_wp2
 go_loopg [7] k (fun kq v7 w'=>∃ (x7_1:Int),v7=.int .i64 x7_1/\Aside0 (impl_isPlain.l0 kq l0 (l0.length:Int) x7_1=some r)/\Aside0 (kq<=k)/\Aside0 (Below w.heap.size w w'))
 case atStart=>exact ⟨(0),zo,H',⟨Nat.le_refl _⟩,⟨zb⟩⟩
 case round=>
  clear H'
  obtain ⟨x7_1,rfl,HA,HK1,HB⟩:=hrel
  cases gk with
  | zero=>exact absurd HA.out (by simp [impl_isPlain.l0])
  | succ k1=>
   have H:=HA.out
   clear HA
   simp only [impl_isPlain.l0] at H
   replace H:=gND H;rcases H with ⟨c2b0,H⟩ | ⟨c2b0,H⟩
   ·obtain rfl:=oi_ H
    go_wp2
    go_ret
    exact ⟨zz0,zb⟩
   replace H:=gD H;obtain ⟨c3b0,H⟩:=H
   replace H:=gD H;obtain ⟨c4b0,H⟩:=H
   replace H:=gN H;rcases H with ⟨c5,H⟩ | ⟨c5,H⟩
   ·have c5b0:(((rd_T31 l0 x7_1).f2) == 0)=false:=beq_eq_false_iff_ne.mpr c5
    have c5b1:(((rd_T31 l0 x7_1).f2) != 0)=true:=bne_iff_ne.mpr c5
    obtain rfl:=oi_ H
    have p287:0<=(x7_1:Int):=oz_
    have q287:x7_1<(l0.length:Int):=oz_
    obtain ⟨ad287,e287,hx287_0,hx287_1,hx287_2,hx287_3⟩:=at_T31 HR0.out x7_1 p287 q287
    cases e287
    replace hx287_0:=zh_ HB hx287_0
    replace hx287_1:=zh_ HB hx287_1
    replace hx287_2:=zh_ HB hx287_2
    replace hx287_3:=zh_ HB hx287_3
    replace p287:=eq_true p287
    replace q287:=eq_true q287
    go_wp2_with (((with_reducible refine gate_dst (N:=4) rfl ?_);refine box_event ?hg (N:=4) ?hd (cs:=#[.int .i64 0,.int .i64 0,.int .i64 0,.int .i64 0]) (t:=31) ?hr ?_;(case hd=>rfl);(case hg=>rfl);(case hr=>(go_simp;done));intro gb288 hg w8 hbox hb;have BK288:=ak_ (hbox);have GW288:=ak_ ((by rw [hg];exact (below_size zb):w.heap.size<=gb288));have GE288:=ak_ ((by rw [hg];exact (below_size zb):w.heap.size<=gb288));replace HB:=zb1 hb;clear hb hbox hg;obtain ⟨hcz9_0,hcz9_1,hcz9_2,hcz9_3,hfz9_0,hfz9_1,hfz9_2,hfz9_3⟩:=zk4 BK288.out))
    go_ret
    exact ⟨zz0,by repeat ((with_reducible first|exact HB.out|refine below_set ?_ GE288.out))⟩
   have c5b0:(((rd_T31 l0 x7_1).f2) == 0)=true:=beq_iff_eq.mpr c5
   have c5b1:(((rd_T31 l0 x7_1).f2) != 0)=false:=bne_eq_false_iff_eq.mpr c5
   clear c5
   have H':=ak_ H
   clear H
   have p287:0<=(x7_1:Int):=oz_
   have q287:x7_1<(l0.length:Int):=oz_
   obtain ⟨ad287,e287,hx287_0,hx287_1,hx287_2,hx287_3⟩:=at_T31 HR0.out x7_1 p287 q287
   cases e287
   replace hx287_0:=zh_ HB hx287_0
   replace hx287_1:=zh_ HB hx287_1
   replace hx287_2:=zh_ HB hx287_2
   replace hx287_3:=zh_ HB hx287_3
   replace p287:=eq_true p287
   replace q287:=eq_true q287
   go_wp2_with (((with_reducible refine gate_dst (N:=4) rfl ?_);refine box_event ?hg (N:=4) ?hd (cs:=#[.int .i64 0,.int .i64 0,.int .i64 0,.int .i64 0]) (t:=31) ?hr ?_;(case hd=>rfl);(case hg=>rfl);(case hr=>(go_simp;done));intro gb288 hg w6 hbox hb;have BK288:=ak_ (hbox);have GW288:=ak_ ((by rw [hg];exact (below_size zb):w.heap.size<=gb288));have GE288:=ak_ ((by rw [hg];exact (below_size zb):w.heap.size<=gb288));replace HB:=zb1 hb;clear hb hbox hg;obtain ⟨hcz7_0,hcz7_1,hcz7_2,hcz7_3,hfz7_0,hfz7_1,hfz7_2,hfz7_3⟩:=zk4 BK288.out))
   go_roundg k1
   case measure=>have:=HK1.out;omega
   case rel=>exact ⟨(wrap64 (x7_1 + 1)),zo,H',⟨by have:=HK1.out;omega⟩,⟨by repeat ((with_reducible first|exact HB.out|refine below_set ?_ GE288.out))⟩⟩
def impl_IsPlain.f (k:Nat) (l0:List (S31)):Option (Bool):=(impl_IsJobs.f k l0).bind fun t289=>(if t289=true then ((impl_isPlain.f k l0).bind fun t290=>(some t290)) else (some false))
theorem impl_IsPlain.calls (k:Nat) (A0:Option Addr) (c0:Nat) (l0:List (S31)) (r:Bool) (w:World) (hr0:Kd.C k31 w A0 l0.length l0) (hc0:l0.length<=c0) (h:impl_IsPlain.f k l0=some r) :
  Calls Try.prog 24 #[.slice A0 l0.length c0] w fun e w'=>e=.returned (.bool r)/\Below w.heap.size w w':=by
 have HR0:=ak_ hr0
 have HC0:=ak_ hc0
 clear hr0 hc0
 have HB:=ak_ (Below.refl w.heap.size w)
 have H:((impl_IsJobs.f k l0).bind fun t289=>(if t289=true then ((impl_isPlain.f k l0).bind fun t290=>(some t290)) else (some false)))=some r:=h
 clear h
 replace H:=gT H;obtain ⟨t289,A2,H⟩:=H
 replace H:=gNB H;rcases H with ⟨rfl,H⟩ | ⟨rfl,H⟩
 ·obtain rfl:=oi_ H
  go_enter Try.func24,Try.ntmps24
  go_wp2_with (((with_reducible refine gate_callee (f:=56) rfl ?_);refine zgo 4 Try.func56 #[.slice A0 l0.length c0] ?_;(with_reducible refine (impl_IsJobs.calls k _ _ l0 false _ ?side1 ?side2 A2.out).mono ?_);(case side1=>exact zC HR0.out);(case side2=>exact HC0.out);rintro e w7 ⟨rfl,hb⟩;refine ⟨_,rfl,?_⟩;replace HB:=zb1 hb;(try clear hb)))
  go_ret
  exact ⟨zz0,zb⟩
 replace H:=gT H;obtain ⟨t290,A4,H⟩:=H
 obtain rfl:=oi_ H
 go_enter Try.func24,Try.ntmps24
 go_wp2_with (first|((with_reducible refine gate_callee (f:=56) rfl ?_);refine zgo 4 Try.func56 #[.slice A0 l0.length c0] ?_;(with_reducible refine (impl_IsJobs.calls k _ _ l0 true _ ?side1 ?side2 A2.out).mono ?_);(case side1=>exact zC HR0.out);(case side2=>exact HC0.out);rintro e w5 ⟨rfl,hb⟩;refine ⟨_,rfl,?_⟩;replace HB:=zb1 hb;(try clear hb))|(go_at_call 57;(with_reducible refine (impl_isPlain.calls k _ _ l0 t290 _ ?side1 ?side2 A4.out).mono ?_);(case side1=>exact zC (Kd.C_below HR0.out HB.out));(case side2=>exact HC0.out);rintro e w6 ⟨rfl,hb⟩;replace HB:=zb1 hb;(try clear hb)))
 go_ret
 exact ⟨zz0,zb⟩
