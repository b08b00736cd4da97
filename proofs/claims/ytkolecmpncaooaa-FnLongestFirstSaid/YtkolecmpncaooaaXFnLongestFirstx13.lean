-- Words and walks of this claim.
import Derived.Test.YtkolecmpncaooaaXFnLongestFirstx0
namespace Go.Proofs.Ytkolecmpncaooaa.XFnLongestFirst
set_option maxRecDepth 100000
set_option maxHeartbeats 8000000
open Go.RowKit Go.Proofs.YtkolecmpncaooaaW.PrintWords Go.Proofs.YtkolecmpncaooaaW.PrintLast Go.Proofs.YtkolecmpncaooaaW.PrintMore
attribute [local go_sem] max2_int min2_int max_two min_two max_three min_three max_four min_four
attribute [local go_sem] idxA_51_0 idxA_51_1 fldS_45_0 fldS_45_1 fldS_45_2 fldS_96_0 fldS_96_1 fldS_96_2
set_option linter.unusedVariables false
set_option linter.unusedSimpArgs false
def spec_l1In.f (a0:Int) (a1:Int) (a2:Int):Option (Bool):=if a0>=a1 then (some (decide (a0<=a2))) else (some false)
theorem spec_l1In.calls (a0:Int) (a1:Int) (a2:Int) (r:Bool) (w:World) (h:spec_l1In.f a0 a1 a2=some r) :
  Calls Try.prog 78 #[.int .i64 a0,.int .i64 a1,.int .i64 a2] w fun e w'=>e=.returned (.bool r)/\Drawn0 w w':=by
 have H:(if a0>=a1 then (some (decide (a0<=a2))) else (some false))=some r:=h
 clear h
 replace H:=gPD H;rcases H with ⟨c4b0,H⟩ | ⟨c4b0,H⟩
 ·obtain rfl:=oi_ H
  go_enter Try.func78,Try.ntmps78
  go_wp2
  go_ret
  exact ⟨zz7,zz4⟩
 obtain rfl:=oi_ H
 go_enter Try.func78,Try.ntmps78
 go_wp2
 go_ret
 exact ⟨zz7,zz4⟩
def spec_l2Job.f (a0_0:Int) (a0_1:Int) (a0_2:Int) (a0_3:Int):Option (Bool):=(spec_l1In.f a0_0 1 50).bind fun t338=>(if t338=true then ((spec_l1In.f a0_1 0 50).bind fun t339=>(if t339=true then ((spec_l1In.f a0_2 0 500).bind fun t340=>(if t340=true then ((spec_l1In.f a0_3 0 500).bind fun t341=>(some t341)) else (some false))) else (some false))) else (some false))
theorem spec_l2Job.calls (a0_0:Int) (a0_1:Int) (a0_2:Int) (a0_3:Int) (r:Bool) (w:World) (h:spec_l2Job.f a0_0 a0_1 a0_2 a0_3=some r) :
  Calls Try.prog 98 #[.agg #[.int .i64 a0_0,.int .i64 a0_1,.int .i64 a0_2,.int .i64 a0_3]] w fun e w'=>e=.returned (.bool r)/\Below w.heap.size w w':=by
 have hu31:=Try.underlying31
 have HB:=ak_ (Below.refl w.heap.size w)
 have H:((spec_l1In.f a0_0 1 50).bind fun t338=>(if t338=true then ((spec_l1In.f a0_1 0 50).bind fun t339=>(if t339=true then ((spec_l1In.f a0_2 0 500).bind fun t340=>(if t340=true then ((spec_l1In.f a0_3 0 500).bind fun t341=>(some t341)) else (some false))) else (some false))) else (some false)))=some r:=h
 clear h
 replace H:=gT H;obtain ⟨t338,A2,H⟩:=H
 replace H:=gNB H;rcases H with ⟨rfl,H⟩ | ⟨rfl,H⟩
 ·obtain rfl:=oi_ H
  go_enter Try.func98,Try.ntmps98
  go_wp2_with (first|((with_reducible refine gate_dst (N:=1) rfl ?_);refine box_event ?hg (N:=1) ?hd (cs:=#[.int .i64 a0_0,.int .i64 a0_1,.int .i64 a0_2,.int .i64 a0_3]) (t:=31) ?hr ?_;(case hd=>rfl);(case hg=>rfl);(case hr=>(go_simp;done));intro gb337 hg w15 hbox hb;have BK337:=ak_ (hbox);have GW337:=ak_ ((by rw [hg];exact (below_size zb):w.heap.size<=gb337));have GE337:=ak_ ((by rw [hg];exact (below_size zb):w.heap.size<=gb337));replace HB:=zb1 hb;clear hb hbox hg;obtain ⟨hcz16_0,hcz16_1,hcz16_2,hcz16_3,hfz16_0,hfz16_1,hfz16_2,hfz16_3⟩:=zk4 BK337.out)|((with_reducible refine gate_callee (f:=78) rfl ?_);refine zgo 5 Try.func78 #[.int .i64 a0_0,.int .i64 1,.int .i64 50] ?_;(with_reducible refine (spec_l1In.calls a0_0 1 50 false _ A2.out).mono ?_);rintro e w' ⟨rfl,⟨nd,rfl⟩⟩;refine ⟨_,rfl,?_⟩))
  go_ret
  exact ⟨zz0,zz73⟩
 replace H:=gT H;obtain ⟨t339,A4,H⟩:=H
 replace H:=gNB H;rcases H with ⟨rfl,H⟩ | ⟨rfl,H⟩
 ·obtain rfl:=oi_ H
  go_enter Try.func98,Try.ntmps98
  go_wp2_with (first|((with_reducible refine gate_dst (N:=1) rfl ?_);refine box_event ?hg (N:=1) ?hd (cs:=#[.int .i64 a0_0,.int .i64 a0_1,.int .i64 a0_2,.int .i64 a0_3]) (t:=31) ?hr ?_;(case hd=>rfl);(case hg=>rfl);(case hr=>(go_simp;done));intro gb337 hg w13 hbox hb;have BK337:=ak_ (hbox);have GW337:=ak_ ((by rw [hg];exact (below_size zb):w.heap.size<=gb337));have GE337:=ak_ ((by rw [hg];exact (below_size zb):w.heap.size<=gb337));replace HB:=zb1 hb;clear hb hbox hg;obtain ⟨hcz14_0,hcz14_1,hcz14_2,hcz14_3,hfz14_0,hfz14_1,hfz14_2,hfz14_3⟩:=zk4 BK337.out)|((with_reducible refine gate_callee (f:=78) rfl ?_);refine zgo 5 Try.func78 #[.int .i64 a0_0,.int .i64 1,.int .i64 50] ?_;(with_reducible refine (spec_l1In.calls a0_0 1 50 true _ A2.out).mono ?_);rintro e w' ⟨rfl,⟨nd,rfl⟩⟩;refine ⟨_,rfl,?_⟩)|(go_at_call 78;(with_reducible refine (spec_l1In.calls a0_1 0 50 false _ A4.out).mono ?_);rintro e w' ⟨rfl,⟨nd,rfl⟩⟩))
  go_ret
  exact ⟨zz0,zz73⟩
 replace H:=gT H;obtain ⟨t340,A6,H⟩:=H
 replace H:=gNB H;rcases H with ⟨rfl,H⟩ | ⟨rfl,H⟩
 ·obtain rfl:=oi_ H
  go_enter Try.func98,Try.ntmps98
  go_wp2_with (first|((with_reducible refine gate_dst (N:=1) rfl ?_);refine box_event ?hg (N:=1) ?hd (cs:=#[.int .i64 a0_0,.int .i64 a0_1,.int .i64 a0_2,.int .i64 a0_3]) (t:=31) ?hr ?_;(case hd=>rfl);(case hg=>rfl);(case hr=>(go_simp;done));intro gb337 hg w11 hbox hb;have BK337:=ak_ (hbox);have GW337:=ak_ ((by rw [hg];exact (below_size zb):w.heap.size<=gb337));have GE337:=ak_ ((by rw [hg];exact (below_size zb):w.heap.size<=gb337));replace HB:=zb1 hb;clear hb hbox hg;obtain ⟨hcz12_0,hcz12_1,hcz12_2,hcz12_3,hfz12_0,hfz12_1,hfz12_2,hfz12_3⟩:=zk4 BK337.out)|((with_reducible refine gate_callee (f:=78) rfl ?_);refine zgo 5 Try.func78 #[.int .i64 a0_0,.int .i64 1,.int .i64 50] ?_;(with_reducible refine (spec_l1In.calls a0_0 1 50 true _ A2.out).mono ?_);rintro e w' ⟨rfl,⟨nd,rfl⟩⟩;refine ⟨_,rfl,?_⟩)|(go_at_call 78;(with_reducible refine (spec_l1In.calls a0_1 0 50 true _ A4.out).mono ?_);rintro e w' ⟨rfl,⟨nd,rfl⟩⟩)|(go_at_call 78;(with_reducible refine (spec_l1In.calls a0_2 0 500 false _ A6.out).mono ?_);rintro e w' ⟨rfl,⟨nd,rfl⟩⟩))
  go_ret
  exact ⟨zz0,zz73⟩
 replace H:=gT H;obtain ⟨t341,A8,H⟩:=H
 obtain rfl:=oi_ H
 go_enter Try.func98,Try.ntmps98
 go_wp2_with (first|((with_reducible refine gate_dst (N:=1) rfl ?_);refine box_event ?hg (N:=1) ?hd (cs:=#[.int .i64 a0_0,.int .i64 a0_1,.int .i64 a0_2,.int .i64 a0_3]) (t:=31) ?hr ?_;(case hd=>rfl);(case hg=>rfl);(case hr=>(go_simp;done));intro gb337 hg w9 hbox hb;have BK337:=ak_ (hbox);have GW337:=ak_ ((by rw [hg];exact (below_size zb):w.heap.size<=gb337));have GE337:=ak_ ((by rw [hg];exact (below_size zb):w.heap.size<=gb337));replace HB:=zb1 hb;clear hb hbox hg;obtain ⟨hcz10_0,hcz10_1,hcz10_2,hcz10_3,hfz10_0,hfz10_1,hfz10_2,hfz10_3⟩:=zk4 BK337.out)|((with_reducible refine gate_callee (f:=78) rfl ?_);refine zgo 5 Try.func78 #[.int .i64 a0_0,.int .i64 1,.int .i64 50] ?_;(with_reducible refine (spec_l1In.calls a0_0 1 50 true _ A2.out).mono ?_);rintro e w' ⟨rfl,⟨nd,rfl⟩⟩;refine ⟨_,rfl,?_⟩)|(go_at_call 78;(with_reducible refine (spec_l1In.calls a0_1 0 50 true _ A4.out).mono ?_);rintro e w' ⟨rfl,⟨nd,rfl⟩⟩)|(go_at_call 78;(with_reducible refine (spec_l1In.calls a0_2 0 500 true _ A6.out).mono ?_);rintro e w' ⟨rfl,⟨nd,rfl⟩⟩)|(go_at_call 78;(with_reducible refine (spec_l1In.calls a0_3 0 500 t341 _ A8.out).mono ?_);rintro e w' ⟨rfl,⟨nd,rfl⟩⟩))
 go_ret
 exact ⟨zz0,zz73⟩
def spec_l2Good.l0:Nat->List (S31)->Int->Option (Bool)
 | 0,_,_=>none
 | k + 1,x0,x3=>if x3<(x0.length:Int) then (if 0<=x3 then ((spec_l2Job.f ((rd_T31 x0 x3).f0) ((rd_T31 x0 x3).f1) ((rd_T31 x0 x3).f2) ((rd_T31 x0 x3).f3)).bind fun t343=>(if t343=true then (spec_l2Good.l0 k x0 (wrap64 (x3 + 1))) else (some false))) else (none)) else (some (decide ((x0.length:Int)<=8)))
def spec_l2Good.f (k:Nat) (l0:List (S31)):Option (Bool):=spec_l2Good.l0 k l0 0
theorem spec_l2Good.calls (k:Nat) (A0:Option Addr) (c0:Nat) (l0:List (S31)) (r:Bool) (w:World) (hr0:Kd.C k31 w A0 l0.length l0) (hc0:l0.length<=c0) (h:spec_l2Good.f k l0=some r) :
  Calls Try.prog 61 #[.slice A0 l0.length c0] w fun e w'=>e=.returned (.bool r)/\Below w.heap.size w w':=by
 have hu31:=Try.underlying31
 have HR0:=ak_ hr0
 have HC0:=ak_ hc0
 clear hr0 hc0
 have HB:=ak_ (Below.refl w.heap.size w)
 have H:(spec_l2Good.l0 k l0 0)=some r:=h
 clear h
 have H':=ak_ H
 clear H
 go_enter Try.func61,Try.ntmps61
 go_wp2
 go_loopg [3] k (fun kq v3 w'=>∃ (x3_1:Int),v3=.int .i64 x3_1/\Aside0 (spec_l2Good.l0 kq l0 x3_1=some r)/\Aside0 (kq<=k)/\Aside0 (Below w.heap.size w w'))
 case atStart=>exact ⟨(0),zo,H',⟨Nat.le_refl _⟩,⟨zb⟩⟩
 case round=>
  clear H'
  obtain ⟨x3_1,rfl,HA,HK1,HB⟩:=hrel
  cases gk with
  | zero=>exact absurd HA.out (by simp [spec_l2Good.l0])
  | succ k1=>
   have H:=HA.out
   clear HA
   simp only [spec_l2Good.l0] at H
   replace H:=gND H;rcases H with ⟨c2b0,H⟩ | ⟨c2b0,H⟩
   ·obtain rfl:=oi_ H
    go_wp2
    go_ret
    exact ⟨zz0,zb⟩
   replace H:=gD H;obtain ⟨c3b0,H⟩:=H
   replace H:=gT H;obtain ⟨t343,A4,H⟩:=H
   replace H:=gPB H;rcases H with ⟨rfl,H⟩ | ⟨rfl,H⟩
   ·have H':=ak_ H
    clear H
    have p342:0<=(x3_1:Int):=oz_
    have q342:x3_1<(l0.length:Int):=oz_
    obtain ⟨ad342,e342,hx342_0,hx342_1,hx342_2,hx342_3⟩:=at_T31 HR0.out x3_1 p342 q342
    cases e342
    replace hx342_0:=zh_ HB hx342_0
    replace hx342_1:=zh_ HB hx342_1
    replace hx342_2:=zh_ HB hx342_2
    replace hx342_3:=zh_ HB hx342_3
    replace p342:=eq_true p342
    replace q342:=eq_true q342
    go_wp2_with (((with_reducible refine gate_callee (f:=98) rfl ?_);refine zgo 14 Try.func98 #[.agg #[.int .i64 ((rd_T31 l0 x3_1).f0),.int .i64 ((rd_T31 l0 x3_1).f1),.int .i64 ((rd_T31 l0 x3_1).f2),.int .i64 ((rd_T31 l0 x3_1).f3)]] ?_;(with_reducible refine (spec_l2Job.calls ((rd_T31 l0 x3_1).f0) ((rd_T31 l0 x3_1).f1) ((rd_T31 l0 x3_1).f2) ((rd_T31 l0 x3_1).f3) true _ A4.out).mono ?_);rintro e w6 ⟨rfl,hb⟩;refine ⟨_,rfl,?_⟩;replace HB:=zb1 hb;(try clear hb)))
    go_roundg k1
    case measure=>have:=HK1.out;omega
    case rel=>exact ⟨(wrap64 (x3_1 + 1)),zo,H',⟨by have:=HK1.out;omega⟩,⟨zb⟩⟩
   obtain rfl:=oi_ H
   have p342:0<=(x3_1:Int):=oz_
   have q342:x3_1<(l0.length:Int):=oz_
   obtain ⟨ad342,e342,hx342_0,hx342_1,hx342_2,hx342_3⟩:=at_T31 HR0.out x3_1 p342 q342
   cases e342
   replace hx342_0:=zh_ HB hx342_0
   replace hx342_1:=zh_ HB hx342_1
   replace hx342_2:=zh_ HB hx342_2
   replace hx342_3:=zh_ HB hx342_3
   replace p342:=eq_true p342
   replace q342:=eq_true q342
   go_wp2_with (((with_reducible refine gate_callee (f:=98) rfl ?_);refine zgo 14 Try.func98 #[.agg #[.int .i64 ((rd_T31 l0 x3_1).f0),.int .i64 ((rd_T31 l0 x3_1).f1),.int .i64 ((rd_T31 l0 x3_1).f2),.int .i64 ((rd_T31 l0 x3_1).f3)]] ?_;(with_reducible refine (spec_l2Job.calls ((rd_T31 l0 x3_1).f0) ((rd_T31 l0 x3_1).f1) ((rd_T31 l0 x3_1).f2) ((rd_T31 l0 x3_1).f3) false _ A4.out).mono ?_);rintro e w7 ⟨rfl,hb⟩;refine ⟨_,rfl,?_⟩;replace HB:=zb1 hb;(try clear hb)))
   go_ret
   exact ⟨zz0,zb⟩
def spec_l3Plain.l0:Nat->List (S31)->Int->Option (Bool)
 | 0,_,_=>none
 | k + 1,x0,x3=>if x3<(x0.length:Int) then (if 0<=x3 then (if ((rd_T31 x0 x3).f2)=0 then (spec_l3Plain.l0 k x0 (wrap64 (x3 + 1))) else (some false)) else (none)) else (some true)
def spec_l3Plain.f (k:Nat) (l0:List (S31)):Option (Bool):=spec_l3Plain.l0 k l0 0
theorem spec_l3Plain.calls (k:Nat) (A0:Option Addr) (c0:Nat) (l0:List (S31)) (r:Bool) (w:World) (hr0:Kd.C k31 w A0 l0.length l0) (hc0:l0.length<=c0) (h:spec_l3Plain.f k l0=some r) :
  Calls Try.prog 77 #[.slice A0 l0.length c0] w fun e w'=>e=.returned (.bool r)/\Drawn0 w w':=by
 have HR0:=ak_ hr0
 have HC0:=ak_ hc0
 clear hr0 hc0
 have H:(spec_l3Plain.l0 k l0 0)=some r:=h
 clear h
 have H':=ak_ H
 clear H
 go_enter Try.func77,Try.ntmps77
 go_wp2
 go_loopg [3] k (fun kq v3 w'=>∃ (x3_1:Int),v3=.int .i64 x3_1/\Aside0 (spec_l3Plain.l0 kq l0 x3_1=some r)/\Aside0 (kq<=k)/\Drawn0 w w')
 case atStart=>exact ⟨(0),zo,H',⟨Nat.le_refl _⟩,zz4⟩
 case round=>
  clear H'
  obtain ⟨x3_1,rfl,HA,HK1,⟨m1,rfl⟩⟩:=hrel
  cases gk with
  | zero=>exact absurd HA.out (by simp [spec_l3Plain.l0])
  | succ k1=>
   have H:=HA.out
   clear HA
   simp only [spec_l3Plain.l0] at H
   replace H:=gND H;rcases H with ⟨c2b0,H⟩ | ⟨c2b0,H⟩
   ·obtain rfl:=oi_ H
    go_wp2
    go_ret
    exact ⟨zz7,zz4⟩
   replace H:=gD H;obtain ⟨c3b0,H⟩:=H
   replace H:=gN H;rcases H with ⟨c4,H⟩ | ⟨c4,H⟩
   ·have c4b0:(((rd_T31 l0 x3_1).f2) == 0)=false:=beq_eq_false_iff_ne.mpr c4
    have c4b1:(((rd_T31 l0 x3_1).f2) != 0)=true:=bne_iff_ne.mpr c4
    obtain rfl:=oi_ H
    have p344:0<=(x3_1:Int):=oz_
    have q344:x3_1<(l0.length:Int):=oz_
    obtain ⟨ad344,e344,hx344_0,hx344_1,hx344_2,hx344_3⟩:=at_T31 HR0.out x3_1 p344 q344
    cases e344
    replace p344:=eq_true p344
    replace q344:=eq_true q344
    go_wp2
    go_ret
    exact ⟨zz7,zz4⟩
   have c4b0:(((rd_T31 l0 x3_1).f2) == 0)=true:=beq_iff_eq.mpr c4
   have c4b1:(((rd_T31 l0 x3_1).f2) != 0)=false:=bne_eq_false_iff_eq.mpr c4
   clear c4
   have H':=ak_ H
   clear H
   have p344:0<=(x3_1:Int):=oz_
   have q344:x3_1<(l0.length:Int):=oz_
   obtain ⟨ad344,e344,hx344_0,hx344_1,hx344_2,hx344_3⟩:=at_T31 HR0.out x3_1 p344 q344
   cases e344
   replace p344:=eq_true p344
   replace q344:=eq_true q344
   go_wp2
   go_roundg k1
   case measure=>have:=HK1.out;omega
   case rel=>exact ⟨(wrap64 (x3_1 + 1)),zo,H',⟨by have:=HK1.out;omega⟩,zz4⟩
