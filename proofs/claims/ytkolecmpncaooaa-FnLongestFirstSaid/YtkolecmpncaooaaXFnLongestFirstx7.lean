-- Words and walks of this claim.
import Derived.Test.YtkolecmpncaooaaXFnLongestFirstx5
import Derived.Test.YtkolecmpncaooaaXFnLongestFirstx6
namespace Go.Proofs.Ytkolecmpncaooaa.XFnLongestFirst
set_option maxRecDepth 100000
set_option maxHeartbeats 8000000
open Go.RowKit Go.Proofs.YtkolecmpncaooaaW.PrintWords Go.Proofs.YtkolecmpncaooaaW.PrintLast Go.Proofs.YtkolecmpncaooaaW.PrintMore
attribute [local go_sem] max2_int min2_int max_two min_two max_three min_three max_four min_four
attribute [local go_sem] idxA_51_0 idxA_51_1 fldS_45_0 fldS_45_1 fldS_45_2 fldS_96_0 fldS_96_1 fldS_96_2
set_option linter.unusedVariables false
set_option linter.unusedSimpArgs false
def impl_isNumber.f (a0:Int) (a1:Int):Option (Bool):=(impl_within.f a0 0 (wrap64 (a1 - 1))).bind fun t320=>(some t320)
theorem impl_isNumber.calls (a0:Int) (a1:Int) (r:Bool) (w:World) (h:impl_isNumber.f a0 a1=some r) :
  Calls Try.prog 89 #[.int .i64 a0,.int .i64 a1] w fun e w'=>e=.returned (.bool r)/\Drawn0 w w':=by
 have H:((impl_within.f a0 0 (wrap64 (a1 - 1))).bind fun t320=>(some t320))=some r:=h
 clear h
 replace H:=gT H;obtain ⟨t320,A3,H⟩:=H
 obtain rfl:=oi_ H
 go_enter Try.func89,Try.ntmps89
 go_wp2_with (((with_reducible refine gate_callee (f:=73) rfl ?_);refine zgo 8 Try.func73 #[.int .i64 a0,.int .i64 0,.int .i64 (wrap64 (a1 - 1))] ?_;(with_reducible refine (impl_within.calls a0 0 (wrap64 (a1 - 1)) t320 _ A3.out).mono ?_);rintro e w' ⟨rfl,⟨nd,rfl⟩⟩;refine ⟨_,rfl,?_⟩))
 go_ret
 exact ⟨zz7,zz4⟩
mutual
def impl_IsPrecedence.j0:Nat->Int->List (S51)->Bool->Option (Bool)
 | 0,_,_,_=>none
 | k + 1,x0,x1,x16=>if x16=true then (some false) else (impl_IsPrecedence.l0 k x0 x1 x1 (x1.length:Int) 0)
def impl_IsPrecedence.l0:Nat->Int->List (S51)->List (S51)->Int->Int->Option (Bool)
 | 0,_,_,_,_,_=>none
 | k + 1,x0,x1,x17,x18,x19=>if x19<x18 then (if 0<=x19 then (if x19<(x17.length:Int) then ((impl_isNumber.f ((rd_T51 x17 x19).f0) x0).bind fun t324=>(if t324=true then ((impl_isNumber.f ((rd_T51 x17 x19).f1) x0).bind fun t325=>(if t325=true then (impl_IsPrecedence.j2 k x0 x1 x19 x17 x18 x19 (((rd_T51 x17 x19).f0) == ((rd_T51 x17 x19).f1)) ((rd_T51 x17 x19).f0) ((rd_T51 x17 x19).f1)) else (impl_IsPrecedence.j2 k x0 x1 x19 x17 x18 x19 true ((rd_T51 x17 x19).f0) ((rd_T51 x17 x19).f1)))) else (impl_IsPrecedence.j2 k x0 x1 x19 x17 x18 x19 true ((rd_T51 x17 x19).f0) ((rd_T51 x17 x19).f1)))) else (none)) else (none)) else ((impl_closure.f k x0 x1).bind fun t329=>(impl_IsPrecedence.l1 k t329 (t329.length:Int) 0))
def impl_IsPrecedence.j2:Nat->Int->List (S51)->Int->List (S51)->Int->Int->Bool->Int->Int->Option (Bool)
 | 0,_,_,_,_,_,_,_,_,_=>none
 | k + 1,x0,x1,x5,x17,x18,x19,x42,x324000,x324001=>if x42=true then (some false) else (if x5>0 then (if 0<=(wrap64 (x5 - 1)) then (if (wrap64 (x5 - 1))<(x1.length:Int) then (if ((rd_T51 x1 (wrap64 (x5 - 1))).f0)>x324000 then (some false) else (if ((rd_T51 x1 (wrap64 (x5 - 1))).f0)=x324000 then (if ((rd_T51 x1 (wrap64 (x5 - 1))).f1)>=x324001 then (some false) else (impl_IsPrecedence.l0 k x0 x1 x17 x18 (wrap64 (x19 + 1)))) else (impl_IsPrecedence.l0 k x0 x1 x17 x18 (wrap64 (x19 + 1))))) else (none)) else (none)) else (impl_IsPrecedence.l0 k x0 x1 x17 x18 (wrap64 (x19 + 1))))
def impl_IsPrecedence.l1:Nat->List (List Bool)->Int->Int->Option (Bool)
 | 0,_,_,_=>none
 | k + 1,x7,x83,x84=>if x84<x83 then (if 0<=x84 then (if x84<(x7.length:Int) then (if x84<((rd_L4 x7 x84).length:Int) then (if rdOf false (rd_L4 x7 x84) x84=true then (some false) else (impl_IsPrecedence.l1 k x7 x83 (wrap64 (x84 + 1)))) else (none)) else (none)) else (none)) else (some true)
end
def impl_IsPrecedence.f (k:Nat) (a0:Int) (l1:List (S51)):Option (Bool):=(impl_within.f a0 0 8).bind fun t321=>(if t321=true then (impl_IsPrecedence.j0 k a0 l1 (decide ((l1.length:Int)>28))) else (impl_IsPrecedence.j0 k a0 l1 true))
theorem impl_IsPrecedence.calls (k:Nat) (a0:Int) (A1:Option Addr) (c1:Nat) (l1:List (S51)) (r:Bool) (w:World) (hr1:Kd.C k51 w A1 l1.length l1) (hc1:l1.length<=c1) (h:impl_IsPrecedence.f k a0 l1=some r) :
  Calls Try.prog 74 #[.int .i64 a0,.slice A1 l1.length c1] w fun e w'=>e=.returned (.bool r)/\Below w.heap.size w w':=by
 have hu51:=Try.underlying51
 have HR1:=ak_ hr1
 have HC1:=ak_ hc1
 clear hr1 hc1
 have HB:=ak_ (Below.refl w.heap.size w)
 have H:((impl_within.f a0 0 8).bind fun t321=>(if t321=true then (impl_IsPrecedence.j0 k a0 l1 (decide ((l1.length:Int)>28))) else (impl_IsPrecedence.j0 k a0 l1 true)))=some r:=h
 clear h
 have HC3:=ak_ H
 clear H
 go_enter Try.func74,Try.ntmps74
 go_upto_region 1 with (fail)
 repeat (go_quiet (fail);go_upto_region 1 with (fail))
 go_cut [16] (fun v16 wc=>∃ (kq:Nat) (x16_2:Bool),v16=.bool x16_2/\Aside0 (impl_IsPrecedence.j0 kq a0 l1 x16_2=some r)/\Aside0 (kq<=k)/\Aside0 (Below w.heap.size w wc))
 case first=>
  have H:=HC3.out
  clear HC3
  replace H:=gT H;obtain ⟨t321,A4,H⟩:=H
  replace H:=gPB H;rcases H with ⟨rfl,H⟩ | ⟨rfl,H⟩
  ·have H':=ak_ H
   clear H
   go_wp2_with ((go_at_call 73;(with_reducible refine (impl_within.calls a0 0 8 true _ A4.out).mono ?_);rintro e w' ⟨rfl,⟨nd,rfl⟩⟩))
   repeat (go_quiet ((go_at_call 73;(with_reducible refine (impl_within.calls a0 0 8 true _ A4.out).mono ?_);rintro e w' ⟨rfl,⟨nd,rfl⟩⟩)))
   go_meet
   case rel=>exact ⟨_,(decide ((l1.length:Int)>28)),zo,H',⟨zz52⟩,⟨zb⟩⟩
  have H':=ak_ H
  clear H
  go_wp2_with ((go_at_call 73;(with_reducible refine (impl_within.calls a0 0 8 false _ A4.out).mono ?_);rintro e w' ⟨rfl,⟨nd,rfl⟩⟩))
  repeat (go_quiet ((go_at_call 73;(with_reducible refine (impl_within.calls a0 0 8 false _ A4.out).mono ?_);rintro e w' ⟨rfl,⟨nd,rfl⟩⟩)))
  go_meet
  case rel=>exact ⟨_,(true),zo,H',⟨zz52⟩,⟨zb⟩⟩
 case rest=>
  clear HC3
  obtain ⟨kq,x16_2,rfl,HA,HJ2,HB⟩:=hcut
  cases kq with
  | zero=>exact absurd HA.out (by simp [impl_IsPrecedence.j0])
  | succ kj2=>
   have H:=HA.out
   clear HA
   simp only [impl_IsPrecedence.j0] at H
   replace H:=gPB H;rcases H with ⟨rfl,H⟩ | ⟨rfl,H⟩
   ·obtain rfl:=oi_ H
    go_wp2
    repeat (go_quiet (fail))
    go_ret
    exact ⟨zz0,zb⟩
   have H':=ak_ H
   clear H
   go_wp2
   repeat (go_quiet (fail))
   go_loopg [19] kj2 (fun kq v19 w'=>∃ (x19_2:Int),v19=.int .i64 x19_2/\Aside0 (impl_IsPrecedence.l0 kq a0 l1 l1 (l1.length:Int) x19_2=some r)/\Aside0 (kq<=kj2)/\Aside0 (Below w.heap.size w w'))
   case atStart=>exact ⟨(0),zo,H',⟨Nat.le_refl _⟩,⟨zb⟩⟩
   case round=>
    clear H'
    obtain ⟨x19_2,rfl,HA,HK2,HB⟩:=hrel
    cases gk with
    | zero=>exact absurd HA.out (by simp [impl_IsPrecedence.l0])
    | succ k2=>
     have H:=HA.out
     clear HA
     simp only [impl_IsPrecedence.l0] at H
     replace H:=gND H;rcases H with ⟨c7b0,H⟩ | ⟨c7b0,H⟩
     ·replace H:=gT H;obtain ⟨t329,A32,H⟩:=H
      have H':=ak_ H
      clear H
      go_wp2_with ((go_at_call 75;(with_reducible refine (impl_closure.calls k2 a0 _ _ l1 t329 _ ?side1 ?side2 A32.out).mono ?_);(case side1=>exact zC (Kd.C_below HR1.out HB.out));(case side2=>exact HC1.out);rintro e w33 ⟨v330,rfl,ho0,hb⟩;have HO331:=ak_ (Kd.S_lower ho0 (below_size zb));replace HB:=zb1 hb;(try clear hb);(try clear ho0);obtain ⟨Ao34,co34,eo34⟩:=Kd.S_slice HO331.out;subst eo34))
      repeat (go_quiet ((go_at_call 75;(with_reducible refine (impl_closure.calls k2 a0 _ _ l1 t329 _ ?side1 ?side2 A32.out).mono ?_);(case side1=>exact zC (Kd.C_below HR1.out HB.out));(case side2=>exact HC1.out);rintro e w33 ⟨v330,rfl,ho0,hb⟩;have HO331:=ak_ (Kd.S_lower ho0 (below_size zb));replace HB:=zb1 hb;obtain ⟨Ao34,co34,eo34⟩:=Kd.S_slice HO331.out;subst eo34)))
      go_loopg [84] k2 (fun kq v84 w'=>∃ (x84_3:Int),v84=.int .i64 x84_3/\Aside0 (impl_IsPrecedence.l1 kq t329 (t329.length:Int) x84_3=some r)/\Aside0 (kq<=k2)/\Aside0 (Kd.S (Kd.slice 4 Kd.bool) 82 w' w.heap.size (fun _=>True) (.slice Ao34 t329.length co34) t329)/\Aside0 (Below w.heap.size w w'))
      case atStart=>exact ⟨(0),zo,H',⟨Nat.le_refl _⟩,⟨zS HO331.out⟩,⟨zb⟩⟩
      case round=>
       clear H'
       obtain ⟨x84_3,rfl,HA,HK3,HO_7,HB⟩:=hrel
       cases gk with
       | zero=>exact absurd HA.out (by simp [impl_IsPrecedence.l1])
       | succ k3=>
        have H:=HA.out
        clear HA
        simp only [impl_IsPrecedence.l1] at H
        replace H:=gND H;rcases H with ⟨c35b0,H⟩ | ⟨c35b0,H⟩
        ·obtain rfl:=oi_ H
         go_wp2
         repeat (go_quiet (fail))
         go_ret
         exact ⟨zz0,zb⟩
        replace H:=gD H;obtain ⟨c36b0,H⟩:=H
        replace H:=gD H;obtain ⟨c37b0,H⟩:=H
        replace H:=gD H;obtain ⟨c38b0,H⟩:=H
        obtain ⟨bq39,hbq39⟩:∃ b_:Bool,b_=(rdOf false (rd_L4 t329 x84_3) x84_3):=⟨_,rfl⟩
        replace H:(if bq39=true then (some false) else (impl_IsPrecedence.l1 k3 t329 (t329.length:Int) (wrap64 (x84_3 + 1))))=some r:=by rw [<-hbq39] at H;exact H
        have Nbq39:=ak_ hbq39
        clear hbq39
        replace H:=gPB H;rcases H with ⟨rfl,H⟩ | ⟨rfl,H⟩
        ·obtain rfl:=oi_ H
         have p332:0<=(x84_3:Int):=oz_
         have q332:x84_3<(t329.length:Int):=oz_
         obtain ⟨ad332,A332_0,c332_0,e332,hx332_0,hl332_0,hi332_0⟩:=at_L4 (Kd.S_reads' HO_7.out).2.2 x84_3 p332 q332
         cases e332
         obtain ⟨ce332,hce332,hMe332,hcc332⟩:=Kd.S_get HO_7.out [] x84_3 p332 (by exact q332)
         obtain ⟨ve332_0,rfl,ge332_0⟩:=hMe332
         have hv332_0:=hcc332 0 _ rfl
         rw [Nat.add_zero,show ((Kd.slice 4 Kd.bool)).sz=1 from rfl,Nat.mul_one] at hv332_0
         replace hv332_0:=oi_ (hv332_0.symm.trans hx332_0)
         rw [hv332_0] at ge332_0
         have HL332_0:=ak_ (show Kd.R Kd.bool 4 _ _ _ _ (rd_L4 t329 x84_3) from ge332_0)
         clear hv332_0 ge332_0
         clear hcc332 hce332
         have HR332_0:=ak_ hi332_0
         have HC332_0:=ak_ hl332_0
         clear hi332_0 hl332_0
         replace p332:=eq_true p332
         replace q332:=eq_true q332
         have p333:0<=(x84_3:Int):=oz_
         have q333:x84_3<((rd_L4 t329 x84_3).length:Int):=oz_
         obtain ⟨ad333,e333,hx333_0⟩:=Kd.at_bool (by repeat ((with_reducible exact HR332_0.out))) x84_3 p333 q333
         (try rw [<-Nbq39.out] at hx333_0)
         cases e333
         replace p333:=eq_true p333
         replace q333:=eq_true q333
         go_wp2
         repeat (go_quiet (fail))
         go_ret
         exact ⟨zz0,zb⟩
        have H':=ak_ H
        clear H
        have p332:0<=(x84_3:Int):=oz_
        have q332:x84_3<(t329.length:Int):=oz_
        obtain ⟨ad332,A332_0,c332_0,e332,hx332_0,hl332_0,hi332_0⟩:=at_L4 (Kd.S_reads' HO_7.out).2.2 x84_3 p332 q332
        cases e332
        obtain ⟨ce332,hce332,hMe332,hcc332⟩:=Kd.S_get HO_7.out [] x84_3 p332 (by exact q332)
        obtain ⟨ve332_0,rfl,ge332_0⟩:=hMe332
        have hv332_0:=hcc332 0 _ rfl
        rw [Nat.add_zero,show ((Kd.slice 4 Kd.bool)).sz=1 from rfl,Nat.mul_one] at hv332_0
        replace hv332_0:=oi_ (hv332_0.symm.trans hx332_0)
        rw [hv332_0] at ge332_0
        have HL332_0:=ak_ (show Kd.R Kd.bool 4 _ _ _ _ (rd_L4 t329 x84_3) from ge332_0)
        clear hv332_0 ge332_0
        clear hcc332 hce332
        have HR332_0:=ak_ hi332_0
        have HC332_0:=ak_ hl332_0
        clear hi332_0 hl332_0
        replace p332:=eq_true p332
        replace q332:=eq_true q332
        have p333:0<=(x84_3:Int):=oz_
        have q333:x84_3<((rd_L4 t329 x84_3).length:Int):=oz_
        obtain ⟨ad333,e333,hx333_0⟩:=Kd.at_bool (by repeat ((with_reducible exact HR332_0.out))) x84_3 p333 q333
        (try rw [<-Nbq39.out] at hx333_0)
        cases e333
        replace p333:=eq_true p333
        replace q333:=eq_true q333
        go_wp2
        repeat (go_quiet (fail))
        go_roundg k3
        case measure=>have:=HJ2.out;have:=HK2.out;have:=HK3.out;omega
        case rel=>exact ⟨(wrap64 (x84_3 + 1)),zo,H',⟨by have:=HJ2.out;have:=HK2.out;have:=HK3.out;omega⟩,⟨zS HO_7.out⟩,⟨zb⟩⟩
     replace H:=gD H;obtain ⟨c8b0,H⟩:=H
     replace H:=gD H;obtain ⟨c9b0,H⟩:=H
     have HC10:=ak_ H
     clear H
     have p322:0<=(x19_2:Int):=oz_
     have q322:x19_2<(l1.length:Int):=oz_
     obtain ⟨ad322,e322,hx322_0,hx322_1⟩:=at_T51 HR1.out x19_2 p322 q322
     cases e322
     replace hx322_0:=zh_ HB hx322_0
     replace hx322_1:=zh_ HB hx322_1
     replace p322:=eq_true p322
     replace q322:=eq_true q322
     go_upto_region 6 with (((with_reducible refine gate_dst (N:=6) rfl ?_);(try (refine gate_guard (by rfl) ?_;dsimp only));refine box_event ?hg (N:=6) ?hd (cs:=#[.int .i64 0,.int .i64 0]) (t:=51) ?hr ?_;(case hd=>rfl);(case hg=>rfl);(case hr=>(go_simp;done));intro gb323 hg w11 hbox hb;have BK323:=ak_ (hbox);have GW323:=ak_ ((by rw [hg];exact (below_size zb):w.heap.size<=gb323));have GE323:=ak_ ((by rw [hg];exact (below_size zb):w.heap.size<=gb323));replace HB:=zb1 hb;clear hb hbox hg;obtain ⟨hcz12_0,hcz12_1,hfz12_0,hfz12_1⟩:=zk2 BK323.out))
     repeat (go_quiet (((with_reducible refine gate_dst (N:=6) rfl ?_);refine box_event ?hg (N:=6) ?hd (cs:=#[.int .i64 0,.int .i64 0]) (t:=51) ?hr ?_;(case hd=>rfl);(case hg=>rfl);(case hr=>(go_simp;done));intro gb323 hg w11 hbox hb;have BK323:=ak_ (hbox);have GW323:=ak_ ((by rw [hg];exact (below_size zb):w.heap.size<=gb323));have GE323:=ak_ ((by rw [hg];exact (below_size zb):w.heap.size<=gb323));replace HB:=zb1 hb;clear hb hbox hg;obtain ⟨hcz12_0,hcz12_1,hfz12_0,hfz12_1⟩:=zk2 BK323.out));go_upto_region 6 with (((with_reducible refine gate_dst (N:=6) rfl ?_);refine box_event ?hg (N:=6) ?hd (cs:=#[.int .i64 0,.int .i64 0]) (t:=51) ?hr ?_;(case hd=>rfl);(case hg=>rfl);(case hr=>(go_simp;done));intro gb323 hg w11 hbox hb;have BK323:=ak_ (hbox);have GW323:=ak_ ((by rw [hg];exact (below_size zb):w.heap.size<=gb323));have GE323:=ak_ ((by rw [hg];exact (below_size zb):w.heap.size<=gb323));replace HB:=zb1 hb;clear hb hbox hg;obtain ⟨hcz12_0,hcz12_1,hfz12_0,hfz12_1⟩:=zk2 BK323.out)))
     go_cut [42] (fun v42 wc=>∃ (kq:Nat) (x42_9:Bool),v42=.bool x42_9/\Aside0 (impl_IsPrecedence.j2 kq a0 l1 x19_2 l1 (l1.length:Int) x19_2 x42_9 ((rd_T51 l1 x19_2).f0) ((rd_T51 l1 x19_2).f1)=some r)/\Aside0 (kq<=k2)/\Aside0 (wc.heap[gb323]?=some (.cells #[.int .i64 ((rd_T51 l1 x19_2).f0),.int .i64 ((rd_T51 l1 x19_2).f1)] 51 (0,0)))/\Aside0 (Below w.heap.size w wc))
     case first=>
      have H:=HC10.out
      clear HC10
      replace H:=gT H;obtain ⟨t324,A13,H⟩:=H
      replace H:=gNB H;rcases H with ⟨rfl,H⟩ | ⟨rfl,H⟩
      ·have H':=ak_ H
       clear H
       obtain ⟨hcz19_0,hcz19_1,hfz19_0,hfz19_1⟩:=zk2 BK323.out
       go_wp2_with ((go_at_call 89;(with_reducible refine (impl_isNumber.calls ((rd_T51 l1 x19_2).f0) a0 false _ A13.out).mono ?_);rintro e w' ⟨rfl,⟨nd,rfl⟩⟩))
       repeat (go_quiet ((go_at_call 89;(with_reducible refine (impl_isNumber.calls ((rd_T51 l1 x19_2).f0) a0 false _ A13.out).mono ?_);rintro e w' ⟨rfl,⟨nd,rfl⟩⟩)))
       go_meet
       case rel=>exact ⟨_,(true),zo,H',⟨by have:=HJ2.out;have:=HK2.out;omega⟩,⟨zz92⟩,⟨zz58⟩⟩
      replace H:=gT H;obtain ⟨t325,A15,H⟩:=H
      replace H:=gPB H;rcases H with ⟨rfl,H⟩ | ⟨rfl,H⟩
      ·have H':=ak_ H
       clear H
       obtain ⟨hcz17_0,hcz17_1,hfz17_0,hfz17_1⟩:=zk2 BK323.out
       go_wp2_with (first|(go_at_call 89;(with_reducible refine (impl_isNumber.calls ((rd_T51 l1 x19_2).f0) a0 true _ A13.out).mono ?_);rintro e w' ⟨rfl,⟨nd,rfl⟩⟩)|(go_at_call 89;(with_reducible refine (impl_isNumber.calls ((rd_T51 l1 x19_2).f1) a0 true _ A15.out).mono ?_);rintro e w' ⟨rfl,⟨nd,rfl⟩⟩))
       repeat (go_quiet ((go_at_call 89;(with_reducible refine (impl_isNumber.calls ((rd_T51 l1 x19_2).f0) a0 true _ A13.out).mono ?_);rintro e w' ⟨rfl,⟨nd,rfl⟩⟩)))
       go_meet
       case rel=>exact ⟨_,((((rd_T51 l1 x19_2).f0) == ((rd_T51 l1 x19_2).f1))),zo,H',⟨by have:=HJ2.out;have:=HK2.out;omega⟩,⟨zz92⟩,⟨zz58⟩⟩
      have H':=ak_ H
      clear H
      obtain ⟨hcz18_0,hcz18_1,hfz18_0,hfz18_1⟩:=zk2 BK323.out
      go_wp2_with (first|(go_at_call 89;(with_reducible refine (impl_isNumber.calls ((rd_T51 l1 x19_2).f0) a0 true _ A13.out).mono ?_);rintro e w' ⟨rfl,⟨nd,rfl⟩⟩)|(go_at_call 89;(with_reducible refine (impl_isNumber.calls ((rd_T51 l1 x19_2).f1) a0 false _ A15.out).mono ?_);rintro e w' ⟨rfl,⟨nd,rfl⟩⟩))
      repeat (go_quiet ((go_at_call 89;(with_reducible refine (impl_isNumber.calls ((rd_T51 l1 x19_2).f0) a0 true _ A13.out).mono ?_);rintro e w' ⟨rfl,⟨nd,rfl⟩⟩)))
      go_meet
      case rel=>exact ⟨_,(true),zo,H',⟨by have:=HJ2.out;have:=HK2.out;omega⟩,⟨zz92⟩,⟨zz58⟩⟩
     case rest=>
      clear HC10
      obtain ⟨kq,x42_9,rfl,HA,HJ9,BK323,HB⟩:=hcut
      cases kq with
      | zero=>exact absurd HA.out (by simp [impl_IsPrecedence.j2])
      | succ kj9=>
       have H:=HA.out
       clear HA
       simp only [impl_IsPrecedence.j2] at H
       replace H:=gPB H;rcases H with ⟨rfl,H⟩ | ⟨rfl,H⟩
       ·obtain rfl:=oi_ H
        go_wp2
        repeat (go_quiet (fail))
        go_ret
        exact ⟨zz0,zz58⟩
       replace H:=gND H;rcases H with ⟨c21b0,H⟩ | ⟨c21b0,H⟩
       ·have H':=ak_ H
        clear H
        go_wp2
        repeat (go_quiet (fail);try go_wp2)
        go_roundg kj9
        case measure=>have:=HJ2.out;have:=HK2.out;have:=HJ9.out;omega
        case rel=>exact ⟨(wrap64 (x19_2 + 1)),zo,H',⟨by have:=HJ2.out;have:=HK2.out;have:=HJ9.out;omega⟩,⟨zz58⟩⟩
       obtain ⟨ji22,hji22⟩:∃ j_:Int,(wrap64 (x19_2 - 1))=j_:=⟨_,rfl⟩
       replace H:(if 0<=(ji22) then (if (ji22)<(l1.length:Int) then (if ((rd_T51 l1 (ji22)).f0)>((rd_T51 l1 x19_2).f0) then (some false) else (if ((rd_T51 l1 (ji22)).f0)=((rd_T51 l1 x19_2).f0) then (if ((rd_T51 l1 (ji22)).f1)>=((rd_T51 l1 x19_2).f1) then (some false) else (impl_IsPrecedence.l0 kj9 a0 l1 l1 (l1.length:Int) (wrap64 (x19_2 + 1)))) else (impl_IsPrecedence.l0 kj9 a0 l1 l1 (l1.length:Int) (wrap64 (x19_2 + 1))))) else (none)) else (none))=some r:=by (rw [hji22] at H;exact H)
       have hji22w:(IntKind.i64.wrap (x19_2 - 1))=ji22:=(i64_w _).trans hji22
       replace H:=gD H;obtain ⟨c23b0,H⟩:=H
       replace H:=gD H;obtain ⟨c24b0,H⟩:=H
       replace H:=gPD H;rcases H with ⟨c25b0,H⟩ | ⟨c25b0,H⟩
       ·obtain rfl:=oi_ H
        have p326:0<=((ji22):Int):=oz_
        have q326:(ji22)<(l1.length:Int):=oz_
        obtain ⟨ad326,e326,hx326_0,hx326_1⟩:=at_T51 HR1.out (ji22) p326 q326
        obtain rfl:ad322=ad326:=(by injection e326)
        replace hx326_0:=zh_ HB hx326_0
        replace hx326_1:=zh_ HB hx326_1
        replace p326:=eq_true p326
        replace q326:=eq_true q326
        obtain ⟨hcz26_0,hcz26_1,hfz26_0,hfz26_1⟩:=zk2 BK323.out
        go_wp2
        repeat (go_quiet (fail);try go_wp2)
        go_ret
        exact ⟨by rfl,zz58⟩
       replace H:=gN H;rcases H with ⟨c27,H⟩ | ⟨c27,H⟩
       ·have c27b0:(((rd_T51 l1 (ji22)).f0) == ((rd_T51 l1 x19_2).f0))=false:=beq_eq_false_iff_ne.mpr c27
        have c27b1:(((rd_T51 l1 (ji22)).f0) != ((rd_T51 l1 x19_2).f0))=true:=bne_iff_ne.mpr c27
        have H':=ak_ H
        clear H
        have p326:0<=((ji22):Int):=oz_
        have q326:(ji22)<(l1.length:Int):=oz_
        obtain ⟨ad326,e326,hx326_0,hx326_1⟩:=at_T51 HR1.out (ji22) p326 q326
        obtain rfl:ad322=ad326:=(by injection e326)
        replace hx326_0:=zh_ HB hx326_0
        replace hx326_1:=zh_ HB hx326_1
        replace p326:=eq_true p326
        replace q326:=eq_true q326
        obtain ⟨hcz31_0,hcz31_1,hfz31_0,hfz31_1⟩:=zk2 BK323.out
        have p327:0<=((ji22):Int):=oz_
        have q327:(ji22)<(l1.length:Int):=oz_
        obtain ⟨ad327,e327,hx327_0,hx327_1⟩:=at_T51 HR1.out (ji22) p327 q327
        obtain rfl:ad322=ad327:=(by injection e327)
        replace hx327_0:=zh_ HB hx327_0
        replace hx327_1:=zh_ HB hx327_1
        replace p327:=eq_true p327
        replace q327:=eq_true q327
        go_wp2
        repeat (go_quiet (fail);try go_wp2)
        go_roundg kj9
        case measure=>have:=HJ2.out;have:=HK2.out;have:=HJ9.out;omega
        case rel=>exact ⟨(wrap64 (x19_2 + 1)),zo,H',⟨by have:=HJ2.out;have:=HK2.out;have:=HJ9.out;omega⟩,⟨zz58⟩⟩
       have c27b0:(((rd_T51 l1 (ji22)).f0) == ((rd_T51 l1 x19_2).f0))=true:=beq_iff_eq.mpr c27
       have c27b1:(((rd_T51 l1 (ji22)).f0) != ((rd_T51 l1 x19_2).f0))=false:=bne_eq_false_iff_eq.mpr c27
       clear c27
       replace H:=gPD H;rcases H with ⟨c28b0,H⟩ | ⟨c28b0,H⟩
       ·obtain rfl:=oi_ H
        have p326:0<=((ji22):Int):=oz_
        have q326:(ji22)<(l1.length:Int):=oz_
        obtain ⟨ad326,e326,hx326_0,hx326_1⟩:=at_T51 HR1.out (ji22) p326 q326
        obtain rfl:ad322=ad326:=(by injection e326)
        replace hx326_0:=zh_ HB hx326_0
        replace hx326_1:=zh_ HB hx326_1
        replace p326:=eq_true p326
        replace q326:=eq_true q326
        obtain ⟨hcz29_0,hcz29_1,hfz29_0,hfz29_1⟩:=zk2 BK323.out
        have p327:0<=((ji22):Int):=oz_
        have q327:(ji22)<(l1.length:Int):=oz_
        obtain ⟨ad327,e327,hx327_0,hx327_1⟩:=at_T51 HR1.out (ji22) p327 q327
        obtain rfl:ad322=ad327:=(by injection e327)
        replace hx327_0:=zh_ HB hx327_0
        replace hx327_1:=zh_ HB hx327_1
        replace p327:=eq_true p327
        replace q327:=eq_true q327
        have p328:0<=((ji22):Int):=oz_
        have q328:(ji22)<(l1.length:Int):=oz_
        obtain ⟨ad328,e328,hx328_0,hx328_1⟩:=at_T51 HR1.out (ji22) p328 q328
        obtain rfl:ad322=ad328:=(by injection e328)
        replace hx328_0:=zh_ HB hx328_0
        replace hx328_1:=zh_ HB hx328_1
        replace p328:=eq_true p328
        replace q328:=eq_true q328
        go_wp2
        repeat (go_quiet (fail);try go_wp2)
        go_ret
        exact ⟨by rfl,zz58⟩
       have H':=ak_ H
       clear H
       have p326:0<=((ji22):Int):=oz_
       have q326:(ji22)<(l1.length:Int):=oz_
       obtain ⟨ad326,e326,hx326_0,hx326_1⟩:=at_T51 HR1.out (ji22) p326 q326
       obtain rfl:ad322=ad326:=(by injection e326)
       replace hx326_0:=zh_ HB hx326_0
       replace hx326_1:=zh_ HB hx326_1
       replace p326:=eq_true p326
       replace q326:=eq_true q326
       obtain ⟨hcz30_0,hcz30_1,hfz30_0,hfz30_1⟩:=zk2 BK323.out
       have p327:0<=((ji22):Int):=oz_
       have q327:(ji22)<(l1.length:Int):=oz_
       obtain ⟨ad327,e327,hx327_0,hx327_1⟩:=at_T51 HR1.out (ji22) p327 q327
       obtain rfl:ad322=ad327:=(by injection e327)
       replace hx327_0:=zh_ HB hx327_0
       replace hx327_1:=zh_ HB hx327_1
       replace p327:=eq_true p327
       replace q327:=eq_true q327
       have p328:0<=((ji22):Int):=oz_
       have q328:(ji22)<(l1.length:Int):=oz_
       obtain ⟨ad328,e328,hx328_0,hx328_1⟩:=at_T51 HR1.out (ji22) p328 q328
       obtain rfl:ad322=ad328:=(by injection e328)
       replace hx328_0:=zh_ HB hx328_0
       replace hx328_1:=zh_ HB hx328_1
       replace p328:=eq_true p328
       replace q328:=eq_true q328
       go_wp2
       repeat (go_quiet (fail);try go_wp2)
       go_roundg kj9
       case measure=>have:=HJ2.out;have:=HK2.out;have:=HJ9.out;omega
       case rel=>exact ⟨(wrap64 (x19_2 + 1)),zo,H',⟨by have:=HJ2.out;have:=HK2.out;have:=HJ9.out;omega⟩,⟨zz58⟩⟩
def impl_isParallel.f (k:Nat) (l0:List (S31)) (a1:Int) (l2:List (S51)):Option (Bool):=(impl_IsPlain.f k l0).bind fun t334=>(if t334=true then ((impl_within.f a1 1 4).bind fun t335=>(if t335=true then ((impl_IsPrecedence.f k (l0.length:Int) l2).bind fun t336=>(some t336)) else (some false))) else (some false))
theorem impl_isParallel.calls (k:Nat) (A0:Option Addr) (c0:Nat) (l0:List (S31)) (a1:Int) (A2:Option Addr) (c2:Nat) (l2:List (S51)) (r:Bool) (w:World) (hr0:Kd.C k31 w A0 l0.length l0) (hc0:l0.length<=c0) (hr2:Kd.C k51 w A2 l2.length l2) (hc2:l2.length<=c2) (h:impl_isParallel.f k l0 a1 l2=some r) :
  Calls Try.prog 35 #[.slice A0 l0.length c0,.int .i64 a1,.slice A2 l2.length c2] w fun e w'=>e=.returned (.bool r)/\Below w.heap.size w w':=by
 have HR0:=ak_ hr0
 have HC0:=ak_ hc0
 clear hr0 hc0
 have HR2:=ak_ hr2
 have HC2:=ak_ hc2
 clear hr2 hc2
 have HB:=ak_ (Below.refl w.heap.size w)
 have H:((impl_IsPlain.f k l0).bind fun t334=>(if t334=true then ((impl_within.f a1 1 4).bind fun t335=>(if t335=true then ((impl_IsPrecedence.f k (l0.length:Int) l2).bind fun t336=>(some t336)) else (some false))) else (some false)))=some r:=h
 clear h
 replace H:=gT H;obtain ⟨t334,A4,H⟩:=H
 replace H:=gNB H;rcases H with ⟨rfl,H⟩ | ⟨rfl,H⟩
 ·obtain rfl:=oi_ H
  go_enter Try.func35,Try.ntmps35
  go_wp2_with (((with_reducible refine gate_callee (f:=24) rfl ?_);refine zgo 8 Try.func24 #[.slice A0 l0.length c0] ?_;(with_reducible refine (impl_IsPlain.calls k _ _ l0 false _ ?side1 ?side2 A4.out).mono ?_);(case side1=>exact zC HR0.out);(case side2=>exact HC0.out);rintro e w12 ⟨rfl,hb⟩;refine ⟨_,rfl,?_⟩;replace HB:=zb1 hb;(try clear hb)))
  go_ret
  exact ⟨zz0,zb⟩
 replace H:=gT H;obtain ⟨t335,A6,H⟩:=H
 replace H:=gNB H;rcases H with ⟨rfl,H⟩ | ⟨rfl,H⟩
 ·obtain rfl:=oi_ H
  go_enter Try.func35,Try.ntmps35
  go_wp2_with (first|((with_reducible refine gate_callee (f:=24) rfl ?_);refine zgo 8 Try.func24 #[.slice A0 l0.length c0] ?_;(with_reducible refine (impl_IsPlain.calls k _ _ l0 true _ ?side1 ?side2 A4.out).mono ?_);(case side1=>exact zC HR0.out);(case side2=>exact HC0.out);rintro e w11 ⟨rfl,hb⟩;refine ⟨_,rfl,?_⟩;replace HB:=zb1 hb;(try clear hb))|(go_at_call 73;(with_reducible refine (impl_within.calls a1 1 4 false _ A6.out).mono ?_);rintro e w' ⟨rfl,⟨nd,rfl⟩⟩))
  go_ret
  exact ⟨zz0,zb⟩
 replace H:=gT H;obtain ⟨t336,A8,H⟩:=H
 obtain rfl:=oi_ H
 go_enter Try.func35,Try.ntmps35
 go_wp2_with (first|((with_reducible refine gate_callee (f:=24) rfl ?_);refine zgo 8 Try.func24 #[.slice A0 l0.length c0] ?_;(with_reducible refine (impl_IsPlain.calls k _ _ l0 true _ ?side1 ?side2 A4.out).mono ?_);(case side1=>exact zC HR0.out);(case side2=>exact HC0.out);rintro e w9 ⟨rfl,hb⟩;refine ⟨_,rfl,?_⟩;replace HB:=zb1 hb;(try clear hb))|(go_at_call 73;(with_reducible refine (impl_within.calls a1 1 4 true _ A6.out).mono ?_);rintro e w' ⟨rfl,⟨nd,rfl⟩⟩)|(go_at_call 74;(with_reducible refine (impl_IsPrecedence.calls k (l0.length:Int) _ _ l2 t336 _ ?side1 ?side2 A8.out).mono ?_);(case side1=>exact zC (Kd.C_below HR2.out zb));(case side2=>exact HC2.out);rintro e w10 ⟨rfl,hb⟩;replace HB:=zb1 hb;(try clear hb)))
 go_ret
 exact ⟨zz0,zb⟩
