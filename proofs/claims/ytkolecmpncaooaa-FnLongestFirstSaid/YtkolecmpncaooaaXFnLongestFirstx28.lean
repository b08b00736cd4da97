-- Words and walks of this claim.
import Derived.Test.YtkolecmpncaooaaXFnLongestFirstx7
namespace Go.Proofs.Ytkolecmpncaooaa.XFnLongestFirst
open Go.RowKit Go.Proofs.YtkolecmpncaooaaW.PrintWords Go.Proofs.YtkolecmpncaooaaW.PrintLast Go.Proofs.YtkolecmpncaooaaW.PrintMore
attribute [local go_sem] max2_int min2_int max_two min_two max_three min_three max_four min_four
attribute [local go_sem] idxA_51_0 idxA_51_1 fldS_45_0 fldS_45_1 fldS_45_2 fldS_96_0 fldS_96_1 fldS_96_2
set_option linter.unusedVariables false
set_option linter.unusedSimpArgs false
mutual
def impl_isPlan.l0:Nat->List (S31)->Int->List (S40)->List (List Bool)->List (S40)->Int->Int->Option (Bool)
 | 0,_,_,_,_,_,_,_=>none
 | k + 1,x0,x1,x3,x9,x26,x27,x28=>if x28<x27 then (if 0<=x28 then (if x28<(x26.length:Int) then (if ((rd_T40 x26 x28).f0)=x28 then ((impl_isNumber.f ((rd_T40 x26 x28).f1) x1).bind fun t624=>(if t624=true then ((impl_isDate.f ((rd_T40 x26 x28).f2)).bind fun t625=>(if t625=true then (impl_isPlan.l0 k x0 x1 x3 x9 x26 x27 (wrap64 (x28 + 1))) else (some false))) else (some false))) else (some false)) else (none)) else (none)) else (impl_isPlan.l1 k x0 x3 x9 x3 (x3.length:Int) 0)
def impl_isPlan.l1:Nat->List (S31)->List (S40)->List (List Bool)->List (S40)->Int->Int->Option (Bool)
 | 0,_,_,_,_,_,_=>none
 | k + 1,x0,x3,x9,x51,x52,x53=>if x53<x52 then (if 0<=x53 then (if x53<(x51.length:Int) then (impl_isPlan.l2 k x0 x3 x9 x53 x51 x52 x53 x3 (x3.length:Int) 0 ((rd_T40 x51 x53).f0) ((rd_T40 x51 x53).f1) ((rd_T40 x51 x53).f2)) else (none)) else (none)) else (some true)
def impl_isPlan.l2:Nat->List (S31)->List (S40)->List (List Bool)->Int->List (S40)->Int->Int->List (S40)->Int->Int->Int->Int->Int->Option (Bool)
 | 0,_,_,_,_,_,_,_,_,_,_,_,_,_=>none
 | k + 1,x0,x3,x9,x12,x51,x52,x53,x58,x59,x60,x628000,x628001,x628002=>if x60<x59 then (if 0<=x60 then (if x60<(x58.length:Int) then (if 0<=x12 then (if x12<(x0.length:Int) then (if x12<(x9.length:Int) then (if x60<((rd_L4 x9 x12).length:Int) then (if rdOf false (rd_L4 x9 x12) x60=true then (impl_isPlan.j3 k x0 x3 x9 x12 x60 (decide ((wrap64 (x628002 + ((rd_T31 x0 x12).f0)))<=((rd_T40 x58 x60).f2))) x51 x52 x53 x58 x59 x60 (!(decide ((wrap64 (x628002 + ((rd_T31 x0 x12).f0)))<=((rd_T40 x58 x60).f2)))) x628000 x628001 x628002 ((rd_T40 x58 x60).f0) ((rd_T40 x58 x60).f1) ((rd_T40 x58 x60).f2)) else (impl_isPlan.j3 k x0 x3 x9 x12 x60 (decide ((wrap64 (x628002 + ((rd_T31 x0 x12).f0)))<=((rd_T40 x58 x60).f2))) x51 x52 x53 x58 x59 x60 false x628000 x628001 x628002 ((rd_T40 x58 x60).f0) ((rd_T40 x58 x60).f1) ((rd_T40 x58 x60).f2))) else (none)) else (none)) else (none)) else (none)) else (none)) else (none)) else (impl_isPlan.l1 k x0 x3 x9 x51 x52 (wrap64 (x53 + 1)))
def impl_isPlan.j3:Nat->List (S31)->List (S40)->List (List Bool)->Int->Int->Bool->List (S40)->Int->Int->List (S40)->Int->Int->Bool->Int->Int->Int->Int->Int->Int->Option (Bool)
 | 0,_,_,_,_,_,_,_,_,_,_,_,_,_,_,_,_,_,_,_=>none
 | k + 1,x0,x3,x9,x12,x14,x16,x51,x52,x53,x58,x59,x60,x86,x628000,x628001,x628002,x630000,x630001,x630002=>if x86=true then (some false) else (if x12=x14 then (impl_isPlan.l2 k x0 x3 x9 x12 x51 x52 x53 x58 x59 (wrap64 (x60 + 1)) x628000 x628001 x628002) else (if x628001=x630001 then (if x16=true then (impl_isPlan.l2 k x0 x3 x9 x12 x51 x52 x53 x58 x59 (wrap64 (x60 + 1)) x628000 x628001 x628002) else (if 0<=x14 then (if x14<(x0.length:Int) then (if (wrap64 (x630002 + ((rd_T31 x0 x14).f0)))>x628002 then (some false) else (impl_isPlan.l2 k x0 x3 x9 x12 x51 x52 x53 x58 x59 (wrap64 (x60 + 1)) x628000 x628001 x628002)) else (none)) else (none))) else (impl_isPlan.l2 k x0 x3 x9 x12 x51 x52 x53 x58 x59 (wrap64 (x60 + 1)) x628000 x628001 x628002)))
end
def impl_isPlan.f (k:Nat) (l0:List (S31)) (a1:Int) (l2:List (S51)) (l3:List (S40)):Option (Bool):=if (l3.length:Int)=(l0.length:Int) then ((impl_closure.f k (l0.length:Int) l2).bind fun t619=>(impl_isPlan.l0 k l0 a1 l3 t619 l3 (l3.length:Int) 0)) else (some false)
set_option maxHeartbeats 8000000 in
set_option maxRecDepth 100000 in
theorem impl_isPlan.calls (k:Nat) (A0:Option Addr) (c0:Nat) (l0:List (S31)) (a1:Int) (A2:Option Addr) (c2:Nat) (l2:List (S51)) (A3:Option Addr) (c3:Nat) (l3:List (S40)) (r:Bool) (w:World) (hr0:Kd.C k31 w A0 l0.length l0) (hc0:l0.length<=c0) (hr2:Kd.C k51 w A2 l2.length l2) (hc2:l2.length<=c2) (hr3:Kd.C k40 w A3 l3.length l3) (hc3:l3.length<=c3) (h:impl_isPlan.f k l0 a1 l2 l3=some r) :
  Calls Try.prog 47 #[.slice A0 l0.length c0,.int .i64 a1,.slice A2 l2.length c2,.slice A3 l3.length c3] w fun e w'=>e=.returned (.bool r)/\Below w.heap.size w w':=by
 have hu40:=Try.underlying40
 have HR0:=ak_ hr0
 have HC0:=ak_ hc0
 clear hr0 hc0
 have HR2:=ak_ hr2
 have HC2:=ak_ hc2
 clear hr2 hc2
 have HR3:=ak_ hr3
 have HC3:=ak_ hc3
 clear hr3 hc3
 have HB:=ak_ (Below.refl w.heap.size w)
 have H:(if (l3.length:Int)=(l0.length:Int) then ((impl_closure.f k (l0.length:Int) l2).bind fun t619=>(impl_isPlan.l0 k l0 a1 l3 t619 l3 (l3.length:Int) 0)) else (some false))=some r:=h
 clear h
 replace H:=gN H;rcases H with ⟨c5,H⟩ | ⟨c5,H⟩
 ·have c5b0:((l3.length:Int) == (l0.length:Int))=false:=beq_eq_false_iff_ne.mpr c5
  have c5b1:((l3.length:Int) != (l0.length:Int))=true:=bne_iff_ne.mpr c5
  have c5b2:(l3.length == l0.length)=false:=by (simp at c5 ⊢;omega)
  obtain rfl:=oi_ H
  go_enter Try.func47,Try.ntmps47
  go_wp2
  repeat (go_quiet (fail))
  go_ret
  exact ⟨zz0,zb⟩
 have c5b0:((l3.length:Int) == (l0.length:Int))=true:=beq_iff_eq.mpr c5
 have c5b1:((l3.length:Int) != (l0.length:Int))=false:=bne_eq_false_iff_eq.mpr c5
 have c5b2:(l3.length == l0.length)=true:=by (simp at c5 ⊢;omega)
 clear c5
 replace H:=gT H;obtain ⟨t619,A6,H⟩:=H
 have H':=ak_ H
 clear H
 go_enter Try.func47,Try.ntmps47
 go_wp2_with ((go_at_call 75;(with_reducible refine (impl_closure.calls k (l0.length:Int) _ _ l2 t619 _ ?side1 ?side2 A6.out).mono ?_);(case side1=>exact zC HR2.out);(case side2=>exact HC2.out);rintro e w7 ⟨v620,rfl,ho0,hb⟩;have HO621:=ak_ (Kd.S_lower ho0 (below_size zb));replace HB:=zb1 hb;(try clear hb);(try clear ho0)))
 repeat (go_quiet ((go_at_call 75;(with_reducible refine (impl_closure.calls k (l0.length:Int) _ _ l2 t619 _ ?side1 ?side2 A6.out).mono ?_);(case side1=>exact zC HR2.out);(case side2=>exact HC2.out);rintro e w7 ⟨v620,rfl,ho0,hb⟩;have HO621:=ak_ (Kd.S_lower ho0 (below_size zb));replace HB:=zb1 hb)))
 go_loopg [28] k (fun kq v28 w'=>∃ (x28_1:Int),v28=.int .i64 x28_1/\Aside0 (impl_isPlan.l0 kq l0 a1 l3 t619 l3 (l3.length:Int) x28_1=some r)/\Aside0 (kq<=k)/\Aside0 (Kd.S (Kd.slice 4 Kd.bool) 82 w' w.heap.size (fun _=>True) v620 t619)/\Aside0 (Below w.heap.size w w'))
 case atStart=>exact ⟨(0),zo,H',⟨Nat.le_refl _⟩,⟨zS HO621.out⟩,⟨zb⟩⟩
 case round=>
  clear H'
  obtain ⟨x28_1,rfl,HA,HK1,HO_9,HB⟩:=hrel
  cases gk with
  | zero=>exact absurd HA.out (by simp [impl_isPlan.l0])
  | succ k1=>
   have H:=HA.out
   clear HA
   simp only [impl_isPlan.l0] at H
   replace H:=gPD H;rcases H with ⟨c8b0,H⟩ | ⟨c8b0,H⟩
   ·replace H:=gD H;obtain ⟨c9b0,H⟩:=H
    replace H:=gD H;obtain ⟨c10b0,H⟩:=H
    replace H:=gN H;rcases H with ⟨c11,H⟩ | ⟨c11,H⟩
    ·have c11b0:(((rd_T40 l3 x28_1).f0) == x28_1)=false:=beq_eq_false_iff_ne.mpr c11
     have c11b1:(((rd_T40 l3 x28_1).f0) != x28_1)=true:=bne_iff_ne.mpr c11
     obtain rfl:=oi_ H
     have p622:0<=(x28_1:Int):=oz_
     have q622:x28_1<(l3.length:Int):=oz_
     obtain ⟨ad622,e622,hx622_0,hx622_1,hx622_2⟩:=at_T40 HR3.out x28_1 p622 q622
     cases e622
     replace hx622_0:=zh_ HB hx622_0
     replace hx622_1:=zh_ HB hx622_1
     replace hx622_2:=zh_ HB hx622_2
     replace p622:=eq_true p622
     replace q622:=eq_true q622
     go_wp2_with (((with_reducible refine gate_dst (N:=11) rfl ?_);refine box_event ?hg (N:=11) ?hd (cs:=#[.int .i64 0,.int .i64 0,.int .i64 0]) (t:=40) ?hr ?_;(case hd=>rfl);(case hg=>rfl);(case hr=>(go_simp;done));intro gb623 hg w22 hbox hb;replace HO_9:=zSb HO_9 hb;have BK623:=ak_ (hbox);have GW623:=ak_ ((by rw [hg];exact (below_size zb):w.heap.size<=gb623));have GE623:=ak_ ((by rw [hg];exact (below_size zb):w.heap.size<=gb623));replace HB:=zb1 hb;clear hb hbox hg;obtain ⟨hcz23_0,hcz23_1,hcz23_2,hfz23_0,hfz23_1,hfz23_2⟩:=zk3 BK623.out))
     repeat (go_quiet (((with_reducible refine gate_dst (N:=11) rfl ?_);refine box_event ?hg (N:=11) ?hd (cs:=#[.int .i64 0,.int .i64 0,.int .i64 0]) (t:=40) ?hr ?_;(case hd=>rfl);(case hg=>rfl);(case hr=>(go_simp;done));intro gb623 hg w22 hbox hb;replace HO_9:=zSb HO_9 hb;have BK623:=ak_ (hbox);have GW623:=ak_ ((by rw [hg];exact (below_size zb):w.heap.size<=gb623));have GE623:=ak_ ((by rw [hg];exact (below_size zb):w.heap.size<=gb623));replace HB:=zb1 hb;clear hb hbox hg;obtain ⟨hcz23_0,hcz23_1,hcz23_2,hfz23_0,hfz23_1,hfz23_2⟩:=zk3 BK623.out)))
     go_ret
     exact ⟨zz0,zz82⟩
    have c11b0:(((rd_T40 l3 x28_1).f0) == x28_1)=true:=beq_iff_eq.mpr c11
    have c11b1:(((rd_T40 l3 x28_1).f0) != x28_1)=false:=bne_eq_false_iff_eq.mpr c11
    clear c11
    replace H:=gT H;obtain ⟨t624,A12,H⟩:=H
    replace H:=gNB H;rcases H with ⟨rfl,H⟩ | ⟨rfl,H⟩
    ·obtain rfl:=oi_ H
     have p622:0<=(x28_1:Int):=oz_
     have q622:x28_1<(l3.length:Int):=oz_
     obtain ⟨ad622,e622,hx622_0,hx622_1,hx622_2⟩:=at_T40 HR3.out x28_1 p622 q622
     cases e622
     replace hx622_0:=zh_ HB hx622_0
     replace hx622_1:=zh_ HB hx622_1
     replace hx622_2:=zh_ HB hx622_2
     replace p622:=eq_true p622
     replace q622:=eq_true q622
     go_wp2_with (first|((with_reducible refine gate_dst (N:=11) rfl ?_);refine box_event ?hg (N:=11) ?hd (cs:=#[.int .i64 0,.int .i64 0,.int .i64 0]) (t:=40) ?hr ?_;(case hd=>rfl);(case hg=>rfl);(case hr=>(go_simp;done));intro gb623 hg w20 hbox hb;replace HO_9:=zSb HO_9 hb;have BK623:=ak_ (hbox);have GW623:=ak_ ((by rw [hg];exact (below_size zb):w.heap.size<=gb623));have GE623:=ak_ ((by rw [hg];exact (below_size zb):w.heap.size<=gb623));replace HB:=zb1 hb;clear hb hbox hg;obtain ⟨hcz21_0,hcz21_1,hcz21_2,hfz21_0,hfz21_1,hfz21_2⟩:=zk3 BK623.out)|(go_at_call 89;(with_reducible refine (impl_isNumber.calls ((rd_T40 l3 x28_1).f1) a1 false _ A12.out).mono ?_);rintro e w' ⟨rfl,⟨nd,rfl⟩⟩))
     repeat (go_quiet (((with_reducible refine gate_dst (N:=11) rfl ?_);refine box_event ?hg (N:=11) ?hd (cs:=#[.int .i64 0,.int .i64 0,.int .i64 0]) (t:=40) ?hr ?_;(case hd=>rfl);(case hg=>rfl);(case hr=>(go_simp;done));intro gb623 hg w20 hbox hb;replace HO_9:=zSb HO_9 hb;have BK623:=ak_ (hbox);have GW623:=ak_ ((by rw [hg];exact (below_size zb):w.heap.size<=gb623));have GE623:=ak_ ((by rw [hg];exact (below_size zb):w.heap.size<=gb623));replace HB:=zb1 hb;clear hb hbox hg;obtain ⟨hcz21_0,hcz21_1,hcz21_2,hfz21_0,hfz21_1,hfz21_2⟩:=zk3 BK623.out)))
     go_ret
     exact ⟨zz0,zz82⟩
    replace H:=gT H;obtain ⟨t625,A14,H⟩:=H
    replace H:=gNB H;rcases H with ⟨rfl,H⟩ | ⟨rfl,H⟩
    ·obtain rfl:=oi_ H
     have p622:0<=(x28_1:Int):=oz_
     have q622:x28_1<(l3.length:Int):=oz_
     obtain ⟨ad622,e622,hx622_0,hx622_1,hx622_2⟩:=at_T40 HR3.out x28_1 p622 q622
     cases e622
     replace hx622_0:=zh_ HB hx622_0
     replace hx622_1:=zh_ HB hx622_1
     replace hx622_2:=zh_ HB hx622_2
     replace p622:=eq_true p622
     replace q622:=eq_true q622
     go_wp2_with (first|((with_reducible refine gate_dst (N:=11) rfl ?_);refine box_event ?hg (N:=11) ?hd (cs:=#[.int .i64 0,.int .i64 0,.int .i64 0]) (t:=40) ?hr ?_;(case hd=>rfl);(case hg=>rfl);(case hr=>(go_simp;done));intro gb623 hg w18 hbox hb;replace HO_9:=zSb HO_9 hb;have BK623:=ak_ (hbox);have GW623:=ak_ ((by rw [hg];exact (below_size zb):w.heap.size<=gb623));have GE623:=ak_ ((by rw [hg];exact (below_size zb):w.heap.size<=gb623));replace HB:=zb1 hb;clear hb hbox hg;obtain ⟨hcz19_0,hcz19_1,hcz19_2,hfz19_0,hfz19_1,hfz19_2⟩:=zk3 BK623.out)|(go_at_call 89;(with_reducible refine (impl_isNumber.calls ((rd_T40 l3 x28_1).f1) a1 true _ A12.out).mono ?_);rintro e w' ⟨rfl,⟨nd,rfl⟩⟩)|(go_at_call 90;(with_reducible refine (impl_isDate.calls ((rd_T40 l3 x28_1).f2) false _ A14.out).mono ?_);rintro e w' ⟨rfl,⟨nd,rfl⟩⟩))
     repeat (go_quiet (((with_reducible refine gate_dst (N:=11) rfl ?_);refine box_event ?hg (N:=11) ?hd (cs:=#[.int .i64 0,.int .i64 0,.int .i64 0]) (t:=40) ?hr ?_;(case hd=>rfl);(case hg=>rfl);(case hr=>(go_simp;done));intro gb623 hg w18 hbox hb;replace HO_9:=zSb HO_9 hb;have BK623:=ak_ (hbox);have GW623:=ak_ ((by rw [hg];exact (below_size zb):w.heap.size<=gb623));have GE623:=ak_ ((by rw [hg];exact (below_size zb):w.heap.size<=gb623));replace HB:=zb1 hb;clear hb hbox hg;obtain ⟨hcz19_0,hcz19_1,hcz19_2,hfz19_0,hfz19_1,hfz19_2⟩:=zk3 BK623.out)))
     go_ret
     exact ⟨zz0,zz82⟩
    have H':=ak_ H
    clear H
    have p622:0<=(x28_1:Int):=oz_
    have q622:x28_1<(l3.length:Int):=oz_
    obtain ⟨ad622,e622,hx622_0,hx622_1,hx622_2⟩:=at_T40 HR3.out x28_1 p622 q622
    cases e622
    replace hx622_0:=zh_ HB hx622_0
    replace hx622_1:=zh_ HB hx622_1
    replace hx622_2:=zh_ HB hx622_2
    replace p622:=eq_true p622
    replace q622:=eq_true q622
    go_wp2_with (first|((with_reducible refine gate_dst (N:=11) rfl ?_);refine box_event ?hg (N:=11) ?hd (cs:=#[.int .i64 0,.int .i64 0,.int .i64 0]) (t:=40) ?hr ?_;(case hd=>rfl);(case hg=>rfl);(case hr=>(go_simp;done));intro gb623 hg w16 hbox hb;replace HO_9:=zSb HO_9 hb;have BK623:=ak_ (hbox);have GW623:=ak_ ((by rw [hg];exact (below_size zb):w.heap.size<=gb623));have GE623:=ak_ ((by rw [hg];exact (below_size zb):w.heap.size<=gb623));replace HB:=zb1 hb;clear hb hbox hg;obtain ⟨hcz17_0,hcz17_1,hcz17_2,hfz17_0,hfz17_1,hfz17_2⟩:=zk3 BK623.out)|(go_at_call 89;(with_reducible refine (impl_isNumber.calls ((rd_T40 l3 x28_1).f1) a1 true _ A12.out).mono ?_);rintro e w' ⟨rfl,⟨nd,rfl⟩⟩)|(go_at_call 90;(with_reducible refine (impl_isDate.calls ((rd_T40 l3 x28_1).f2) true _ A14.out).mono ?_);rintro e w' ⟨rfl,⟨nd,rfl⟩⟩))
    repeat (go_quiet (((with_reducible refine gate_dst (N:=11) rfl ?_);refine box_event ?hg (N:=11) ?hd (cs:=#[.int .i64 0,.int .i64 0,.int .i64 0]) (t:=40) ?hr ?_;(case hd=>rfl);(case hg=>rfl);(case hr=>(go_simp;done));intro gb623 hg w16 hbox hb;replace HO_9:=zSb HO_9 hb;have BK623:=ak_ (hbox);have GW623:=ak_ ((by rw [hg];exact (below_size zb):w.heap.size<=gb623));have GE623:=ak_ ((by rw [hg];exact (below_size zb):w.heap.size<=gb623));replace HB:=zb1 hb;clear hb hbox hg;obtain ⟨hcz17_0,hcz17_1,hcz17_2,hfz17_0,hfz17_1,hfz17_2⟩:=zk3 BK623.out)))
    go_roundg k1
    case measure=>have:=HK1.out;omega
    case rel=>exact ⟨(wrap64 (x28_1 + 1)),zo,H',⟨by have:=HK1.out;omega⟩,⟨by (with_reducible repeat (apply Kd.S_drewN));exact Kd.S_mono (Kd.S_far (p:=⟨gb623,2,none⟩) (Kd.S_far (p:=⟨gb623,1,none⟩) (Kd.S_far (p:=⟨gb623,0,none⟩) (Kd.S_types HO_9.out BK623.out (by decide)) (fun _ hk=>hk.2) (.int .i64 ((rd_T40 l3 x28_1).f0))) (fun _ hk=>hk.2) (.int .i64 ((rd_T40 l3 x28_1).f1))) (fun _ hk=>hk.2) (.int .i64 ((rd_T40 l3 x28_1).f2))) (fun _ hk=>trivial)⟩,⟨zz82⟩⟩
   have H':=ak_ H
   clear H
   go_wp2
   repeat (go_quiet (fail))
   go_loopg [53] k1 (fun kq v53 w'=>∃ (x53_2:Int),v53=.int .i64 x53_2/\Aside0 (impl_isPlan.l1 kq l0 l3 t619 l3 (l3.length:Int) x53_2=some r)/\Aside0 (kq<=k1)/\Aside0 (Kd.S (Kd.slice 4 Kd.bool) 82 w' w.heap.size (fun _=>True) v620 t619)/\Aside0 (Below w.heap.size w w'))
   case atStart=>exact ⟨(0),zo,H',⟨Nat.le_refl _⟩,⟨zS HO_9.out⟩,⟨zb⟩⟩
   case round=>
    clear H'
    obtain ⟨x53_2,rfl,HA,HK2,HO_9,HB⟩:=hrel
    cases gk with
    | zero=>exact absurd HA.out (by simp [impl_isPlan.l1])
    | succ k2=>
     have H:=HA.out
     clear HA
     simp only [impl_isPlan.l1] at H
     replace H:=gND H;rcases H with ⟨c24b0,H⟩ | ⟨c24b0,H⟩
     ·obtain rfl:=oi_ H
      go_wp2
      repeat (go_quiet (fail))
      go_ret
      exact ⟨zz0,zb⟩
     replace H:=gD H;obtain ⟨c25b0,H⟩:=H
     replace H:=gD H;obtain ⟨c26b0,H⟩:=H
     have H':=ak_ H
     clear H
     have p626:0<=(x53_2:Int):=oz_
     have q626:x53_2<(l3.length:Int):=oz_
     obtain ⟨ad626,e626,hx626_0,hx626_1,hx626_2⟩:=at_T40 HR3.out x53_2 p626 q626
     cases e626
     replace hx626_0:=zh_ HB hx626_0
     replace hx626_1:=zh_ HB hx626_1
     replace hx626_2:=zh_ HB hx626_2
     replace p626:=eq_true p626
     replace q626:=eq_true q626
     go_wp2_with (((with_reducible refine gate_dst (N:=13) rfl ?_);refine box_event ?hg (N:=13) ?hd (cs:=#[.int .i64 0,.int .i64 0,.int .i64 0]) (t:=40) ?hr ?_;(case hd=>rfl);(case hg=>rfl);(case hr=>(go_simp;done));intro gb627 hg w27 hbox hb;replace HO_9:=zSb HO_9 hb;have BK627:=ak_ (hbox);have GW627:=ak_ ((by rw [hg];exact (below_size zb):w.heap.size<=gb627));have GE627:=ak_ ((by rw [hg];exact (below_size zb):w.heap.size<=gb627));replace HB:=zb1 hb;clear hb hbox hg;obtain ⟨hcz28_0,hcz28_1,hcz28_2,hfz28_0,hfz28_1,hfz28_2⟩:=zk3 BK627.out))
     repeat (go_quiet (((with_reducible refine gate_dst (N:=13) rfl ?_);refine box_event ?hg (N:=13) ?hd (cs:=#[.int .i64 0,.int .i64 0,.int .i64 0]) (t:=40) ?hr ?_;(case hd=>rfl);(case hg=>rfl);(case hr=>(go_simp;done));intro gb627 hg w27 hbox hb;replace HO_9:=zSb HO_9 hb;have BK627:=ak_ (hbox);have GW627:=ak_ ((by rw [hg];exact (below_size zb):w.heap.size<=gb627));have GE627:=ak_ ((by rw [hg];exact (below_size zb):w.heap.size<=gb627));replace HB:=zb1 hb;clear hb hbox hg;obtain ⟨hcz28_0,hcz28_1,hcz28_2,hfz28_0,hfz28_1,hfz28_2⟩:=zk3 BK627.out)))
     go_loopg [60] k2 (fun kq v60 w'=>∃ (x60_3:Int),v60=.int .i64 x60_3/\Aside0 (impl_isPlan.l2 kq l0 l3 t619 x53_2 l3 (l3.length:Int) x53_2 l3 (l3.length:Int) x60_3 ((rd_T40 l3 x53_2).f0) ((rd_T40 l3 x53_2).f1) ((rd_T40 l3 x53_2).f2)=some r)/\Aside0 (kq<=k2)/\Aside0 (Kd.S (Kd.slice 4 Kd.bool) 82 w' w.heap.size (fun _=>True) v620 t619)/\Aside0 (w'.heap[gb627]?=some (.cells #[.int .i64 ((rd_T40 l3 x53_2).f0),.int .i64 ((rd_T40 l3 x53_2).f1),.int .i64 ((rd_T40 l3 x53_2).f2)] 40 (0,0)))/\Aside0 (Below w.heap.size w w'))
     case atStart=>exact ⟨(0),zo,H',⟨Nat.le_refl _⟩,⟨by (with_reducible repeat (apply Kd.S_alloc));exact Kd.S_mono (Kd.S_far (p:=⟨gb627,2,none⟩) (Kd.S_far (p:=⟨gb627,1,none⟩) (Kd.S_far (p:=⟨gb627,0,none⟩) (Kd.S_types HO_9.out BK627.out (by decide)) (fun _ hk=>hk.2) (.int .i64 ((rd_T40 l3 x53_2).f0))) (fun _ hk=>hk.2) (.int .i64 ((rd_T40 l3 x53_2).f1))) (fun _ hk=>hk.2) (.int .i64 ((rd_T40 l3 x53_2).f2))) (fun _ hk=>trivial)⟩,⟨by (with_reducible repeat (refine blk_drewN ?_ _));refine blk_put (cs:=#[.int .i64 ((rd_T40 l3 x53_2).f0),.int .i64 ((rd_T40 l3 x53_2).f1),.int .i64 0]) ?_ 2 _ rfl;(with_reducible repeat (refine blk_drewN ?_ _));refine blk_put (cs:=#[.int .i64 ((rd_T40 l3 x53_2).f0),.int .i64 0,.int .i64 0]) ?_ 1 _ rfl;(with_reducible repeat (refine blk_drewN ?_ _));refine blk_put (cs:=#[.int .i64 0,.int .i64 0,.int .i64 0]) ?_ 0 _ rfl;(with_reducible repeat (refine blk_drewN ?_ _));exact BK627.out⟩,⟨zz51⟩⟩
     case round=>
      clear H'
      obtain ⟨x60_3,rfl,HA,HK3,HO_9,BK627,HB⟩:=hrel
      cases gk with
      | zero=>exact absurd HA.out (by simp [impl_isPlan.l2])
      | succ k3=>
       have H:=HA.out
       clear HA
       simp only [impl_isPlan.l2] at H
       replace H:=gND H;rcases H with ⟨c29b0,H⟩ | ⟨c29b0,H⟩
       ·have H':=ak_ H
        clear H
        go_wp2
        repeat (go_quiet (fail))
        go_roundg k3
        case measure=>have:=HK1.out;have:=HK2.out;have:=HK3.out;omega
        case rel=>exact ⟨(wrap64 (x53_2 + 1)),zo,H',⟨zz61⟩,⟨zS HO_9.out⟩,⟨zz51⟩⟩
       replace H:=gD H;obtain ⟨c30b0,H⟩:=H
       replace H:=gD H;obtain ⟨c31b0,H⟩:=H
       replace H:=gD H;obtain ⟨c32b0,H⟩:=H
       replace H:=gD H;obtain ⟨c33b0,H⟩:=H
       have HC34:=ak_ H
       clear H
       have p628:0<=(x60_3:Int):=oz_
       have q628:x60_3<(l3.length:Int):=oz_
       obtain ⟨ad628,e628,hx628_0,hx628_1,hx628_2⟩:=at_T40 HR3.out x60_3 p628 q628
       obtain rfl:ad626=ad628:=(by injection e628)
       replace hx628_0:=zh_ HB hx628_0
       replace hx628_1:=zh_ HB hx628_1
       replace hx628_2:=zh_ HB hx628_2
       replace p628:=eq_true p628
       replace q628:=eq_true q628
       go_upto_region 17 with (((with_reducible refine gate_dst (N:=15) rfl ?_);refine box_event ?hg (N:=15) ?hd (cs:=#[.int .i64 0,.int .i64 0,.int .i64 0]) (t:=40) ?hr ?_;(case hd=>rfl);(case hg=>rfl);(case hr=>(go_simp;done));intro gb629 hg w35 hbox hb;replace HO_9:=zSb HO_9 hb;have BK629:=ak_ (hbox);have GW629:=ak_ ((by rw [hg];exact (below_size zz51):w.heap.size<=gb629));have GE629:=ak_ ((by rw [hg];exact (below_size zz51):w.heap.size<=gb629));replace HB:=ak_ (below_step zz51 hb);have NB627_629:=ak_ ((by rw [hg];exact Nat.ne_of_lt (blk_lt (g:=gb627) (o:=.cells #[.int .i64 ((rd_T40 l3 x53_2).f0),.int .i64 ((rd_T40 l3 x53_2).f1),.int .i64 ((rd_T40 l3 x53_2).f2)] 40 (0,0)) zz33):gb627≠gb629));have NB629_627:=ak_ ((by rw [hg];exact Nat.ne_of_gt (blk_lt (g:=gb627) (o:=.cells #[.int .i64 ((rd_T40 l3 x53_2).f0),.int .i64 ((rd_T40 l3 x53_2).f1),.int .i64 ((rd_T40 l3 x53_2).f2)] 40 (0,0)) zz33):gb629≠gb627));replace BK627:=ak_ (blk_below (g:=gb627) (o:=.cells #[.int .i64 ((rd_T40 l3 x53_2).f0),.int .i64 ((rd_T40 l3 x53_2).f1),.int .i64 ((rd_T40 l3 x53_2).f2)] 40 (0,0)) zz33 hb);clear hb hbox hg;have hnb36:=NB629_627.out;have hnc36:=NB627_629.out;obtain ⟨hcz37_0,hcz37_1,hcz37_2,hfz37_0,hfz37_1,hfz37_2⟩:=zk3 BK629.out;obtain ⟨hcz38_0,hcz38_1,hcz38_2,hfz38_0,hfz38_1,hfz38_2⟩:=zk3 BK627.out;have p630:0<=(x53_2:Int):=oz_;have q630:x53_2<(l0.length:Int):=oz_;obtain ⟨ad630,e630,hx630_0,hx630_1,hx630_2,hx630_3⟩:=at_T31 HR0.out x53_2 p630 q630;cases e630;have hn630_0:ad630.block≠gb629:=Nat.ne_of_lt (Nat.lt_of_lt_of_le zz56 GW629.out);have hn630_1:ad630.block≠gb629:=Nat.ne_of_lt (Nat.lt_of_lt_of_le zz56 GW629.out);have hn630_2:ad630.block≠gb629:=Nat.ne_of_lt (Nat.lt_of_lt_of_le zz56 GW629.out);replace hx630_0:=zh_ HB hx630_0;replace hx630_1:=zh_ HB hx630_1;replace hx630_2:=zh_ HB hx630_2;replace hx630_3:=zh_ HB hx630_3;replace hx630_0:=(cell_far (p:=⟨gb629,0,none⟩) zz45 (.int .i64 ((rd_T40 l3 x60_3).f0))).trans hx630_0;replace hx630_1:=(cell_far (p:=⟨gb629,0,none⟩) zz45 (.int .i64 ((rd_T40 l3 x60_3).f0))).trans hx630_1;replace hx630_2:=(cell_far (p:=⟨gb629,0,none⟩) zz45 (.int .i64 ((rd_T40 l3 x60_3).f0))).trans hx630_2;replace hx630_3:=(cell_far (p:=⟨gb629,0,none⟩) zz45 (.int .i64 ((rd_T40 l3 x60_3).f0))).trans hx630_3;replace hx630_0:=(cell_far (p:=⟨gb629,1,none⟩) zz46 (.int .i64 ((rd_T40 l3 x60_3).f1))).trans hx630_0;replace hx630_1:=(cell_far (p:=⟨gb629,1,none⟩) zz46 (.int .i64 ((rd_T40 l3 x60_3).f1))).trans hx630_1;replace hx630_2:=(cell_far (p:=⟨gb629,1,none⟩) zz46 (.int .i64 ((rd_T40 l3 x60_3).f1))).trans hx630_2;replace hx630_3:=(cell_far (p:=⟨gb629,1,none⟩) zz46 (.int .i64 ((rd_T40 l3 x60_3).f1))).trans hx630_3;replace hx630_0:=(cell_far (p:=⟨gb629,2,none⟩) zz47 (.int .i64 ((rd_T40 l3 x60_3).f2))).trans hx630_0;replace hx630_1:=(cell_far (p:=⟨gb629,2,none⟩) zz47 (.int .i64 ((rd_T40 l3 x60_3).f2))).trans hx630_1;replace hx630_2:=(cell_far (p:=⟨gb629,2,none⟩) zz47 (.int .i64 ((rd_T40 l3 x60_3).f2))).trans hx630_2;replace hx630_3:=(cell_far (p:=⟨gb629,2,none⟩) zz47 (.int .i64 ((rd_T40 l3 x60_3).f2))).trans hx630_3;(try have hy630_0:=fun (n_:Nat)=>(show (((((w35.drewN n_).setCell ⟨gb629,0,none⟩ (.int .i64 ((rd_T40 l3 x60_3).f0))).setCell ⟨gb629,1,none⟩ (.int .i64 ((rd_T40 l3 x60_3).f1))).setCell ⟨gb629,2,none⟩ (.int .i64 ((rd_T40 l3 x60_3).f2)))).cell? _=some _ from hx630_0));(try have hy630_1:=fun (n_:Nat)=>(show (((((w35.drewN n_).setCell ⟨gb629,0,none⟩ (.int .i64 ((rd_T40 l3 x60_3).f0))).setCell ⟨gb629,1,none⟩ (.int .i64 ((rd_T40 l3 x60_3).f1))).setCell ⟨gb629,2,none⟩ (.int .i64 ((rd_T40 l3 x60_3).f2)))).cell? _=some _ from hx630_1));(try have hy630_2:=fun (n_:Nat)=>(show (((((w35.drewN n_).setCell ⟨gb629,0,none⟩ (.int .i64 ((rd_T40 l3 x60_3).f0))).setCell ⟨gb629,1,none⟩ (.int .i64 ((rd_T40 l3 x60_3).f1))).setCell ⟨gb629,2,none⟩ (.int .i64 ((rd_T40 l3 x60_3).f2)))).cell? _=some _ from hx630_2));(try have hy630_3:=fun (n_:Nat)=>(show (((((w35.drewN n_).setCell ⟨gb629,0,none⟩ (.int .i64 ((rd_T40 l3 x60_3).f0))).setCell ⟨gb629,1,none⟩ (.int .i64 ((rd_T40 l3 x60_3).f1))).setCell ⟨gb629,2,none⟩ (.int .i64 ((rd_T40 l3 x60_3).f2)))).cell? _=some _ from hx630_3));clear hn630_0;clear hn630_1;clear hn630_2;replace p630:=eq_true p630;replace q630:=eq_true q630))
       repeat (go_quiet (((with_reducible refine gate_dst (N:=15) rfl ?_);refine box_event ?hg (N:=15) ?hd (cs:=#[.int .i64 0,.int .i64 0,.int .i64 0]) (t:=40) ?hr ?_;(case hd=>rfl);(case hg=>rfl);(case hr=>(go_simp;done));intro gb629 hg w35 hbox hb;replace HO_9:=zSb HO_9 hb;have BK629:=ak_ (hbox);have GW629:=ak_ ((by rw [hg];exact (below_size zz51):w.heap.size<=gb629));have GE629:=ak_ ((by rw [hg];exact (below_size zz51):w.heap.size<=gb629));replace HB:=ak_ (below_step zz51 hb);have NB627_629:=ak_ ((by rw [hg];exact Nat.ne_of_lt (blk_lt (g:=gb627) (o:=.cells #[.int .i64 ((rd_T40 l3 x53_2).f0),.int .i64 ((rd_T40 l3 x53_2).f1),.int .i64 ((rd_T40 l3 x53_2).f2)] 40 (0,0)) zz33):gb627≠gb629));have NB629_627:=ak_ ((by rw [hg];exact Nat.ne_of_gt (blk_lt (g:=gb627) (o:=.cells #[.int .i64 ((rd_T40 l3 x53_2).f0),.int .i64 ((rd_T40 l3 x53_2).f1),.int .i64 ((rd_T40 l3 x53_2).f2)] 40 (0,0)) zz33):gb629≠gb627));replace BK627:=ak_ (blk_below (g:=gb627) (o:=.cells #[.int .i64 ((rd_T40 l3 x53_2).f0),.int .i64 ((rd_T40 l3 x53_2).f1),.int .i64 ((rd_T40 l3 x53_2).f2)] 40 (0,0)) zz33 hb);clear hb hbox hg;have hnb36:=NB629_627.out;have hnc36:=NB627_629.out;obtain ⟨hcz37_0,hcz37_1,hcz37_2,hfz37_0,hfz37_1,hfz37_2⟩:=zk3 BK629.out;obtain ⟨hcz38_0,hcz38_1,hcz38_2,hfz38_0,hfz38_1,hfz38_2⟩:=zk3 BK627.out;have p630:0<=(x53_2:Int):=oz_;have q630:x53_2<(l0.length:Int):=oz_;obtain ⟨ad630,e630,hx630_0,hx630_1,hx630_2,hx630_3⟩:=at_T31 HR0.out x53_2 p630 q630;cases e630;have hn630_0:ad630.block≠gb629:=Nat.ne_of_lt (Nat.lt_of_lt_of_le zz56 GW629.out);have hn630_1:ad630.block≠gb629:=Nat.ne_of_lt (Nat.lt_of_lt_of_le zz56 GW629.out);have hn630_2:ad630.block≠gb629:=Nat.ne_of_lt (Nat.lt_of_lt_of_le zz56 GW629.out);replace hx630_0:=zh_ HB hx630_0;replace hx630_1:=zh_ HB hx630_1;replace hx630_2:=zh_ HB hx630_2;replace hx630_3:=zh_ HB hx630_3;replace hx630_0:=(cell_far (p:=⟨gb629,0,none⟩) zz45 (.int .i64 ((rd_T40 l3 x60_3).f0))).trans hx630_0;replace hx630_1:=(cell_far (p:=⟨gb629,0,none⟩) zz45 (.int .i64 ((rd_T40 l3 x60_3).f0))).trans hx630_1;replace hx630_2:=(cell_far (p:=⟨gb629,0,none⟩) zz45 (.int .i64 ((rd_T40 l3 x60_3).f0))).trans hx630_2;replace hx630_3:=(cell_far (p:=⟨gb629,0,none⟩) zz45 (.int .i64 ((rd_T40 l3 x60_3).f0))).trans hx630_3;replace hx630_0:=(cell_far (p:=⟨gb629,1,none⟩) zz46 (.int .i64 ((rd_T40 l3 x60_3).f1))).trans hx630_0;replace hx630_1:=(cell_far (p:=⟨gb629,1,none⟩) zz46 (.int .i64 ((rd_T40 l3 x60_3).f1))).trans hx630_1;replace hx630_2:=(cell_far (p:=⟨gb629,1,none⟩) zz46 (.int .i64 ((rd_T40 l3 x60_3).f1))).trans hx630_2;replace hx630_3:=(cell_far (p:=⟨gb629,1,none⟩) zz46 (.int .i64 ((rd_T40 l3 x60_3).f1))).trans hx630_3;replace hx630_0:=(cell_far (p:=⟨gb629,2,none⟩) zz47 (.int .i64 ((rd_T40 l3 x60_3).f2))).trans hx630_0;replace hx630_1:=(cell_far (p:=⟨gb629,2,none⟩) zz47 (.int .i64 ((rd_T40 l3 x60_3).f2))).trans hx630_1;replace hx630_2:=(cell_far (p:=⟨gb629,2,none⟩) zz47 (.int .i64 ((rd_T40 l3 x60_3).f2))).trans hx630_2;replace hx630_3:=(cell_far (p:=⟨gb629,2,none⟩) zz47 (.int .i64 ((rd_T40 l3 x60_3).f2))).trans hx630_3;clear hn630_0;clear hn630_1;clear hn630_2;replace p630:=eq_true p630;replace q630:=eq_true q630));go_upto_region 17 with (((with_reducible refine gate_dst (N:=15) rfl ?_);refine box_event ?hg (N:=15) ?hd (cs:=#[.int .i64 0,.int .i64 0,.int .i64 0]) (t:=40) ?hr ?_;(case hd=>rfl);(case hg=>rfl);(case hr=>(go_simp;done));intro gb629 hg w35 hbox hb;replace HO_9:=zSb HO_9 hb;have BK629:=ak_ (hbox);have GW629:=ak_ ((by rw [hg];exact (below_size zz51):w.heap.size<=gb629));have GE629:=ak_ ((by rw [hg];exact (below_size zz51):w.heap.size<=gb629));replace HB:=ak_ (below_step zz51 hb);have NB627_629:=ak_ ((by rw [hg];exact Nat.ne_of_lt (blk_lt (g:=gb627) (o:=.cells #[.int .i64 ((rd_T40 l3 x53_2).f0),.int .i64 ((rd_T40 l3 x53_2).f1),.int .i64 ((rd_T40 l3 x53_2).f2)] 40 (0,0)) zz33):gb627≠gb629));have NB629_627:=ak_ ((by rw [hg];exact Nat.ne_of_gt (blk_lt (g:=gb627) (o:=.cells #[.int .i64 ((rd_T40 l3 x53_2).f0),.int .i64 ((rd_T40 l3 x53_2).f1),.int .i64 ((rd_T40 l3 x53_2).f2)] 40 (0,0)) zz33):gb629≠gb627));replace BK627:=ak_ (blk_below (g:=gb627) (o:=.cells #[.int .i64 ((rd_T40 l3 x53_2).f0),.int .i64 ((rd_T40 l3 x53_2).f1),.int .i64 ((rd_T40 l3 x53_2).f2)] 40 (0,0)) zz33 hb);clear hb hbox hg;have hnb36:=NB629_627.out;have hnc36:=NB627_629.out;obtain ⟨hcz37_0,hcz37_1,hcz37_2,hfz37_0,hfz37_1,hfz37_2⟩:=zk3 BK629.out;obtain ⟨hcz38_0,hcz38_1,hcz38_2,hfz38_0,hfz38_1,hfz38_2⟩:=zk3 BK627.out;have p630:0<=(x53_2:Int):=oz_;have q630:x53_2<(l0.length:Int):=oz_;obtain ⟨ad630,e630,hx630_0,hx630_1,hx630_2,hx630_3⟩:=at_T31 HR0.out x53_2 p630 q630;cases e630;have hn630_0:ad630.block≠gb629:=Nat.ne_of_lt (Nat.lt_of_lt_of_le zz56 GW629.out);have hn630_1:ad630.block≠gb629:=Nat.ne_of_lt (Nat.lt_of_lt_of_le zz56 GW629.out);have hn630_2:ad630.block≠gb629:=Nat.ne_of_lt (Nat.lt_of_lt_of_le zz56 GW629.out);replace hx630_0:=zh_ HB hx630_0;replace hx630_1:=zh_ HB hx630_1;replace hx630_2:=zh_ HB hx630_2;replace hx630_3:=zh_ HB hx630_3;replace hx630_0:=(cell_far (p:=⟨gb629,0,none⟩) zz45 (.int .i64 ((rd_T40 l3 x60_3).f0))).trans hx630_0;replace hx630_1:=(cell_far (p:=⟨gb629,0,none⟩) zz45 (.int .i64 ((rd_T40 l3 x60_3).f0))).trans hx630_1;replace hx630_2:=(cell_far (p:=⟨gb629,0,none⟩) zz45 (.int .i64 ((rd_T40 l3 x60_3).f0))).trans hx630_2;replace hx630_3:=(cell_far (p:=⟨gb629,0,none⟩) zz45 (.int .i64 ((rd_T40 l3 x60_3).f0))).trans hx630_3;replace hx630_0:=(cell_far (p:=⟨gb629,1,none⟩) zz46 (.int .i64 ((rd_T40 l3 x60_3).f1))).trans hx630_0;replace hx630_1:=(cell_far (p:=⟨gb629,1,none⟩) zz46 (.int .i64 ((rd_T40 l3 x60_3).f1))).trans hx630_1;replace hx630_2:=(cell_far (p:=⟨gb629,1,none⟩) zz46 (.int .i64 ((rd_T40 l3 x60_3).f1))).trans hx630_2;replace hx630_3:=(cell_far (p:=⟨gb629,1,none⟩) zz46 (.int .i64 ((rd_T40 l3 x60_3).f1))).trans hx630_3;replace hx630_0:=(cell_far (p:=⟨gb629,2,none⟩) zz47 (.int .i64 ((rd_T40 l3 x60_3).f2))).trans hx630_0;replace hx630_1:=(cell_far (p:=⟨gb629,2,none⟩) zz47 (.int .i64 ((rd_T40 l3 x60_3).f2))).trans hx630_1;replace hx630_2:=(cell_far (p:=⟨gb629,2,none⟩) zz47 (.int .i64 ((rd_T40 l3 x60_3).f2))).trans hx630_2;replace hx630_3:=(cell_far (p:=⟨gb629,2,none⟩) zz47 (.int .i64 ((rd_T40 l3 x60_3).f2))).trans hx630_3;clear hn630_0;clear hn630_1;clear hn630_2;replace p630:=eq_true p630;replace q630:=eq_true q630)))
       go_cut [86] (fun v86 wc=>∃ (kq:Nat) (x86_33:Bool),v86=.bool x86_33/\Aside0 (impl_isPlan.j3 kq l0 l3 t619 x53_2 x60_3 (decide ((wrap64 (((rd_T40 l3 x53_2).f2) + ((rd_T31 l0 x53_2).f0)))<=((rd_T40 l3 x60_3).f2))) l3 (l3.length:Int) x53_2 l3 (l3.length:Int) x60_3 x86_33 ((rd_T40 l3 x53_2).f0) ((rd_T40 l3 x53_2).f1) ((rd_T40 l3 x53_2).f2) ((rd_T40 l3 x60_3).f0) ((rd_T40 l3 x60_3).f1) ((rd_T40 l3 x60_3).f2)=some r)/\Aside0 (kq<=k3)/\Aside0 (Kd.S (Kd.slice 4 Kd.bool) 82 wc w.heap.size (fun _=>True) v620 t619)/\Aside0 (wc.heap[gb627]?=some (.cells #[.int .i64 ((rd_T40 l3 x53_2).f0),.int .i64 ((rd_T40 l3 x53_2).f1),.int .i64 ((rd_T40 l3 x53_2).f2)] 40 (0,0)))/\Aside0 (wc.heap[gb629]?=some (.cells #[.int .i64 ((rd_T40 l3 x60_3).f0),.int .i64 ((rd_T40 l3 x60_3).f1),.int .i64 ((rd_T40 l3 x60_3).f2)] 40 (0,0)))/\Aside0 (Below w.heap.size w wc))
       case first=>
        have H:=HC34.out
        clear HC34
        replace H:=gD H;obtain ⟨c39b0,H⟩:=H
        replace H:=gD H;obtain ⟨c40b0,H⟩:=H
        obtain ⟨bq41,hbq41⟩:∃ b_:Bool,b_=(rdOf false (rd_L4 t619 x53_2) x60_3):=⟨_,rfl⟩
        replace H:(if bq41=true then (impl_isPlan.j3 k3 l0 l3 t619 x53_2 x60_3 (decide ((wrap64 (((rd_T40 l3 x53_2).f2) + ((rd_T31 l0 x53_2).f0)))<=((rd_T40 l3 x60_3).f2))) l3 (l3.length:Int) x53_2 l3 (l3.length:Int) x60_3 (!(decide ((wrap64 (((rd_T40 l3 x53_2).f2) + ((rd_T31 l0 x53_2).f0)))<=((rd_T40 l3 x60_3).f2)))) ((rd_T40 l3 x53_2).f0) ((rd_T40 l3 x53_2).f1) ((rd_T40 l3 x53_2).f2) ((rd_T40 l3 x60_3).f0) ((rd_T40 l3 x60_3).f1) ((rd_T40 l3 x60_3).f2)) else (impl_isPlan.j3 k3 l0 l3 t619 x53_2 x60_3 (decide ((wrap64 (((rd_T40 l3 x53_2).f2) + ((rd_T31 l0 x53_2).f0)))<=((rd_T40 l3 x60_3).f2))) l3 (l3.length:Int) x53_2 l3 (l3.length:Int) x60_3 false ((rd_T40 l3 x53_2).f0) ((rd_T40 l3 x53_2).f1) ((rd_T40 l3 x53_2).f2) ((rd_T40 l3 x60_3).f0) ((rd_T40 l3 x60_3).f1) ((rd_T40 l3 x60_3).f2)))=some r:=by rw [<-hbq41] at H;exact H
        have Nbq41:=ak_ hbq41
        clear hbq41
        replace H:=gNB H;rcases H with ⟨rfl,H⟩ | ⟨rfl,H⟩
        ·have H':=ak_ H
         clear H
         obtain ⟨Ao44,co44,eo44⟩:=Kd.S_slice HO_9.out
         subst eo44
         have p631:0<=(x53_2:Int):=oz_
         have q631:x53_2<(t619.length:Int):=oz_
         obtain ⟨ad631,A631_0,c631_0,e631,hx631_0,hl631_0,hi631_0⟩:=at_L4 (Kd.S_reads' HO_9.out).2.2 x53_2 p631 q631
         cases e631
         obtain ⟨ce631,hce631,hMe631,hcc631⟩:=Kd.S_get HO_9.out [] x53_2 p631 (by exact q631)
         obtain ⟨ve631_0,rfl,ge631_0⟩:=hMe631
         have hv631_0:=hcc631 0 _ rfl
         rw [Nat.add_zero,show ((Kd.slice 4 Kd.bool)).sz=1 from rfl,Nat.mul_one] at hv631_0
         replace hv631_0:=oi_ (hv631_0.symm.trans hx631_0)
         rw [hv631_0] at ge631_0
         have HL631_0:=ak_ (show Kd.R Kd.bool 4 _ _ _ _ (rd_L4 t619 x53_2) from ge631_0)
         clear hv631_0 ge631_0
         clear hcc631 hce631
         have hn631_0:ad631.block≠gb629:=Kd.own_blk (Kd.S_ne HO_9.out BK629.out (by decide))
         have hn631_1:ad631.block≠gb629:=Kd.own_blk (Kd.S_ne HO_9.out BK629.out (by decide))
         have hn631_2:ad631.block≠gb629:=Kd.own_blk (Kd.S_ne HO_9.out BK629.out (by decide))
         have HR631_0:=ak_ hi631_0
         have HC631_0:=ak_ hl631_0
         clear hi631_0 hl631_0
         replace hx631_0:=(cell_far (p:=⟨gb629,0,none⟩) (by (rw [add_block];exact hn631_0)) (.int .i64 ((rd_T40 l3 x60_3).f0))).trans hx631_0
         replace hx631_0:=(cell_far (p:=⟨gb629,1,none⟩) (by (rw [add_block];exact hn631_1)) (.int .i64 ((rd_T40 l3 x60_3).f1))).trans hx631_0
         replace hx631_0:=(cell_far (p:=⟨gb629,2,none⟩) (by (rw [add_block];exact hn631_2)) (.int .i64 ((rd_T40 l3 x60_3).f2))).trans hx631_0
         (try have hy631_0:=fun (n_:Nat)=>(show (((((w35.drewN n_).setCell ⟨gb629,0,none⟩ (.int .i64 ((rd_T40 l3 x60_3).f0))).setCell ⟨gb629,1,none⟩ (.int .i64 ((rd_T40 l3 x60_3).f1))).setCell ⟨gb629,2,none⟩ (.int .i64 ((rd_T40 l3 x60_3).f2)))).cell? _=some _ from hx631_0))
         clear hn631_0
         clear hn631_1
         clear hn631_2
         replace p631:=eq_true p631
         replace q631:=eq_true q631
         have p632:0<=(x60_3:Int):=oz_
         have q632:x60_3<((rd_L4 t619 x53_2).length:Int):=oz_
         obtain ⟨ad632,e632,hx632_0⟩:=Kd.at_bool ((Kd.R_reads' (Kd.R_far (p:=⟨gb629,2,none⟩) (Kd.R_far (p:=⟨gb629,1,none⟩) (Kd.R_far (p:=⟨gb629,0,none⟩) (Kd.R_types HL631_0.out BK629.out (by decide)) (fun _ hk=>hk.2) (.int .i64 ((rd_T40 l3 x60_3).f0))) (fun _ hk=>hk.2) (.int .i64 ((rd_T40 l3 x60_3).f1))) (fun _ hk=>hk.2) (.int .i64 ((rd_T40 l3 x60_3).f2)))).2.2) x60_3 p632 q632
         (try rw [<-Nbq41.out] at hx632_0)
         cases e632
         (try have hy632_0:=fun (n_:Nat)=>(show (((((w35.drewN n_).setCell ⟨gb629,0,none⟩ (.int .i64 ((rd_T40 l3 x60_3).f0))).setCell ⟨gb629,1,none⟩ (.int .i64 ((rd_T40 l3 x60_3).f1))).setCell ⟨gb629,2,none⟩ (.int .i64 ((rd_T40 l3 x60_3).f2)))).cell? _=some _ from hx632_0))
         replace p632:=eq_true p632
         replace q632:=eq_true q632
         go_wp2
         repeat (go_quiet (fail))
         go_meet
         case rel=>exact ⟨_,(false),zo,H',⟨by have:=HK1.out;have:=HK2.out;have:=HK3.out;omega⟩,⟨zz97⟩,⟨zz98⟩,⟨zz99⟩,⟨zz63⟩⟩
        have H':=ak_ H
        clear H
        obtain ⟨Ao43,co43,eo43⟩:=Kd.S_slice HO_9.out
        subst eo43
        have p631:0<=(x53_2:Int):=oz_
        have q631:x53_2<(t619.length:Int):=oz_
        obtain ⟨ad631,A631_0,c631_0,e631,hx631_0,hl631_0,hi631_0⟩:=at_L4 (Kd.S_reads' HO_9.out).2.2 x53_2 p631 q631
        cases e631
        obtain ⟨ce631,hce631,hMe631,hcc631⟩:=Kd.S_get HO_9.out [] x53_2 p631 (by exact q631)
        obtain ⟨ve631_0,rfl,ge631_0⟩:=hMe631
        have hv631_0:=hcc631 0 _ rfl
        rw [Nat.add_zero,show ((Kd.slice 4 Kd.bool)).sz=1 from rfl,Nat.mul_one] at hv631_0
        replace hv631_0:=oi_ (hv631_0.symm.trans hx631_0)
        rw [hv631_0] at ge631_0
        have HL631_0:=ak_ (show Kd.R Kd.bool 4 _ _ _ _ (rd_L4 t619 x53_2) from ge631_0)
        clear hv631_0 ge631_0
        clear hcc631 hce631
        have hn631_0:ad631.block≠gb629:=Kd.own_blk (Kd.S_ne HO_9.out BK629.out (by decide))
        have hn631_1:ad631.block≠gb629:=Kd.own_blk (Kd.S_ne HO_9.out BK629.out (by decide))
        have hn631_2:ad631.block≠gb629:=Kd.own_blk (Kd.S_ne HO_9.out BK629.out (by decide))
        have HR631_0:=ak_ hi631_0
        have HC631_0:=ak_ hl631_0
        clear hi631_0 hl631_0
        replace hx631_0:=(cell_far (p:=⟨gb629,0,none⟩) (by (rw [add_block];exact hn631_0)) (.int .i64 ((rd_T40 l3 x60_3).f0))).trans hx631_0
        replace hx631_0:=(cell_far (p:=⟨gb629,1,none⟩) (by (rw [add_block];exact hn631_1)) (.int .i64 ((rd_T40 l3 x60_3).f1))).trans hx631_0
        replace hx631_0:=(cell_far (p:=⟨gb629,2,none⟩) (by (rw [add_block];exact hn631_2)) (.int .i64 ((rd_T40 l3 x60_3).f2))).trans hx631_0
        (try have hy631_0:=fun (n_:Nat)=>(show (((((w35.drewN n_).setCell ⟨gb629,0,none⟩ (.int .i64 ((rd_T40 l3 x60_3).f0))).setCell ⟨gb629,1,none⟩ (.int .i64 ((rd_T40 l3 x60_3).f1))).setCell ⟨gb629,2,none⟩ (.int .i64 ((rd_T40 l3 x60_3).f2)))).cell? _=some _ from hx631_0))
        clear hn631_0
        clear hn631_1
        clear hn631_2
        replace p631:=eq_true p631
        replace q631:=eq_true q631
        have p632:0<=(x60_3:Int):=oz_
        have q632:x60_3<((rd_L4 t619 x53_2).length:Int):=oz_
        obtain ⟨ad632,e632,hx632_0⟩:=Kd.at_bool ((Kd.R_reads' (Kd.R_far (p:=⟨gb629,2,none⟩) (Kd.R_far (p:=⟨gb629,1,none⟩) (Kd.R_far (p:=⟨gb629,0,none⟩) (Kd.R_types HL631_0.out BK629.out (by decide)) (fun _ hk=>hk.2) (.int .i64 ((rd_T40 l3 x60_3).f0))) (fun _ hk=>hk.2) (.int .i64 ((rd_T40 l3 x60_3).f1))) (fun _ hk=>hk.2) (.int .i64 ((rd_T40 l3 x60_3).f2)))).2.2) x60_3 p632 q632
        (try rw [<-Nbq41.out] at hx632_0)
        cases e632
        (try have hy632_0:=fun (n_:Nat)=>(show (((((w35.drewN n_).setCell ⟨gb629,0,none⟩ (.int .i64 ((rd_T40 l3 x60_3).f0))).setCell ⟨gb629,1,none⟩ (.int .i64 ((rd_T40 l3 x60_3).f1))).setCell ⟨gb629,2,none⟩ (.int .i64 ((rd_T40 l3 x60_3).f2)))).cell? _=some _ from hx632_0))
        replace p632:=eq_true p632
        replace q632:=eq_true q632
        go_wp2
        repeat (go_quiet (fail))
        go_meet
        case rel=>exact ⟨_,(!(decide ((wrap64 (((rd_T40 l3 x53_2).f2) + ((rd_T31 l0 x53_2).f0)))<=((rd_T40 l3 x60_3).f2)))),zo,H',⟨by have:=HK1.out;have:=HK2.out;have:=HK3.out;omega⟩,⟨zz97⟩,⟨zz98⟩,⟨zz99⟩,⟨zz63⟩⟩
       case rest=>
        clear HC34
        obtain ⟨kq,x86_33,rfl,HA,HJ33,HO_9,BK627,BK629,HB⟩:=hcut
        cases kq with
        | zero=>exact absurd HA.out (by simp [impl_isPlan.j3])
        | succ kj33=>
         have H:=HA.out
         clear HA
         simp only [impl_isPlan.j3] at H
         replace H:=gPB H;rcases H with ⟨rfl,H⟩ | ⟨rfl,H⟩
         ·obtain rfl:=oi_ H
          go_wp2
          repeat (go_quiet (fail))
          go_ret
          exact ⟨zz0,zz63⟩
         replace H:=gP H;rcases H with ⟨c46,H⟩ | ⟨c46,H⟩
         ·have c46b0:(x53_2 == x60_3)=true:=beq_iff_eq.mpr c46
          have c46b1:(x53_2 != x60_3)=false:=bne_eq_false_iff_eq.mpr c46
          clear c46
          have H':=ak_ H
          clear H
          go_wp2
          repeat (go_quiet (fail);try go_wp2)
          go_roundg kj33
          case measure=>have:=HK1.out;have:=HK2.out;have:=HK3.out;have:=HJ33.out;omega
          case rel=>exact ⟨(wrap64 (x60_3 + 1)),zo,H',⟨zz83⟩,⟨zS HO_9.out⟩,⟨zz33⟩,⟨zz63⟩⟩
         have c46b0:(x53_2 == x60_3)=false:=beq_eq_false_iff_ne.mpr c46
         have c46b1:(x53_2 != x60_3)=true:=bne_iff_ne.mpr c46
         replace H:=gN H;rcases H with ⟨c47,H⟩ | ⟨c47,H⟩
         ·have c47b0:(((rd_T40 l3 x53_2).f1) == ((rd_T40 l3 x60_3).f1))=false:=beq_eq_false_iff_ne.mpr c47
          have c47b1:(((rd_T40 l3 x53_2).f1) != ((rd_T40 l3 x60_3).f1))=true:=bne_iff_ne.mpr c47
          have H':=ak_ H
          clear H
          have hnb61:=NB627_629.out
          have hnc61:=NB629_627.out
          obtain ⟨hcz62_0,hcz62_1,hcz62_2,hfz62_0,hfz62_1,hfz62_2⟩:=zk3 BK627.out
          obtain ⟨hcz63_0,hcz63_1,hcz63_2,hfz63_0,hfz63_1,hfz63_2⟩:=zk3 BK629.out
          go_wp2
          repeat (go_quiet (fail);try go_wp2)
          go_roundg kj33
          case measure=>have:=HK1.out;have:=HK2.out;have:=HK3.out;have:=HJ33.out;omega
          case rel=>exact ⟨(wrap64 (x60_3 + 1)),zo,H',⟨zz83⟩,⟨zS HO_9.out⟩,⟨zz33⟩,⟨zz63⟩⟩
         have c47b0:(((rd_T40 l3 x53_2).f1) == ((rd_T40 l3 x60_3).f1))=true:=beq_iff_eq.mpr c47
         have c47b1:(((rd_T40 l3 x53_2).f1) != ((rd_T40 l3 x60_3).f1))=false:=bne_eq_false_iff_eq.mpr c47
         clear c47
         replace H:=gP H;rcases H with ⟨c48,H⟩ | ⟨c48,H⟩
         ·have c48b0:(decide ((wrap64 (((rd_T40 l3 x53_2).f2) + ((rd_T31 l0 x53_2).f0)))<=((rd_T40 l3 x60_3).f2)))=true:=c48
          clear c48
          have H':=ak_ H
          clear H
          have hnb49:=NB627_629.out
          have hnc49:=NB629_627.out
          obtain ⟨hcz50_0,hcz50_1,hcz50_2,hfz50_0,hfz50_1,hfz50_2⟩:=zk3 BK627.out
          obtain ⟨hcz51_0,hcz51_1,hcz51_2,hfz51_0,hfz51_1,hfz51_2⟩:=zk3 BK629.out
          go_wp2
          repeat (go_quiet (fail);try go_wp2)
          go_roundg kj33
          case measure=>have:=HK1.out;have:=HK2.out;have:=HK3.out;have:=HJ33.out;omega
          case rel=>exact ⟨(wrap64 (x60_3 + 1)),zo,H',⟨zz83⟩,⟨zS HO_9.out⟩,⟨zz33⟩,⟨zz63⟩⟩
         have c48b0:(decide ((wrap64 (((rd_T40 l3 x53_2).f2) + ((rd_T31 l0 x53_2).f0)))<=((rd_T40 l3 x60_3).f2)))=false:=by simpa using c48
         clear c48
         replace H:=gD H;obtain ⟨c52b0,H⟩:=H
         replace H:=gD H;obtain ⟨c53b0,H⟩:=H
         replace H:=gPD H;rcases H with ⟨c54b0,H⟩ | ⟨c54b0,H⟩
         ·obtain rfl:=oi_ H
          have hnb55:=NB627_629.out
          have hnc55:=NB629_627.out
          obtain ⟨hcz56_0,hcz56_1,hcz56_2,hfz56_0,hfz56_1,hfz56_2⟩:=zk3 BK627.out
          obtain ⟨hcz57_0,hcz57_1,hcz57_2,hfz57_0,hfz57_1,hfz57_2⟩:=zk3 BK629.out
          have p633:0<=(x60_3:Int):=oz_
          have q633:x60_3<(l0.length:Int):=oz_
          obtain ⟨ad633,e633,hx633_0,hx633_1,hx633_2,hx633_3⟩:=at_T31 HR0.out x60_3 p633 q633
          obtain rfl:ad630=ad633:=(by injection e633)
          replace hx633_0:=zh_ HB hx633_0
          replace hx633_1:=zh_ HB hx633_1
          replace hx633_2:=zh_ HB hx633_2
          replace hx633_3:=zh_ HB hx633_3
          replace p633:=eq_true p633
          replace q633:=eq_true q633
          go_wp2
          repeat (go_quiet (fail);try go_wp2)
          go_ret
          exact ⟨zz0,zz63⟩
         have H':=ak_ H
         clear H
         have hnb58:=NB627_629.out
         have hnc58:=NB629_627.out
         obtain ⟨hcz59_0,hcz59_1,hcz59_2,hfz59_0,hfz59_1,hfz59_2⟩:=zk3 BK627.out
         obtain ⟨hcz60_0,hcz60_1,hcz60_2,hfz60_0,hfz60_1,hfz60_2⟩:=zk3 BK629.out
         have p633:0<=(x60_3:Int):=oz_
         have q633:x60_3<(l0.length:Int):=oz_
         obtain ⟨ad633,e633,hx633_0,hx633_1,hx633_2,hx633_3⟩:=at_T31 HR0.out x60_3 p633 q633
         obtain rfl:ad630=ad633:=(by injection e633)
         replace hx633_0:=zh_ HB hx633_0
         replace hx633_1:=zh_ HB hx633_1
         replace hx633_2:=zh_ HB hx633_2
         replace hx633_3:=zh_ HB hx633_3
         replace p633:=eq_true p633
         replace q633:=eq_true q633
         go_wp2
         repeat (go_quiet (fail);try go_wp2)
         go_roundg kj33
         case measure=>have:=HK1.out;have:=HK2.out;have:=HK3.out;have:=HJ33.out;omega
         case rel=>exact ⟨(wrap64 (x60_3 + 1)),zo,H',⟨zz83⟩,⟨zS HO_9.out⟩,⟨zz33⟩,⟨zz63⟩⟩
