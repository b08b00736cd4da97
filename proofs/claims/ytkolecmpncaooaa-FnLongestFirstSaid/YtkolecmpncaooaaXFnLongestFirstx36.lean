-- Words and walks of this claim.
import Derived.Test.YtkolecmpncaooaaXFnLongestFirstx12
import Derived.Test.YtkolecmpncaooaaXFnLongestFirstx24
import Derived.Test.YtkolecmpncaooaaXFnLongestFirstx27
import Derived.Test.YtkolecmpncaooaaXFnLongestFirstx31
import Derived.Test.YtkolecmpncaooaaXFnLongestFirstx35
namespace Go.Proofs.Ytkolecmpncaooaa.XFnLongestFirst
open Go.RowKit Go.Proofs.YtkolecmpncaooaaW.PrintWords Go.Proofs.YtkolecmpncaooaaW.PrintLast Go.Proofs.YtkolecmpncaooaaW.PrintMore
attribute [local go_sem] max2_int min2_int max_two min_two max_three min_three max_four min_four
attribute [local go_sem] idxA_51_0 idxA_51_1 fldS_45_0 fldS_45_1 fldS_45_2 fldS_96_0 fldS_96_1 fldS_96_2
set_option linter.unusedVariables false
set_option linter.unusedSimpArgs false
mutual
def laws_FnLongestFirst.j0:Nat->List (S31)->Int->List (S40)->Bool->Int->Int->Bool->Option (Bool)
 | 0,_,_,_,_,_,_,_=>none
 | k + 1,x3,x4,x5,x6,x9,x13,x99=>if x99=true then (some false) else (if x6=true then ((some (([]:List (S51)):List (S51))).bind fun y700=>((impl_PlanLength.f k x3 x4 y700 x5).bind fun bt703=>((impl_LengthBound.f k x3 x4 y700).bind fun bt705=>(if bt703.1<x9 then (laws_FnLongestFirst.j1 k x3 x4 x5 x9 x13 y700 true) else (if x9<bt705.1 then (laws_FnLongestFirst.j1 k x3 x4 x5 x9 x13 y700 true) else (laws_FnLongestFirst.j1 k x3 x4 x5 x9 x13 y700 (decide ((wrap64 ((wrap64 (3 * x4)) * bt703.1))>(wrap64 ((wrap64 ((wrap64 (4 * x4)) - 1)) * x9)))))))))) else (some true))
def laws_FnLongestFirst.j1:Nat->List (S31)->Int->List (S40)->Int->Int->List (S51)->Bool->Option (Bool)
 | 0,_,_,_,_,_,_,_=>none
 | k + 1,x3,x4,x5,x9,x13,x17,x137=>if x137=true then (some false) else (laws_FnLongestFirst.l0 k x3 x4 x5 x9 x13 x17 0 0)
def laws_FnLongestFirst.l0:Nat->List (S31)->Int->List (S40)->Int->Int->List (S51)->Int->Int->Option (Bool)
 | 0,_,_,_,_,_,_,_,_=>none
 | k + 1,x3,x4,x5,x9,x13,x17,x22,x23=>if x23<(x5.length:Int) then (if 0<=x23 then (if x23<(x3.length:Int) then (laws_FnLongestFirst.l0 k x3 x4 x5 x9 x13 x17 (wrap64 ((wrap64 (x22 + ((rd_T40 x5 x23).f2))) + ((rd_T31 x3 x23).f0))) (wrap64 (x23 + 1))) else (none)) else (none)) else (if x22<x13 then (some false) else ((impl_BestListPlan.f k x3 x4 x17).bind fun bt709=>(if bt709.2=true then ((impl_PlanLength.f k x3 x4 x17 bt709.1).bind fun bt713=>(some (bt713.1 == x9))) else (some (decide ((x3.length:Int)>6))))))
end
def laws_FnLongestFirst.f (k:Nat) (l0:List Int):Option (Bool):=(laws_vBig.f l0).bind fun t678=>(if t678=true then (some true) else ((spec_DrawLongestFirst.f k l0).bind fun bt679=>((impl_LongestFirst.f k bt679.1 bt679.2).bind fun bt683=>((spec_LongestFirst.f k bt679.1 bt679.2).bind fun bt687=>((impl_LeastLoad.f k bt679.1 bt679.2).bind fun bt691=>((spec_LeastLoad.f k bt679.1 bt679.2).bind fun bt693=>((impl_TotalEnd.f k bt679.1 bt679.2).bind fun bt695=>((spec_TotalEnd.f k bt679.1 bt679.2).bind fun bt697=>(if (bt683.2 != bt687.2)=true then (laws_FnLongestFirst.j0 k bt679.1 bt679.2 bt683.1 bt683.2 bt691.1 bt695.1 true) else ((laws_vTasks.f k bt683.1 bt687.1).bind fun t699=>(if t699=true then (if bt691.1=bt693.1 then (if (bt691.2 != bt693.2)=true then (laws_FnLongestFirst.j0 k bt679.1 bt679.2 bt683.1 bt683.2 bt691.1 bt695.1 true) else (if bt695.1=bt697.1 then (laws_FnLongestFirst.j0 k bt679.1 bt679.2 bt683.1 bt683.2 bt691.1 bt695.1 (bt695.2 != bt697.2)) else (laws_FnLongestFirst.j0 k bt679.1 bt679.2 bt683.1 bt683.2 bt691.1 bt695.1 true))) else (laws_FnLongestFirst.j0 k bt679.1 bt679.2 bt683.1 bt683.2 bt691.1 bt695.1 true)) else (laws_FnLongestFirst.j0 k bt679.1 bt679.2 bt683.1 bt683.2 bt691.1 bt695.1 true))))))))))))
set_option maxHeartbeats 8000000 in
set_option maxRecDepth 100000 in
theorem laws_FnLongestFirst.calls (k:Nat) (A0:Option Addr) (c0:Nat) (l0:List Int) (r:Bool) (w:World) (hr0:Kd.C (Kd.int .u8) w A0 l0.length l0) (hc0:l0.length<=c0) (h:laws_FnLongestFirst.f k l0=some r) :
  Calls Try.prog 4 #[.slice A0 l0.length c0] w fun e w'=>e=.returned (.bool r)/\Below w.heap.size w w':=by
 have HR0:=ak_ hr0
 have HC0:=ak_ hc0
 clear hr0 hc0
 have HB:=ak_ (Below.refl w.heap.size w)
 have H:((laws_vBig.f l0).bind fun t678=>(if t678=true then (some true) else ((spec_DrawLongestFirst.f k l0).bind fun bt679=>((impl_LongestFirst.f k bt679.1 bt679.2).bind fun bt683=>((spec_LongestFirst.f k bt679.1 bt679.2).bind fun bt687=>((impl_LeastLoad.f k bt679.1 bt679.2).bind fun bt691=>((spec_LeastLoad.f k bt679.1 bt679.2).bind fun bt693=>((impl_TotalEnd.f k bt679.1 bt679.2).bind fun bt695=>((spec_TotalEnd.f k bt679.1 bt679.2).bind fun bt697=>(if (bt683.2 != bt687.2)=true then (laws_FnLongestFirst.j0 k bt679.1 bt679.2 bt683.1 bt683.2 bt691.1 bt695.1 true) else ((laws_vTasks.f k bt683.1 bt687.1).bind fun t699=>(if t699=true then (if bt691.1=bt693.1 then (if (bt691.2 != bt693.2)=true then (laws_FnLongestFirst.j0 k bt679.1 bt679.2 bt683.1 bt683.2 bt691.1 bt695.1 true) else (if bt695.1=bt697.1 then (laws_FnLongestFirst.j0 k bt679.1 bt679.2 bt683.1 bt683.2 bt691.1 bt695.1 (bt695.2 != bt697.2)) else (laws_FnLongestFirst.j0 k bt679.1 bt679.2 bt683.1 bt683.2 bt691.1 bt695.1 true))) else (laws_FnLongestFirst.j0 k bt679.1 bt679.2 bt683.1 bt683.2 bt691.1 bt695.1 true)) else (laws_FnLongestFirst.j0 k bt679.1 bt679.2 bt683.1 bt683.2 bt691.1 bt695.1 true)))))))))))))=some r:=h
 clear h
 replace H:=gT H;obtain ⟨t678,A2,H⟩:=H
 replace H:=gPB H;rcases H with ⟨rfl,H⟩ | ⟨rfl,H⟩
 ·obtain rfl:=oi_ H
  go_enter Try.func4,Try.ntmps4
  go_wp2_with ((go_at_call 10;(with_reducible refine (laws_vBig.calls _ _ l0 true _ ?side1 ?side2 A2.out).mono ?_);(case side1=>exact zC HR0.out);(case side2=>exact HC0.out);rintro e w' ⟨rfl,⟨nd,rfl⟩⟩))
  repeat (go_quiet ((go_at_call 10;(with_reducible refine (laws_vBig.calls _ _ l0 true _ ?side1 ?side2 A2.out).mono ?_);(case side1=>exact zC HR0.out);(case side2=>exact HC0.out);rintro e w' ⟨rfl,⟨nd,rfl⟩⟩)))
  go_ret
  exact ⟨zz0,zb⟩
 replace H:=gT H;obtain ⟨⟨t679,t680⟩,A4,H⟩:=H
 try dsimp only at H
 replace H:=gT H;obtain ⟨⟨t683,t684⟩,A5,H⟩:=H
 try dsimp only at H
 replace H:=gT H;obtain ⟨⟨t687,t688⟩,A6,H⟩:=H
 try dsimp only at H
 replace H:=gT H;obtain ⟨⟨t691,t692⟩,A7,H⟩:=H
 try dsimp only at H
 replace H:=gT H;obtain ⟨⟨t693,t694⟩,A8,H⟩:=H
 try dsimp only at H
 replace H:=gT H;obtain ⟨⟨t695,t696⟩,A9,H⟩:=H
 try dsimp only at H
 replace H:=gT H;obtain ⟨⟨t697,t698⟩,A10,H⟩:=H
 try dsimp only at H
 have HC11:=ak_ H
 clear H
 go_enter Try.func4,Try.ntmps4
 go_upto_region 10 with (first|(go_at_call 10;(with_reducible refine (laws_vBig.calls _ _ l0 false _ ?side1 ?side2 A2.out).mono ?_);(case side1=>exact zC HR0.out);(case side2=>exact HC0.out);rintro e w' ⟨rfl,⟨nd,rfl⟩⟩)|(go_at_call 11;(with_reducible refine (spec_DrawLongestFirst.calls k _ _ l0 t679 t680 _ ?side1 ?side2 A4.out).mono ?_);(case side1=>exact zC HR0.out);(case side2=>exact HC0.out);rintro e w12 ⟨v681,rfl,ho0,hb⟩;have HO682:=ak_ (Kd.R_lower ho0 (below_size zb));replace HB:=zb1 hb;(try clear hb);(try clear ho0);obtain ⟨Ao13,co13,eo13⟩:=Kd.R_slice HO682.out;subst eo13)|(go_at_call 12;(with_reducible refine (impl_LongestFirst.calls k _ _ t679 t680 t683 t684 _ ?side1 ?side2 A5.out).mono ?_);(case side1=>exact zC ((Kd.R_reads' HO682.out).2.2));(case side2=>exact (Kd.R_reads' HO682.out).2.1);rintro e w14 ⟨v685,rfl,ho0,hb⟩;replace HO682:=zRb HO682 hb;have HO686:=ak_ (Kd.R_lower ho0 (below_size zb));replace HB:=zb1 hb;(try clear hb);(try clear ho0))|(go_at_call 13;(with_reducible refine (spec_LongestFirst.calls k _ _ t679 t680 t687 t688 _ ?side1 ?side2 A6.out).mono ?_);(case side1=>exact zC ((Kd.R_reads' HO682.out).2.2));(case side2=>exact (Kd.R_reads' HO682.out).2.1);rintro e w15 ⟨v689,rfl,ho0,hb⟩;replace HO682:=zRb HO682 hb;have HO690:=ak_ (Kd.R_lower (Kd.R_new' ho0 (Kd.R_lt (zR HO686.out))) (below_size zb));replace HO686:=ak_ (Kd.R_elder' (zR HO686.out) (Kd.R_base ho0) hb);replace HB:=zb1 hb;(try clear hb);(try clear ho0))|(go_at_call 14;(with_reducible refine (impl_LeastLoad.calls k _ _ t679 t680 t691 t692 _ ?side1 ?side2 A7.out).mono ?_);(case side1=>exact zC ((Kd.R_reads' HO682.out).2.2));(case side2=>exact (Kd.R_reads' HO682.out).2.1);rintro e w16 ⟨rfl,hb⟩;replace HO682:=zRb HO682 hb;replace HO686:=zRb HO686 hb;replace HO690:=zRb HO690 hb;replace HB:=zb1 hb;(try clear hb))|(go_at_call 15;(with_reducible refine (spec_LeastLoad.calls k _ _ t679 t680 t693 t694 _ ?side1 ?side2 A8.out).mono ?_);(case side1=>exact zC ((Kd.R_reads' HO682.out).2.2));(case side2=>exact (Kd.R_reads' HO682.out).2.1);rintro e w17 ⟨rfl,hb⟩;replace HO682:=zRb HO682 hb;replace HO686:=zRb HO686 hb;replace HO690:=zRb HO690 hb;replace HB:=zb1 hb;(try clear hb))|(go_at_call 16;(with_reducible refine (impl_TotalEnd.calls k _ _ t679 t680 t695 t696 _ ?side1 ?side2 A9.out).mono ?_);(case side1=>exact zC ((Kd.R_reads' HO682.out).2.2));(case side2=>exact (Kd.R_reads' HO682.out).2.1);rintro e w18 ⟨rfl,hb⟩;replace HO682:=zRb HO682 hb;replace HO686:=zRb HO686 hb;replace HO690:=zRb HO690 hb;replace HB:=zb1 hb;(try clear hb))|(go_at_call 17;(with_reducible refine (spec_TotalEnd.calls k _ _ t679 t680 t697 t698 _ ?side1 ?side2 A10.out).mono ?_);(case side1=>exact zC ((Kd.R_reads' HO682.out).2.2));(case side2=>exact (Kd.R_reads' HO682.out).2.1);rintro e w19 ⟨rfl,hb⟩;replace HO682:=zRb HO682 hb;replace HO686:=zRb HO686 hb;replace HO690:=zRb HO690 hb;replace HB:=zb1 hb;(try clear hb)))
 repeat (go_quiet ((go_at_call 10;(with_reducible refine (laws_vBig.calls _ _ l0 false _ ?side1 ?side2 A2.out).mono ?_);(case side1=>exact zC HR0.out);(case side2=>exact HC0.out);rintro e w' ⟨rfl,⟨nd,rfl⟩⟩));go_upto_region 10 with ((go_at_call 10;(with_reducible refine (laws_vBig.calls _ _ l0 false _ ?side1 ?side2 A2.out).mono ?_);(case side1=>exact zC HR0.out);(case side2=>exact HC0.out);rintro e w' ⟨rfl,⟨nd,rfl⟩⟩)))
 go_cut [99] (fun v99 wc=>∃ (kq:Nat) (x99_10:Bool),v99=.bool x99_10/\Aside0 (laws_FnLongestFirst.j0 kq t679 t680 t683 t684 t691 t695 x99_10=some r)/\Aside0 (kq<=k)/\Aside0 (Kd.R k31 31 wc w.heap.size (fun _=>True) (.slice Ao13 t679.length co13) t679)/\Aside0 (Kd.R k40 40 wc w.heap.size (fun _=>True) v685 t683)/\Aside0 (Below w.heap.size w wc))
 case first=>
  have H:=HC11.out
  clear HC11
  replace H:=gP H;rcases H with ⟨c20,H⟩ | ⟨c20,H⟩
  ·have c20b0:(t684 != t688)=true:=c20
   (try (have c20b1:decide (t684=t688)=false:=by simpa using c20))
   (try (have c20b2:(t684 == t688)=false:=by simpa using c20))
   (try (have c20b3:¬ (t684=t688):=by simpa using c20))
   clear c20
   have H':=ak_ H
   clear H
   go_wp2
   repeat (go_quiet (fail))
   go_meet
   case rel=>exact ⟨_,(true),zo,H',⟨zz52⟩,⟨zR HO682.out⟩,⟨zR (Kd.R_mono HO686.out (fun _ hk=>trivial))⟩,⟨zb⟩⟩
  have c20b0:(t684 != t688)=false:=by simpa using c20
  (try (have c20b1:decide (t684=t688)=true:=by simpa using c20))
  (try (have c20b2:(t684 == t688)=true:=by simpa using c20))
  clear c20
  replace H:=gT H;obtain ⟨t699,A21,H⟩:=H
  replace H:=gNB H;rcases H with ⟨rfl,H⟩ | ⟨rfl,H⟩
  ·have H':=ak_ H
   clear H
   obtain ⟨Ao34,co34,eo34⟩:=Kd.R_slice HO686.out
   subst eo34
   obtain ⟨Ao35,co35,eo35⟩:=Kd.R_slice HO690.out
   subst eo35
   go_wp2_with ((go_at_call 18;(with_reducible refine (laws_vTasks.calls k _ _ t683 _ _ t687 false _ ?side1 ?side2 ?side3 ?side4 A21.out).mono ?_);(case side1=>exact zC ((Kd.R_reads' HO686.out).2.2));(case side2=>exact (Kd.R_reads' HO686.out).2.1);(case side3=>exact zC ((Kd.R_reads' HO690.out).2.2));(case side4=>exact (Kd.R_reads' HO690.out).2.1);rintro e w' ⟨rfl,⟨nd,rfl⟩⟩))
   repeat (go_quiet ((go_at_call 18;(with_reducible refine (laws_vTasks.calls k _ _ t683 _ _ t687 false _ ?side1 ?side2 ?side3 ?side4 A21.out).mono ?_);(case side1=>exact zC ((Kd.R_reads' HO686.out).2.2));(case side2=>exact (Kd.R_reads' HO686.out).2.1);(case side3=>exact zC ((Kd.R_reads' HO690.out).2.2));(case side4=>exact (Kd.R_reads' HO690.out).2.1);rintro e w' ⟨rfl,⟨nd,rfl⟩⟩)))
   go_meet
   case rel=>exact ⟨_,(true),zo,H',⟨zz52⟩,⟨zR HO682.out⟩,⟨zR (Kd.R_mono HO686.out (fun _ hk=>trivial))⟩,⟨zb⟩⟩
  replace H:=gN H;rcases H with ⟨c23,H⟩ | ⟨c23,H⟩
  ·have c23b0:(t691 == t693)=false:=beq_eq_false_iff_ne.mpr c23
   have c23b1:(t691 != t693)=true:=bne_iff_ne.mpr c23
   have H':=ak_ H
   clear H
   obtain ⟨Ao32,co32,eo32⟩:=Kd.R_slice HO686.out
   subst eo32
   obtain ⟨Ao33,co33,eo33⟩:=Kd.R_slice HO690.out
   subst eo33
   go_wp2_with ((go_at_call 18;(with_reducible refine (laws_vTasks.calls k _ _ t683 _ _ t687 true _ ?side1 ?side2 ?side3 ?side4 A21.out).mono ?_);(case side1=>exact zC ((Kd.R_reads' HO686.out).2.2));(case side2=>exact (Kd.R_reads' HO686.out).2.1);(case side3=>exact zC ((Kd.R_reads' HO690.out).2.2));(case side4=>exact (Kd.R_reads' HO690.out).2.1);rintro e w' ⟨rfl,⟨nd,rfl⟩⟩))
   repeat (go_quiet ((go_at_call 18;(with_reducible refine (laws_vTasks.calls k _ _ t683 _ _ t687 true _ ?side1 ?side2 ?side3 ?side4 A21.out).mono ?_);(case side1=>exact zC ((Kd.R_reads' HO686.out).2.2));(case side2=>exact (Kd.R_reads' HO686.out).2.1);(case side3=>exact zC ((Kd.R_reads' HO690.out).2.2));(case side4=>exact (Kd.R_reads' HO690.out).2.1);rintro e w' ⟨rfl,⟨nd,rfl⟩⟩)))
   go_meet
   case rel=>exact ⟨_,(true),zo,H',⟨zz52⟩,⟨zR HO682.out⟩,⟨zR (Kd.R_mono HO686.out (fun _ hk=>trivial))⟩,⟨zb⟩⟩
  have c23b0:(t691 == t693)=true:=beq_iff_eq.mpr c23
  have c23b1:(t691 != t693)=false:=bne_eq_false_iff_eq.mpr c23
  clear c23
  replace H:=gP H;rcases H with ⟨c24,H⟩ | ⟨c24,H⟩
  ·have c24b0:(t692 != t694)=true:=c24
   (try (have c24b1:decide (t692=t694)=false:=by simpa using c24))
   (try (have c24b2:(t692 == t694)=false:=by simpa using c24))
   (try (have c24b3:¬ (t692=t694):=by simpa using c24))
   clear c24
   have H':=ak_ H
   clear H
   obtain ⟨Ao25,co25,eo25⟩:=Kd.R_slice HO686.out
   subst eo25
   obtain ⟨Ao26,co26,eo26⟩:=Kd.R_slice HO690.out
   subst eo26
   go_wp2_with ((go_at_call 18;(with_reducible refine (laws_vTasks.calls k _ _ t683 _ _ t687 true _ ?side1 ?side2 ?side3 ?side4 A21.out).mono ?_);(case side1=>exact zC ((Kd.R_reads' HO686.out).2.2));(case side2=>exact (Kd.R_reads' HO686.out).2.1);(case side3=>exact zC ((Kd.R_reads' HO690.out).2.2));(case side4=>exact (Kd.R_reads' HO690.out).2.1);rintro e w' ⟨rfl,⟨nd,rfl⟩⟩))
   repeat (go_quiet ((go_at_call 18;(with_reducible refine (laws_vTasks.calls k _ _ t683 _ _ t687 true _ ?side1 ?side2 ?side3 ?side4 A21.out).mono ?_);(case side1=>exact zC ((Kd.R_reads' HO686.out).2.2));(case side2=>exact (Kd.R_reads' HO686.out).2.1);(case side3=>exact zC ((Kd.R_reads' HO690.out).2.2));(case side4=>exact (Kd.R_reads' HO690.out).2.1);rintro e w' ⟨rfl,⟨nd,rfl⟩⟩)))
   go_meet
   case rel=>exact ⟨_,(true),zo,H',⟨zz52⟩,⟨zR HO682.out⟩,⟨zR (Kd.R_mono HO686.out (fun _ hk=>trivial))⟩,⟨zb⟩⟩
  have c24b0:(t692 != t694)=false:=by simpa using c24
  (try (have c24b1:decide (t692=t694)=true:=by simpa using c24))
  (try (have c24b2:(t692 == t694)=true:=by simpa using c24))
  clear c24
  replace H:=gN H;rcases H with ⟨c27,H⟩ | ⟨c27,H⟩
  ·have c27b0:(t695 == t697)=false:=beq_eq_false_iff_ne.mpr c27
   have c27b1:(t695 != t697)=true:=bne_iff_ne.mpr c27
   have H':=ak_ H
   clear H
   obtain ⟨Ao30,co30,eo30⟩:=Kd.R_slice HO686.out
   subst eo30
   obtain ⟨Ao31,co31,eo31⟩:=Kd.R_slice HO690.out
   subst eo31
   go_wp2_with ((go_at_call 18;(with_reducible refine (laws_vTasks.calls k _ _ t683 _ _ t687 true _ ?side1 ?side2 ?side3 ?side4 A21.out).mono ?_);(case side1=>exact zC ((Kd.R_reads' HO686.out).2.2));(case side2=>exact (Kd.R_reads' HO686.out).2.1);(case side3=>exact zC ((Kd.R_reads' HO690.out).2.2));(case side4=>exact (Kd.R_reads' HO690.out).2.1);rintro e w' ⟨rfl,⟨nd,rfl⟩⟩))
   repeat (go_quiet ((go_at_call 18;(with_reducible refine (laws_vTasks.calls k _ _ t683 _ _ t687 true _ ?side1 ?side2 ?side3 ?side4 A21.out).mono ?_);(case side1=>exact zC ((Kd.R_reads' HO686.out).2.2));(case side2=>exact (Kd.R_reads' HO686.out).2.1);(case side3=>exact zC ((Kd.R_reads' HO690.out).2.2));(case side4=>exact (Kd.R_reads' HO690.out).2.1);rintro e w' ⟨rfl,⟨nd,rfl⟩⟩)))
   go_meet
   case rel=>exact ⟨_,(true),zo,H',⟨zz52⟩,⟨zR HO682.out⟩,⟨zR (Kd.R_mono HO686.out (fun _ hk=>trivial))⟩,⟨zb⟩⟩
  have c27b0:(t695 == t697)=true:=beq_iff_eq.mpr c27
  have c27b1:(t695 != t697)=false:=bne_eq_false_iff_eq.mpr c27
  clear c27
  have H':=ak_ H
  clear H
  obtain ⟨Ao28,co28,eo28⟩:=Kd.R_slice HO686.out
  subst eo28
  obtain ⟨Ao29,co29,eo29⟩:=Kd.R_slice HO690.out
  subst eo29
  go_wp2_with ((go_at_call 18;(with_reducible refine (laws_vTasks.calls k _ _ t683 _ _ t687 true _ ?side1 ?side2 ?side3 ?side4 A21.out).mono ?_);(case side1=>exact zC ((Kd.R_reads' HO686.out).2.2));(case side2=>exact (Kd.R_reads' HO686.out).2.1);(case side3=>exact zC ((Kd.R_reads' HO690.out).2.2));(case side4=>exact (Kd.R_reads' HO690.out).2.1);rintro e w' ⟨rfl,⟨nd,rfl⟩⟩))
  repeat (go_quiet ((go_at_call 18;(with_reducible refine (laws_vTasks.calls k _ _ t683 _ _ t687 true _ ?side1 ?side2 ?side3 ?side4 A21.out).mono ?_);(case side1=>exact zC ((Kd.R_reads' HO686.out).2.2));(case side2=>exact (Kd.R_reads' HO686.out).2.1);(case side3=>exact zC ((Kd.R_reads' HO690.out).2.2));(case side4=>exact (Kd.R_reads' HO690.out).2.1);rintro e w' ⟨rfl,⟨nd,rfl⟩⟩)))
  go_meet
  case rel=>exact ⟨_,((t696 != t698)),zo,H',⟨zz52⟩,⟨zR HO682.out⟩,⟨zR (Kd.R_mono HO686.out (fun _ hk=>trivial))⟩,⟨zb⟩⟩
 case rest=>
  clear HC11
  obtain ⟨kq,x99_10,rfl,HA,HJ10,HO_3,HO_5,HB⟩:=hcut
  cases kq with
  | zero=>exact absurd HA.out (by simp [laws_FnLongestFirst.j0])
  | succ kj10=>
   have H:=HA.out
   clear HA
   simp only [laws_FnLongestFirst.j0] at H
   replace H:=gPB H;rcases H with ⟨rfl,H⟩ | ⟨rfl,H⟩
   ·obtain rfl:=oi_ H
    go_wp2
    repeat (go_quiet (fail))
    go_ret
    exact ⟨zz0,zb⟩
   replace H:=gNB H;rcases H with ⟨rfl,H⟩ | ⟨rfl,H⟩
   ·obtain rfl:=oi_ H
    go_wp2
    repeat (go_quiet (fail))
    go_ret
    exact ⟨zz0,zb⟩
   replace H:=gY H;obtain ⟨y700,Ny700,H⟩:=H
   replace H:=gT H;obtain ⟨⟨t703,t704⟩,A38,H⟩:=H
   try dsimp only at H
   replace H:=gT H;obtain ⟨⟨t705,t706⟩,A39,H⟩:=H
   try dsimp only at H
   have HC40:=ak_ H
   clear H
   go_upto_region 17 with (first|((with_reducible refine gate_dst (N:=102) rfl ?_);refine Kd.R_lit k51 _ 51 ?hg (N:=102) ?hd (xs:=([]:List (S51))) (inner:=[]) (ok:=fun _=>True) (okp:=fun _=>True) ?hr ?hp (fun _ hk=>hk) trivial (Below.refl _ _) (Nat.le_refl _) (by simp) ?_;(case hd=>rfl);(case hg=>rfl);(case hr=>(go_simp;done));(case hp=>exact (Reps.none _ _));intro v701 w41 ho42 hb hg_ hnew_;clear hg_ hnew_;(rw [<-Ny700.out] at ho42);replace HO_3:=zRb HO_3 hb;replace HO_5:=zRb HO_5 hb;have HO702:=ak_ (Kd.R_lower ho42 (below_size zb));replace HB:=zb1 hb;clear hb ho42;obtain ⟨Ao43,co43,eo43⟩:=Kd.R_slice HO702.out;subst eo43;obtain ⟨Ao44,co44,eo44⟩:=Kd.R_slice HO_5.out;subst eo44)|(go_at_call 19;(with_reducible refine (impl_PlanLength.calls kj10 _ _ t679 t680 _ _ y700 _ _ t683 t703 t704 _ ?side1 ?side2 ?side3 ?side4 ?side5 ?side6 A38.out).mono ?_);(case side1=>exact zC ((Kd.R_reads' HO_3.out).2.2));(case side2=>exact (Kd.R_reads' HO_3.out).2.1);(case side3=>exact zC ((Kd.R_reads' HO702.out).2.2));(case side4=>exact (Kd.R_reads' HO702.out).2.1);(case side5=>exact zC ((Kd.R_reads' HO_5.out).2.2));(case side6=>exact (Kd.R_reads' HO_5.out).2.1);rintro e w45 ⟨rfl,hb⟩;replace HO_3:=zRb HO_3 hb;replace HO_5:=zRb HO_5 hb;replace HO702:=zRb HO702 hb;replace HB:=zb1 hb;(try clear hb))|(go_at_call 20;(with_reducible refine (impl_LengthBound.calls kj10 _ _ t679 t680 _ _ y700 t705 t706 _ ?side1 ?side2 ?side3 ?side4 A39.out).mono ?_);(case side1=>exact zC ((Kd.R_reads' HO_3.out).2.2));(case side2=>exact (Kd.R_reads' HO_3.out).2.1);(case side3=>exact zC ((Kd.R_reads' HO702.out).2.2));(case side4=>exact (Kd.R_reads' HO702.out).2.1);rintro e w46 ⟨rfl,hb⟩;replace HO_3:=zRb HO_3 hb;replace HO_5:=zRb HO_5 hb;replace HO702:=zRb HO702 hb;replace HB:=zb1 hb;(try clear hb)))
   repeat (go_quiet (((with_reducible refine gate_dst (N:=102) rfl ?_);refine Kd.R_lit k51 _ 51 ?hg (N:=102) ?hd (xs:=([]:List (S51))) (inner:=[]) (ok:=fun _=>True) (okp:=fun _=>True) ?hr ?hp (fun _ hk=>hk) trivial (Below.refl _ _) (Nat.le_refl _) (by simp) ?_;(case hd=>rfl);(case hg=>rfl);(case hr=>(go_simp;done));(case hp=>exact (Reps.none _ _));intro v701 w41 ho42 hb hg_ hnew_;clear hg_ hnew_;(rw [<-Ny700.out] at ho42);replace HO_3:=zRb HO_3 hb;replace HO_5:=zRb HO_5 hb;have HO702:=ak_ (Kd.R_lower ho42 (below_size zb));replace HB:=zb1 hb;clear hb ho42;obtain ⟨Ao43,co43,eo43⟩:=Kd.R_slice HO702.out;subst eo43;obtain ⟨Ao44,co44,eo44⟩:=Kd.R_slice HO_5.out;subst eo44));go_upto_region 17 with (((with_reducible refine gate_dst (N:=102) rfl ?_);refine Kd.R_lit k51 _ 51 ?hg (N:=102) ?hd (xs:=([]:List (S51))) (inner:=[]) (ok:=fun _=>True) (okp:=fun _=>True) ?hr ?hp (fun _ hk=>hk) trivial (Below.refl _ _) (Nat.le_refl _) (by simp) ?_;(case hd=>rfl);(case hg=>rfl);(case hr=>(go_simp;done));(case hp=>exact (Reps.none _ _));intro v701 w41 ho42 hb hg_ hnew_;clear hg_ hnew_;(rw [<-Ny700.out] at ho42);replace HO_3:=zRb HO_3 hb;replace HO_5:=zRb HO_5 hb;have HO702:=ak_ (Kd.R_lower ho42 (below_size zb));replace HB:=zb1 hb;clear hb ho42;obtain ⟨Ao43,co43,eo43⟩:=Kd.R_slice HO702.out;subst eo43;obtain ⟨Ao44,co44,eo44⟩:=Kd.R_slice HO_5.out;subst eo44)))
   go_cut [137] (fun v137 wc=>∃ (kq:Nat) (x137_39:Bool),v137=.bool x137_39/\Aside0 (laws_FnLongestFirst.j1 kq t679 t680 t683 t691 t695 y700 x137_39=some r)/\Aside0 (kq<=kj10)/\Aside0 (Kd.R k31 31 wc w.heap.size (fun _=>True) (.slice Ao13 t679.length co13) t679)/\Aside0 (Kd.R k40 40 wc w.heap.size (fun _=>True) (.slice Ao44 t683.length co44) t683)/\Aside0 (Kd.R k51 51 wc w.heap.size (fun _=>True) (.slice Ao43 y700.length co43) y700)/\Aside0 (Below w.heap.size w wc))
   case first=>
    have H:=HC40.out
    clear HC40
    replace H:=gPD H;rcases H with ⟨c47b0,H⟩ | ⟨c47b0,H⟩
    ·skip
     have H':=ak_ H
     clear H
     go_wp2
     repeat (go_quiet (fail))
     go_meet
     case rel=>exact ⟨_,(true),zo,H',⟨by have:=HJ10.out;omega⟩,⟨zR HO_3.out⟩,⟨zR HO_5.out⟩,⟨zR HO702.out⟩,⟨zb⟩⟩
    replace H:=gPD H;rcases H with ⟨c48b0,H⟩ | ⟨c48b0,H⟩
    ·have H':=ak_ H
     clear H
     go_wp2
     repeat (go_quiet (fail))
     go_meet
     case rel=>exact ⟨_,(true),zo,H',⟨by have:=HJ10.out;omega⟩,⟨zR HO_3.out⟩,⟨zR HO_5.out⟩,⟨zR HO702.out⟩,⟨zb⟩⟩
    have H':=ak_ H
    clear H
    go_wp2
    repeat (go_quiet (fail))
    go_meet
    case rel=>exact ⟨_,(decide ((wrap64 ((wrap64 (3 * t680)) * t703))>(wrap64 ((wrap64 ((wrap64 (4 * t680)) - 1)) * t691)))),zo,H',⟨by have:=HJ10.out;omega⟩,⟨zR HO_3.out⟩,⟨zR HO_5.out⟩,⟨zR HO702.out⟩,⟨zb⟩⟩
   case rest=>
    clear HC40
    obtain ⟨kq,x137_39,rfl,HA,HJ39,HO_3,HO_5,HO_17,HB⟩:=hcut
    cases kq with
    | zero=>exact absurd HA.out (by simp [laws_FnLongestFirst.j1])
    | succ kj39=>
     have H:=HA.out
     clear HA
     simp only [laws_FnLongestFirst.j1] at H
     replace H:=gPB H;rcases H with ⟨rfl,H⟩ | ⟨rfl,H⟩
     ·obtain rfl:=oi_ H
      go_wp2
      repeat (go_quiet (fail))
      go_ret
      exact ⟨zz0,zb⟩
     have H':=ak_ H
     clear H
     go_wp2
     repeat (go_quiet (fail))
     go_loopg [22,23] kj39 (fun kq v22 v23 w'=>∃ (x22_3:Int) (x23_3:Int),v22=.int .i64 x22_3/\v23=.int .i64 x23_3/\Aside0 (laws_FnLongestFirst.l0 kq t679 t680 t683 t691 t695 y700 x22_3 x23_3=some r)/\Aside0 (kq<=kj39)/\Aside0 (Kd.R k31 31 w' w.heap.size (fun _=>True) (.slice Ao13 t679.length co13) t679)/\Aside0 (Kd.R k40 40 w' w.heap.size (fun _=>True) (.slice Ao44 t683.length co44) t683)/\Aside0 (Kd.R k51 51 w' w.heap.size (fun _=>True) (.slice Ao43 y700.length co43) y700)/\Aside0 (Below w.heap.size w w'))
     case atStart=>exact ⟨(0),(0),zo,zo,H',⟨Nat.le_refl _⟩,⟨zR HO_3.out⟩,⟨zR HO_5.out⟩,⟨zR HO_17.out⟩,⟨zb⟩⟩
     case round=>
      clear H'
      obtain ⟨x22_3,x23_3,rfl,rfl,HA,HK3,HO_3,HO_5,HO_17,HB⟩:=hrel
      cases gk with
      | zero=>exact absurd HA.out (by simp [laws_FnLongestFirst.l0])
      | succ k3=>
       have H:=HA.out
       clear HA
       simp only [laws_FnLongestFirst.l0] at H
       replace H:=gPD H;rcases H with ⟨c50b0,H⟩ | ⟨c50b0,H⟩
       ·replace H:=gD H;obtain ⟨c51b0,H⟩:=H
        replace H:=gD H;obtain ⟨c52b0,H⟩:=H
        have H':=ak_ H
        clear H
        have p707:0<=(x23_3:Int):=oz_
        have q707:x23_3<(t683.length:Int):=oz_
        obtain ⟨ad707,e707,hx707_0,hx707_1,hx707_2⟩:=at_T40 (Kd.R_reads' HO_5.out).2.2 x23_3 p707 q707
        cases e707
        replace p707:=eq_true p707
        replace q707:=eq_true q707
        have p708:0<=(x23_3:Int):=oz_
        have q708:x23_3<(t679.length:Int):=oz_
        obtain ⟨ad708,e708,hx708_0,hx708_1,hx708_2,hx708_3⟩:=at_T31 (Kd.R_reads' HO_3.out).2.2 x23_3 p708 q708
        cases e708
        replace p708:=eq_true p708
        replace q708:=eq_true q708
        go_wp2
        repeat (go_quiet (fail);try go_wp2)
        go_roundg k3
        case measure=>have:=HJ10.out;have:=HJ39.out;have:=HK3.out;omega
        case rel=>exact ⟨(wrap64 ((wrap64 (x22_3 + ((rd_T40 t683 x23_3).f2))) + ((rd_T31 t679 x23_3).f0))),(wrap64 (x23_3 + 1)),zo,zo,H',⟨by have:=HJ10.out;have:=HJ39.out;have:=HK3.out;omega⟩,⟨zR HO_3.out⟩,⟨zR HO_5.out⟩,⟨zR HO_17.out⟩,⟨zb⟩⟩
       replace H:=gPD H;rcases H with ⟨c53b0,H⟩ | ⟨c53b0,H⟩
       ·obtain rfl:=oi_ H
        go_wp2
        repeat (go_quiet (fail))
        go_ret
        exact ⟨zz0,zb⟩
       replace H:=gT H;obtain ⟨⟨t709,t710⟩,A54,H⟩:=H
       try dsimp only at H
       replace H:=gNB H;rcases H with ⟨rfl,H⟩ | ⟨rfl,H⟩
       ·obtain rfl:=oi_ H
        go_wp2_with ((go_at_call 21;(with_reducible refine (impl_BestListPlan.calls k3 _ _ t679 t680 _ _ y700 t709 false _ ?side1 ?side2 ?side3 ?side4 A54.out).mono ?_);(case side1=>exact zC ((Kd.R_reads' HO_3.out).2.2));(case side2=>exact (Kd.R_reads' HO_3.out).2.1);(case side3=>exact zC ((Kd.R_reads' HO_17.out).2.2));(case side4=>exact (Kd.R_reads' HO_17.out).2.1);rintro e w60 ⟨v711,rfl,ho0,hb⟩;replace HO_3:=zRb HO_3 hb;replace HO_17:=zRb HO_17 hb;have HO712:=ak_ (Kd.R_lower (Kd.R_new' ho0 (Kd.R_lt (zR HO_5.out))) (below_size zb));replace HO_5:=ak_ (Kd.R_elder' (zR HO_5.out) (Kd.R_base ho0) hb);replace HB:=zb1 hb;(try clear hb);(try clear ho0)))
        repeat (go_quiet ((go_at_call 21;(with_reducible refine (impl_BestListPlan.calls k3 _ _ t679 t680 _ _ y700 t709 false _ ?side1 ?side2 ?side3 ?side4 A54.out).mono ?_);(case side1=>exact zC ((Kd.R_reads' HO_3.out).2.2));(case side2=>exact (Kd.R_reads' HO_3.out).2.1);(case side3=>exact zC ((Kd.R_reads' HO_17.out).2.2));(case side4=>exact (Kd.R_reads' HO_17.out).2.1);rintro e w60 ⟨v711,rfl,ho0,hb⟩;replace HO_3:=zRb HO_3 hb;replace HO_17:=zRb HO_17 hb;have HO712:=ak_ (Kd.R_lower (Kd.R_new' ho0 (Kd.R_lt (zR HO_5.out))) (below_size zb));replace HO_5:=ak_ (Kd.R_elder' (zR HO_5.out) (Kd.R_base ho0) hb);replace HB:=zb1 hb)))
        go_ret
        exact ⟨zz0,zb⟩
       replace H:=gT H;obtain ⟨⟨t713,t714⟩,A56,H⟩:=H
       try dsimp only at H
       obtain rfl:=oi_ H
       go_wp2_with (first|(go_at_call 21;(with_reducible refine (impl_BestListPlan.calls k3 _ _ t679 t680 _ _ y700 t709 true _ ?side1 ?side2 ?side3 ?side4 A54.out).mono ?_);(case side1=>exact zC ((Kd.R_reads' HO_3.out).2.2));(case side2=>exact (Kd.R_reads' HO_3.out).2.1);(case side3=>exact zC ((Kd.R_reads' HO_17.out).2.2));(case side4=>exact (Kd.R_reads' HO_17.out).2.1);rintro e w57 ⟨v711,rfl,ho0,hb⟩;replace HO_3:=zRb HO_3 hb;replace HO_17:=zRb HO_17 hb;have HO712:=ak_ (Kd.R_lower (Kd.R_new' ho0 (Kd.R_lt (zR HO_5.out))) (below_size zb));replace HO_5:=ak_ (Kd.R_elder' (zR HO_5.out) (Kd.R_base ho0) hb);replace HB:=zb1 hb;(try clear hb);(try clear ho0);obtain ⟨Ao58,co58,eo58⟩:=Kd.R_slice HO712.out;subst eo58)|(go_at_call 19;(with_reducible refine (impl_PlanLength.calls k3 _ _ t679 t680 _ _ y700 _ _ t709 t713 t714 _ ?side1 ?side2 ?side3 ?side4 ?side5 ?side6 A56.out).mono ?_);(case side1=>exact zC ((Kd.R_reads' HO_3.out).2.2));(case side2=>exact (Kd.R_reads' HO_3.out).2.1);(case side3=>exact zC ((Kd.R_reads' HO_17.out).2.2));(case side4=>exact (Kd.R_reads' HO_17.out).2.1);(case side5=>exact zC ((Kd.R_reads' HO712.out).2.2));(case side6=>exact (Kd.R_reads' HO712.out).2.1);rintro e w59 ⟨rfl,hb⟩;replace HO_3:=zRb HO_3 hb;replace HO_5:=zRb HO_5 hb;replace HO_17:=zRb HO_17 hb;replace HO712:=zRb HO712 hb;replace HB:=zb1 hb;(try clear hb)))
       repeat (go_quiet ((go_at_call 21;(with_reducible refine (impl_BestListPlan.calls k3 _ _ t679 t680 _ _ y700 t709 true _ ?side1 ?side2 ?side3 ?side4 A54.out).mono ?_);(case side1=>exact zC ((Kd.R_reads' HO_3.out).2.2));(case side2=>exact (Kd.R_reads' HO_3.out).2.1);(case side3=>exact zC ((Kd.R_reads' HO_17.out).2.2));(case side4=>exact (Kd.R_reads' HO_17.out).2.1);rintro e w57 ⟨v711,rfl,ho0,hb⟩;replace HO_3:=zRb HO_3 hb;replace HO_17:=zRb HO_17 hb;have HO712:=ak_ (Kd.R_lower (Kd.R_new' ho0 (Kd.R_lt (zR HO_5.out))) (below_size zb));replace HO_5:=ak_ (Kd.R_elder' (zR HO_5.out) (Kd.R_base ho0) hb);replace HB:=zb1 hb;obtain ⟨Ao58,co58,eo58⟩:=Kd.R_slice HO712.out;subst eo58)))
       go_ret
       exact ⟨zz0,zb⟩
/-- THE ONE PURE STATEMENT of laws_FnLongestFirst: yours. -/
def laws_FnLongestFirst.Pure:Prop:=∀ (l0:List Int),l0.length<=maxLen->l0.length * 1<=140737488351232->(∀ x ∈ l0,(Lit.int .u8 x).wf=true)->∃ k,laws_FnLongestFirst.f k l0=some true
theorem laws_FnLongestFirst.walk (P:laws_FnLongestFirst.Pure) (a0:Option Addr) (len0 cap0:Nat) (z0:List Int) (w:World) (w0:(a0=none/\len0=0/\cap0=0/\z0=[])\/∃ x,a0=some x/\len0<=cap0/\cap0<=maxLen/\z0.length=cap0/\(∀ i,i<z0.length->w.cell? (x.add i)=some (.int .u8 (z0.getD i 0)))/\∀ n ∈ z0,(Lit.int .u8 n).wf=true) (y0:len0 * 1<=140737488351232) :
  Calls Try.prog 4 #[.slice a0 len0 cap0] w fun e w'=>e=.returned (.bool true)/\Below w.heap.size w w':=by
 obtain ⟨l0,rfl,hr0,hm0,hw0,hc0⟩:=ReadsInt.ofRowC w0
 obtain ⟨k,h⟩:=P l0 hm0 y0 hw0
 refine (laws_FnLongestFirst.calls k _ _ l0 true w (Kd.C_of_reads (d:=(0:Int)) (h1:=fun _=>rfl) hr0) hc0 h).mono ?_
 rintro e w' ⟨rfl,hd⟩
 exact ⟨rfl,hd⟩
