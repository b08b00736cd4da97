-- Written by a program of this session (the kit's print, widened). Proved here: what each function answers, for the arguments that its contract names.
import Derived.Test.YtkolecmpncaooaaXFnLateWeightx0
import Derived.Test.YtkolecmpncaooaaXFnLateWeightx1
import Derived.Test.YtkolecmpncaooaaXFnLateWeightx3
import Derived.Test.YtkolecmpncaooaaXFnLateWeightx9
import Derived.Test.YtkolecmpncaooaaXFnLateWeightx13
import Derived.Test.YtkolecmpncaooaaXFnLateWeightx18
import Derived.Test.YtkolecmpncaooaaXFnLateWeightx20
namespace Go.Proofs.Ytkolecmpncaooaa.XFnLateWeight
open Go.RowKit Go.Proofs.YtkolecmpncaooaaW.PrintWords Go.Proofs.YtkolecmpncaooaaW.PrintLast Go.Proofs.YtkolecmpncaooaaW.PrintMore
attribute [local go_sem] max2_int min2_int max_two min_two max_three min_three max_four min_four   -- for this text's walks alone
attribute [local go_sem] idxA_51_0 idxA_51_1 fldS_45_0 fldS_45_1 fldS_45_2 fldS_96_0 fldS_96_1 fldS_96_2
set_option linter.unusedVariables false
set_option linter.unusedSimpArgs false

/-! ### spec_l2Best: function 71 -/
def spec_l2Best.f (k:Nat) (l0:List (S31)) (a1:Int):Option (List Int × Int):=(spec_l2All.f k l0 a1).bind fun bt524=>(some (bt524.1,bt524.2.1))
theorem spec_l2Best.mono:∀ a0 a1 k,LeO (spec_l2Best.f k a0 a1) (spec_l2Best.f (k + 1) a0 a1):=by
 intro a0 a1 k
 unfold spec_l2Best.f
 repeat' first|(with_reducible first|exact spec_l2All.mono _ _ _|exact LeO.refl _|exact LeO.none _|refine LeO.ite ?_ ?_|refine LeO.bind ?_ (fun _=>?_))|exact spec_l2All.mono _ _ _|exact LeO.none _|refine LeO.ite ?_ ?_|refine LeO.bind ?_ (fun _=>?_)
set_option maxHeartbeats 8000000 in
set_option maxRecDepth 100000 in
theorem spec_l2Best.calls (k:Nat) (A0:Option Addr) (c0:Nat) (l0:List (S31)) (a1:Int) (r1:List Int) (r2:Int) (w:World) (hr0:Kd.C k31 w A0 l0.length l0) (hc0:l0.length≤c0) (h:spec_l2Best.f k l0 a1=some (r1,r2)) :
  Calls Try.prog 71 #[.slice A0 l0.length c0,.int .i64 a1] w fun e w'=>∃ v0_:Value,e=.returned (.tuple #[v0_,.int .i64 r2])∧Kd.V (Kd.int .i64) 3 w' w.heap.size (fun k_=>(w.heap.size≤k_)) v0_ r1∧Below w.heap.size w w':=by
 have hu96:=Try.underlying96
 have HR0:=Aside0.mk hr0
 have HC0:=Aside0.mk hc0
 clear hr0 hc0
 have HB:=Aside0.mk (Below.refl w.heap.size w)
 have H:((spec_l2All.f k l0 a1).bind fun bt524=>(some (bt524.1,bt524.2.1)))=some (r1,r2):=h
 clear h
 replace H:=Option.bind_eq_some_iff.mp H
 obtain ⟨⟨t524,t527,t528⟩,A30,H⟩:=H
 try dsimp only at H
 have A3:=Aside0.mk A30
 clear A30
 simp only [Option.some.injEq,Prod.mk.injEq] at H
 obtain ⟨rfl,rfl⟩:=H
 go_enter Try.func71,Try.ntmps71
 go_wp2_with (first|(go_at_call 103;(with_reducible refine (spec_l2All.calls k _ _ l0 a1 t524 t527 t528 _ ?side1 ?side2 A3.out).mono ?_);(case side1=>exact zC HR0.out);(case side2=>exact HC0.out);rintro e w4 ⟨v525,rfl,ho0,hb⟩;have HO526:=Aside0.mk (Kd.V_lower (Kd.V_mono (ok':=fun k_=>(w.heap.size≤k_)) ho0 (fun k_ hk_=>(Nat.le_trans (below_size zb) hk_))) (below_size zb));replace HB:=zb1 hb;(try clear hb);(try clear ho0))|((with_reducible refine gate_dst (N:=6) rfl ?_);refine box_event ?hg (N:=6) ?hd (cs:=#[.slice none 0 0,.int .i64 0,.int .i64 0]) (t:=96) ?hr ?_;(case hd=>rfl);(case hg=>rfl);(case hr=>first|(go_simp;done)|(go_simp;rfl));intro gb529 hg w5 hbox hb;have n0_:=Aside0.mk (Kd.V_below (Kd.V_elderB zz45 gb529 (Nat.le_of_eq hg.symm)) hb);have n1_:=zb1 hb;have n2_:=Aside0.mk (hbox);have n3_:=Aside0.mk ((by rw [hg];exact (below_size zb):w.heap.size≤gb529));have n4_:=Aside0.mk ((by rw [hg];exact (below_size zb):w.heap.size≤gb529));clear HO526;clear HB;have HO526:=n0_;have HB:=n1_;have BK529:=n2_;have GW529:=n3_;have GE529:=n4_;clear n0_ n1_ n2_ n3_ n4_;clear hb hbox hg;obtain ⟨Ao6,co6,eo6⟩:=Kd.V_slice HO526.out;subst eo6;obtain ⟨hcz7_0,hcz7_1,hcz7_2,hfz7_0,hfz7_1,hfz7_2⟩:=zk3 BK529.out))
 repeat (go_quiet (first|(go_at_call 103;(with_reducible refine (spec_l2All.calls k _ _ l0 a1 t524 t527 t528 _ ?side1 ?side2 A3.out).mono ?_);(case side1=>exact zC HR0.out);(case side2=>exact HC0.out);rintro e w4 ⟨v525,rfl,ho0,hb⟩;have HO526:=Aside0.mk (Kd.V_lower (Kd.V_mono (ok':=fun k_=>(w.heap.size≤k_)) ho0 (fun k_ hk_=>(Nat.le_trans (below_size zb) hk_))) (below_size zb));replace HB:=zb1 hb;(try clear hb);(try clear ho0))|((with_reducible refine gate_dst (N:=6) rfl ?_);refine box_event ?hg (N:=6) ?hd (cs:=#[.slice none 0 0,.int .i64 0,.int .i64 0]) (t:=96) ?hr ?_;(case hd=>rfl);(case hg=>rfl);(case hr=>first|(go_simp;done)|(go_simp;rfl));intro gb529 hg w5 hbox hb;have n0_:=Aside0.mk (Kd.V_below (Kd.V_elderB zz45 gb529 (Nat.le_of_eq hg.symm)) hb);have n1_:=zb1 hb;have n2_:=Aside0.mk (hbox);have n3_:=Aside0.mk ((by rw [hg];exact (below_size zb):w.heap.size≤gb529));have n4_:=Aside0.mk ((by rw [hg];exact (below_size zb):w.heap.size≤gb529));clear HO526;clear HB;have HO526:=n0_;have HB:=n1_;have BK529:=n2_;have GW529:=n3_;have GE529:=n4_;clear n0_ n1_ n2_ n3_ n4_;clear hb hbox hg;obtain ⟨Ao6,co6,eo6⟩:=Kd.V_slice HO526.out;subst eo6;obtain ⟨hcz7_0,hcz7_1,hcz7_2,hfz7_0,hfz7_1,hfz7_2⟩:=zk3 BK529.out));try go_wp2_with (first|(go_at_call 103;(with_reducible refine (spec_l2All.calls k _ _ l0 a1 t524 t527 t528 _ ?side1 ?side2 A3.out).mono ?_);(case side1=>exact zC HR0.out);(case side2=>exact HC0.out);rintro e w4 ⟨v525,rfl,ho0,hb⟩;have HO526:=Aside0.mk (Kd.V_lower (Kd.V_mono (ok':=fun k_=>(w.heap.size≤k_)) ho0 (fun k_ hk_=>(Nat.le_trans (below_size zb) hk_))) (below_size zb));replace HB:=zb1 hb;(try clear hb);(try clear ho0))|((with_reducible refine gate_dst (N:=6) rfl ?_);refine box_event ?hg (N:=6) ?hd (cs:=#[.slice none 0 0,.int .i64 0,.int .i64 0]) (t:=96) ?hr ?_;(case hd=>rfl);(case hg=>rfl);(case hr=>first|(go_simp;done)|(go_simp;rfl));intro gb529 hg w5 hbox hb;have n0_:=Aside0.mk (Kd.V_below (Kd.V_elderB zz45 gb529 (Nat.le_of_eq hg.symm)) hb);have n1_:=zb1 hb;have n2_:=Aside0.mk (hbox);have n3_:=Aside0.mk ((by rw [hg];exact (below_size zb):w.heap.size≤gb529));have n4_:=Aside0.mk ((by rw [hg];exact (below_size zb):w.heap.size≤gb529));clear HO526;clear HB;have HO526:=n0_;have HB:=n1_;have BK529:=n2_;have GW529:=n3_;have GE529:=n4_;clear n0_ n1_ n2_ n3_ n4_;clear hb hbox hg;obtain ⟨Ao6,co6,eo6⟩:=Kd.V_slice HO526.out;subst eo6;obtain ⟨hcz7_0,hcz7_1,hcz7_2,hfz7_0,hfz7_1,hfz7_2⟩:=zk3 BK529.out)))
 go_ret2
 exact ⟨_,zz0,by (with_reducible repeat (first|apply Kd.V_alloc|apply Kd.V_drewN|apply Kd.V_drew));exact Kd.V_mono (Kd.V_far (p:=⟨gb529,2,none⟩) (Kd.V_far (p:=⟨gb529,1,none⟩) (Kd.V_far (p:=⟨gb529,0,none⟩) (Kd.V_mono HO526.out (fun k_ hk=>(⟨hk,hk.2⟩:_∧k_≠gb529))) (fun _ hk=>hk.2) (.slice Ao6 t524.length co6)) (fun _ hk=>hk.2) (.int .i64 t527)) (fun _ hk=>hk.2) (.int .i64 t528)) (fun _ hk=>hk.1.1),by repeat (first|(with_reducible first|exact HB.out|apply below_alloc|apply pw_below_drewN|apply below_drew1|refine below_set ?_ GE529.out)|exact HB.out)⟩

/-! ### spec_BestValue: function 32 -/
def spec_BestValue.f (k:Nat) (l0:List (S31)) (a1:Int):Option (Int × Bool):=(spec_l2Good.f k l0).bind fun t530=>(if t530=true then ((spec_l2Objective.f a1).bind fun t531=>(if t531=true then ((spec_l2Best.f k l0 a1).bind fun bt532=>(some (bt532.2,true))) else (some (0,false)))) else (some (0,false)))
theorem spec_BestValue.mono:∀ a0 a1 k,LeO (spec_BestValue.f k a0 a1) (spec_BestValue.f (k + 1) a0 a1):=by
 intro a0 a1 k
 unfold spec_BestValue.f
 repeat' first|(with_reducible first|exact spec_l2Best.mono _ _ _|exact spec_l2Good.mono _ _|exact LeO.refl _|exact LeO.none _|refine LeO.ite ?_ ?_|refine LeO.bind ?_ (fun _=>?_))|exact spec_l2Best.mono _ _ _|exact spec_l2Good.mono _ _|exact LeO.none _|refine LeO.ite ?_ ?_|refine LeO.bind ?_ (fun _=>?_)
set_option maxHeartbeats 8000000 in
set_option maxRecDepth 100000 in
theorem spec_BestValue.calls (k:Nat) (A0:Option Addr) (c0:Nat) (l0:List (S31)) (a1:Int) (r1:Int) (r2:Bool) (w:World) (hr0:Kd.C k31 w A0 l0.length l0) (hc0:l0.length≤c0) (h:spec_BestValue.f k l0 a1=some (r1,r2)) :
  Calls Try.prog 32 #[.slice A0 l0.length c0,.int .i64 a1] w fun e w'=>e=.returned (.tuple #[.int .i64 r1,.bool r2])∧Below w.heap.size w w':=by
 have HR0:=Aside0.mk hr0
 have HC0:=Aside0.mk hc0
 clear hr0 hc0
 have HB:=Aside0.mk (Below.refl w.heap.size w)
 have H:((spec_l2Good.f k l0).bind fun t530=>(if t530=true then ((spec_l2Objective.f a1).bind fun t531=>(if t531=true then ((spec_l2Best.f k l0 a1).bind fun bt532=>(some (bt532.2,true))) else (some (0,false)))) else (some (0,false))))=some (r1,r2):=h
 clear h
 replace H:=Option.bind_eq_some_iff.mp H
 obtain ⟨t530,A30,H⟩:=H
 try dsimp only at H
 have A3:=Aside0.mk A30
 clear A30
 by_cases c4:t530=true
 rotate_left
 ·replace c4:=Bool.eq_false_iff.mpr c4
  subst c4
  rw [if_neg (show ¬ (false=true) by decide)] at H
  simp only [Option.some.injEq,Prod.mk.injEq] at H
  obtain ⟨rfl,rfl⟩:=H
  go_enter Try.func32,Try.ntmps32
  go_wp2_with (first|((with_reducible refine gate_callee (f:=61) rfl ?_);refine zgo 9 Try.func61 #[.slice A0 l0.length c0] ?_;(with_reducible refine (spec_l2Good.calls k _ _ l0 false _ ?side1 ?side2 A3.out).mono ?_);(case side1=>exact zC HR0.out);(case side2=>exact HC0.out);rintro e w11 ⟨rfl,hb⟩;refine ⟨_,rfl,?_⟩;replace HB:=zb1 hb;(try clear hb)))
  go_ret2
  exact ⟨zz0,zb⟩
 subst c4
 rw [if_pos rfl] at H
 replace H:=Option.bind_eq_some_iff.mp H
 obtain ⟨t531,A50,H⟩:=H
 try dsimp only at H
 have A5:=Aside0.mk A50
 clear A50
 by_cases c6:t531=true
 rotate_left
 ·replace c6:=Bool.eq_false_iff.mpr c6
  subst c6
  rw [if_neg (show ¬ (false=true) by decide)] at H
  simp only [Option.some.injEq,Prod.mk.injEq] at H
  obtain ⟨rfl,rfl⟩:=H
  go_enter Try.func32,Try.ntmps32
  go_wp2_with (first|((with_reducible refine gate_callee (f:=61) rfl ?_);refine zgo 9 Try.func61 #[.slice A0 l0.length c0] ?_;(with_reducible refine (spec_l2Good.calls k _ _ l0 true _ ?side1 ?side2 A3.out).mono ?_);(case side1=>exact zC HR0.out);(case side2=>exact HC0.out);rintro e w10 ⟨rfl,hb⟩;refine ⟨_,rfl,?_⟩;replace HB:=zb1 hb;(try clear hb))|(go_at_call 70;(with_reducible refine (spec_l2Objective.calls a1 false _ A5.out).mono ?_);rintro e w' ⟨rfl,⟨nd,rfl⟩⟩))
  go_ret2
  exact ⟨zz0,zb⟩
 subst c6
 rw [if_pos rfl] at H
 replace H:=Option.bind_eq_some_iff.mp H
 obtain ⟨⟨t532,t535⟩,A70,H⟩:=H
 try dsimp only at H
 have A7:=Aside0.mk A70
 clear A70
 simp only [Option.some.injEq,Prod.mk.injEq] at H
 obtain ⟨rfl,rfl⟩:=H
 go_enter Try.func32,Try.ntmps32
 go_wp2_with (first|((with_reducible refine gate_callee (f:=61) rfl ?_);refine zgo 9 Try.func61 #[.slice A0 l0.length c0] ?_;(with_reducible refine (spec_l2Good.calls k _ _ l0 true _ ?side1 ?side2 A3.out).mono ?_);(case side1=>exact zC HR0.out);(case side2=>exact HC0.out);rintro e w8 ⟨rfl,hb⟩;refine ⟨_,rfl,?_⟩;replace HB:=zb1 hb;(try clear hb))|(go_at_call 70;(with_reducible refine (spec_l2Objective.calls a1 true _ A5.out).mono ?_);rintro e w' ⟨rfl,⟨nd,rfl⟩⟩)|((with_reducible refine gate_callee (f:=71) rfl ?_);refine zgo 19 Try.func71 #[.slice A0 l0.length c0,.int .i64 a1] ?_;(with_reducible refine (spec_l2Best.calls k _ _ l0 a1 t532 t535 _ ?side1 ?side2 A7.out).mono ?_);(case side1=>exact zC (Kd.C_below HR0.out zb));(case side2=>exact HC0.out);rintro e w9 ⟨v533,rfl,ho0,hb⟩;refine ⟨_,rfl,?_⟩;have HO534:=Aside0.mk (Kd.V_lower (Kd.V_mono (ok':=fun k_=>True) ho0 (fun k_ hk_=>trivial)) (below_size zb));replace HB:=zb1 hb;(try clear hb);(try clear ho0)))
 go_ret2
 exact ⟨zz0,zb⟩

/-! ### laws_rBest: function 9 -/
def laws_rBest.f (k:Nat) (l0:List (S31)) (a1:Int):Option (Int × Bool):=(impl_BestValue.f k l0 a1).bind fun bt536=>((spec_BestValue.f k l0 a1).bind fun bt538=>(if (bt536.2 == bt538.2)=true then (some (bt536.1,(bt536.1 == bt538.1))) else (some (bt536.1,false))))
theorem laws_rBest.mono:∀ a0 a1 k,LeO (laws_rBest.f k a0 a1) (laws_rBest.f (k + 1) a0 a1):=by
 intro a0 a1 k
 unfold laws_rBest.f
 repeat' first|(with_reducible first|exact impl_BestValue.mono _ _ _|exact spec_BestValue.mono _ _ _|exact LeO.refl _|exact LeO.none _|refine LeO.ite ?_ ?_|refine LeO.bind ?_ (fun _=>?_))|exact impl_BestValue.mono _ _ _|exact spec_BestValue.mono _ _ _|exact LeO.none _|refine LeO.ite ?_ ?_|refine LeO.bind ?_ (fun _=>?_)
set_option maxHeartbeats 8000000 in
set_option maxRecDepth 100000 in
theorem laws_rBest.calls (k:Nat) (A0:Option Addr) (c0:Nat) (l0:List (S31)) (a1:Int) (r1:Int) (r2:Bool) (w:World) (hr0:Kd.C k31 w A0 l0.length l0) (hc0:l0.length≤c0) (h:laws_rBest.f k l0 a1=some (r1,r2)) :
  Calls Try.prog 9 #[.slice A0 l0.length c0,.int .i64 a1] w fun e w'=>e=.returned (.tuple #[.int .i64 r1,.bool r2])∧Below w.heap.size w w':=by
 have HR0:=Aside0.mk hr0
 have HC0:=Aside0.mk hc0
 clear hr0 hc0
 have HB:=Aside0.mk (Below.refl w.heap.size w)
 have H:((impl_BestValue.f k l0 a1).bind fun bt536=>((spec_BestValue.f k l0 a1).bind fun bt538=>(if (bt536.2 == bt538.2)=true then (some (bt536.1,(bt536.1 == bt538.1))) else (some (bt536.1,false)))))=some (r1,r2):=h
 clear h
 replace H:=Option.bind_eq_some_iff.mp H
 obtain ⟨⟨t536,t537⟩,A30,H⟩:=H
 try dsimp only at H
 have A3:=Aside0.mk A30
 clear A30
 replace H:=Option.bind_eq_some_iff.mp H
 obtain ⟨⟨t538,t539⟩,A40,H⟩:=H
 try dsimp only at H
 have A4:=Aside0.mk A40
 clear A40
 by_cases c5:(t537 == t539)=true
 ·rw [if_pos c5] at H
  have c5b0:(t537 == t539)=true:=c5
  (try (have c5b1:decide (t537=t539)=true:=by simpa using c5))
  (try (have c5b2:(t537 == t539)=true:=by simpa using c5))
  clear c5
  simp only [Option.some.injEq,Prod.mk.injEq] at H
  obtain ⟨rfl,rfl⟩:=H
  go_enter Try.func9,Try.ntmps9
  go_wp2_with (first|((with_reducible refine gate_callee (f:=31) rfl ?_);refine zgo 13 Try.func31 #[.slice A0 l0.length c0,.int .i64 a1] ?_;(with_reducible refine (impl_BestValue.calls k _ _ l0 a1 t536 t537 _ ?side1 ?side2 A3.out).mono ?_);(case side1=>exact zC HR0.out);(case side2=>exact HC0.out);rintro e w6 ⟨rfl,hb⟩;refine ⟨_,rfl,?_⟩;replace HB:=zb1 hb;(try clear hb))|((with_reducible refine gate_callee (f:=32) rfl ?_);refine zgo 19 Try.func32 #[.slice A0 l0.length c0,.int .i64 a1] ?_;(with_reducible refine (spec_BestValue.calls k _ _ l0 a1 t538 t539 _ ?side1 ?side2 A4.out).mono ?_);(case side1=>exact zC (Kd.C_below HR0.out HB.out));(case side2=>exact HC0.out);rintro e w7 ⟨rfl,hb⟩;refine ⟨_,rfl,?_⟩;replace HB:=zb1 hb;(try clear hb)))
  go_ret2
  exact ⟨zz0,zb⟩
 rw [if_neg c5] at H
 have c5b0:(t537 == t539)=false:=by simpa using c5
 (try (have c5b1:decide (t537=t539)=false:=by simpa using c5))
 (try (have c5b2:(t537 == t539)=false:=by simpa using c5))
 (try (have c5b3:¬ (t537=t539):=by simpa using c5))
 clear c5
 simp only [Option.some.injEq,Prod.mk.injEq] at H
 obtain ⟨rfl,rfl⟩:=H
 go_enter Try.func9,Try.ntmps9
 go_wp2_with (first|((with_reducible refine gate_callee (f:=31) rfl ?_);refine zgo 13 Try.func31 #[.slice A0 l0.length c0,.int .i64 a1] ?_;(with_reducible refine (impl_BestValue.calls k _ _ l0 a1 t536 t537 _ ?side1 ?side2 A3.out).mono ?_);(case side1=>exact zC HR0.out);(case side2=>exact HC0.out);rintro e w8 ⟨rfl,hb⟩;refine ⟨_,rfl,?_⟩;replace HB:=zb1 hb;(try clear hb))|((with_reducible refine gate_callee (f:=32) rfl ?_);refine zgo 19 Try.func32 #[.slice A0 l0.length c0,.int .i64 a1] ?_;(with_reducible refine (spec_BestValue.calls k _ _ l0 a1 t538 t539 _ ?side1 ?side2 A4.out).mono ?_);(case side1=>exact zC (Kd.C_below HR0.out HB.out));(case side2=>exact HC0.out);rintro e w9 ⟨rfl,hb⟩;refine ⟨_,rfl,?_⟩;replace HB:=zb1 hb;(try clear hb)))
 go_ret2
 exact ⟨zz0,zb⟩

/-! ### laws_FnLateWeight: function 3 -/
mutual
def laws_FnLateWeight.j0:Nat→List (S31)→Int→Bool→Bool→Option (Bool)
 | 0,_,_,_,_=>none
 | k + 1,x3,x5,x6,x41=>if x41=true then (some false) else (if x6=true then ((laws_rBest.f k x3 8).bind fun bt549=>(if bt549.2=true then (laws_FnLateWeight.j1 k x3 (bt549.1 != x5)) else (laws_FnLateWeight.j1 k x3 true))) else (some true))
def laws_FnLateWeight.j1:Nat→List (S31)→Bool→Option (Bool)
 | 0,_,_=>none
 | k + 1,x3,x55=>if x55=true then (some false) else (laws_FnLateWeight.l0 k x3 (([]:List (S31))) 0)
def laws_FnLateWeight.l0:Nat→List (S31)→List (S31)→Int→Option (Bool)
 | 0,_,_,_=>none
 | k + 1,x3,x11,x12=>if x12<(x3.length:Int) then (if 0≤x12 then (if x11.length<4398046511104 then (laws_FnLateWeight.l0 k x3 (x11++[(⟨(rd_T31 x3 x12).f0,1,0,(rd_T31 x3 x12).f3⟩:S31)]) (wrap64 (x12 + 1))) else (none)) else (none)) else ((impl_LeastLateWeight.f k x11).bind fun bt559=>((laws_rBest.f k x3 7).bind fun bt561=>(if bt559.2=true then (if bt561.2=true then (some (bt559.1 == bt561.1)) else (some false)) else (some false))))
end
def laws_FnLateWeight.f (k:Nat) (l0:List Int):Option (Bool):=(laws_rBig.f l0).bind fun t540=>(if t540=true then (some true) else ((spec_DrawSetValues.f k l0).bind fun bt541=>((impl_LeastLateWeight.f k bt541.1).bind fun bt545=>((spec_LeastLateWeight.f k bt541.1).bind fun bt547=>(if bt545.1=bt547.1 then (laws_FnLateWeight.j0 k bt541.1 bt545.1 bt545.2 (bt545.2 != bt547.2)) else (laws_FnLateWeight.j0 k bt541.1 bt545.1 bt545.2 true))))))
theorem laws_FnLateWeight.mono_l:∀ k,(∀ y0 y1 y2 y3,LeO (laws_FnLateWeight.j0 k y0 y1 y2 y3) (laws_FnLateWeight.j0 (k + 1) y0 y1 y2 y3))∧(∀ y0 y1,LeO (laws_FnLateWeight.j1 k y0 y1) (laws_FnLateWeight.j1 (k + 1) y0 y1))∧(∀ y0 y1 y2,LeO (laws_FnLateWeight.l0 k y0 y1 y2) (laws_FnLateWeight.l0 (k + 1) y0 y1 y2))
 | 0=>⟨fun _ _ _ _ r h=>by simp [laws_FnLateWeight.j0] at h,fun _ _ r h=>by simp [laws_FnLateWeight.j1] at h,fun _ _ _ r h=>by simp [laws_FnLateWeight.l0] at h⟩
 | k + 1=>by
  obtain ⟨ih0,ih1,ih2⟩:=laws_FnLateWeight.mono_l k
  refine ⟨?_,?_,?_⟩ <;> intros <;> first|unfold laws_FnLateWeight.j0|unfold laws_FnLateWeight.j1|unfold laws_FnLateWeight.l0
  all_goals repeat' first|(with_reducible first|apply ih0|apply ih1|apply ih2|exact impl_LeastLateWeight.mono _ _|exact laws_rBest.mono _ _ _|exact spec_DrawSetValues.mono _ _|exact spec_LeastLateWeight.mono _ _|exact LeO.refl _|exact LeO.none _|refine LeO.ite ?_ ?_|refine LeO.bind ?_ (fun _=>?_))|apply ih0|apply ih1|apply ih2|exact impl_LeastLateWeight.mono _ _|exact laws_rBest.mono _ _ _|exact spec_DrawSetValues.mono _ _|exact spec_LeastLateWeight.mono _ _|exact LeO.none _|refine LeO.ite ?_ ?_|refine LeO.bind ?_ (fun _=>?_)
theorem laws_FnLateWeight.mono:∀ a0 k,LeO (laws_FnLateWeight.f k a0) (laws_FnLateWeight.f (k + 1) a0):=by
 intro a0 k
 obtain ⟨ih0,ih1,ih2⟩:=laws_FnLateWeight.mono_l k
 unfold laws_FnLateWeight.f
 repeat' first|(with_reducible first|apply ih0|apply ih1|apply ih2|exact impl_LeastLateWeight.mono _ _|exact laws_rBest.mono _ _ _|exact spec_DrawSetValues.mono _ _|exact spec_LeastLateWeight.mono _ _|exact LeO.refl _|exact LeO.none _|refine LeO.ite ?_ ?_|refine LeO.bind ?_ (fun _=>?_))|apply ih0|apply ih1|apply ih2|exact impl_LeastLateWeight.mono _ _|exact laws_rBest.mono _ _ _|exact spec_DrawSetValues.mono _ _|exact spec_LeastLateWeight.mono _ _|exact LeO.none _|refine LeO.ite ?_ ?_|refine LeO.bind ?_ (fun _=>?_)
def laws_FnLateWeight.T17:Bool × List (List Nat × List Nat):=(true,[([],[]),([],[]),([],[]),([1,2],[1,2]),([3],[3]),([4],[4]),([],[]),([],[]),([6,7],[6,7]),([8],[8]),([9],[9]),([5,10],[5,10]),([11],[11]),([0,12],[0,12]),([13,13,0,1,2,3,4,5,6,7,8,9,10,11,12,13],[0,13])])
def laws_FnLateWeight.B17:List Nat:=[0,0,0,6,14,30,0,0,192,448,960,2046,4094,8191,16383]
theorem laws_FnLateWeight.tab17:rtab .any (opsOf Try.f3 17)=laws_FnLateWeight.T17:=by kernel_rfl
theorem laws_FnLateWeight.bits17:waitsOk laws_FnLateWeight.T17.2 laws_FnLateWeight.B17=true:=by kernel_rfl
set_option maxHeartbeats 8000000 in
set_option maxRecDepth 100000 in
theorem laws_FnLateWeight.calls (k:Nat) (A0:Option Addr) (c0:Nat) (l0:List Int) (r:Bool) (w:World) (hr0:Kd.C (Kd.int .u8) w A0 l0.length l0) (hc0:l0.length≤c0) (h:laws_FnLateWeight.f k l0=some r) :
  Calls Try.prog 3 #[.slice A0 l0.length c0] w fun e w'=>e=.returned (.bool r)∧Below w.heap.size w w':=by
 have hu31:=Try.underlying31
 have HR0:=Aside0.mk hr0
 have HC0:=Aside0.mk hc0
 clear hr0 hc0
 have HB:=Aside0.mk (Below.refl w.heap.size w)
 have H:((laws_rBig.f l0).bind fun t540=>(if t540=true then (some true) else ((spec_DrawSetValues.f k l0).bind fun bt541=>((impl_LeastLateWeight.f k bt541.1).bind fun bt545=>((spec_LeastLateWeight.f k bt541.1).bind fun bt547=>(if bt545.1=bt547.1 then (laws_FnLateWeight.j0 k bt541.1 bt545.1 bt545.2 (bt545.2 != bt547.2)) else (laws_FnLateWeight.j0 k bt541.1 bt545.1 bt545.2 true)))))))=some r:=h
 clear h
 replace H:=Option.bind_eq_some_iff.mp H
 obtain ⟨t540,A20,H⟩:=H
 try dsimp only at H
 have A2:=Aside0.mk A20
 clear A20
 by_cases c3:t540=true
 ·subst c3
  rw [if_pos rfl] at H
  obtain rfl:=Option.some.inj H
  go_enter Try.func3,Try.ntmps3
  go_wp2_with (first|((with_reducible refine gate_callee (f:=5) rfl ?_);refine zgo 18 Try.func5 #[.slice A0 l0.length c0] ?_;(with_reducible refine (laws_rBig.calls _ _ l0 true _ ?side1 ?side2 A2.out).mono ?_);(case side1=>exact zC HR0.out);(case side2=>exact HC0.out);rintro e w' ⟨rfl,⟨nd,rfl⟩⟩;refine ⟨_,rfl,?_⟩))
  go_ret
  exact ⟨zz0,zb⟩
 replace c3:=Bool.eq_false_iff.mpr c3
 subst c3
 rw [if_neg (show ¬ (false=true) by decide)] at H
 replace H:=Option.bind_eq_some_iff.mp H
 obtain ⟨⟨t541,t542⟩,A40,H⟩:=H
 try dsimp only at H
 have A4:=Aside0.mk A40
 clear A40
 replace H:=Option.bind_eq_some_iff.mp H
 obtain ⟨⟨t545,t546⟩,A50,H⟩:=H
 try dsimp only at H
 have A5:=Aside0.mk A50
 clear A50
 replace H:=Option.bind_eq_some_iff.mp H
 obtain ⟨⟨t547,t548⟩,A60,H⟩:=H
 try dsimp only at H
 have A6:=Aside0.mk A60
 clear A60
 have HC7:=Aside0.mk H
 clear H
 go_enter Try.func3,Try.ntmps3
 go_upto_region 6 with (first|((with_reducible refine gate_callee (f:=5) rfl ?_);refine zgo 18 Try.func5 #[.slice A0 l0.length c0] ?_;(with_reducible refine (laws_rBig.calls _ _ l0 false _ ?side1 ?side2 A2.out).mono ?_);(case side1=>exact zC HR0.out);(case side2=>exact HC0.out);rintro e w' ⟨rfl,⟨nd,rfl⟩⟩;refine ⟨_,rfl,?_⟩)|((with_reducible refine gate_callee (f:=6) rfl ?_);refine zgo 21 Try.func6 #[.slice A0 l0.length c0] ?_;(with_reducible refine (spec_DrawSetValues.calls k _ _ l0 t541 t542 _ ?side1 ?side2 A4.out).mono ?_);(case side1=>exact zC HR0.out);(case side2=>exact HC0.out);rintro e w8 ⟨v543,rfl,ho0,hb⟩;refine ⟨_,rfl,?_⟩;have HO544:=Aside0.mk (Kd.R_lower ho0 (below_size zb));replace HB:=zb1 hb;(try clear hb);(try clear ho0);obtain ⟨Ao9,co9,eo9⟩:=Kd.R_slice HO544.out;subst eo9)|((with_reducible refine gate_callee (f:=7) rfl ?_);refine zgo 26 Try.func7 #[.slice Ao9 t541.length co9] ?_;(with_reducible refine (impl_LeastLateWeight.calls k _ _ t541 t545 t546 _ ?side1 ?side2 A5.out).mono ?_);(case side1=>exact zC ((Kd.R_reads' HO544.out).2.2));(case side2=>exact (Kd.R_reads' HO544.out).2.1);rintro e w10 ⟨rfl,hb⟩;refine ⟨_,rfl,?_⟩;replace HO544:=zRb HO544 hb;replace HB:=zb1 hb;(try clear hb))|((with_reducible refine gate_callee (f:=8) rfl ?_);refine zgo 31 Try.func8 #[.slice Ao9 t541.length co9] ?_;(with_reducible refine (spec_LeastLateWeight.calls k _ _ t541 t547 t548 _ ?side1 ?side2 A6.out).mono ?_);(case side1=>exact zC ((Kd.R_reads' HO544.out).2.2));(case side2=>exact (Kd.R_reads' HO544.out).2.1);rintro e w11 ⟨rfl,hb⟩;refine ⟨_,rfl,?_⟩;replace HO544:=zRb HO544 hb;replace HB:=zb1 hb;(try clear hb)))
 (try simp only [Act.put,List.setIfInBounds_toArray,List.set_cons_zero,List.set_cons_succ])
 go_cut [41] (fun v41 wc=>∃ (kq:Nat) (x41_6:Bool),v41=.bool x41_6∧Aside0 (laws_FnLateWeight.j0 kq t541 t545 t546 x41_6=some r)∧Aside0 (kq≤k)∧Aside0 (Kd.R k31 31 wc w.heap.size (fun _=>True) (.slice Ao9 t541.length co9) t541)∧Aside0 (Below w.heap.size w wc))
 case first=>
  have H:=HC7.out
  clear HC7
  by_cases c12:t545=t547
  rotate_left
  ·rw [if_neg c12] at H
   have c12b0:(t545 == t547)=false:=beq_eq_false_iff_ne.mpr c12
   have c12b1:(t545 != t547)=true:=bne_iff_ne.mpr c12
   (first|rw [c12b0]|(simp only [i64_w,i32_w];rw [c12b0])|skip)
   have H':=Aside0.mk H
   clear H
   go_wp2
   go_meet
   case rel=>exact ⟨_,(true),zo,H',⟨by first|omega|exact Nat.le_refl _⟩,⟨zR HO544.out⟩,⟨zb⟩⟩
  rw [if_pos c12] at H
  have c12b0:(t545 == t547)=true:=beq_iff_eq.mpr c12
  have c12b1:(t545 != t547)=false:=bne_eq_false_iff_eq.mpr c12
  clear c12
  (first|rw [c12b0]|(simp only [i64_w,i32_w];rw [c12b0])|skip)
  have H':=Aside0.mk H
  clear H
  go_wp2
  go_meet
  case rel=>exact ⟨_,((t546 != t548)),zo,H',⟨by first|omega|exact Nat.le_refl _⟩,⟨zR HO544.out⟩,⟨zb⟩⟩
 case rest=>
  clear HC7
  obtain ⟨kq,x41_6,rfl,HA,HJ6,HO_3,HB⟩:=hcut
  cases kq with
  | zero=>exact absurd HA.out (by simp [laws_FnLateWeight.j0])
  | succ kj6=>
   have H:=HA.out
   clear HA
   simp only [laws_FnLateWeight.j0] at H
   by_cases c13:x41_6=true
   ·subst c13
    rw [if_pos rfl] at H
    obtain rfl:=Option.some.inj H
    go_wp2
    go_ret
    exact ⟨zz0,zb⟩
   replace c13:=Bool.eq_false_iff.mpr c13
   subst c13
   rw [if_neg (show ¬ (false=true) by decide)] at H
   by_cases c14:t546=true
   rotate_left
   ·replace c14:=Bool.eq_false_iff.mpr c14
    subst c14
    rw [if_neg (show ¬ (false=true) by decide)] at H
    obtain rfl:=Option.some.inj H
    go_wp2
    go_ret
    exact ⟨zz0,zb⟩
   subst c14
   rw [if_pos rfl] at H
   replace H:=Option.bind_eq_some_iff.mp H
   obtain ⟨⟨t549,t550⟩,A150,H⟩:=H
   try dsimp only at H
   have A15:=Aside0.mk A150
   clear A150
   have HC16:=Aside0.mk H
   clear H
   go_upto_region 11 with (first|((with_reducible refine gate_callee (f:=9) rfl ?_);refine zgo 46 Try.func9 #[.slice Ao9 t541.length co9,.int .i64 8] ?_;(with_reducible refine (laws_rBest.calls kj6 _ _ t541 8 t549 t550 _ ?side1 ?side2 A15.out).mono ?_);(case side1=>exact zC ((Kd.R_reads' HO_3.out).2.2));(case side2=>exact (Kd.R_reads' HO_3.out).2.1);rintro e w17 ⟨rfl,hb⟩;refine ⟨_,rfl,?_⟩;replace HO_3:=zRb HO_3 hb;replace HB:=zb1 hb;(try clear hb)))
   (try simp only [Act.put,List.setIfInBounds_toArray,List.set_cons_zero,List.set_cons_succ])
   go_cut [55] (fun v55 wc=>∃ (kq:Nat) (x55_15:Bool),v55=.bool x55_15∧Aside0 (laws_FnLateWeight.j1 kq t541 x55_15=some r)∧Aside0 (kq≤kj6)∧Aside0 (Kd.R k31 31 wc w.heap.size (fun _=>True) (.slice Ao9 t541.length co9) t541)∧Aside0 (Below w.heap.size w wc))
   case first=>
    have H:=HC16.out
    clear HC16
    by_cases c18:t550=true
    ·subst c18
     rw [if_pos rfl] at H
     have H':=Aside0.mk H
     clear H
     go_wp2
     go_meet
     case rel=>exact ⟨_,((t549 != t545)),zo,H',⟨by have:=HJ6.out;first|omega|exact Nat.le_refl _⟩,⟨zR HO_3.out⟩,⟨zb⟩⟩
    replace c18:=Bool.eq_false_iff.mpr c18
    subst c18
    rw [if_neg (show ¬ (false=true) by decide)] at H
    have H':=Aside0.mk H
    clear H
    go_wp2
    go_meet
    case rel=>exact ⟨_,(true),zo,H',⟨by have:=HJ6.out;first|omega|exact Nat.le_refl _⟩,⟨zR HO_3.out⟩,⟨zb⟩⟩
   case rest=>
    clear HC16
    obtain ⟨kq,x55_15,rfl,HA,HJ15,HO_3,HB⟩:=hcut
    cases kq with
    | zero=>exact absurd HA.out (by simp [laws_FnLateWeight.j1])
    | succ kj15=>
     have H:=HA.out
     clear HA
     simp only [laws_FnLateWeight.j1] at H
     by_cases c19:x55_15=true
     ·subst c19
      rw [if_pos rfl] at H
      obtain rfl:=Option.some.inj H
      go_wp2
      go_ret
      exact ⟨zz0,zb⟩
     replace c19:=Bool.eq_false_iff.mpr c19
     subst c19
     rw [if_neg (show ¬ (false=true) by decide)] at H
     obtain ⟨y551,hy551⟩:∃ y_:List (S31),y_=(([]:List (S31))):=⟨_,rfl⟩
     replace H:(laws_FnLateWeight.l0 kj15 t541 y551 0)=some r:=by first|(rw [hy551];with_reducible exact H)|(have H2_:=(Option.bind_some _ _).symm.trans H;rw [hy551];with_reducible exact H2_)|(have H2_:=(Option.bind_some _ _).symm.trans H;with_reducible exact H2_)|with_reducible exact H|(rw [hy551];exact H)|exact H
     have Ny551:=Aside0.mk hy551
     clear hy551
     have H':=Aside0.mk H
     clear H
     go_wp2_with (first|((with_reducible refine gate_dst (N:=56) rfl ?_);refine Kd.R_lit k31 _ 31 ?hg (N:=56) ?hd (xs:=([]:List (S31))) (inner:=[]) (ok:=fun _=>True) (okp:=fun _=>True) ?hr ?hp (fun _ hk=>hk) trivial (Below.refl _ _) (Nat.le_refl _) (by simp) ?_;(case hd=>rfl);(case hg=>rfl);(case hr=>first|(go_simp;done)|(go_simp;rfl));(case hp=>exact (Reps.none _ _));intro v552 w20 ho21 hb hg_ hnew_;clear hg_ hnew_;(first|rw [←Ny551.out] at ho21|(simp only [Int.reduceToNat] at ho21;rw [←Ny551.out] at ho21));have n0_:=Aside0.mk (Kd.R_elder' (zR HO_3.out) (Kd.R_base ho21) hb);have n1_:=Aside0.mk (Kd.R_lower (Kd.R_new' ho21 (Kd.R_lt (zR HO_3.out))) (below_size zb));have n2_:=zb1 hb;clear HO_3;clear HB;have HO_3:=n0_;have HO553:=n1_;have HB:=n2_;clear n0_ n1_ n2_;clear hb ho21))
     go_loopg [11,12] kj15 (fun kq v11 v12 w'=>∃ (x11_3:List (S31)) (x12_3:Int),v12=.int .i64 x12_3∧Aside0 (laws_FnLateWeight.l0 kq t541 x11_3 x12_3=some r)∧Aside0 (kq≤kj15)∧Aside0 (Kd.R k31 31 w' w.heap.size (fun k_=>some k_≠(v11:Value).ownBlock) (.slice Ao9 t541.length co9) t541)∧Aside0 (Kd.R k31 31 w' w.heap.size (fun k_=>some k_≠((.slice Ao9 t541.length co9):Value).ownBlock) v11 x11_3)∧Aside0 (Below w.heap.size w w'))
     case atStart=>exact ⟨(y551),(0),zo,H',⟨Nat.le_refl _⟩,⟨zR (Kd.R_mono HO_3.out (fun _ hk=>hk.2))⟩,⟨zR (Kd.R_mono HO553.out (fun _ hk=>hk.2))⟩,⟨zb⟩⟩
     case round=>
      clear H'
      obtain ⟨x11_3,x12_3,rfl,HA,HK3,HO_3,HO_11,HB⟩:=hrel
      cases gk with
      | zero=>exact absurd HA.out (by simp [laws_FnLateWeight.l0])
      | succ k3=>
       have H:=HA.out
       clear HA
       simp only [laws_FnLateWeight.l0] at H
       by_cases c22:x12_3<(t541.length:Int)
       rotate_left
       ·rw [if_neg c22] at H
        have c22b0:=decide_eq_false c22
        clear c22
        replace H:=Option.bind_eq_some_iff.mp H
        obtain ⟨⟨t559,t560⟩,A270,H⟩:=H
        try dsimp only at H
        have A27:=Aside0.mk A270
        clear A270
        replace H:=Option.bind_eq_some_iff.mp H
        obtain ⟨⟨t561,t562⟩,A280,H⟩:=H
        try dsimp only at H
        have A28:=Aside0.mk A280
        clear A280
        by_cases c29:t560=true
        rotate_left
        ·replace c29:=Bool.eq_false_iff.mpr c29
         subst c29
         rw [if_neg (show ¬ (false=true) by decide)] at H
         obtain rfl:=Option.some.inj H
         obtain ⟨Ao37,co37,eo37⟩:=Kd.R_slice HO_11.out
         subst eo37
         go_wp2_with (first|((with_reducible refine gate_callee (f:=7) rfl ?_);refine zgo 79 Try.func7 #[.slice Ao37 x11_3.length co37] ?_;(with_reducible refine (impl_LeastLateWeight.calls k3 _ _ x11_3 t559 false _ ?side1 ?side2 A27.out).mono ?_);(case side1=>exact zC ((Kd.R_reads' HO_11.out).2.2));(case side2=>exact (Kd.R_reads' HO_11.out).2.1);rintro e w38 ⟨rfl,hb⟩;refine ⟨_,rfl,?_⟩;replace HO_3:=zRb HO_3 hb;replace HO_11:=zRb HO_11 hb;replace HB:=zb1 hb;(try clear hb))|((with_reducible refine gate_callee (f:=9) rfl ?_);refine zgo 84 Try.func9 #[.slice Ao9 t541.length co9,.int .i64 7] ?_;(with_reducible refine (laws_rBest.calls k3 _ _ t541 7 t561 t562 _ ?side1 ?side2 A28.out).mono ?_);(case side1=>exact zC ((Kd.R_reads' HO_3.out).2.2));(case side2=>exact (Kd.R_reads' HO_3.out).2.1);rintro e w39 ⟨rfl,hb⟩;refine ⟨_,rfl,?_⟩;replace HO_3:=zRb HO_3 hb;replace HO_11:=zRb HO_11 hb;replace HB:=zb1 hb;(try clear hb)))
         go_ret
         exact ⟨zz0,zb⟩
        subst c29
        rw [if_pos rfl] at H
        by_cases c30:t562=true
        ·subst c30
         rw [if_pos rfl] at H
         obtain rfl:=Option.some.inj H
         obtain ⟨Ao31,co31,eo31⟩:=Kd.R_slice HO_11.out
         subst eo31
         go_wp2_with (first|((with_reducible refine gate_callee (f:=7) rfl ?_);refine zgo 79 Try.func7 #[.slice Ao31 x11_3.length co31] ?_;(with_reducible refine (impl_LeastLateWeight.calls k3 _ _ x11_3 t559 true _ ?side1 ?side2 A27.out).mono ?_);(case side1=>exact zC ((Kd.R_reads' HO_11.out).2.2));(case side2=>exact (Kd.R_reads' HO_11.out).2.1);rintro e w32 ⟨rfl,hb⟩;refine ⟨_,rfl,?_⟩;replace HO_3:=zRb HO_3 hb;replace HO_11:=zRb HO_11 hb;replace HB:=zb1 hb;(try clear hb))|((with_reducible refine gate_callee (f:=9) rfl ?_);refine zgo 84 Try.func9 #[.slice Ao9 t541.length co9,.int .i64 7] ?_;(with_reducible refine (laws_rBest.calls k3 _ _ t541 7 t561 true _ ?side1 ?side2 A28.out).mono ?_);(case side1=>exact zC ((Kd.R_reads' HO_3.out).2.2));(case side2=>exact (Kd.R_reads' HO_3.out).2.1);rintro e w33 ⟨rfl,hb⟩;refine ⟨_,rfl,?_⟩;replace HO_3:=zRb HO_3 hb;replace HO_11:=zRb HO_11 hb;replace HB:=zb1 hb;(try clear hb)))
         go_ret
         exact ⟨zz0,zb⟩
        replace c30:=Bool.eq_false_iff.mpr c30
        subst c30
        rw [if_neg (show ¬ (false=true) by decide)] at H
        obtain rfl:=Option.some.inj H
        obtain ⟨Ao34,co34,eo34⟩:=Kd.R_slice HO_11.out
        subst eo34
        go_wp2_with (first|((with_reducible refine gate_callee (f:=7) rfl ?_);refine zgo 79 Try.func7 #[.slice Ao34 x11_3.length co34] ?_;(with_reducible refine (impl_LeastLateWeight.calls k3 _ _ x11_3 t559 true _ ?side1 ?side2 A27.out).mono ?_);(case side1=>exact zC ((Kd.R_reads' HO_11.out).2.2));(case side2=>exact (Kd.R_reads' HO_11.out).2.1);rintro e w35 ⟨rfl,hb⟩;refine ⟨_,rfl,?_⟩;replace HO_3:=zRb HO_3 hb;replace HO_11:=zRb HO_11 hb;replace HB:=zb1 hb;(try clear hb))|((with_reducible refine gate_callee (f:=9) rfl ?_);refine zgo 84 Try.func9 #[.slice Ao9 t541.length co9,.int .i64 7] ?_;(with_reducible refine (laws_rBest.calls k3 _ _ t541 7 t561 false _ ?side1 ?side2 A28.out).mono ?_);(case side1=>exact zC ((Kd.R_reads' HO_3.out).2.2));(case side2=>exact (Kd.R_reads' HO_3.out).2.1);rintro e w36 ⟨rfl,hb⟩;refine ⟨_,rfl,?_⟩;replace HO_3:=zRb HO_3 hb;replace HO_11:=zRb HO_11 hb;replace HB:=zb1 hb;(try clear hb)))
        go_ret
        exact ⟨zz0,zb⟩
       rw [if_pos c22] at H
       have c22b0:=decide_eq_true c22
       clear c22
       by_cases c23:0≤x12_3
       rotate_left
       ·rw [if_neg c23] at H
        exact absurd H (by simp)
       rw [if_pos c23] at H
       have c23b0:=decide_eq_true c23
       clear c23
       by_cases c24:x11_3.length<4398046511104
       rotate_left
       ·rw [if_neg c24] at H
        exact absurd H (by simp)
       rw [if_pos c24] at H
       have LMc24:=Aside0.mk c24
       clear c24
       obtain ⟨y556,hy556⟩:∃ y_:List (S31),y_=(x11_3++[(⟨(rd_T31 t541 x12_3).f0,1,0,(rd_T31 t541 x12_3).f3⟩:S31)]):=⟨_,rfl⟩
       replace H:(laws_FnLateWeight.l0 k3 t541 y556 (wrap64 (x12_3 + 1)))=some r:=by first|(rw [hy556];with_reducible exact H)|(have H2_:=(Option.bind_some _ _).symm.trans H;rw [hy556];with_reducible exact H2_)|(have H2_:=(Option.bind_some _ _).symm.trans H;with_reducible exact H2_)|with_reducible exact H|(rw [hy556];exact H)|exact H
       have Ny556:=Aside0.mk hy556
       clear hy556
       have H':=Aside0.mk H
       clear H
       try go_wp2
       replace HO_3:=Aside0.mk (Kd.R_drew HO_3.out)
       replace HO_11:=Aside0.mk (Kd.R_drew HO_11.out)
       replace HB:=Aside0.mk (below_drew1 HB.out)
       have p554:0≤(x12_3:Int):=of_decide_eq_true za
       have q554:x12_3<(t541.length:Int):=of_decide_eq_true za
       obtain ⟨ad554,e554,hx554_0,hx554_1,hx554_2,hx554_3⟩:=at_T31 (Kd.R_reads' HO_3.out).2.2 x12_3 p554 q554
       cases e554
       replace p554:=eq_true p554
       replace q554:=eq_true q554
       have p555:0≤(x12_3:Int):=of_decide_eq_true za
       have q555:x12_3<(t541.length:Int):=of_decide_eq_true za
       obtain ⟨ad555,e555,hx555_0,hx555_1,hx555_2,hx555_3⟩:=at_T31 (Kd.R_reads' HO_3.out).2.2 x12_3 p555 q555
       obtain rfl:ad554=ad555:=(by injection e555)
       replace p555:=eq_true p555
       replace q555:=eq_true q555
       refine start_ (n:=15) (S:=fun w'=>w'.cell? (ad554.add ((x12_3).toNat * 4))=some (.int .i64 ((rd_T31 t541 x12_3).f0))∧w'.cell? ⟨(ad554.add ((x12_3).toNat * 4)).block,(ad554.add ((x12_3).toNat * 4)).off + 1,none⟩=some (.int .i64 ((rd_T31 t541 x12_3).f1))∧w'.cell? ⟨(ad554.add ((x12_3).toNat * 4)).block,(ad554.add ((x12_3).toNat * 4)).off + 2,none⟩=some (.int .i64 ((rd_T31 t541 x12_3).f2))∧w'.cell? ⟨(ad554.add ((x12_3).toNat * 4)).block,(ad554.add ((x12_3).toNat * 4)).off + 3,none⟩=some (.int .i64 ((rd_T31 t541 x12_3).f3))∧w'.cell? (ad554.add ((x12_3).toNat * 4))=some (.int .i64 ((rd_T31 t541 x12_3).f0))∧w'.cell? ⟨(ad554.add ((x12_3).toNat * 4)).block,(ad554.add ((x12_3).toNat * 4)).off + 1,none⟩=some (.int .i64 ((rd_T31 t541 x12_3).f1))∧w'.cell? ⟨(ad554.add ((x12_3).toNat * 4)).block,(ad554.add ((x12_3).toNat * 4)).off + 2,none⟩=some (.int .i64 ((rd_T31 t541 x12_3).f2))∧w'.cell? ⟨(ad554.add ((x12_3).toNat * 4)).block,(ad554.add ((x12_3).toNat * 4)).off + 3,none⟩=some (.int .i64 ((rd_T31 t541 x12_3).f3))) (ds:=[12,13]) #[false,false,false,false,false,false,false,false,false,false,false,false,false,false,false] (by kernel_rfl) rfl rfl ⟨hx554_0,hx554_1,hx554_2,hx554_3,hx555_0,hx555_1,hx555_2,hx555_3⟩ (fun hHeld=>?_);refine with_tabW laws_FnLateWeight.tab17 laws_FnLateWeight.bits17 (fun HT_ HW_=>?_)
       generalize wr.drew=w25 at HO_3 HO_11 HB hx554_0 hx554_1 hx554_2 hx554_3 hx555_0 hx555_1 hx555_2 hx555_3 hHeld ⊢
       refine pu_ 0 63 ?_
       refine pu_ 1 64 ?_
       refine pu_ 2 65 ?_
       refine pu_ 3 66 ?_
       refine pu_ 4 67 ?_
       refine pu_ 6 69 ?_
       refine pu_ 7 70 ?_
       refine pu_ 8 71 ?_
       refine pu_ 9 72 ?_
       refine tk_ 5 68 hHeld ?_
       refine tk_ 10 73 hHeld ?_
       refine pu_ 11 74 ?_
       refine last_ (i:=12) (N:=some 75) #[true,true,true,true,true,true,true,true,true,true,true,true,true,false,false] rfl rfl (one_of HT_.out (by kernel_rfl)) (by decide) (fun K hK=>?_)
       refine value_ (w1:=?_) (v:=?_) (by rfl) rfl ?_ ?_
       rotate_left 2
       ·go_simp
        constructor
        ·rfl
        ·rfl
       refine hK.out _ _ ?_
       clear hK K
       refine norm_ (a':=?_) ?_ ?_
       rotate_left
       ·show Act.put _ (some 75) _=_
        simp only [Act.put,List.setIfInBounds_toArray,List.set_cons_zero,List.set_cons_succ,i64_w,i32_w]
        rfl
       refine last_ (i:=13) (N:=some 76) #[true,true,true,true,true,true,true,true,true,true,true,true,true,true,false] rfl rfl (one_of HT_.out (by kernel_rfl)) (by decide) (fun K hK=>?_)
       refine Kd.R_append_step k31 (w0:=w) w.heap.size (by rfl) (.tmp 63) (.tmp 75) 24 31 (.agg #[(.int .i64 0),(.int .i64 0),(.int .i64 0),(.int .i64 0)]) 32 rfl Try.underlying24 info31 rfl (by decide) (by omega) u11 x11_3 (⟨(rd_T31 t541 x12_3).f0,1,0,(rd_T31 t541 x12_3).f3⟩:S31) [.int .i64 ((rd_T31 t541 x12_3).f0),.int .i64 1,.int .i64 0,.int .i64 ((rd_T31 t541 x12_3).f3)] (fun k_=>some k_≠(.slice (some ad554) t541.length co9:Value).ownBlock) (fun _=>False) rfl rfl ?aP (fun _ hk=>hk.elim) ?aF ?aO ?aB ?aS ?aL ?_
       (case aP=>exact k31_mkM _ _ _ (⟨(rd_T31 t541 x12_3).f0,1,0,(rd_T31 t541 x12_3).f3⟩:S31))
       (case aB=>exact zb)
       (case aF=>exact (fun k_ hk=>Kd.fresh' (Kd.R_lt (zR HO_3.out)) k_ hk))
       (case aO=>exact (zR HO_11.out))
       (case aS=>exact (below_size zb))
       (case aL=>have:=LMc24.out;omega)
       intro v557 w26 ho hb hg hat
       rw [←Ny556.out] at ho
       replace HO_3:=Aside0.mk (Kd.R_after (ok:=(fun _=>True)) (zR (Kd.R_mono HO_3.out (fun _ hk=>⟨trivial,hk⟩))) hg hat)
       replace HB:=Aside0.mk (hb)
       have HO558:=Aside0.mk (ho)
       clear HO_11
       clear ho hb hg hat
       refine hK.out _ _ ?_
       clear hK K
       refine norm_ (a':=?_) ?_ ?_
       rotate_left
       ·show Act.put _ (some 76) _=_
        simp only [Act.put,List.setIfInBounds_toArray,List.set_cons_zero,List.set_cons_succ,i64_w,i32_w]
        rfl
       refine pu_ 14 11 ?_
       refine done_ (done_of HT_.out (by kernel_rfl)) ?_
       try go_wp2
       go_roundg k3
       case measure=>have:=HJ6.out;have:=HJ15.out;have:=HK3.out;omega
       case rel=>exact ⟨(y556),(wrap64 (x12_3 + 1)),zo,H',⟨by have:=HJ6.out;have:=HJ15.out;have:=HK3.out;omega⟩,⟨zR (Kd.R_mono HO_3.out (fun _ hk=>hk.2))⟩,⟨zR HO558.out⟩,⟨zb⟩⟩

/-- THE ONE PURE STATEMENT of laws_FnLateWeight: yours. -/
def laws_FnLateWeight.Pure:Prop:=∀ (l0:List Int),l0.length≤maxLen→l0.length * 1≤140737488351232→(∀ x ∈ l0,(Lit.int .u8 x).wf=true)→∃ k,laws_FnLateWeight.f k l0=some true
theorem laws_FnLateWeight.walk (P:laws_FnLateWeight.Pure) (a0:Option Addr) (len0 cap0:Nat) (z0:List Int) (w:World) (w0:(a0=none∧len0=0∧cap0=0∧z0=[])∨∃ x,a0=some x∧len0≤cap0∧cap0≤maxLen∧z0.length=cap0∧(∀ i,i<z0.length→w.cell? (x.add i)=some (.int .u8 (z0.getD i 0)))∧∀ n ∈ z0,(Lit.int .u8 n).wf=true) (y0:len0 * 1≤140737488351232) :
  Calls Try.prog 3 #[.slice a0 len0 cap0] w fun e w'=>e=.returned (.bool true)∧Below w.heap.size w w':=by
 obtain ⟨l0,rfl,hr0,hm0,hw0,hc0⟩:=ReadsInt.ofRowC w0
 obtain ⟨k,h⟩:=P l0 hm0 y0 hw0
 refine (laws_FnLateWeight.calls k _ _ l0 true w (Kd.C_of_reads (d:=(0:Int)) (h1:=fun _=>rfl) hr0) hc0 h).mono ?_
 rintro e w' ⟨rfl,hd⟩
 exact ⟨rfl,hd⟩

end Go.Proofs.Ytkolecmpncaooaa.XFnLateWeight
-- minified
