-- Written by a program of this session (the kit's print, widened). Proved here: what each function answers, for the arguments that its contract names.
import Derived.Test.YtbblhmpcpmamfaaXFnExactFrontOrderx0
import Derived.Test.YtbblhmpcpmamfaaXFnExactFrontOrderx3
import Derived.Test.YtbblhmpcpmamfaaXFnExactFrontOrderx7
import Derived.Test.YtbblhmpcpmamfaaXFnExactFrontOrderx8
namespace Go.Proofs.Ytbblhmpcpmamfaa.XFnExactFrontOrder
open Go.RowKit Go.Proofs.YtbblhmpcpmamfaaW.PrintWords Go.Proofs.YtbblhmpcpmamfaaW.PrintLast Go.Proofs.YtbblhmpcpmamfaaW.PrintMore
attribute [local go_sem] max2_int min2_int max_two min_two max_three min_three max_four min_four   -- for this text's walks alone
attribute [local go_sem] idxA_77_0 idxA_77_1 fldS_68_0 fldS_68_1 fldS_73_0 fldS_73_1 fldS_73_2
set_option linter.unusedVariables false
set_option linter.unusedSimpArgs false

/-! ### spec_FrontOrder: function 39 -/
def spec_FrontOrder.j0:Nat→List (S62)→Int→Int→Int→Bool→Option (List Int × Bool)
 | 0,_,_,_,_,_=>none
 | k + 1,x0,x1,x2,x3,x19=>if x19=true then (some ((([]:List Int)),false)) else ((spec_l11Front.f k x0 x1 x2).bind fun t254=>((spec_l1In.f x3 0 (wrap64 ((t254.length:Int) - 1))).bind fun t257=>(if t257=true then (if 0≤x3 then (if x3<(t254.length:Int) then ((spec_l11First.f k x0 (([]:List Int)) x1 x2 ((rd_T77 t254 x3).f0) ((rd_T77 t254 x3).f1)).bind fun bt262=>(some (bt262.1,bt262.2))) else (none)) else (none)) else (some ((([]:List Int)),false)))))
def spec_FrontOrder.f (k:Nat) (l0:List (S62)) (a1:Int) (a2:Int) (a3:Int):Option (List Int × Bool):=(spec_l2Good.f k l0).bind fun t249=>(if t249=true then ((spec_l11Two.f a1 a2).bind fun t250=>(spec_FrontOrder.j0 k l0 a1 a2 a3 (!t250))) else (spec_FrontOrder.j0 k l0 a1 a2 a3 true))
theorem spec_FrontOrder.mono_l:∀ k,(∀ y0 y1 y2 y3 y4,LeO (spec_FrontOrder.j0 k y0 y1 y2 y3 y4) (spec_FrontOrder.j0 (k + 1) y0 y1 y2 y3 y4))
 | 0=>fun _ _ _ _ _ r h=>by simp [spec_FrontOrder.j0] at h
 | k + 1=>by
  have ih0:=spec_FrontOrder.mono_l k
  ·intro y0 y1 y2 y3 y4
   unfold spec_FrontOrder.j0
   repeat' first
   | (with_reducible exact ih0 _ _ _ _ _)
   | (with_reducible exact spec_l11First.mono _ _ _ _ _ _ _)
   | (with_reducible exact spec_l11Front.mono _ _ _ _)
   | (with_reducible exact spec_l2Good.mono _ _)
   | (with_reducible exact LeO.refl _)
   | (with_reducible exact LeO.none _)
   | (with_reducible refine LeO.ite ?_ ?_)
   | (with_reducible refine LeO.bind ?_ (fun _=>?_))
   | exact ih0 _ _ _ _ _
   | exact spec_l11First.mono _ _ _ _ _ _ _
   | exact spec_l11Front.mono _ _ _ _
   | exact spec_l2Good.mono _ _
   | exact LeO.none _
   | refine LeO.ite ?_ ?_
   | refine LeO.bind ?_ (fun _=>?_)
theorem spec_FrontOrder.mono:∀ a0 a1 a2 a3 k,LeO (spec_FrontOrder.f k a0 a1 a2 a3) (spec_FrontOrder.f (k + 1) a0 a1 a2 a3):=by
 intro a0 a1 a2 a3 k
 have ih0:=spec_FrontOrder.mono_l k
 unfold spec_FrontOrder.f
 repeat' first
   | (with_reducible exact ih0 _ _ _ _ _)
   | (with_reducible exact spec_l11First.mono _ _ _ _ _ _ _)
   | (with_reducible exact spec_l11Front.mono _ _ _ _)
   | (with_reducible exact spec_l2Good.mono _ _)
   | (with_reducible exact LeO.refl _)
   | (with_reducible exact LeO.none _)
   | (with_reducible refine LeO.ite ?_ ?_)
   | (with_reducible refine LeO.bind ?_ (fun _=>?_))
   | exact ih0 _ _ _ _ _
   | exact spec_l11First.mono _ _ _ _ _ _ _
   | exact spec_l11Front.mono _ _ _ _
   | exact spec_l2Good.mono _ _
   | exact LeO.none _
   | refine LeO.ite ?_ ?_
   | refine LeO.bind ?_ (fun _=>?_)
set_option maxHeartbeats 8000000 in
set_option maxRecDepth 100000 in
theorem spec_FrontOrder.calls (k:Nat) (A0:Option Addr) (c0:Nat) (l0:List (S62)) (a1:Int) (a2:Int) (a3:Int) (r1:List Int) (r2:Bool) (w:World) (hr0:Kd.C k62 w A0 l0.length l0) (hc0:l0.length≤c0) (h:spec_FrontOrder.f k l0 a1 a2 a3=some (r1,r2)) :
  Calls Try.prog 39 #[.slice A0 l0.length c0,.int .i64 a1,.int .i64 a2,.int .i64 a3] w fun e w'=>∃ v0_:Value,e=.returned (.tuple #[v0_,.bool r2])∧Kd.R (Kd.int .i64) 3 w' w.heap.size (fun _=>True) v0_ r1∧Below w.heap.size w w':=by
 have hu77:=Try.underlying77
 have HR0:=Aside0.mk hr0
 have HC0:=Aside0.mk hc0
 clear hr0 hc0
 have HB:=Aside0.mk (Below.refl w.heap.size w)
 have H:((spec_l2Good.f k l0).bind fun t249=>(if t249=true then ((spec_l11Two.f a1 a2).bind fun t250=>(spec_FrontOrder.j0 k l0 a1 a2 a3 (!t250))) else (spec_FrontOrder.j0 k l0 a1 a2 a3 true)))=some (r1,r2):=h
 clear h
 have HC5:=Aside0.mk H
 clear H
 go_enter Try.func39,Try.ntmps39
 go_upto_region 1 with (fail)
 go_cut [19] (fun v19 wc=>∃ (kq:Nat) (x19_4:Bool),v19=.bool x19_4∧Aside0 (spec_FrontOrder.j0 kq l0 a1 a2 a3 x19_4=some (r1,r2))∧Aside0 (kq≤k)∧Aside0 (Below w.heap.size w wc))
 case first=>
  have H:=HC5.out
  clear HC5
  replace H:=Option.bind_eq_some_iff.mp H
  obtain ⟨t249,A60,H⟩:=H
  replace H:(if t249=true then ((spec_l11Two.f a1 a2).bind fun t250=>(spec_FrontOrder.j0 k l0 a1 a2 a3 (!t250))) else (spec_FrontOrder.j0 k l0 a1 a2 a3 true))=some (r1,r2):=H
  have A6:=Aside0.mk A60
  clear A60
  by_cases c7:t249=true
  ·subst c7
   have H1:((spec_l11Two.f a1 a2).bind fun t250=>(spec_FrontOrder.j0 k l0 a1 a2 a3 (!t250)))=some (r1,r2):=by rw [if_pos rfl] at H;exact H
   clear H
   have H:=H1
   clear H1
   replace H:=Option.bind_eq_some_iff.mp H
   obtain ⟨t250,A80,H⟩:=H
   replace H:(spec_FrontOrder.j0 k l0 a1 a2 a3 (!t250))=some (r1,r2):=H
   have A8:=Aside0.mk A80
   clear A80
   have H':=Aside0.mk H
   clear H
   go_wp2_with (first|((with_reducible refine gate_callee (f:=57) rfl ?_);refine goesL_ (some 12) rfl rfl Try.func57 (by kernel_rfl) rfl #[.slice A0 l0.length c0] rfl (by (try simp only [List.map_toArray,List.map_cons,List.map_nil]);first|done|rfl|(simp only [List.length_drop,List.length_take];rfl)) ?_;(with_reducible refine (spec_l2Good.calls k _ _ l0 true _ ?side1 ?side2 A6.out).mono ?_);(case side1=>repeat (first|exact (Kd.C_below HR0.out HB.out)|(with_reducible refine Kd.C_alloc ?_ _)|(with_reducible refine Kd.C_drewN ?_ _)|(with_reducible refine Kd.C_drew ?_)));(case side2=>exact HC0.out);rintro e w9 ⟨rfl,hb⟩;refine ⟨_,rfl,?_⟩;have n0_:=Aside0.mk (below_step (by repeat (first|(with_reducible first|exact HB.out|apply below_alloc|apply pw_below_drewN|apply below_drew1)|exact HB.out)) hb);clear HB;have HB:=n0_;clear n0_;(try clear hb);(try clear hb2);(try clear hk);(try clear hi))|(go_at_call 58;(with_reducible refine (spec_l11Two.calls a1 a2 t250 _ A8.out).mono ?_);rintro e w' ⟨rfl,⟨nd,rfl⟩⟩))
   go_meet
   case rel=>exact ⟨_,(!t250),(by first|rfl|(simp;done)|(simp [*];done)),H',⟨by first|omega|exact Nat.le_refl _⟩,⟨by repeat (first|(with_reducible first|exact HB.out|apply below_alloc|apply pw_below_drewN|apply below_drew1)|exact HB.out)⟩⟩
  ·replace c7:=Bool.eq_false_iff.mpr c7
   subst c7
   have H1:(spec_FrontOrder.j0 k l0 a1 a2 a3 true)=some (r1,r2):=by rw [if_neg (show ¬ (false=true) by decide)] at H;exact H
   clear H
   have H:=H1
   clear H1
   have H':=Aside0.mk H
   clear H
   go_wp2_with (first|((with_reducible refine gate_callee (f:=57) rfl ?_);refine goesL_ (some 12) rfl rfl Try.func57 (by kernel_rfl) rfl #[.slice A0 l0.length c0] rfl (by (try simp only [List.map_toArray,List.map_cons,List.map_nil]);first|done|rfl|(simp only [List.length_drop,List.length_take];rfl)) ?_;(with_reducible refine (spec_l2Good.calls k _ _ l0 false _ ?side1 ?side2 A6.out).mono ?_);(case side1=>repeat (first|exact (Kd.C_below HR0.out HB.out)|(with_reducible refine Kd.C_alloc ?_ _)|(with_reducible refine Kd.C_drewN ?_ _)|(with_reducible refine Kd.C_drew ?_)));(case side2=>exact HC0.out);rintro e w10 ⟨rfl,hb⟩;refine ⟨_,rfl,?_⟩;have n0_:=Aside0.mk (below_step (by repeat (first|(with_reducible first|exact HB.out|apply below_alloc|apply pw_below_drewN|apply below_drew1)|exact HB.out)) hb);clear HB;have HB:=n0_;clear n0_;(try clear hb);(try clear hb2);(try clear hk);(try clear hi)))
   go_meet
   case rel=>exact ⟨_,(true),(by first|rfl|(simp;done)|(simp [*];done)),H',⟨by first|omega|exact Nat.le_refl _⟩,⟨by repeat (first|(with_reducible first|exact HB.out|apply below_alloc|apply pw_below_drewN|apply below_drew1)|exact HB.out)⟩⟩
 case rest=>
  clear HC5
  try clear p2
  try clear c3
  try clear c5
  try clear c7
  obtain ⟨kq,x19_4,rfl,HA,HJ4,HB⟩:=hcut
  cases kq with
  | zero=>exact absurd HA.out (by simp [spec_FrontOrder.j0])
  | succ kj4=>
   have H:=HA.out
   clear HA
   simp only [spec_FrontOrder.j0] at H
   by_cases c11:x19_4=true
   ·subst c11
    have H1:(some ((([]:List Int)),false))=some (r1,r2):=by rw [if_pos rfl] at H;exact H
    clear H
    have H:=H1
    clear H1
    obtain ⟨y251,hy251⟩:∃ y_:List Int,y_=(([]:List Int)):=⟨_,rfl⟩
    replace H:(some (y251,false))=some (r1,r2):=by first|(rw [hy251];with_reducible exact H)|(have H2_:=(Option.bind_some _ _).symm.trans H;rw [hy251];with_reducible exact H2_)|(have H2_:=(Option.bind_some _ _).symm.trans H;with_reducible exact H2_)|with_reducible exact H|(rw [hy251];exact H)|exact H
    have Ny251:=Aside0.mk hy251
    clear hy251
    simp only [Option.some.injEq,Prod.mk.injEq] at H
    obtain ⟨rfl,rfl⟩:=H
    go_wp2_with (first|((with_reducible refine gate_dst (N:=20) rfl ?_);refine Kd.R_lit (Kd.int .i64) _ 3 ?hg (N:=20) ?hd (xs:=([]:List Int)) (inner:=[]) (ok:=fun _=>True) (okp:=fun _=>True) ?hr ?hp (fun _ hk=>hk) trivial (Below.refl _ _) (Nat.le_refl _) (by simp) ?_;(case hd=>rfl);(case hg=>rfl);(case hr=>first|(go_simp;done)|(go_simp;rfl));(case hp=>exact (Reps.none _ _));intro v252 w12 ho13 hb hg_ hnew_;clear hg_ hnew_;(first|rw [←Ny251.out] at ho13|(simp only [Int.reduceToNat] at ho13;rw [←Ny251.out] at ho13));have n0_:=Aside0.mk (Kd.R_lower ho13 (below_size (by repeat (first|(with_reducible first|exact HB.out|apply below_alloc|apply pw_below_drewN|apply below_drew1)|exact HB.out))));have n1_:=Aside0.mk (below_step (by repeat (first|(with_reducible first|exact HB.out|apply below_alloc|apply pw_below_drewN|apply below_drew1)|exact HB.out)) hb);clear HB;have HO253:=n0_;have HB:=n1_;clear n0_ n1_;clear hb ho13))
    go_ret2
    exact ⟨_,by first|rfl|(simp [errW_none,errW_some] <;> rfl)|(simp [*,errW_none,errW_some] <;> rfl),by (with_reducible repeat (first|apply Kd.R_alloc|apply Kd.R_drewN|apply Kd.R_drew));exact HO253.out,by repeat (first|(with_reducible first|exact HB.out|apply below_alloc|apply pw_below_drewN|apply below_drew1)|exact HB.out)⟩
   ·replace c11:=Bool.eq_false_iff.mpr c11
    subst c11
    have H1:((spec_l11Front.f kj4 l0 a1 a2).bind fun t254=>((spec_l1In.f a3 0 (wrap64 ((t254.length:Int) - 1))).bind fun t257=>(if t257=true then (if 0≤a3 then (if a3<(t254.length:Int) then ((spec_l11First.f kj4 l0 (([]:List Int)) a1 a2 ((rd_T77 t254 a3).f0) ((rd_T77 t254 a3).f1)).bind fun bt262=>(some (bt262.1,bt262.2))) else (none)) else (none)) else (some ((([]:List Int)),false)))))=some (r1,r2):=by rw [if_neg (show ¬ (false=true) by decide)] at H;exact H
    clear H
    have H:=H1
    clear H1
    replace H:=Option.bind_eq_some_iff.mp H
    obtain ⟨t254,A140,H⟩:=H
    replace H:((spec_l1In.f a3 0 (wrap64 ((t254.length:Int) - 1))).bind fun t257=>(if t257=true then (if 0≤a3 then (if a3<(t254.length:Int) then ((spec_l11First.f kj4 l0 (([]:List Int)) a1 a2 ((rd_T77 t254 a3).f0) ((rd_T77 t254 a3).f1)).bind fun bt262=>(some (bt262.1,bt262.2))) else (none)) else (none)) else (some ((([]:List Int)),false))))=some (r1,r2):=H
    have A14:=Aside0.mk A140
    clear A140
    replace H:=Option.bind_eq_some_iff.mp H
    obtain ⟨t257,A150,H⟩:=H
    replace H:(if t257=true then (if 0≤a3 then (if a3<(t254.length:Int) then ((spec_l11First.f kj4 l0 (([]:List Int)) a1 a2 ((rd_T77 t254 a3).f0) ((rd_T77 t254 a3).f1)).bind fun bt262=>(some (bt262.1,bt262.2))) else (none)) else (none)) else (some ((([]:List Int)),false)))=some (r1,r2):=H
    have A15:=Aside0.mk A150
    clear A150
    by_cases c16:t257=true
    ·subst c16
     have H1:(if 0≤a3 then (if a3<(t254.length:Int) then ((spec_l11First.f kj4 l0 (([]:List Int)) a1 a2 ((rd_T77 t254 a3).f0) ((rd_T77 t254 a3).f1)).bind fun bt262=>(some (bt262.1,bt262.2))) else (none)) else (none))=some (r1,r2):=by rw [if_pos rfl] at H;exact H
     clear H
     have H:=H1
     clear H1
     obtain ⟨y258,hy258⟩:∃ y_:List Int,y_=(([]:List Int)):=⟨_,rfl⟩
     replace H:(if 0≤a3 then (if a3<(t254.length:Int) then ((spec_l11First.f kj4 l0 y258 a1 a2 ((rd_T77 t254 a3).f0) ((rd_T77 t254 a3).f1)).bind fun bt262=>(some (bt262.1,bt262.2))) else (none)) else (none))=some (r1,r2):=by first|(rw [hy258];with_reducible exact H)|(have H2_:=(Option.bind_some _ _).symm.trans H;rw [hy258];with_reducible exact H2_)|(have H2_:=(Option.bind_some _ _).symm.trans H;with_reducible exact H2_)|with_reducible exact H|(rw [hy258];exact H)|exact H
     have Ny258:=Aside0.mk hy258
     clear hy258
     by_cases c17:0≤a3
     ·rw [if_pos c17] at H
      have c17b0:decide (0≤a3)=true:=decide_eq_true c17
      clear c17
      by_cases c18:a3<(t254.length:Int)
      ·rw [if_pos c18] at H
       have c18b0:decide (a3<(t254.length:Int))=true:=decide_eq_true c18
       clear c18
       replace H:=Option.bind_eq_some_iff.mp H
       obtain ⟨⟨t262,t265⟩,A190,H⟩:=H
       replace H:(some (t262,t265))=some (r1,r2):=H
       have A19:=Aside0.mk A190
       clear A190
       simp only [Option.some.injEq,Prod.mk.injEq] at H
       obtain ⟨rfl,rfl⟩:=H
       go_wp2_with (first|((with_reducible refine gate_callee (f:=75) rfl ?_);refine goesL_ (some 24) rfl rfl Try.func75 (by kernel_rfl) rfl #[.slice A0 l0.length c0,.int .i64 a1,.int .i64 a2] rfl (by (try simp only [List.map_toArray,List.map_cons,List.map_nil]);first|done|rfl|(simp only [List.length_drop,List.length_take];rfl)) ?_;(with_reducible refine (spec_l11Front.calls kj4 _ _ l0 a1 a2 t254 _ ?side1 ?side2 A14.out).mono ?_);(case side1=>repeat (first|exact (Kd.C_below HR0.out HB.out)|(with_reducible refine Kd.C_alloc ?_ _)|(with_reducible refine Kd.C_drewN ?_ _)|(with_reducible refine Kd.C_drew ?_)));(case side2=>exact HC0.out);rintro e w20 ⟨v255,rfl,ho0,hb⟩;refine ⟨_,rfl,?_⟩;have n0_:=Aside0.mk (Kd.R_lower ho0 (below_size (by repeat (first|(with_reducible first|exact HB.out|apply below_alloc|apply pw_below_drewN|apply below_drew1)|exact HB.out))));have n1_:=Aside0.mk (below_step (by repeat (first|(with_reducible first|exact HB.out|apply below_alloc|apply pw_below_drewN|apply below_drew1)|exact HB.out)) hb);clear HB;have HO256:=n0_;have HB:=n1_;clear n0_ n1_;(try clear hb);(try clear hb2);(try clear hk);(try clear hi);(try clear ho0);obtain ⟨Ao21,co21,eo21⟩:=Kd.R_slice HO256.out;subst eo21)|((with_reducible refine gate_callee (f:=77) rfl ?_);refine goesL_ (some 29) rfl rfl Try.func77 (by kernel_rfl) rfl #[.int .i64 a3,.int .i64 0,.int .i64 (wrap64 ((t254.length:Int) - 1))] rfl (by (try simp only [List.map_toArray,List.map_cons,List.map_nil]);first|done|rfl|(simp only [List.length_drop,List.length_take];rfl)) ?_;(with_reducible refine (spec_l1In.calls a3 0 (wrap64 ((t254.length:Int) - 1)) true _ A15.out).mono ?_);rintro e w' ⟨rfl,⟨nd,rfl⟩⟩;refine ⟨_,rfl,?_⟩)|((with_reducible refine gate_dst (N:=33) rfl ?_);refine Kd.R_lit (Kd.int .i64) _ 3 ?hg (N:=33) ?hd (xs:=([]:List Int)) (inner:=[]) (ok:=fun _=>True) (okp:=fun _=>True) ?hr ?hp (fun _ hk=>hk) trivial (Below.refl _ _) (Nat.le_refl _) (by simp) ?_;(case hd=>rfl);(case hg=>rfl);(case hr=>first|(go_simp;done)|(go_simp;rfl));(case hp=>exact (Reps.none _ _));intro v259 w22 ho23 hb hg_ hnew_;clear hg_ hnew_;(first|rw [←Ny258.out] at ho23|(simp only [Int.reduceToNat] at ho23;rw [←Ny258.out] at ho23));have n0_:=Aside0.mk (Kd.R_below (by (with_reducible repeat (first|apply Kd.R_alloc|apply Kd.R_drewN|apply Kd.R_drew));exact HO256.out) hb);have n1_:=Aside0.mk (Kd.R_lower ho23 (below_size (by repeat (first|(with_reducible first|exact HB.out|apply below_alloc|apply pw_below_drewN|apply below_drew1)|exact HB.out))));have n2_:=Aside0.mk (below_step (by repeat (first|(with_reducible first|exact HB.out|apply below_alloc|apply pw_below_drewN|apply below_drew1)|exact HB.out)) hb);clear HO256;clear HB;have HO256:=n0_;have HO260:=n1_;have HB:=n2_;clear n0_ n1_ n2_;clear hb ho23;have p261:0≤(a3:Int):=of_decide_eq_true (by first|(with_reducible assumption)|assumption);have q261:a3<(t254.length:Int):=of_decide_eq_true (by first|(with_reducible assumption)|assumption);obtain ⟨ad261,e261,hx261_0,hx261_1⟩:=at_T77 (Kd.R_reads' HO256.out).2.2 a3 p261 q261;cases e261;replace p261:=eq_true p261;replace q261:=eq_true q261;obtain ⟨Ao24,co24,eo24⟩:=Kd.R_slice HO260.out;subst eo24)|((with_reducible refine gate_callee (f:=78) rfl ?_);refine goesL_ (some 40) rfl rfl Try.func78 (by kernel_rfl) rfl #[.slice A0 l0.length c0,.slice Ao24 y258.length co24,.int .i64 a1,.int .i64 a2,.agg #[.int .i64 ((rd_T77 t254 a3).f0),.int .i64 ((rd_T77 t254 a3).f1)]] rfl (by (try simp only [List.map_toArray,List.map_cons,List.map_nil]);first|done|rfl|(simp only [List.length_drop,List.length_take];rfl)) ?_;(with_reducible refine (spec_l11First.calls kj4 _ _ l0 (fun k_=>some k_=(.slice Ao24 y258.length co24:Value).ownBlock) (.slice Ao24 y258.length co24) y258 a1 a2 ((rd_T77 t254 a3).f0) ((rd_T77 t254 a3).f1) t262 t265 w _ ?side1 ?side2 ?side3 ?side4 A19.out).mono ?_);(case side1=>repeat (first|(with_reducible first|exact HB.out|apply below_alloc|apply pw_below_drewN|apply below_drew1)|exact HB.out));(case side2=>exact Kd.C_kept_came k62_heap HR0.out (by repeat (first|(with_reducible first|exact HB.out|apply below_alloc|apply pw_below_drewN|apply below_drew1)|exact HB.out)) (fun k_ hs_=>(fun e_=>Kd.R_base HO260.out k_ e_.symm) hs_));(case side3=>exact HC0.out);(case side4=>exact Kd.R_tight rfl HO260.out);rintro e w25 ⟨v263,rfl,ho0,hb,hkp⟩;refine ⟨_,rfl,?_⟩;have n0_:=Aside0.mk (Kd.R_mono (ok':=fun k_=>True) (Kd.R_keptB ((Kd.R_apart' HO256.out (Kd.R_typed HO260.out) (by decide))) hkp (fun k_ hk_ hs_=>(hk_.2) hs_)) (fun k_ hk_=>trivial));have n1_:=Aside0.mk (Kd.R_mono (ok':=fun k_=>True) ho0 (fun k_ hk_=>trivial));have n2_:=Aside0.mk (hb);clear HO256;clear HB;clear HO260;have HO256:=n0_;have HO264:=n1_;have HB:=n2_;clear n0_ n1_ n2_;(try clear hb);(try clear hkp);(try clear ho0)))
       go_ret2
       exact ⟨_,by first|rfl|(simp [errW_none,errW_some] <;> rfl)|(simp [*,errW_none,errW_some] <;> rfl),by (with_reducible repeat (first|apply Kd.R_alloc|apply Kd.R_drewN|apply Kd.R_drew));exact HO264.out,by repeat (first|(with_reducible first|exact HB.out|apply below_alloc|apply pw_below_drewN|apply below_drew1)|exact HB.out)⟩
      ·rw [if_neg c18] at H
       exact absurd H (by simp)
     ·rw [if_neg c17] at H
      exact absurd H (by simp)
    ·replace c16:=Bool.eq_false_iff.mpr c16
     subst c16
     have H1:(some ((([]:List Int)),false))=some (r1,r2):=by rw [if_neg (show ¬ (false=true) by decide)] at H;exact H
     clear H
     have H:=H1
     clear H1
     obtain ⟨y266,hy266⟩:∃ y_:List Int,y_=(([]:List Int)):=⟨_,rfl⟩
     replace H:(some (y266,false))=some (r1,r2):=by first|(rw [hy266];with_reducible exact H)|(have H2_:=(Option.bind_some _ _).symm.trans H;rw [hy266];with_reducible exact H2_)|(have H2_:=(Option.bind_some _ _).symm.trans H;with_reducible exact H2_)|with_reducible exact H|(rw [hy266];exact H)|exact H
     have Ny266:=Aside0.mk hy266
     clear hy266
     simp only [Option.some.injEq,Prod.mk.injEq] at H
     obtain ⟨rfl,rfl⟩:=H
     go_wp2_with (first|((with_reducible refine gate_callee (f:=75) rfl ?_);refine goesL_ (some 24) rfl rfl Try.func75 (by kernel_rfl) rfl #[.slice A0 l0.length c0,.int .i64 a1,.int .i64 a2] rfl (by (try simp only [List.map_toArray,List.map_cons,List.map_nil]);first|done|rfl|(simp only [List.length_drop,List.length_take];rfl)) ?_;(with_reducible refine (spec_l11Front.calls kj4 _ _ l0 a1 a2 t254 _ ?side1 ?side2 A14.out).mono ?_);(case side1=>repeat (first|exact (Kd.C_below HR0.out HB.out)|(with_reducible refine Kd.C_alloc ?_ _)|(with_reducible refine Kd.C_drewN ?_ _)|(with_reducible refine Kd.C_drew ?_)));(case side2=>exact HC0.out);rintro e w26 ⟨v255,rfl,ho0,hb⟩;refine ⟨_,rfl,?_⟩;have n0_:=Aside0.mk (Kd.R_lower ho0 (below_size (by repeat (first|(with_reducible first|exact HB.out|apply below_alloc|apply pw_below_drewN|apply below_drew1)|exact HB.out))));have n1_:=Aside0.mk (below_step (by repeat (first|(with_reducible first|exact HB.out|apply below_alloc|apply pw_below_drewN|apply below_drew1)|exact HB.out)) hb);clear HB;have HO256:=n0_;have HB:=n1_;clear n0_ n1_;(try clear hb);(try clear hb2);(try clear hk);(try clear hi);(try clear ho0);obtain ⟨Ao27,co27,eo27⟩:=Kd.R_slice HO256.out;subst eo27)|((with_reducible refine gate_callee (f:=77) rfl ?_);refine goesL_ (some 29) rfl rfl Try.func77 (by kernel_rfl) rfl #[.int .i64 a3,.int .i64 0,.int .i64 (wrap64 ((t254.length:Int) - 1))] rfl (by (try simp only [List.map_toArray,List.map_cons,List.map_nil]);first|done|rfl|(simp only [List.length_drop,List.length_take];rfl)) ?_;(with_reducible refine (spec_l1In.calls a3 0 (wrap64 ((t254.length:Int) - 1)) false _ A15.out).mono ?_);rintro e w' ⟨rfl,⟨nd,rfl⟩⟩;refine ⟨_,rfl,?_⟩)|((with_reducible refine gate_dst (N:=31) rfl ?_);refine Kd.R_lit (Kd.int .i64) _ 3 ?hg (N:=31) ?hd (xs:=([]:List Int)) (inner:=[]) (ok:=fun _=>True) (okp:=fun _=>True) ?hr ?hp (fun _ hk=>hk) trivial (Below.refl _ _) (Nat.le_refl _) (by simp) ?_;(case hd=>rfl);(case hg=>rfl);(case hr=>first|(go_simp;done)|(go_simp;rfl));(case hp=>exact (Reps.none _ _));intro v267 w28 ho29 hb hg_ hnew_;clear hg_ hnew_;(first|rw [←Ny266.out] at ho29|(simp only [Int.reduceToNat] at ho29;rw [←Ny266.out] at ho29));have n0_:=Aside0.mk (Kd.R_below (by (with_reducible repeat (first|apply Kd.R_alloc|apply Kd.R_drewN|apply Kd.R_drew));exact HO256.out) hb);have n1_:=Aside0.mk (Kd.R_lower ho29 (below_size (by repeat (first|(with_reducible first|exact HB.out|apply below_alloc|apply pw_below_drewN|apply below_drew1)|exact HB.out))));have n2_:=Aside0.mk (below_step (by repeat (first|(with_reducible first|exact HB.out|apply below_alloc|apply pw_below_drewN|apply below_drew1)|exact HB.out)) hb);clear HO256;clear HB;have HO256:=n0_;have HO268:=n1_;have HB:=n2_;clear n0_ n1_ n2_;clear hb ho29))
     go_ret2
     exact ⟨_,by first|rfl|(simp [errW_none,errW_some] <;> rfl)|(simp [*,errW_none,errW_some] <;> rfl),by (with_reducible repeat (first|apply Kd.R_alloc|apply Kd.R_drewN|apply Kd.R_drew));exact HO268.out,by repeat (first|(with_reducible first|exact HB.out|apply below_alloc|apply pw_below_drewN|apply below_drew1)|exact HB.out)⟩

/-! ### impl_within: function 107 -/
def impl_within.f (a0:Int) (a1:Int) (a2:Int):Option (Bool):=if a1≤a0 then (some (decide (a0≤a2))) else (some false)
set_option maxHeartbeats 8000000 in
set_option maxRecDepth 100000 in
theorem impl_within.calls (a0:Int) (a1:Int) (a2:Int) (r:Bool) (w:World) (h:impl_within.f a0 a1 a2=some r) :
  Calls Try.prog 107 #[.int .i64 a0,.int .i64 a1,.int .i64 a2] w fun e w'=>e=.returned (.bool r)∧Drawn0 w w':=by
 have H:(if a1≤a0 then (some (decide (a0≤a2))) else (some false))=some r:=h
 clear h
 by_cases c4:a1≤a0
 ·rw [if_pos c4] at H
  have c4b0:decide (a1≤a0)=true:=decide_eq_true c4
  clear c4
  obtain rfl:=Option.some.inj H
  go_enter Try.func107,Try.ntmps107
  go_wp2
  go_ret
  exact ⟨by first|rfl|(simp;done)|(simp [*];done),by repeat (first|exact Drawn0.refl _|apply Drawn0.step)⟩
 ·rw [if_neg c4] at H
  have c4b0:decide (a1≤a0)=false:=decide_eq_false c4
  clear c4
  obtain rfl:=Option.some.inj H
  go_enter Try.func107,Try.ntmps107
  go_wp2
  go_ret
  exact ⟨by first|rfl|(simp;done)|(simp [*];done),by repeat (first|exact Drawn0.refl _|apply Drawn0.step)⟩

/-! ### impl_isDate: function 119 -/
def impl_isDate.f (a0:Int):Option (Bool):=(impl_within.f a0 0 500).bind fun t269=>(some t269)
set_option maxHeartbeats 8000000 in
set_option maxRecDepth 100000 in
theorem impl_isDate.calls (a0:Int) (r:Bool) (w:World) (h:impl_isDate.f a0=some r) :
  Calls Try.prog 119 #[.int .i64 a0] w fun e w'=>e=.returned (.bool r)∧Drawn0 w w':=by
 have H:((impl_within.f a0 0 500).bind fun t269=>(some t269))=some r:=h
 clear h
 replace H:=Option.bind_eq_some_iff.mp H
 obtain ⟨t269,A20,H⟩:=H
 replace H:(some t269)=some r:=H
 have A2:=Aside0.mk A20
 clear A20
 obtain rfl:=Option.some.inj H
 go_enter Try.func119,Try.ntmps119
 go_wp2_with (first|((with_reducible refine gate_callee (f:=107) rfl ?_);refine goesL_ (some 4) rfl rfl Try.func107 (by kernel_rfl) rfl #[.int .i64 a0,.int .i64 0,.int .i64 500] rfl (by (try simp only [List.map_toArray,List.map_cons,List.map_nil]);first|done|rfl|(simp only [List.length_drop,List.length_take];rfl)) ?_;(with_reducible refine (impl_within.calls a0 0 500 t269 _ A2.out).mono ?_);rintro e w' ⟨rfl,⟨nd,rfl⟩⟩;refine ⟨_,rfl,?_⟩))
 go_ret
 exact ⟨by first|rfl|(simp;done)|(simp [*];done),by repeat (first|exact Drawn0.refl _|apply Drawn0.step)⟩

/-! ### impl_IsJobs: function 88 -/
def impl_IsJobs.l0:Nat→List (S62)→Int→Int→Option (Bool)
 | 0,_,_,_=>none
 | k + 1,x8,x9,x10=>if x10<x9 then (if 0≤x10 then (if x10<(x8.length:Int) then ((impl_within.f ((rd_T62 x8 x10).f0) 1 50).bind fun t272=>(if t272=true then ((impl_within.f ((rd_T62 x8 x10).f1) 0 50).bind fun t273=>(if t273=true then ((impl_isDate.f ((rd_T62 x8 x10).f2)).bind fun t274=>(if t274=true then ((impl_isDate.f ((rd_T62 x8 x10).f3)).bind fun t275=>(if t275=true then (impl_IsJobs.l0 k x8 x9 (wrap64 (x10 + 1))) else (some false))) else (some false))) else (some false))) else (some false))) else (none)) else (none)) else (some true)
def impl_IsJobs.f (k:Nat) (l0:List (S62)):Option (Bool):=if (l0.length:Int)>8 then (some false) else (impl_IsJobs.l0 k l0 (l0.length:Int) 0)
theorem impl_IsJobs.mono_l:∀ k,(∀ y0 y1 y2,LeO (impl_IsJobs.l0 k y0 y1 y2) (impl_IsJobs.l0 (k + 1) y0 y1 y2))
 | 0=>fun _ _ _ r h=>by simp [impl_IsJobs.l0] at h
 | k + 1=>by
  have ih0:=impl_IsJobs.mono_l k
  ·intro y0 y1 y2
   unfold impl_IsJobs.l0
   repeat' first
   | (with_reducible exact ih0 _ _ _)
   | (with_reducible exact LeO.refl _)
   | (with_reducible exact LeO.none _)
   | (with_reducible refine LeO.ite ?_ ?_)
   | (with_reducible refine LeO.bind ?_ (fun _=>?_))
   | exact ih0 _ _ _
   | exact LeO.none _
   | refine LeO.ite ?_ ?_
   | refine LeO.bind ?_ (fun _=>?_)
theorem impl_IsJobs.mono:∀ a0 k,LeO (impl_IsJobs.f k a0) (impl_IsJobs.f (k + 1) a0):=by
 intro a0 k
 have ih0:=impl_IsJobs.mono_l k
 unfold impl_IsJobs.f
 repeat' first
   | (with_reducible exact ih0 _ _ _)
   | (with_reducible exact LeO.refl _)
   | (with_reducible exact LeO.none _)
   | (with_reducible refine LeO.ite ?_ ?_)
   | (with_reducible refine LeO.bind ?_ (fun _=>?_))
   | exact ih0 _ _ _
   | exact LeO.none _
   | refine LeO.ite ?_ ?_
   | refine LeO.bind ?_ (fun _=>?_)
set_option maxHeartbeats 8000000 in
set_option maxRecDepth 100000 in
theorem impl_IsJobs.calls (k:Nat) (A0:Option Addr) (c0:Nat) (l0:List (S62)) (r:Bool) (w:World) (hr0:Kd.C k62 w A0 l0.length l0) (hc0:l0.length≤c0) (h:impl_IsJobs.f k l0=some r) :
  Calls Try.prog 88 #[.slice A0 l0.length c0] w fun e w'=>e=.returned (.bool r)∧Below w.heap.size w w':=by
 have hu62:=Try.underlying62
 have HR0:=Aside0.mk hr0
 have HC0:=Aside0.mk hc0
 clear hr0 hc0
 have HB:=Aside0.mk (Below.refl w.heap.size w)
 have H:(if (l0.length:Int)>8 then (some false) else (impl_IsJobs.l0 k l0 (l0.length:Int) 0))=some r:=h
 clear h
 by_cases c2:(l0.length:Int)>8
 ·rw [if_pos c2] at H
  have c2b0:decide (8<(l0.length:Int))=true:=decide_eq_true c2
  have c2b1:decide (8<l0.length)=true:=decide_eq_true (by omega)
  clear c2
  obtain rfl:=Option.some.inj H
  go_enter Try.func88,Try.ntmps88
  go_wp2
  go_ret
  exact ⟨by first|rfl|(simp [errW_none,errW_some] <;> rfl)|(simp [*,errW_none,errW_some] <;> rfl),by repeat (first|(with_reducible first|exact HB.out|apply below_alloc|apply pw_below_drewN|apply below_drew1)|exact HB.out)⟩
 ·rw [if_neg c2] at H
  have c2b0:decide (8<(l0.length:Int))=false:=decide_eq_false c2
  have c2b1:decide (8<l0.length)=false:=decide_eq_false (by omega)
  clear c2
  have H':=Aside0.mk H
  clear H
  go_enter Try.func88,Try.ntmps88
  go_wp2
  go_loopg [10] k (fun kq v10 w'=>∃ (x10_1:Int),v10=.int .i64 x10_1∧Aside0 (impl_IsJobs.l0 kq l0 (l0.length:Int) x10_1=some r)∧Aside0 (kq≤k)∧Aside0 (Below w.heap.size w w'))
  case atStart=>exact ⟨(0),(by first|rfl|(simp;done)|(simp [*];done)),H',⟨Nat.le_refl _⟩,⟨by repeat (first|(with_reducible first|exact HB.out|apply below_alloc|apply pw_below_drewN|apply below_drew1)|exact HB.out)⟩⟩
  case round=>
   clear H'
   try clear c2
   try clear c2b0
   try clear c2b1
   try clear p2
   obtain ⟨x10_1,rfl,HA,HK1,HB⟩:=hrel
   cases gk with
   | zero=>exact absurd HA.out (by simp [impl_IsJobs.l0])
   | succ k1=>
    have H:=HA.out
    clear HA
    simp only [impl_IsJobs.l0] at H
    by_cases c3:x10_1<(l0.length:Int)
    ·rw [if_pos c3] at H
     have c3b0:decide (x10_1<(l0.length:Int))=true:=decide_eq_true c3
     clear c3
     by_cases c4:0≤x10_1
     ·rw [if_pos c4] at H
      have c4b0:decide (0≤x10_1)=true:=decide_eq_true c4
      clear c4
      by_cases c5:x10_1<(l0.length:Int)
      ·rw [if_pos c5] at H
       have c5b0:decide (x10_1<(l0.length:Int))=true:=decide_eq_true c5
       clear c5
       replace H:=Option.bind_eq_some_iff.mp H
       obtain ⟨t272,A60,H⟩:=H
       replace H:(if t272=true then ((impl_within.f ((rd_T62 l0 x10_1).f1) 0 50).bind fun t273=>(if t273=true then ((impl_isDate.f ((rd_T62 l0 x10_1).f2)).bind fun t274=>(if t274=true then ((impl_isDate.f ((rd_T62 l0 x10_1).f3)).bind fun t275=>(if t275=true then (impl_IsJobs.l0 k1 l0 (l0.length:Int) (wrap64 (x10_1 + 1))) else (some false))) else (some false))) else (some false))) else (some false))=some r:=H
       have A6:=Aside0.mk A60
       clear A60
       by_cases c7:t272=true
       ·subst c7
        have H1:((impl_within.f ((rd_T62 l0 x10_1).f1) 0 50).bind fun t273=>(if t273=true then ((impl_isDate.f ((rd_T62 l0 x10_1).f2)).bind fun t274=>(if t274=true then ((impl_isDate.f ((rd_T62 l0 x10_1).f3)).bind fun t275=>(if t275=true then (impl_IsJobs.l0 k1 l0 (l0.length:Int) (wrap64 (x10_1 + 1))) else (some false))) else (some false))) else (some false)))=some r:=by rw [if_pos rfl] at H;exact H
        clear H
        have H:=H1
        clear H1
        replace H:=Option.bind_eq_some_iff.mp H
        obtain ⟨t273,A80,H⟩:=H
        replace H:(if t273=true then ((impl_isDate.f ((rd_T62 l0 x10_1).f2)).bind fun t274=>(if t274=true then ((impl_isDate.f ((rd_T62 l0 x10_1).f3)).bind fun t275=>(if t275=true then (impl_IsJobs.l0 k1 l0 (l0.length:Int) (wrap64 (x10_1 + 1))) else (some false))) else (some false))) else (some false))=some r:=H
        have A8:=Aside0.mk A80
        clear A80
        by_cases c9:t273=true
        ·subst c9
         have H1:((impl_isDate.f ((rd_T62 l0 x10_1).f2)).bind fun t274=>(if t274=true then ((impl_isDate.f ((rd_T62 l0 x10_1).f3)).bind fun t275=>(if t275=true then (impl_IsJobs.l0 k1 l0 (l0.length:Int) (wrap64 (x10_1 + 1))) else (some false))) else (some false)))=some r:=by rw [if_pos rfl] at H;exact H
         clear H
         have H:=H1
         clear H1
         replace H:=Option.bind_eq_some_iff.mp H
         obtain ⟨t274,A100,H⟩:=H
         replace H:(if t274=true then ((impl_isDate.f ((rd_T62 l0 x10_1).f3)).bind fun t275=>(if t275=true then (impl_IsJobs.l0 k1 l0 (l0.length:Int) (wrap64 (x10_1 + 1))) else (some false))) else (some false))=some r:=H
         have A10:=Aside0.mk A100
         clear A100
         by_cases c11:t274=true
         ·subst c11
          have H1:((impl_isDate.f ((rd_T62 l0 x10_1).f3)).bind fun t275=>(if t275=true then (impl_IsJobs.l0 k1 l0 (l0.length:Int) (wrap64 (x10_1 + 1))) else (some false)))=some r:=by rw [if_pos rfl] at H;exact H
          clear H
          have H:=H1
          clear H1
          replace H:=Option.bind_eq_some_iff.mp H
          obtain ⟨t275,A120,H⟩:=H
          replace H:(if t275=true then (impl_IsJobs.l0 k1 l0 (l0.length:Int) (wrap64 (x10_1 + 1))) else (some false))=some r:=H
          have A12:=Aside0.mk A120
          clear A120
          by_cases c13:t275=true
          ·subst c13
           have H1:(impl_IsJobs.l0 k1 l0 (l0.length:Int) (wrap64 (x10_1 + 1)))=some r:=by rw [if_pos rfl] at H;exact H
           clear H
           have H:=H1
           clear H1
           have H':=Aside0.mk H
           clear H
           have p270:0≤(x10_1:Int):=of_decide_eq_true (by first|(with_reducible assumption)|assumption)
           have q270:x10_1<(l0.length:Int):=of_decide_eq_true (by first|(with_reducible assumption)|assumption)
           obtain ⟨ad270,e270,hx270_0,hx270_1,hx270_2,hx270_3⟩:=at_T62 HR0.out x10_1 p270 q270
           cases e270
           replace hx270_0:=(HB.out.cell (World.block_lt_of_cell? w _ hx270_0)).trans hx270_0
           replace hx270_1:=(HB.out.cell (World.block_lt_of_cell? w _ hx270_1)).trans hx270_1
           replace hx270_2:=(HB.out.cell (World.block_lt_of_cell? w _ hx270_2)).trans hx270_2
           replace hx270_3:=(HB.out.cell (World.block_lt_of_cell? w _ hx270_3)).trans hx270_3
           replace p270:=eq_true p270
           replace q270:=eq_true q270
           go_wp2_with (first|((with_reducible refine gate_dst (N:=4) rfl ?_);refine box_event ?hg (N:=4) ?hd (cs:=#[.int .i64 0,.int .i64 0,.int .i64 0,.int .i64 0]) (t:=62) ?hr ?_;(case hd=>rfl);(case hg=>rfl);(case hr=>first|(go_simp;done)|(go_simp;rfl));intro gb271 hg w14 hbox hb;have n0_:=Aside0.mk (below_step (by repeat (first|(with_reducible first|exact HB.out|apply below_alloc|apply pw_below_drewN|apply below_drew1)|exact HB.out)) hb);have n1_:=Aside0.mk (hbox);have n2_:=Aside0.mk ((by rw [hg];exact (below_size (by repeat (first|(with_reducible first|exact HB.out|apply below_alloc|apply pw_below_drewN|apply below_drew1)|exact HB.out))):w.heap.size≤gb271));have n3_:=Aside0.mk ((by rw [hg];exact (below_size (by repeat (first|(with_reducible first|exact HB.out|apply below_alloc|apply pw_below_drewN|apply below_drew1)|exact HB.out))):w.heap.size≤gb271));clear HB;have HB:=n0_;have BK271:=n1_;have GW271:=n2_;have GE271:=n3_;clear n0_ n1_ n2_ n3_;clear hb hbox hg;have hcz15_0:w14.cell? ⟨gb271,0,none⟩=some (.int .i64 0):=(blk_cell BK271.out 0).trans rfl;have hcz15_1:w14.cell? ⟨gb271,1,none⟩=some (.int .i64 0):=(blk_cell BK271.out 1).trans rfl;have hcz15_2:w14.cell? ⟨gb271,2,none⟩=some (.int .i64 0):=(blk_cell BK271.out 2).trans rfl;have hcz15_3:w14.cell? ⟨gb271,3,none⟩=some (.int .i64 0):=(blk_cell BK271.out 3).trans rfl;have hfz15_0:=blk_frozen BK271.out 0;have hfz15_1:=blk_frozen BK271.out 1;have hfz15_2:=blk_frozen BK271.out 2;have hfz15_3:=blk_frozen BK271.out 3)|((with_reducible refine gate_callee (f:=107) rfl ?_);refine goesL_ (some 16) rfl rfl Try.func107 (by kernel_rfl) rfl #[.int .i64 ((rd_T62 l0 x10_1).f0),.int .i64 1,.int .i64 50] rfl (by (try simp only [List.map_toArray,List.map_cons,List.map_nil]);first|done|rfl|(simp only [List.length_drop,List.length_take];rfl)) ?_;(with_reducible refine (impl_within.calls ((rd_T62 l0 x10_1).f0) 1 50 true _ A6.out).mono ?_);rintro e w' ⟨rfl,⟨nd,rfl⟩⟩;refine ⟨_,rfl,?_⟩)|(go_at_call 107;(with_reducible refine (impl_within.calls ((rd_T62 l0 x10_1).f1) 0 50 true _ A8.out).mono ?_);rintro e w' ⟨rfl,⟨nd,rfl⟩⟩)|(go_at_call 119;(with_reducible refine (impl_isDate.calls ((rd_T62 l0 x10_1).f2) true _ A10.out).mono ?_);rintro e w' ⟨rfl,⟨nd,rfl⟩⟩)|(go_at_call 119;(with_reducible refine (impl_isDate.calls ((rd_T62 l0 x10_1).f3) true _ A12.out).mono ?_);rintro e w' ⟨rfl,⟨nd,rfl⟩⟩))
           go_roundg k1
           case measure=>have:=HK1.out;omega
           case rel=>exact ⟨(wrap64 (x10_1 + 1)),(by first|rfl|(simp;done)|(simp [*];done)),H',⟨by have:=HK1.out;omega⟩,⟨by repeat (first|(with_reducible first|exact HB.out|apply below_alloc|apply pw_below_drewN|apply below_drew1|refine below_set ?_ GE271.out)|exact HB.out)⟩⟩
          ·replace c13:=Bool.eq_false_iff.mpr c13
           subst c13
           have H1:(some false)=some r:=by rw [if_neg (show ¬ (false=true) by decide)] at H;exact H
           clear H
           have H:=H1
           clear H1
           obtain rfl:=Option.some.inj H
           have p270:0≤(x10_1:Int):=of_decide_eq_true (by first|(with_reducible assumption)|assumption)
           have q270:x10_1<(l0.length:Int):=of_decide_eq_true (by first|(with_reducible assumption)|assumption)
           obtain ⟨ad270,e270,hx270_0,hx270_1,hx270_2,hx270_3⟩:=at_T62 HR0.out x10_1 p270 q270
           cases e270
           replace hx270_0:=(HB.out.cell (World.block_lt_of_cell? w _ hx270_0)).trans hx270_0
           replace hx270_1:=(HB.out.cell (World.block_lt_of_cell? w _ hx270_1)).trans hx270_1
           replace hx270_2:=(HB.out.cell (World.block_lt_of_cell? w _ hx270_2)).trans hx270_2
           replace hx270_3:=(HB.out.cell (World.block_lt_of_cell? w _ hx270_3)).trans hx270_3
           replace p270:=eq_true p270
           replace q270:=eq_true q270
           go_wp2_with (first|((with_reducible refine gate_dst (N:=4) rfl ?_);refine box_event ?hg (N:=4) ?hd (cs:=#[.int .i64 0,.int .i64 0,.int .i64 0,.int .i64 0]) (t:=62) ?hr ?_;(case hd=>rfl);(case hg=>rfl);(case hr=>first|(go_simp;done)|(go_simp;rfl));intro gb271 hg w16 hbox hb;have n0_:=Aside0.mk (below_step (by repeat (first|(with_reducible first|exact HB.out|apply below_alloc|apply pw_below_drewN|apply below_drew1)|exact HB.out)) hb);have n1_:=Aside0.mk (hbox);have n2_:=Aside0.mk ((by rw [hg];exact (below_size (by repeat (first|(with_reducible first|exact HB.out|apply below_alloc|apply pw_below_drewN|apply below_drew1)|exact HB.out))):w.heap.size≤gb271));have n3_:=Aside0.mk ((by rw [hg];exact (below_size (by repeat (first|(with_reducible first|exact HB.out|apply below_alloc|apply pw_below_drewN|apply below_drew1)|exact HB.out))):w.heap.size≤gb271));clear HB;have HB:=n0_;have BK271:=n1_;have GW271:=n2_;have GE271:=n3_;clear n0_ n1_ n2_ n3_;clear hb hbox hg;have hcz17_0:w16.cell? ⟨gb271,0,none⟩=some (.int .i64 0):=(blk_cell BK271.out 0).trans rfl;have hcz17_1:w16.cell? ⟨gb271,1,none⟩=some (.int .i64 0):=(blk_cell BK271.out 1).trans rfl;have hcz17_2:w16.cell? ⟨gb271,2,none⟩=some (.int .i64 0):=(blk_cell BK271.out 2).trans rfl;have hcz17_3:w16.cell? ⟨gb271,3,none⟩=some (.int .i64 0):=(blk_cell BK271.out 3).trans rfl;have hfz17_0:=blk_frozen BK271.out 0;have hfz17_1:=blk_frozen BK271.out 1;have hfz17_2:=blk_frozen BK271.out 2;have hfz17_3:=blk_frozen BK271.out 3)|((with_reducible refine gate_callee (f:=107) rfl ?_);refine goesL_ (some 16) rfl rfl Try.func107 (by kernel_rfl) rfl #[.int .i64 ((rd_T62 l0 x10_1).f0),.int .i64 1,.int .i64 50] rfl (by (try simp only [List.map_toArray,List.map_cons,List.map_nil]);first|done|rfl|(simp only [List.length_drop,List.length_take];rfl)) ?_;(with_reducible refine (impl_within.calls ((rd_T62 l0 x10_1).f0) 1 50 true _ A6.out).mono ?_);rintro e w' ⟨rfl,⟨nd,rfl⟩⟩;refine ⟨_,rfl,?_⟩)|(go_at_call 107;(with_reducible refine (impl_within.calls ((rd_T62 l0 x10_1).f1) 0 50 true _ A8.out).mono ?_);rintro e w' ⟨rfl,⟨nd,rfl⟩⟩)|(go_at_call 119;(with_reducible refine (impl_isDate.calls ((rd_T62 l0 x10_1).f2) true _ A10.out).mono ?_);rintro e w' ⟨rfl,⟨nd,rfl⟩⟩)|(go_at_call 119;(with_reducible refine (impl_isDate.calls ((rd_T62 l0 x10_1).f3) false _ A12.out).mono ?_);rintro e w' ⟨rfl,⟨nd,rfl⟩⟩))
           go_ret
           exact ⟨by first|rfl|(simp [errW_none,errW_some] <;> rfl)|(simp [*,errW_none,errW_some] <;> rfl),by repeat (first|(with_reducible first|exact HB.out|apply below_alloc|apply pw_below_drewN|apply below_drew1|refine below_set ?_ GE271.out)|exact HB.out)⟩
         ·replace c11:=Bool.eq_false_iff.mpr c11
          subst c11
          have H1:(some false)=some r:=by rw [if_neg (show ¬ (false=true) by decide)] at H;exact H
          clear H
          have H:=H1
          clear H1
          obtain rfl:=Option.some.inj H
          have p270:0≤(x10_1:Int):=of_decide_eq_true (by first|(with_reducible assumption)|assumption)
          have q270:x10_1<(l0.length:Int):=of_decide_eq_true (by first|(with_reducible assumption)|assumption)
          obtain ⟨ad270,e270,hx270_0,hx270_1,hx270_2,hx270_3⟩:=at_T62 HR0.out x10_1 p270 q270
          cases e270
          replace hx270_0:=(HB.out.cell (World.block_lt_of_cell? w _ hx270_0)).trans hx270_0
          replace hx270_1:=(HB.out.cell (World.block_lt_of_cell? w _ hx270_1)).trans hx270_1
          replace hx270_2:=(HB.out.cell (World.block_lt_of_cell? w _ hx270_2)).trans hx270_2
          replace hx270_3:=(HB.out.cell (World.block_lt_of_cell? w _ hx270_3)).trans hx270_3
          replace p270:=eq_true p270
          replace q270:=eq_true q270
          go_wp2_with (first|((with_reducible refine gate_dst (N:=4) rfl ?_);refine box_event ?hg (N:=4) ?hd (cs:=#[.int .i64 0,.int .i64 0,.int .i64 0,.int .i64 0]) (t:=62) ?hr ?_;(case hd=>rfl);(case hg=>rfl);(case hr=>first|(go_simp;done)|(go_simp;rfl));intro gb271 hg w18 hbox hb;have n0_:=Aside0.mk (below_step (by repeat (first|(with_reducible first|exact HB.out|apply below_alloc|apply pw_below_drewN|apply below_drew1)|exact HB.out)) hb);have n1_:=Aside0.mk (hbox);have n2_:=Aside0.mk ((by rw [hg];exact (below_size (by repeat (first|(with_reducible first|exact HB.out|apply below_alloc|apply pw_below_drewN|apply below_drew1)|exact HB.out))):w.heap.size≤gb271));have n3_:=Aside0.mk ((by rw [hg];exact (below_size (by repeat (first|(with_reducible first|exact HB.out|apply below_alloc|apply pw_below_drewN|apply below_drew1)|exact HB.out))):w.heap.size≤gb271));clear HB;have HB:=n0_;have BK271:=n1_;have GW271:=n2_;have GE271:=n3_;clear n0_ n1_ n2_ n3_;clear hb hbox hg;have hcz19_0:w18.cell? ⟨gb271,0,none⟩=some (.int .i64 0):=(blk_cell BK271.out 0).trans rfl;have hcz19_1:w18.cell? ⟨gb271,1,none⟩=some (.int .i64 0):=(blk_cell BK271.out 1).trans rfl;have hcz19_2:w18.cell? ⟨gb271,2,none⟩=some (.int .i64 0):=(blk_cell BK271.out 2).trans rfl;have hcz19_3:w18.cell? ⟨gb271,3,none⟩=some (.int .i64 0):=(blk_cell BK271.out 3).trans rfl;have hfz19_0:=blk_frozen BK271.out 0;have hfz19_1:=blk_frozen BK271.out 1;have hfz19_2:=blk_frozen BK271.out 2;have hfz19_3:=blk_frozen BK271.out 3)|((with_reducible refine gate_callee (f:=107) rfl ?_);refine goesL_ (some 16) rfl rfl Try.func107 (by kernel_rfl) rfl #[.int .i64 ((rd_T62 l0 x10_1).f0),.int .i64 1,.int .i64 50] rfl (by (try simp only [List.map_toArray,List.map_cons,List.map_nil]);first|done|rfl|(simp only [List.length_drop,List.length_take];rfl)) ?_;(with_reducible refine (impl_within.calls ((rd_T62 l0 x10_1).f0) 1 50 true _ A6.out).mono ?_);rintro e w' ⟨rfl,⟨nd,rfl⟩⟩;refine ⟨_,rfl,?_⟩)|(go_at_call 107;(with_reducible refine (impl_within.calls ((rd_T62 l0 x10_1).f1) 0 50 true _ A8.out).mono ?_);rintro e w' ⟨rfl,⟨nd,rfl⟩⟩)|(go_at_call 119;(with_reducible refine (impl_isDate.calls ((rd_T62 l0 x10_1).f2) false _ A10.out).mono ?_);rintro e w' ⟨rfl,⟨nd,rfl⟩⟩))
          go_ret
          exact ⟨by first|rfl|(simp [errW_none,errW_some] <;> rfl)|(simp [*,errW_none,errW_some] <;> rfl),by repeat (first|(with_reducible first|exact HB.out|apply below_alloc|apply pw_below_drewN|apply below_drew1|refine below_set ?_ GE271.out)|exact HB.out)⟩
        ·replace c9:=Bool.eq_false_iff.mpr c9
         subst c9
         have H1:(some false)=some r:=by rw [if_neg (show ¬ (false=true) by decide)] at H;exact H
         clear H
         have H:=H1
         clear H1
         obtain rfl:=Option.some.inj H
         have p270:0≤(x10_1:Int):=of_decide_eq_true (by first|(with_reducible assumption)|assumption)
         have q270:x10_1<(l0.length:Int):=of_decide_eq_true (by first|(with_reducible assumption)|assumption)
         obtain ⟨ad270,e270,hx270_0,hx270_1,hx270_2,hx270_3⟩:=at_T62 HR0.out x10_1 p270 q270
         cases e270
         replace hx270_0:=(HB.out.cell (World.block_lt_of_cell? w _ hx270_0)).trans hx270_0
         replace hx270_1:=(HB.out.cell (World.block_lt_of_cell? w _ hx270_1)).trans hx270_1
         replace hx270_2:=(HB.out.cell (World.block_lt_of_cell? w _ hx270_2)).trans hx270_2
         replace hx270_3:=(HB.out.cell (World.block_lt_of_cell? w _ hx270_3)).trans hx270_3
         replace p270:=eq_true p270
         replace q270:=eq_true q270
         go_wp2_with (first|((with_reducible refine gate_dst (N:=4) rfl ?_);refine box_event ?hg (N:=4) ?hd (cs:=#[.int .i64 0,.int .i64 0,.int .i64 0,.int .i64 0]) (t:=62) ?hr ?_;(case hd=>rfl);(case hg=>rfl);(case hr=>first|(go_simp;done)|(go_simp;rfl));intro gb271 hg w20 hbox hb;have n0_:=Aside0.mk (below_step (by repeat (first|(with_reducible first|exact HB.out|apply below_alloc|apply pw_below_drewN|apply below_drew1)|exact HB.out)) hb);have n1_:=Aside0.mk (hbox);have n2_:=Aside0.mk ((by rw [hg];exact (below_size (by repeat (first|(with_reducible first|exact HB.out|apply below_alloc|apply pw_below_drewN|apply below_drew1)|exact HB.out))):w.heap.size≤gb271));have n3_:=Aside0.mk ((by rw [hg];exact (below_size (by repeat (first|(with_reducible first|exact HB.out|apply below_alloc|apply pw_below_drewN|apply below_drew1)|exact HB.out))):w.heap.size≤gb271));clear HB;have HB:=n0_;have BK271:=n1_;have GW271:=n2_;have GE271:=n3_;clear n0_ n1_ n2_ n3_;clear hb hbox hg;have hcz21_0:w20.cell? ⟨gb271,0,none⟩=some (.int .i64 0):=(blk_cell BK271.out 0).trans rfl;have hcz21_1:w20.cell? ⟨gb271,1,none⟩=some (.int .i64 0):=(blk_cell BK271.out 1).trans rfl;have hcz21_2:w20.cell? ⟨gb271,2,none⟩=some (.int .i64 0):=(blk_cell BK271.out 2).trans rfl;have hcz21_3:w20.cell? ⟨gb271,3,none⟩=some (.int .i64 0):=(blk_cell BK271.out 3).trans rfl;have hfz21_0:=blk_frozen BK271.out 0;have hfz21_1:=blk_frozen BK271.out 1;have hfz21_2:=blk_frozen BK271.out 2;have hfz21_3:=blk_frozen BK271.out 3)|((with_reducible refine gate_callee (f:=107) rfl ?_);refine goesL_ (some 16) rfl rfl Try.func107 (by kernel_rfl) rfl #[.int .i64 ((rd_T62 l0 x10_1).f0),.int .i64 1,.int .i64 50] rfl (by (try simp only [List.map_toArray,List.map_cons,List.map_nil]);first|done|rfl|(simp only [List.length_drop,List.length_take];rfl)) ?_;(with_reducible refine (impl_within.calls ((rd_T62 l0 x10_1).f0) 1 50 true _ A6.out).mono ?_);rintro e w' ⟨rfl,⟨nd,rfl⟩⟩;refine ⟨_,rfl,?_⟩)|(go_at_call 107;(with_reducible refine (impl_within.calls ((rd_T62 l0 x10_1).f1) 0 50 false _ A8.out).mono ?_);rintro e w' ⟨rfl,⟨nd,rfl⟩⟩))
         go_ret
         exact ⟨by first|rfl|(simp [errW_none,errW_some] <;> rfl)|(simp [*,errW_none,errW_some] <;> rfl),by repeat (first|(with_reducible first|exact HB.out|apply below_alloc|apply pw_below_drewN|apply below_drew1|refine below_set ?_ GE271.out)|exact HB.out)⟩
       ·replace c7:=Bool.eq_false_iff.mpr c7
        subst c7
        have H1:(some false)=some r:=by rw [if_neg (show ¬ (false=true) by decide)] at H;exact H
        clear H
        have H:=H1
        clear H1
        obtain rfl:=Option.some.inj H
        have p270:0≤(x10_1:Int):=of_decide_eq_true (by first|(with_reducible assumption)|assumption)
        have q270:x10_1<(l0.length:Int):=of_decide_eq_true (by first|(with_reducible assumption)|assumption)
        obtain ⟨ad270,e270,hx270_0,hx270_1,hx270_2,hx270_3⟩:=at_T62 HR0.out x10_1 p270 q270
        cases e270
        replace hx270_0:=(HB.out.cell (World.block_lt_of_cell? w _ hx270_0)).trans hx270_0
        replace hx270_1:=(HB.out.cell (World.block_lt_of_cell? w _ hx270_1)).trans hx270_1
        replace hx270_2:=(HB.out.cell (World.block_lt_of_cell? w _ hx270_2)).trans hx270_2
        replace hx270_3:=(HB.out.cell (World.block_lt_of_cell? w _ hx270_3)).trans hx270_3
        replace p270:=eq_true p270
        replace q270:=eq_true q270
        go_wp2_with (first|((with_reducible refine gate_dst (N:=4) rfl ?_);refine box_event ?hg (N:=4) ?hd (cs:=#[.int .i64 0,.int .i64 0,.int .i64 0,.int .i64 0]) (t:=62) ?hr ?_;(case hd=>rfl);(case hg=>rfl);(case hr=>first|(go_simp;done)|(go_simp;rfl));intro gb271 hg w22 hbox hb;have n0_:=Aside0.mk (below_step (by repeat (first|(with_reducible first|exact HB.out|apply below_alloc|apply pw_below_drewN|apply below_drew1)|exact HB.out)) hb);have n1_:=Aside0.mk (hbox);have n2_:=Aside0.mk ((by rw [hg];exact (below_size (by repeat (first|(with_reducible first|exact HB.out|apply below_alloc|apply pw_below_drewN|apply below_drew1)|exact HB.out))):w.heap.size≤gb271));have n3_:=Aside0.mk ((by rw [hg];exact (below_size (by repeat (first|(with_reducible first|exact HB.out|apply below_alloc|apply pw_below_drewN|apply below_drew1)|exact HB.out))):w.heap.size≤gb271));clear HB;have HB:=n0_;have BK271:=n1_;have GW271:=n2_;have GE271:=n3_;clear n0_ n1_ n2_ n3_;clear hb hbox hg;have hcz23_0:w22.cell? ⟨gb271,0,none⟩=some (.int .i64 0):=(blk_cell BK271.out 0).trans rfl;have hcz23_1:w22.cell? ⟨gb271,1,none⟩=some (.int .i64 0):=(blk_cell BK271.out 1).trans rfl;have hcz23_2:w22.cell? ⟨gb271,2,none⟩=some (.int .i64 0):=(blk_cell BK271.out 2).trans rfl;have hcz23_3:w22.cell? ⟨gb271,3,none⟩=some (.int .i64 0):=(blk_cell BK271.out 3).trans rfl;have hfz23_0:=blk_frozen BK271.out 0;have hfz23_1:=blk_frozen BK271.out 1;have hfz23_2:=blk_frozen BK271.out 2;have hfz23_3:=blk_frozen BK271.out 3)|((with_reducible refine gate_callee (f:=107) rfl ?_);refine goesL_ (some 16) rfl rfl Try.func107 (by kernel_rfl) rfl #[.int .i64 ((rd_T62 l0 x10_1).f0),.int .i64 1,.int .i64 50] rfl (by (try simp only [List.map_toArray,List.map_cons,List.map_nil]);first|done|rfl|(simp only [List.length_drop,List.length_take];rfl)) ?_;(with_reducible refine (impl_within.calls ((rd_T62 l0 x10_1).f0) 1 50 false _ A6.out).mono ?_);rintro e w' ⟨rfl,⟨nd,rfl⟩⟩;refine ⟨_,rfl,?_⟩))
        go_ret
        exact ⟨by first|rfl|(simp [errW_none,errW_some] <;> rfl)|(simp [*,errW_none,errW_some] <;> rfl),by repeat (first|(with_reducible first|exact HB.out|apply below_alloc|apply pw_below_drewN|apply below_drew1|refine below_set ?_ GE271.out)|exact HB.out)⟩
      ·rw [if_neg c5] at H
       exact absurd H (by simp)
     ·rw [if_neg c4] at H
      exact absurd H (by simp)
    ·rw [if_neg c3] at H
     have c3b0:decide (x10_1<(l0.length:Int))=false:=decide_eq_false c3
     clear c3
     obtain rfl:=Option.some.inj H
     go_wp2
     go_ret
     exact ⟨by first|rfl|(simp [errW_none,errW_some] <;> rfl)|(simp [*,errW_none,errW_some] <;> rfl),by repeat (first|(with_reducible first|exact HB.out|apply below_alloc|apply pw_below_drewN|apply below_drew1)|exact HB.out)⟩

/-! ### impl_isObjective: function 99 -/
def impl_isObjective.f (a0:Int):Option (Bool):=(impl_within.f a0 1 8).bind fun t276=>(some t276)
set_option maxHeartbeats 8000000 in
set_option maxRecDepth 100000 in
theorem impl_isObjective.calls (a0:Int) (r:Bool) (w:World) (h:impl_isObjective.f a0=some r) :
  Calls Try.prog 99 #[.int .i64 a0] w fun e w'=>e=.returned (.bool r)∧Drawn0 w w':=by
 have H:((impl_within.f a0 1 8).bind fun t276=>(some t276))=some r:=h
 clear h
 replace H:=Option.bind_eq_some_iff.mp H
 obtain ⟨t276,A20,H⟩:=H
 replace H:(some t276)=some r:=H
 have A2:=Aside0.mk A20
 clear A20
 obtain rfl:=Option.some.inj H
 go_enter Try.func99,Try.ntmps99
 go_wp2_with (first|((with_reducible refine gate_callee (f:=107) rfl ?_);refine goesL_ (some 4) rfl rfl Try.func107 (by kernel_rfl) rfl #[.int .i64 a0,.int .i64 1,.int .i64 8] rfl (by (try simp only [List.map_toArray,List.map_cons,List.map_nil]);first|done|rfl|(simp only [List.length_drop,List.length_take];rfl)) ?_;(with_reducible refine (impl_within.calls a0 1 8 t276 _ A2.out).mono ?_);rintro e w' ⟨rfl,⟨nd,rfl⟩⟩;refine ⟨_,rfl,?_⟩))
 go_ret
 exact ⟨by first|rfl|(simp;done)|(simp [*];done),by repeat (first|exact Drawn0.refl _|apply Drawn0.step)⟩

/-! ### impl_areTwo: function 60 -/
def impl_areTwo.f (k:Nat) (l0:List (S62)) (a1:Int) (a2:Int):Option (Bool):=(impl_IsJobs.f k l0).bind fun t277=>(if t277=true then ((impl_isObjective.f a1).bind fun t278=>(if t278=true then ((impl_isObjective.f a2).bind fun t279=>(some t279)) else (some false))) else (some false))
theorem impl_areTwo.mono:∀ a0 a1 a2 k,LeO (impl_areTwo.f k a0 a1 a2) (impl_areTwo.f (k + 1) a0 a1 a2):=by
 intro a0 a1 a2 k
 unfold impl_areTwo.f
 repeat' first
   | (with_reducible exact impl_IsJobs.mono _ _)
   | (with_reducible exact LeO.refl _)
   | (with_reducible exact LeO.none _)
   | (with_reducible refine LeO.ite ?_ ?_)
   | (with_reducible refine LeO.bind ?_ (fun _=>?_))
   | exact impl_IsJobs.mono _ _
   | exact LeO.none _
   | refine LeO.ite ?_ ?_
   | refine LeO.bind ?_ (fun _=>?_)
set_option maxHeartbeats 8000000 in
set_option maxRecDepth 100000 in
theorem impl_areTwo.calls (k:Nat) (A0:Option Addr) (c0:Nat) (l0:List (S62)) (a1:Int) (a2:Int) (r:Bool) (w:World) (hr0:Kd.C k62 w A0 l0.length l0) (hc0:l0.length≤c0) (h:impl_areTwo.f k l0 a1 a2=some r) :
  Calls Try.prog 60 #[.slice A0 l0.length c0,.int .i64 a1,.int .i64 a2] w fun e w'=>e=.returned (.bool r)∧Below w.heap.size w w':=by
 have HR0:=Aside0.mk hr0
 have HC0:=Aside0.mk hc0
 clear hr0 hc0
 have HB:=Aside0.mk (Below.refl w.heap.size w)
 have H:((impl_IsJobs.f k l0).bind fun t277=>(if t277=true then ((impl_isObjective.f a1).bind fun t278=>(if t278=true then ((impl_isObjective.f a2).bind fun t279=>(some t279)) else (some false))) else (some false)))=some r:=h
 clear h
 replace H:=Option.bind_eq_some_iff.mp H
 obtain ⟨t277,A40,H⟩:=H
 replace H:(if t277=true then ((impl_isObjective.f a1).bind fun t278=>(if t278=true then ((impl_isObjective.f a2).bind fun t279=>(some t279)) else (some false))) else (some false))=some r:=H
 have A4:=Aside0.mk A40
 clear A40
 by_cases c5:t277=true
 ·subst c5
  have H1:((impl_isObjective.f a1).bind fun t278=>(if t278=true then ((impl_isObjective.f a2).bind fun t279=>(some t279)) else (some false)))=some r:=by rw [if_pos rfl] at H;exact H
  clear H
  have H:=H1
  clear H1
  replace H:=Option.bind_eq_some_iff.mp H
  obtain ⟨t278,A60,H⟩:=H
  replace H:(if t278=true then ((impl_isObjective.f a2).bind fun t279=>(some t279)) else (some false))=some r:=H
  have A6:=Aside0.mk A60
  clear A60
  by_cases c7:t278=true
  ·subst c7
   have H1:((impl_isObjective.f a2).bind fun t279=>(some t279))=some r:=by rw [if_pos rfl] at H;exact H
   clear H
   have H:=H1
   clear H1
   replace H:=Option.bind_eq_some_iff.mp H
   obtain ⟨t279,A80,H⟩:=H
   replace H:(some t279)=some r:=H
   have A8:=Aside0.mk A80
   clear A80
   obtain rfl:=Option.some.inj H
   go_enter Try.func60,Try.ntmps60
   go_wp2_with (first|((with_reducible refine gate_callee (f:=88) rfl ?_);refine goesL_ (some 8) rfl rfl Try.func88 (by kernel_rfl) rfl #[.slice A0 l0.length c0] rfl (by (try simp only [List.map_toArray,List.map_cons,List.map_nil]);first|done|rfl|(simp only [List.length_drop,List.length_take];rfl)) ?_;(with_reducible refine (impl_IsJobs.calls k _ _ l0 true _ ?side1 ?side2 A4.out).mono ?_);(case side1=>repeat (first|exact HR0.out|(with_reducible refine Kd.C_alloc ?_ _)|(with_reducible refine Kd.C_drewN ?_ _)|(with_reducible refine Kd.C_drew ?_)));(case side2=>exact HC0.out);rintro e w9 ⟨rfl,hb⟩;refine ⟨_,rfl,?_⟩;have n0_:=Aside0.mk (below_step (by repeat (first|(with_reducible first|exact HB.out|apply below_alloc|apply pw_below_drewN|apply below_drew1)|exact HB.out)) hb);clear HB;have HB:=n0_;clear n0_;(try clear hb);(try clear hb2);(try clear hk);(try clear hi))|(go_at_call 99;(with_reducible refine (impl_isObjective.calls a1 true _ A6.out).mono ?_);rintro e w' ⟨rfl,⟨nd,rfl⟩⟩)|(go_at_call 99;(with_reducible refine (impl_isObjective.calls a2 t279 _ A8.out).mono ?_);rintro e w' ⟨rfl,⟨nd,rfl⟩⟩))
   go_ret
   exact ⟨by first|rfl|(simp [errW_none,errW_some] <;> rfl)|(simp [*,errW_none,errW_some] <;> rfl),by repeat (first|(with_reducible first|exact HB.out|apply below_alloc|apply pw_below_drewN|apply below_drew1)|exact HB.out)⟩
  ·replace c7:=Bool.eq_false_iff.mpr c7
   subst c7
   have H1:(some false)=some r:=by rw [if_neg (show ¬ (false=true) by decide)] at H;exact H
   clear H
   have H:=H1
   clear H1
   obtain rfl:=Option.some.inj H
   go_enter Try.func60,Try.ntmps60
   go_wp2_with (first|((with_reducible refine gate_callee (f:=88) rfl ?_);refine goesL_ (some 8) rfl rfl Try.func88 (by kernel_rfl) rfl #[.slice A0 l0.length c0] rfl (by (try simp only [List.map_toArray,List.map_cons,List.map_nil]);first|done|rfl|(simp only [List.length_drop,List.length_take];rfl)) ?_;(with_reducible refine (impl_IsJobs.calls k _ _ l0 true _ ?side1 ?side2 A4.out).mono ?_);(case side1=>repeat (first|exact HR0.out|(with_reducible refine Kd.C_alloc ?_ _)|(with_reducible refine Kd.C_drewN ?_ _)|(with_reducible refine Kd.C_drew ?_)));(case side2=>exact HC0.out);rintro e w10 ⟨rfl,hb⟩;refine ⟨_,rfl,?_⟩;have n0_:=Aside0.mk (below_step (by repeat (first|(with_reducible first|exact HB.out|apply below_alloc|apply pw_below_drewN|apply below_drew1)|exact HB.out)) hb);clear HB;have HB:=n0_;clear n0_;(try clear hb);(try clear hb2);(try clear hk);(try clear hi))|(go_at_call 99;(with_reducible refine (impl_isObjective.calls a1 false _ A6.out).mono ?_);rintro e w' ⟨rfl,⟨nd,rfl⟩⟩))
   go_ret
   exact ⟨by first|rfl|(simp [errW_none,errW_some] <;> rfl)|(simp [*,errW_none,errW_some] <;> rfl),by repeat (first|(with_reducible first|exact HB.out|apply below_alloc|apply pw_below_drewN|apply below_drew1)|exact HB.out)⟩
 ·replace c5:=Bool.eq_false_iff.mpr c5
  subst c5
  have H1:(some false)=some r:=by rw [if_neg (show ¬ (false=true) by decide)] at H;exact H
  clear H
  have H:=H1
  clear H1
  obtain rfl:=Option.some.inj H
  go_enter Try.func60,Try.ntmps60
  go_wp2_with (first|((with_reducible refine gate_callee (f:=88) rfl ?_);refine goesL_ (some 8) rfl rfl Try.func88 (by kernel_rfl) rfl #[.slice A0 l0.length c0] rfl (by (try simp only [List.map_toArray,List.map_cons,List.map_nil]);first|done|rfl|(simp only [List.length_drop,List.length_take];rfl)) ?_;(with_reducible refine (impl_IsJobs.calls k _ _ l0 false _ ?side1 ?side2 A4.out).mono ?_);(case side1=>repeat (first|exact HR0.out|(with_reducible refine Kd.C_alloc ?_ _)|(with_reducible refine Kd.C_drewN ?_ _)|(with_reducible refine Kd.C_drew ?_)));(case side2=>exact HC0.out);rintro e w11 ⟨rfl,hb⟩;refine ⟨_,rfl,?_⟩;have n0_:=Aside0.mk (below_step (by repeat (first|(with_reducible first|exact HB.out|apply below_alloc|apply pw_below_drewN|apply below_drew1)|exact HB.out)) hb);clear HB;have HB:=n0_;clear n0_;(try clear hb);(try clear hb2);(try clear hk);(try clear hi)))
  go_ret
  exact ⟨by first|rfl|(simp [errW_none,errW_some] <;> rfl)|(simp [*,errW_none,errW_some] <;> rfl),by repeat (first|(with_reducible first|exact HB.out|apply below_alloc|apply pw_below_drewN|apply below_drew1)|exact HB.out)⟩

/-! ### impl_numbersTo: function 91 -/
def impl_numbersTo.l0:Nat→Int→List Int→Int→Option (List Int)
 | 0,_,_,_=>none
 | k + 1,x0,x3,x4=>if x4<x0 then (if x3.length<17592186044416 then (impl_numbersTo.l0 k x0 (x3++[x4]) (wrap64 (x4 + 1))) else (none)) else (some x3)
def impl_numbersTo.f (k:Nat) (a0:Int):Option (List Int):=impl_numbersTo.l0 k a0 ([]:List Int) 0
theorem impl_numbersTo.mono_l:∀ k,(∀ y0 y1 y2,LeO (impl_numbersTo.l0 k y0 y1 y2) (impl_numbersTo.l0 (k + 1) y0 y1 y2))
 | 0=>fun _ _ _ r h=>by simp [impl_numbersTo.l0] at h
 | k + 1=>by
  have ih0:=impl_numbersTo.mono_l k
  ·intro y0 y1 y2
   unfold impl_numbersTo.l0
   repeat' first
   | (with_reducible exact ih0 _ _ _)
   | (with_reducible exact LeO.refl _)
   | (with_reducible exact LeO.none _)
   | (with_reducible refine LeO.ite ?_ ?_)
   | (with_reducible refine LeO.bind ?_ (fun _=>?_))
   | exact ih0 _ _ _
   | exact LeO.none _
   | refine LeO.ite ?_ ?_
   | refine LeO.bind ?_ (fun _=>?_)
theorem impl_numbersTo.mono:∀ a0 k,LeO (impl_numbersTo.f k a0) (impl_numbersTo.f (k + 1) a0):=by
 intro a0 k
 have ih0:=impl_numbersTo.mono_l k
 unfold impl_numbersTo.f
 repeat' first
   | (with_reducible exact ih0 _ _ _)
   | (with_reducible exact LeO.refl _)
   | (with_reducible exact LeO.none _)
   | (with_reducible refine LeO.ite ?_ ?_)
   | (with_reducible refine LeO.bind ?_ (fun _=>?_))
   | exact ih0 _ _ _
   | exact LeO.none _
   | refine LeO.ite ?_ ?_
   | refine LeO.bind ?_ (fun _=>?_)
set_option maxHeartbeats 8000000 in
set_option maxRecDepth 100000 in
theorem impl_numbersTo.calls (k:Nat) (a0:Int) (r:List Int) (w:World) (h:impl_numbersTo.f k a0=some r) :
  Calls Try.prog 91 #[.int .i64 a0] w fun e w'=>∃ v0_:Value,e=.returned (v0_)∧Kd.R (Kd.int .i64) 3 w' w.heap.size (fun _=>True) v0_ r∧Below w.heap.size w w':=by
 have HB:=Aside0.mk (Below.refl w.heap.size w)
 have H:(impl_numbersTo.l0 k a0 ([]:List Int) 0)=some r:=h
 clear h
 have H':=Aside0.mk H
 clear H
 go_enter Try.func91,Try.ntmps91
 go_wp2
 go_loopg [3,4] k (fun kq v3 v4 w'=>∃ (x3_1:List Int) (x4_1:Int),v4=.int .i64 x4_1∧Aside0 (impl_numbersTo.l0 kq a0 x3_1 x4_1=some r)∧Aside0 (kq≤k)∧Aside0 (Kd.R (Kd.int .i64) 3 w' w.heap.size (fun _=>True) v3 x3_1)∧Aside0 (Below w.heap.size w w'))
 case atStart=>exact ⟨(([]:List Int)),(0),(by first|rfl|(simp;done)|(simp [*];done)),H',⟨Nat.le_refl _⟩,⟨by first|exact Kd.R_nil _ _ _ _ _|exact Kd.N_nil _ _ _ _ _|exact Kd.V_nil _ _ _ _ _|exact Kd.Q_nil _ _ _ _ _|exact Kd.S_nil _ _ _ _ _⟩,⟨by repeat (first|(with_reducible first|exact HB.out|apply below_alloc|apply pw_below_drewN|apply below_drew1)|exact HB.out)⟩⟩
 case round=>
  clear H'
  obtain ⟨x3_1,x4_1,rfl,HA,HK1,HO_3,HB⟩:=hrel
  cases gk with
  | zero=>exact absurd HA.out (by simp [impl_numbersTo.l0])
  | succ k1=>
   have H:=HA.out
   clear HA
   simp only [impl_numbersTo.l0] at H
   by_cases c2:x4_1<a0
   ·rw [if_pos c2] at H
    have c2b0:decide (x4_1<a0)=true:=decide_eq_true c2
    clear c2
    by_cases c3:x3_1.length<17592186044416
    ·rw [if_pos c3] at H
     have LMc3:=Aside0.mk c3
     clear c3
     obtain ⟨y280,hy280⟩:∃ y_:List Int,y_=(x3_1++[x4_1]):=⟨_,rfl⟩
     replace H:(impl_numbersTo.l0 k1 a0 y280 (wrap64 (x4_1 + 1)))=some r:=by first|(rw [hy280];with_reducible exact H)|(have H2_:=(Option.bind_some _ _).symm.trans H;rw [hy280];with_reducible exact H2_)|(have H2_:=(Option.bind_some _ _).symm.trans H;with_reducible exact H2_)|with_reducible exact H|(rw [hy280];exact H)|exact H
     have Ny280:=Aside0.mk hy280
     clear hy280
     have H':=Aside0.mk H
     clear H
     go_wp2_with (first|((with_reducible refine gate_builtin (b:=.append) (xs:=#[.tmp 10,.tmp 12]) rfl ?_);at_builtin;refine Kd.R_append (Kd.int .i64) (w0:=w) w.heap.size rfl (.tmp 10) (.tmp 12) 41 3 (.int .i64 0) 8 rfl Try.underlying41 info3 rfl (by decide) (by omega) u3 x3_1 x4_1 [.int .i64 x4_1] (fun _=>True) (fun _=>False) rfl rfl ?aP (fun _ hk=>hk.elim) ?aF ?aO ?aB ?aS ?aL ?_;(case aP=>exact rfl);(case aB=>exact (by repeat (first|(with_reducible first|exact HB.out|apply below_alloc|apply pw_below_drewN|apply below_drew1)|exact HB.out)));(case aF=>exact (fun _ _=>trivial));(case aO=>exact (by (with_reducible repeat (first|apply Kd.R_alloc|apply Kd.R_drewN|apply Kd.R_drew));exact HO_3.out));(case aS=>exact (below_size (by repeat (first|(with_reducible first|exact HB.out|apply below_alloc|apply pw_below_drewN|apply below_drew1)|exact HB.out))));(case aL=>have:=LMc3.out;omega);intro v281 w4 ho hb hg hat;rw [←Ny280.out] at ho;have n0_:=Aside0.mk (hb);have n1_:=Aside0.mk (ho);clear HB;clear HO_3;have HB:=n0_;have HO282:=n1_;clear n0_ n1_;clear ho hb hg hat))
     go_roundg k1
     case measure=>have:=HK1.out;omega
     case rel=>exact ⟨(y280),(wrap64 (x4_1 + 1)),(by first|rfl|(simp;done)|(simp [*];done)),H',⟨by have:=HK1.out;omega⟩,⟨by (with_reducible repeat (first|apply Kd.R_alloc|apply Kd.R_drewN|apply Kd.R_drew));exact HO282.out⟩,⟨by repeat (first|(with_reducible first|exact HB.out|apply below_alloc|apply pw_below_drewN|apply below_drew1)|exact HB.out)⟩⟩
    ·rw [if_neg c3] at H
     exact absurd H (by simp)
   ·rw [if_neg c2] at H
    have c2b0:decide (x4_1<a0)=false:=decide_eq_false c2
    clear c2
    obtain rfl:=Option.some.inj H
    go_wp2
    go_ret
    exact ⟨_,by first|rfl|(simp [errW_none,errW_some] <;> rfl)|(simp [*,errW_none,errW_some] <;> rfl),by (with_reducible repeat (first|apply Kd.R_alloc|apply Kd.R_drewN|apply Kd.R_drew));exact HO_3.out,by repeat (first|(with_reducible first|exact HB.out|apply below_alloc|apply pw_below_drewN|apply below_drew1)|exact HB.out)⟩

end Go.Proofs.Ytbblhmpcpmamfaa.XFnExactFrontOrder
-- minified
