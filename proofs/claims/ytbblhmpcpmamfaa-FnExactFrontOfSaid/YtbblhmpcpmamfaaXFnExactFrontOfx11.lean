-- Written by a program of this session (the kit's print, widened). Proved here: what each function answers, for the arguments that its contract names.
import Derived.Test.YtbblhmpcpmamfaaXFnExactFrontOfx0
import Derived.Test.YtbblhmpcpmamfaaXFnExactFrontOfx7
import Derived.Test.YtbblhmpcpmamfaaXFnExactFrontOfx8
import Derived.Test.YtbblhmpcpmamfaaXFnExactFrontOfx9
import Derived.Test.YtbblhmpcpmamfaaXFnExactFrontOfx10
namespace Go.Proofs.Ytbblhmpcpmamfaa.XFnExactFrontOf
open Go.RowKit Go.Proofs.YtbblhmpcpmamfaaW.PrintWords Go.Proofs.YtbblhmpcpmamfaaW.PrintLast Go.Proofs.YtbblhmpcpmamfaaW.PrintMore
attribute [local go_sem] max2_int min2_int max_two min_two max_three min_three max_four min_four   -- for this text's walks alone
attribute [local go_sem] idxA_77_0 idxA_77_1 fldS_68_0 fldS_68_1 fldS_73_0 fldS_73_1 fldS_73_2
set_option linter.unusedVariables false
set_option linter.unusedSimpArgs false

/-! ### spec_l11Try: function 109 -/
mutual
def spec_l11Try.l0:Nat→List (S62)→List Int→Int→Int→List (S77)→Int→Option ((List (S77)))
 | 0,_,_,_,_,_,_=>none
 | k + 1,x0,x1,x2,x3,x4,x11=>if x11<(x0.length:Int) then ((spec_l1Has.f k x1 x11).bind fun t209=>(if t209=true then (spec_l11Try.l0 k x0 x1 x2 x3 x4 (wrap64 (x11 + 1))) else ((spec_l1Own.f x1).bind fun t210=>(if t210.length<17592186044416 then ((spec_l11Try.f k x0 (t210++[x11]) x2 x3 x4).bind fun t216=>(spec_l11Try.l0 k x0 x1 x2 x3 t216 (wrap64 (x11 + 1)))) else (none))))) else (some x4)
def spec_l11Try.f:Nat→List (S62)→List Int→Int→Int→List (S77)→Option ((List (S77)))
 | 0,_,_,_,_,_=>none
 | k + 1,l0,l1,a2,a3,l4=>if (l1.length:Int)=(l0.length:Int) then ((spec_l11Point.f k l0 l1 a2 a3).bind fun bt204=>((spec_l11Put.f k l4 bt204.1 bt204.2).bind fun t206=>(some t206))) else (spec_l11Try.l0 k l0 l1 a2 a3 l4 0)
end
theorem spec_l11Try.mono_l:∀ k,(∀ y0 y1 y2 y3 y4,LeO (spec_l11Try.f k y0 y1 y2 y3 y4) (spec_l11Try.f (k + 1) y0 y1 y2 y3 y4))∧(∀ y0 y1 y2 y3 y4 y5,LeO (spec_l11Try.l0 k y0 y1 y2 y3 y4 y5) (spec_l11Try.l0 (k + 1) y0 y1 y2 y3 y4 y5))
 | 0=>⟨fun _ _ _ _ _ r h=>by simp [spec_l11Try.f] at h,fun _ _ _ _ _ _ r h=>by simp [spec_l11Try.l0] at h⟩
 | k + 1=>by
  obtain ⟨ih0,ih1⟩:=spec_l11Try.mono_l k
  refine ⟨?_,?_⟩
  ·intro y0 y1 y2 y3 y4
   unfold spec_l11Try.f
   repeat' first
   | (with_reducible exact ih0 _ _ _ _ _)
   | (with_reducible exact ih1 _ _ _ _ _ _)
   | (with_reducible exact spec_l11Point.mono _ _ _ _ _)
   | (with_reducible exact spec_l11Put.mono _ _ _ _)
   | (with_reducible exact spec_l1Has.mono _ _ _)
   | (with_reducible exact LeO.refl _)
   | (with_reducible exact LeO.none _)
   | (with_reducible refine LeO.ite ?_ ?_)
   | (with_reducible refine LeO.bind ?_ (fun _=>?_))
   | exact ih0 _ _ _ _ _
   | exact ih1 _ _ _ _ _ _
   | exact spec_l11Point.mono _ _ _ _ _
   | exact spec_l11Put.mono _ _ _ _
   | exact spec_l1Has.mono _ _ _
   | exact LeO.none _
   | refine LeO.ite ?_ ?_
   | refine LeO.bind ?_ (fun _=>?_)
  ·intro y0 y1 y2 y3 y4 y5
   unfold spec_l11Try.l0
   repeat' first
   | (with_reducible exact ih0 _ _ _ _ _)
   | (with_reducible exact ih1 _ _ _ _ _ _)
   | (with_reducible exact spec_l11Point.mono _ _ _ _ _)
   | (with_reducible exact spec_l11Put.mono _ _ _ _)
   | (with_reducible exact spec_l1Has.mono _ _ _)
   | (with_reducible exact LeO.refl _)
   | (with_reducible exact LeO.none _)
   | (with_reducible refine LeO.ite ?_ ?_)
   | (with_reducible refine LeO.bind ?_ (fun _=>?_))
   | exact ih0 _ _ _ _ _
   | exact ih1 _ _ _ _ _ _
   | exact spec_l11Point.mono _ _ _ _ _
   | exact spec_l11Put.mono _ _ _ _
   | exact spec_l1Has.mono _ _ _
   | exact LeO.none _
   | refine LeO.ite ?_ ?_
   | refine LeO.bind ?_ (fun _=>?_)
theorem spec_l11Try.mono:∀ a0 a1 a2 a3 a4 k,LeO (spec_l11Try.f k a0 a1 a2 a3 a4) (spec_l11Try.f (k + 1) a0 a1 a2 a3 a4):=by
 intro a0 a1 a2 a3 a4 k
 obtain ⟨ih0,ih1⟩:=spec_l11Try.mono_l k
 exact ih0 a0 a1 a2 a3 a4
set_option maxHeartbeats 8000000 in
set_option maxRecDepth 100000 in
theorem spec_l11Try.calls (k:Nat):∀ (A0:Option Addr) (c0:Nat) (l0:List (S62)) (A1:Option Addr) (c1:Nat) (l1:List Int) (a2:Int) (a3:Int) (P4_:Nat→Prop) (u9000_:Value) (l4:List (S77)) (r:List (S77)) (w0 w:World) (hB:Below w0.heap.size w0 w) (hr0:∀ W_,Kept w W_ (fun k_=>P4_ k_)→Kd.C k62 W_ A0 l0.length l0) (hc0:l0.length≤c0) (hr1:∀ W_,Kept w W_ (fun k_=>P4_ k_)→Kd.C (Kd.int .i64) W_ A1 l1.length l1) (hc1:l1.length≤c1) (ho4:Kd.R k77 77 w w0.heap.size P4_ u9000_ l4) (h:spec_l11Try.f k l0 l1 a2 a3 l4=some r),
  Calls Try.prog 109 #[.slice A0 l0.length c0,.slice A1 l1.length c1,.int .i64 a2,.int .i64 a3,u9000_] w fun e w'=>∃ v0_:Value,e=.returned (v0_)∧Kd.R k77 77 w' w0.heap.size (fun k_=>(P4_ k_∨w.heap.size≤k_)) v0_ r∧Below w0.heap.size w0 w'∧Kept w w' (fun k_=>P4_ k_):=by
 induction k using Nat.strongRecOn with
 | _ k ih=>
 intro A0 c0 l0 A1 c1 l1 a2 a3 P4_ u9000_ l4 r w0 w hB hr0 hc0 hr1 hc1 ho4 h
 cases k with
 | zero=>exact absurd h (by simp [spec_l11Try.f])
 | succ k=>
 simp only [spec_l11Try.f] at h
 have HR0:=Aside0.mk hr0
 have HC0:=Aside0.mk hc0
 clear hr0 hc0
 have HR1:=Aside0.mk hr1
 have HC1:=Aside0.mk hc1
 clear hr1 hc1
 have HO4:=Aside0.mk (show Kd.R k77 77 w w0.heap.size (fun k_=>(P4_ k_∨w.heap.size≤k_)) u9000_ l4 from Kd.R_mono ho4 (fun k_ hk=>(.inl hk)))
 have HK:=Aside0.mk (Kept.refl w (fun k_=>P4_ k_))
 have HW0:=Aside0.mk hB.size
 have HB:=Aside0.mk hB
 clear hB
 have H:(if (l1.length:Int)=(l0.length:Int) then ((spec_l11Point.f k l0 l1 a2 a3).bind fun bt204=>((spec_l11Put.f k l4 bt204.1 bt204.2).bind fun t206=>(some t206))) else (spec_l11Try.l0 k l0 l1 a2 a3 l4 0))=some r:=h
 clear h
 by_cases c6:(l1.length:Int)=(l0.length:Int)
 ·rw [if_pos c6] at H
  have c6b0:((l1.length:Int) == (l0.length:Int))=true:=beq_iff_eq.mpr c6
  have c6b1:((l1.length:Int) != (l0.length:Int))=false:=bne_eq_false_iff_eq.mpr c6
  have c6b2:(l1.length == l0.length)=true:=by first|simpa using c6|(simp at c6 ⊢;omega)
  clear c6
  replace H:=Option.bind_eq_some_iff.mp H
  obtain ⟨⟨t204,t205⟩,A70,H⟩:=H
  replace H:((spec_l11Put.f k l4 t204 t205).bind fun t206=>(some t206))=some r:=H
  have A7:=Aside0.mk A70
  clear A70
  replace H:=Option.bind_eq_some_iff.mp H
  obtain ⟨t206,A80,H⟩:=H
  replace H:(some t206)=some r:=H
  have A8:=Aside0.mk A80
  clear A80
  obtain rfl:=Option.some.inj H
  go_enter Try.func109,Try.ntmps109
  go_wp2_with (first|((with_reducible refine gate_callee (f:=97) rfl ?_);refine goesL_ (some 22) rfl rfl Try.func97 (by kernel_rfl) rfl #[.slice A0 l0.length c0,.slice A1 l1.length c1,.int .i64 a2,.int .i64 a3] rfl (by (try simp only [List.map_toArray,List.map_cons,List.map_nil]);first|done|rfl|(simp only [List.length_drop,List.length_take];rfl)) ?_;(with_reducible refine (spec_l11Point.calls k _ _ l0 _ _ l1 a2 a3 t204 t205 _ ?side1 ?side2 ?side3 ?side4 A7.out).mono ?_);(case side1=>exact Kd.C_kept_now HR0.out (by repeat (first|(with_reducible first|exact HK.out|apply Kept.alloc|apply Kept.drewN|apply Kept.drew)|exact HK.out)));(case side2=>exact HC0.out);(case side3=>exact Kd.C_kept_now HR1.out (by repeat (first|(with_reducible first|exact HK.out|apply Kept.alloc|apply Kept.drewN|apply Kept.drew)|exact HK.out)));(case side4=>exact HC1.out);rintro e w9 ⟨rfl,hb⟩;refine ⟨_,rfl,?_⟩;have n0_:=Aside0.mk (Kd.R_below (by (with_reducible repeat (first|apply Kd.R_alloc|apply Kd.R_drewN|apply Kd.R_drew));exact HO4.out) hb);have n1_:=Aside0.mk (Kept.below (S:=(fun k_=>P4_ k_)) (by repeat (first|(with_reducible first|exact HK.out|apply Kept.alloc|apply Kept.drewN|apply Kept.drew)|exact HK.out)) hb);have n2_:=Aside0.mk (below_step (by repeat (first|(with_reducible first|exact HB.out|apply below_alloc|apply pw_below_drewN|apply below_drew1)|exact HB.out)) hb);clear HO4;clear HK;clear HB;have HO4:=n0_;have HK:=n1_;have HB:=n2_;clear n0_ n1_ n2_;(try clear hb);(try clear hb2);(try clear hk);(try clear hi);obtain ⟨Ao10,co10,eo10⟩:=Kd.R_slice HO4.out;subst eo10)|((with_reducible refine gate_callee (f:=124) rfl ?_);refine goesL_ (some 23) rfl rfl Try.func124 (by kernel_rfl) rfl #[.slice Ao10 l4.length co10,.agg #[.int .i64 t204,.int .i64 t205]] rfl (by (try simp only [List.map_toArray,List.map_cons,List.map_nil]);first|done|rfl|(simp only [List.length_drop,List.length_take];rfl)) ?_;(with_reducible refine (spec_l11Put.calls k (fun k_=>some k_=(.slice Ao10 l4.length co10:Value).ownBlock) (.slice Ao10 l4.length co10) l4 t204 t205 t206 w0 _ ?side1 ?side2 A8.out).mono ?_);(case side1=>repeat (first|(with_reducible first|exact HB.out|apply below_alloc|apply pw_below_drewN|apply below_drew1)|exact HB.out));(case side2=>exact Kd.R_tight rfl HO4.out);rintro e w11 ⟨v207,rfl,ho0,hb,hkp⟩;refine ⟨_,rfl,?_⟩;have n0_:=Aside0.mk (Kd.R_mono (ok':=fun k_=>(P4_ k_∨w.heap.size≤k_)) ho0 (fun k_ hk_=>Or.elim hk_ (fun hs_=>(HO4.out.1 k_ (hs_).symm)) (fun hn_=>(.inr (Nat.le_trans (by first|exact HK.out.1|exact (show Kept w _ (fun k_=>P4_ k_) from by repeat (first|(with_reducible first|exact HK.out|apply Kept.alloc|apply Kept.drewN|apply Kept.drew)|exact HK.out)).1) hn_)))));have n1_:=Aside0.mk (Kept.then_ (S:=(fun k_=>P4_ k_)) (by repeat (first|(with_reducible first|exact HK.out|apply Kept.alloc|apply Kept.drewN|apply Kept.drew)|exact HK.out)) hkp (fun k_ hs_=>(fun e_=>(HO4.out.1 k_ e_.symm)) hs_));have n2_:=Aside0.mk (hb);clear HK;clear HB;clear HO4;have HO208:=n0_;have HK:=n1_;have HB:=n2_;clear n0_ n1_ n2_;(try clear hb);(try clear hkp);(try clear ho0)))
  go_ret
  exact ⟨_,by first|rfl|(simp [errW_none,errW_some] <;> rfl)|(simp [*,errW_none,errW_some] <;> rfl),by (with_reducible repeat (first|apply Kd.R_alloc|apply Kd.R_drewN|apply Kd.R_drew));exact HO208.out,by repeat (first|(with_reducible first|exact HB.out|apply below_alloc|apply pw_below_drewN|apply below_drew1)|exact HB.out),by repeat (first|(with_reducible first|exact HK.out|apply Kept.alloc|apply Kept.drewN|apply Kept.drew)|exact HK.out)⟩
 ·rw [if_neg c6] at H
  have c6b0:((l1.length:Int) == (l0.length:Int))=false:=beq_eq_false_iff_ne.mpr c6
  have c6b1:((l1.length:Int) != (l0.length:Int))=true:=bne_iff_ne.mpr c6
  have c6b2:(l1.length == l0.length)=false:=by first|simpa using c6|(simp at c6 ⊢;omega)
  have H':=Aside0.mk H
  clear H
  go_enter Try.func109,Try.ntmps109
  go_wp2
  go_loopg [4,11] k (fun kq v4 v11 w'=>∃ (x4_1:List (S77)) (x11_1:Int),v11=.int .i64 x11_1∧Aside0 (spec_l11Try.l0 kq l0 l1 a2 a3 x4_1 x11_1=some r)∧Aside0 (kq≤k)∧Aside0 (Kd.R k77 77 w' w0.heap.size (fun k_=>(P4_ k_∨w.heap.size≤k_)) v4 x4_1)∧Aside0 (Kept w w' (fun k_=>P4_ k_))∧Aside0 (Below w0.heap.size w0 w'))
  case atStart=>exact ⟨(l4),(0),(by first|rfl|(simp;done)|(simp [*];done)),H',⟨Nat.le_refl _⟩,⟨by (with_reducible repeat (first|apply Kd.R_alloc|apply Kd.R_drewN|apply Kd.R_drew));exact HO4.out⟩,⟨by repeat (first|(with_reducible first|exact HK.out|apply Kept.alloc|apply Kept.drewN|apply Kept.drew)|exact HK.out)⟩,⟨by repeat (first|(with_reducible first|exact HB.out|apply below_alloc|apply pw_below_drewN|apply below_drew1)|exact HB.out)⟩⟩
  case round=>
   clear H'
   try clear c1
   try clear p2
   try clear c6
   try clear c6b0
   try clear c6b1
   try clear c6b2
   try clear c9
   try clear c10
   obtain ⟨x4_1,x11_1,rfl,HA,HK1,HO_4,HK,HB⟩:=hrel
   cases gk with
   | zero=>exact absurd HA.out (by simp [spec_l11Try.l0])
   | succ k1=>
    have H:=HA.out
    clear HA
    simp only [spec_l11Try.l0] at H
    by_cases c12:x11_1<(l0.length:Int)
    ·rw [if_pos c12] at H
     have c12b0:decide (x11_1<(l0.length:Int))=true:=decide_eq_true c12
     clear c12
     replace H:=Option.bind_eq_some_iff.mp H
     obtain ⟨t209,A130,H⟩:=H
     replace H:(if t209=true then (spec_l11Try.l0 k1 l0 l1 a2 a3 x4_1 (wrap64 (x11_1 + 1))) else ((spec_l1Own.f l1).bind fun t210=>(if t210.length<17592186044416 then ((spec_l11Try.f k1 l0 (t210++[x11_1]) a2 a3 x4_1).bind fun t216=>(spec_l11Try.l0 k1 l0 l1 a2 a3 t216 (wrap64 (x11_1 + 1)))) else (none))))=some r:=H
     have A13:=Aside0.mk A130
     clear A130
     by_cases c14:t209=true
     ·subst c14
      have H1:(spec_l11Try.l0 k1 l0 l1 a2 a3 x4_1 (wrap64 (x11_1 + 1)))=some r:=by rw [if_pos rfl] at H;exact H
      clear H
      have H:=H1
      clear H1
      have H':=Aside0.mk H
      clear H
      go_wp2_with (first|((with_reducible refine gate_callee (f:=98) rfl ?_);refine goesL_ (some 32) rfl rfl Try.func98 (by kernel_rfl) rfl #[.slice A1 l1.length c1,.int .i64 x11_1] rfl (by (try simp only [List.map_toArray,List.map_cons,List.map_nil]);first|done|rfl|(simp only [List.length_drop,List.length_take];rfl)) ?_;(with_reducible refine (spec_l1Has.calls k1 _ _ l1 x11_1 true _ ?side1 ?side2 A13.out).mono ?_);(case side1=>exact Kd.C_kept_now HR1.out (by repeat (first|(with_reducible first|exact HK.out|apply Kept.alloc|apply Kept.drewN|apply Kept.drew)|exact HK.out)));(case side2=>exact HC1.out);rintro e w' ⟨rfl,⟨nd,rfl⟩⟩;refine ⟨_,rfl,?_⟩))
      go_roundg k1
      case measure=>have:=HK1.out;omega
      case rel=>exact ⟨(x4_1),(wrap64 (x11_1 + 1)),(by first|rfl|(simp;done)|(simp [*];done)),H',⟨by have:=HK1.out;omega⟩,⟨by (with_reducible repeat (first|apply Kd.R_alloc|apply Kd.R_drewN|apply Kd.R_drew));exact HO_4.out⟩,⟨by repeat (first|(with_reducible first|exact HK.out|apply Kept.alloc|apply Kept.drewN|apply Kept.drew)|exact HK.out)⟩,⟨by repeat (first|(with_reducible first|exact HB.out|apply below_alloc|apply pw_below_drewN|apply below_drew1)|exact HB.out)⟩⟩
     ·replace c14:=Bool.eq_false_iff.mpr c14
      subst c14
      have H1:((spec_l1Own.f l1).bind fun t210=>(if t210.length<17592186044416 then ((spec_l11Try.f k1 l0 (t210++[x11_1]) a2 a3 x4_1).bind fun t216=>(spec_l11Try.l0 k1 l0 l1 a2 a3 t216 (wrap64 (x11_1 + 1)))) else (none)))=some r:=by rw [if_neg (show ¬ (false=true) by decide)] at H;exact H
      clear H
      have H:=H1
      clear H1
      replace H:=Option.bind_eq_some_iff.mp H
      obtain ⟨t210,A150,H⟩:=H
      replace H:(if t210.length<17592186044416 then ((spec_l11Try.f k1 l0 (t210++[x11_1]) a2 a3 x4_1).bind fun t216=>(spec_l11Try.l0 k1 l0 l1 a2 a3 t216 (wrap64 (x11_1 + 1)))) else (none))=some r:=H
      have A15:=Aside0.mk A150
      clear A150
      by_cases c16:t210.length<17592186044416
      ·rw [if_pos c16] at H
       have LMc16:=Aside0.mk c16
       clear c16
       obtain ⟨y213,hy213⟩:∃ y_:List Int,y_=(t210++[x11_1]):=⟨_,rfl⟩
       replace H:((spec_l11Try.f k1 l0 y213 a2 a3 x4_1).bind fun t216=>(spec_l11Try.l0 k1 l0 l1 a2 a3 t216 (wrap64 (x11_1 + 1))))=some r:=by first|(rw [hy213];with_reducible exact H)|(have H2_:=(Option.bind_some _ _).symm.trans H;rw [hy213];with_reducible exact H2_)|(have H2_:=(Option.bind_some _ _).symm.trans H;with_reducible exact H2_)|with_reducible exact H|(rw [hy213];exact H)|exact H
       have Ny213:=Aside0.mk hy213
       clear hy213
       replace H:=Option.bind_eq_some_iff.mp H
       obtain ⟨t216,A170,H⟩:=H
       replace H:(spec_l11Try.l0 k1 l0 l1 a2 a3 t216 (wrap64 (x11_1 + 1)))=some r:=H
       have A17:=Aside0.mk A170
       clear A170
       have H':=Aside0.mk H
       clear H
       go_wp2_with (first|((with_reducible refine gate_callee (f:=98) rfl ?_);refine goesL_ (some 32) rfl rfl Try.func98 (by kernel_rfl) rfl #[.slice A1 l1.length c1,.int .i64 x11_1] rfl (by (try simp only [List.map_toArray,List.map_cons,List.map_nil]);first|done|rfl|(simp only [List.length_drop,List.length_take];rfl)) ?_;(with_reducible refine (spec_l1Has.calls k1 _ _ l1 x11_1 false _ ?side1 ?side2 A13.out).mono ?_);(case side1=>exact Kd.C_kept_now HR1.out (by repeat (first|(with_reducible first|exact HK.out|apply Kept.alloc|apply Kept.drewN|apply Kept.drew)|exact HK.out)));(case side2=>exact HC1.out);rintro e w' ⟨rfl,⟨nd,rfl⟩⟩;refine ⟨_,rfl,?_⟩)|((with_reducible refine gate_callee (f:=44) rfl ?_);refine goesL_ (some 36) rfl rfl Try.func44 (by kernel_rfl) rfl #[.slice A1 l1.length c1] rfl (by (try simp only [List.map_toArray,List.map_cons,List.map_nil]);first|done|rfl|(simp only [List.length_drop,List.length_take];rfl)) ?_;(with_reducible refine (spec_l1Own.calls _ _ l1 t210 _ ?side1 ?side2 A15.out).mono ?_);(case side1=>exact Kd.C_kept_now HR1.out (by repeat (first|(with_reducible first|exact HK.out|apply Kept.alloc|apply Kept.drewN|apply Kept.drew)|exact HK.out)));(case side2=>exact HC1.out);rintro e w18 ⟨v211,rfl,ho0,hb⟩;refine ⟨_,rfl,?_⟩;have n0_:=Aside0.mk (Kd.R_below (by (with_reducible repeat (first|apply Kd.R_alloc|apply Kd.R_drewN|apply Kd.R_drew));exact HO_4.out) hb);have n1_:=Aside0.mk (Kd.R_lower (Kd.R_newM (M:=fun k_=>(P4_ k_∨w.heap.size≤k_)) ho0 (by first|exact HK.out.1|exact (show Kept w _ (fun k_=>P4_ k_) from by repeat (first|(with_reducible first|exact HK.out|apply Kept.alloc|apply Kept.drewN|apply Kept.drew)|exact HK.out)).1) (fun k_ h_=>.inr h_)) (below_size (by repeat (first|(with_reducible first|exact HB.out|apply below_alloc|apply pw_below_drewN|apply below_drew1)|exact HB.out))));have n2_:=Aside0.mk (Kept.below (S:=(fun k_=>P4_ k_)) (by repeat (first|(with_reducible first|exact HK.out|apply Kept.alloc|apply Kept.drewN|apply Kept.drew)|exact HK.out)) hb);have n3_:=Aside0.mk (below_step (by repeat (first|(with_reducible first|exact HB.out|apply below_alloc|apply pw_below_drewN|apply below_drew1)|exact HB.out)) hb);clear HO_4;clear HK;clear HB;have HO_4:=n0_;have HO212:=n1_;have HK:=n2_;have HB:=n3_;clear n0_ n1_ n2_ n3_;(try clear hb);(try clear hb2);(try clear hk);(try clear hi);(try clear ho0))|((with_reducible refine gate_builtin (b:=.append) (xs:=#[.tmp 36,.tmp 38]) rfl ?_);at_builtin;refine Kd.R_append (Kd.int .i64) (w0:=w0) w0.heap.size rfl (.tmp 36) (.tmp 38) 41 3 (.int .i64 0) 8 rfl Try.underlying41 info3 rfl (by decide) (by omega) v211 t210 x11_1 [.int .i64 x11_1] (fun k_=>(P4_ k_∨w.heap.size≤k_)) (fun _=>False) rfl rfl ?aP (fun _ hk=>hk.elim) ?aF ?aO ?aB ?aS ?aL ?_;(case aP=>exact rfl);(case aB=>exact (by repeat (first|(with_reducible first|exact HB.out|apply below_alloc|apply pw_below_drewN|apply below_drew1)|exact HB.out)));(case aF=>exact (fun k_ hk=>(.inr (Nat.le_trans (by first|exact HK.out.1|exact (show Kept w _ (fun k_=>P4_ k_) from by repeat (first|(with_reducible first|exact HK.out|apply Kept.alloc|apply Kept.drewN|apply Kept.drew)|exact HK.out)).1) hk))));(case aO=>exact (by (with_reducible repeat (first|apply Kd.R_alloc|apply Kd.R_drewN|apply Kd.R_drew));exact Kd.R_mono HO212.out (fun _ hk=>hk.1)));(case aS=>exact (below_size (by repeat (first|(with_reducible first|exact HB.out|apply below_alloc|apply pw_below_drewN|apply below_drew1)|exact HB.out))));(case aL=>have:=LMc16.out;omega);intro v214 w19 ho hb hg hat;rw [←Ny213.out] at ho;have n0_:=Aside0.mk (Kd.R_over' (by (with_reducible repeat (first|apply Kd.R_alloc|apply Kd.R_drewN|apply Kd.R_drew));exact HO_4.out) (Kd.R_typed (by (with_reducible repeat (first|apply Kd.R_alloc|apply Kd.R_drewN|apply Kd.R_drew));exact HO212.out)) (by decide) hg);have n1_:=Aside0.mk (hb);have n2_:=Aside0.mk (Kept.of_grown (S:=(fun k_=>P4_ k_)) hg (by repeat (first|(with_reducible first|exact HK.out|apply Kept.alloc|apply Kept.drewN|apply Kept.drew)|exact HK.out)) (fun k_ e_=>(HO212.out.1 k_ e_).1));have n3_:=Aside0.mk (ho);clear HO_4;clear HB;clear HK;clear HO212;have HO_4:=n0_;have HB:=n1_;have HK:=n2_;have HO215:=n3_;clear n0_ n1_ n2_ n3_;clear ho hb hg hat;obtain ⟨Ao20,co20,eo20⟩:=Kd.R_slice HO215.out;subst eo20;obtain ⟨Ao21,co21,eo21⟩:=Kd.R_slice HO_4.out;subst eo21)|((with_reducible refine gate_callee (f:=109) rfl ?_);refine goesL_ (some 43) rfl rfl Try.func109 (by kernel_rfl) rfl #[.slice A0 l0.length c0,.slice Ao20 y213.length co20,.int .i64 a2,.int .i64 a3,.slice Ao21 x4_1.length co21] rfl (by (try simp only [List.map_toArray,List.map_cons,List.map_nil]);first|done|rfl|(simp only [List.length_drop,List.length_take];rfl)) ?_;(with_reducible refine (ih k1 (by have:=HK1.out;omega) _ _ l0 _ _ y213 a2 a3 (fun k_=>some k_=(.slice Ao21 x4_1.length co21:Value).ownBlock) (.slice Ao21 x4_1.length co21) x4_1 t216 w0 _ ?side1 ?side2 ?side3 ?side4 ?side5 ?side6 A17.out).mono ?_);(case side1=>repeat (first|(with_reducible first|exact HB.out|apply below_alloc|apply pw_below_drewN|apply below_drew1)|exact HB.out));(case side2=>exact Kd.C_kept_call HR0.out (by repeat (first|(with_reducible first|exact HK.out|apply Kept.alloc|apply Kept.drewN|apply Kept.drew)|exact HK.out)) (fun k_ hs_=>(fun e_=>(HO_4.out.1 k_ e_.symm)) hs_));(case side3=>exact HC0.out);(case side4=>exact Kd.C_kept_own ((Kd.R_apart' HO215.out (Kd.R_typed HO_4.out) (by decide))) (fun k_ hk_ hs_=>(hk_.2) hs_));(case side5=>exact (Kd.R_reads' HO215.out).2.1);(case side6=>exact Kd.R_tight rfl HO_4.out);rintro e w22 ⟨v217,rfl,ho0,hb,hkp⟩;refine ⟨_,rfl,?_⟩;have n0_:=Aside0.mk (Kd.R_mono (ok':=fun k_=>(P4_ k_∨w.heap.size≤k_)) (Kd.R_keptB ((Kd.R_apart' HO215.out (Kd.R_typed HO_4.out) (by decide))) hkp (fun k_ hk_ hs_=>(hk_.2) hs_)) (fun k_ hk_=>hk_.1.1));have n1_:=Aside0.mk (Kd.R_mono (ok':=fun k_=>(P4_ k_∨w.heap.size≤k_)) ho0 (fun k_ hk_=>Or.elim hk_ (fun hs_=>(HO_4.out.1 k_ (hs_).symm)) (fun hn_=>(.inr (Nat.le_trans (by first|exact HK.out.1|exact (show Kept w _ (fun k_=>P4_ k_) from by repeat (first|(with_reducible first|exact HK.out|apply Kept.alloc|apply Kept.drewN|apply Kept.drew)|exact HK.out)).1) hn_)))));have n2_:=Aside0.mk (Kept.then_ (S:=(fun k_=>P4_ k_)) (by repeat (first|(with_reducible first|exact HK.out|apply Kept.alloc|apply Kept.drewN|apply Kept.drew)|exact HK.out)) hkp (fun k_ hs_=>(fun e_=>(HO_4.out.1 k_ e_.symm)) hs_));have n3_:=Aside0.mk (hb);clear HO215;clear HK;clear HB;clear HO_4;have HO215:=n0_;have HO218:=n1_;have HK:=n2_;have HB:=n3_;clear n0_ n1_ n2_ n3_;(try clear hb);(try clear hkp);(try clear ho0)))
       go_roundg k1
       case measure=>have:=HK1.out;omega
       case rel=>exact ⟨(t216),(wrap64 (x11_1 + 1)),(by first|rfl|(simp;done)|(simp [*];done)),H',⟨by have:=HK1.out;omega⟩,⟨by (with_reducible repeat (first|apply Kd.R_alloc|apply Kd.R_drewN|apply Kd.R_drew));exact HO218.out⟩,⟨by repeat (first|(with_reducible first|exact HK.out|apply Kept.alloc|apply Kept.drewN|apply Kept.drew)|exact HK.out)⟩,⟨by repeat (first|(with_reducible first|exact HB.out|apply below_alloc|apply pw_below_drewN|apply below_drew1)|exact HB.out)⟩⟩
      ·rw [if_neg c16] at H
       exact absurd H (by simp)
    ·rw [if_neg c12] at H
     have c12b0:decide (x11_1<(l0.length:Int))=false:=decide_eq_false c12
     clear c12
     obtain rfl:=Option.some.inj H
     go_wp2
     go_ret
     exact ⟨_,by first|rfl|(simp [errW_none,errW_some] <;> rfl)|(simp [*,errW_none,errW_some] <;> rfl),by (with_reducible repeat (first|apply Kd.R_alloc|apply Kd.R_drewN|apply Kd.R_drew));exact HO_4.out,by repeat (first|(with_reducible first|exact HB.out|apply below_alloc|apply pw_below_drewN|apply below_drew1)|exact HB.out),by repeat (first|(with_reducible first|exact HK.out|apply Kept.alloc|apply Kept.drewN|apply Kept.drew)|exact HK.out)⟩

/-! ### spec_l11Front: function 75 -/
def spec_l11Front.f (k:Nat) (l0:List (S62)) (a1:Int) (a2:Int):Option ((List (S77))):=(spec_l11Try.f k l0 (([]:List Int)) a1 a2 (([]:List (S77)))).bind fun t225=>(some t225)
theorem spec_l11Front.mono:∀ a0 a1 a2 k,LeO (spec_l11Front.f k a0 a1 a2) (spec_l11Front.f (k + 1) a0 a1 a2):=by
 intro a0 a1 a2 k
 unfold spec_l11Front.f
 repeat' first
   | (with_reducible exact spec_l11Try.mono _ _ _ _ _ _)
   | (with_reducible exact LeO.refl _)
   | (with_reducible exact LeO.none _)
   | (with_reducible refine LeO.ite ?_ ?_)
   | (with_reducible refine LeO.bind ?_ (fun _=>?_))
   | exact spec_l11Try.mono _ _ _ _ _ _
   | exact LeO.none _
   | refine LeO.ite ?_ ?_
   | refine LeO.bind ?_ (fun _=>?_)
set_option maxHeartbeats 8000000 in
set_option maxRecDepth 100000 in
theorem spec_l11Front.calls (k:Nat) (A0:Option Addr) (c0:Nat) (l0:List (S62)) (a1:Int) (a2:Int) (r:List (S77)) (w:World) (hr0:Kd.C k62 w A0 l0.length l0) (hc0:l0.length≤c0) (h:spec_l11Front.f k l0 a1 a2=some r) :
  Calls Try.prog 75 #[.slice A0 l0.length c0,.int .i64 a1,.int .i64 a2] w fun e w'=>∃ v0_:Value,e=.returned (v0_)∧Kd.R k77 77 w' w.heap.size (fun _=>True) v0_ r∧Below w.heap.size w w':=by
 have HR0:=Aside0.mk hr0
 have HC0:=Aside0.mk hc0
 clear hr0 hc0
 have HB:=Aside0.mk (Below.refl w.heap.size w)
 have H:((spec_l11Try.f k l0 (([]:List Int)) a1 a2 (([]:List (S77)))).bind fun t225=>(some t225))=some r:=h
 clear h
 obtain ⟨y219,hy219⟩:∃ y_:List Int,y_=(([]:List Int)):=⟨_,rfl⟩
 replace H:((spec_l11Try.f k l0 y219 a1 a2 (([]:List (S77)))).bind fun t225=>(some t225))=some r:=by first|(rw [hy219];with_reducible exact H)|(have H2_:=(Option.bind_some _ _).symm.trans H;rw [hy219];with_reducible exact H2_)|(have H2_:=(Option.bind_some _ _).symm.trans H;with_reducible exact H2_)|with_reducible exact H|(rw [hy219];exact H)|exact H
 have Ny219:=Aside0.mk hy219
 clear hy219
 obtain ⟨y222,hy222⟩:∃ y_:List (S77),y_=(([]:List (S77))):=⟨_,rfl⟩
 replace H:((spec_l11Try.f k l0 y219 a1 a2 y222).bind fun t225=>(some t225))=some r:=by first|(rw [hy222];with_reducible exact H)|(have H2_:=(Option.bind_some _ _).symm.trans H;rw [hy222];with_reducible exact H2_)|(have H2_:=(Option.bind_some _ _).symm.trans H;with_reducible exact H2_)|with_reducible exact H|(rw [hy222];exact H)|exact H
 have Ny222:=Aside0.mk hy222
 clear hy222
 replace H:=Option.bind_eq_some_iff.mp H
 obtain ⟨t225,A40,H⟩:=H
 replace H:(some t225)=some r:=H
 have A4:=Aside0.mk A40
 clear A40
 obtain rfl:=Option.some.inj H
 go_enter Try.func75,Try.ntmps75
 go_wp2_with (first|((with_reducible refine gate_dst (N:=8) rfl ?_);refine Kd.R_lit (Kd.int .i64) _ 3 ?hg (N:=8) ?hd (xs:=([]:List Int)) (inner:=[]) (ok:=fun _=>True) (okp:=fun _=>True) ?hr ?hp (fun _ hk=>hk) trivial (Below.refl _ _) (Nat.le_refl _) (by simp) ?_;(case hd=>rfl);(case hg=>rfl);(case hr=>first|(go_simp;done)|(go_simp;rfl));(case hp=>exact (Reps.none _ _));intro v220 w5 ho6 hb hg_ hnew_;clear hg_ hnew_;(first|rw [←Ny219.out] at ho6|(simp only [Int.reduceToNat] at ho6;rw [←Ny219.out] at ho6));have n0_:=Aside0.mk (Kd.R_lower ho6 (below_size (by repeat (first|(with_reducible first|exact HB.out|apply below_alloc|apply pw_below_drewN|apply below_drew1)|exact HB.out))));have n1_:=Aside0.mk (below_step (by repeat (first|(with_reducible first|exact HB.out|apply below_alloc|apply pw_below_drewN|apply below_drew1)|exact HB.out)) hb);clear HB;have HO221:=n0_;have HB:=n1_;clear n0_ n1_;clear hb ho6)|((with_reducible refine gate_dst (N:=11) rfl ?_);refine Kd.R_lit k77 _ 77 ?hg (N:=11) ?hd (xs:=([]:List (S77))) (inner:=[]) (ok:=fun _=>True) (okp:=fun _=>True) ?hr ?hp (fun _ hk=>hk) trivial (Below.refl _ _) (Nat.le_refl _) (by simp) ?_;(case hd=>rfl);(case hg=>rfl);(case hr=>first|(go_simp;done)|(go_simp;rfl));(case hp=>exact (Reps.none _ _));intro v223 w7 ho8 hb hg_ hnew_;clear hg_ hnew_;(first|rw [←Ny222.out] at ho8|(simp only [Int.reduceToNat] at ho8;rw [←Ny222.out] at ho8));have n0_:=Aside0.mk (Kd.R_below (by (with_reducible repeat (first|apply Kd.R_alloc|apply Kd.R_drewN|apply Kd.R_drew));exact HO221.out) hb);have n1_:=Aside0.mk (Kd.R_lower ho8 (below_size (by repeat (first|(with_reducible first|exact HB.out|apply below_alloc|apply pw_below_drewN|apply below_drew1)|exact HB.out))));have n2_:=Aside0.mk (below_step (by repeat (first|(with_reducible first|exact HB.out|apply below_alloc|apply pw_below_drewN|apply below_drew1)|exact HB.out)) hb);clear HO221;clear HB;have HO221:=n0_;have HO224:=n1_;have HB:=n2_;clear n0_ n1_ n2_;clear hb ho8;obtain ⟨Ao9,co9,eo9⟩:=Kd.R_slice HO221.out;subst eo9;obtain ⟨Ao10,co10,eo10⟩:=Kd.R_slice HO224.out;subst eo10)|((with_reducible refine gate_callee (f:=109) rfl ?_);refine goesL_ (some 12) rfl rfl Try.func109 (by kernel_rfl) rfl #[.slice A0 l0.length c0,.slice Ao9 y219.length co9,.int .i64 a1,.int .i64 a2,.slice Ao10 y222.length co10] rfl (by (try simp only [List.map_toArray,List.map_cons,List.map_nil]);first|done|rfl|(simp only [List.length_drop,List.length_take];rfl)) ?_;(with_reducible refine (spec_l11Try.calls k _ _ l0 _ _ y219 a1 a2 (fun k_=>some k_=(.slice Ao10 y222.length co10:Value).ownBlock) (.slice Ao10 y222.length co10) y222 t225 w _ ?side1 ?side2 ?side3 ?side4 ?side5 ?side6 A4.out).mono ?_);(case side1=>repeat (first|(with_reducible first|exact HB.out|apply below_alloc|apply pw_below_drewN|apply below_drew1)|exact HB.out));(case side2=>exact Kd.C_kept_came k62_heap HR0.out (by repeat (first|(with_reducible first|exact HB.out|apply below_alloc|apply pw_below_drewN|apply below_drew1)|exact HB.out)) (fun k_ hs_=>(fun e_=>Kd.R_base HO224.out k_ e_.symm) hs_));(case side3=>exact HC0.out);(case side4=>exact Kd.C_kept_own ((Kd.R_apart' HO221.out (Kd.R_typed HO224.out) (by decide))) (fun k_ hk_ hs_=>(hk_.2) hs_));(case side5=>exact (Kd.R_reads' HO221.out).2.1);(case side6=>exact Kd.R_tight rfl HO224.out);rintro e w11 ⟨v226,rfl,ho0,hb,hkp⟩;refine ⟨_,rfl,?_⟩;have n0_:=Aside0.mk (Kd.R_mono (ok':=fun k_=>True) (Kd.R_keptB ((Kd.R_apart' HO221.out (Kd.R_typed HO224.out) (by decide))) hkp (fun k_ hk_ hs_=>(hk_.2) hs_)) (fun k_ hk_=>trivial));have n1_:=Aside0.mk (Kd.R_mono (ok':=fun k_=>True) ho0 (fun k_ hk_=>trivial));have n2_:=Aside0.mk (hb);clear HO221;clear HB;clear HO224;have HO221:=n0_;have HO227:=n1_;have HB:=n2_;clear n0_ n1_ n2_;(try clear hb);(try clear hkp);(try clear ho0)))
 go_ret
 exact ⟨_,by first|rfl|(simp [errW_none,errW_some] <;> rfl)|(simp [*,errW_none,errW_some] <;> rfl),by (with_reducible repeat (first|apply Kd.R_alloc|apply Kd.R_drewN|apply Kd.R_drew));exact HO227.out,by repeat (first|(with_reducible first|exact HB.out|apply below_alloc|apply pw_below_drewN|apply below_drew1)|exact HB.out)⟩

/-! ### spec_FrontOf: function 36 -/
def spec_FrontOf.f (k:Nat) (l0:List (S62)) (a1:Int) (a2:Int):Option ((List (S77)) × Bool):=(spec_l2Good.f k l0).bind fun t228=>(if t228=true then ((spec_l11Two.f a1 a2).bind fun t229=>(if t229=true then ((spec_l11Front.f k l0 a1 a2).bind fun t230=>(some (t230,true))) else (some ((([]:List (S77))),false)))) else (some ((([]:List (S77))),false)))
theorem spec_FrontOf.mono:∀ a0 a1 a2 k,LeO (spec_FrontOf.f k a0 a1 a2) (spec_FrontOf.f (k + 1) a0 a1 a2):=by
 intro a0 a1 a2 k
 unfold spec_FrontOf.f
 repeat' first
   | (with_reducible exact spec_l11Front.mono _ _ _ _)
   | (with_reducible exact spec_l2Good.mono _ _)
   | (with_reducible exact LeO.refl _)
   | (with_reducible exact LeO.none _)
   | (with_reducible refine LeO.ite ?_ ?_)
   | (with_reducible refine LeO.bind ?_ (fun _=>?_))
   | exact spec_l11Front.mono _ _ _ _
   | exact spec_l2Good.mono _ _
   | exact LeO.none _
   | refine LeO.ite ?_ ?_
   | refine LeO.bind ?_ (fun _=>?_)
set_option maxHeartbeats 8000000 in
set_option maxRecDepth 100000 in
theorem spec_FrontOf.calls (k:Nat) (A0:Option Addr) (c0:Nat) (l0:List (S62)) (a1:Int) (a2:Int) (r1:List (S77)) (r2:Bool) (w:World) (hr0:Kd.C k62 w A0 l0.length l0) (hc0:l0.length≤c0) (h:spec_FrontOf.f k l0 a1 a2=some (r1,r2)) :
  Calls Try.prog 36 #[.slice A0 l0.length c0,.int .i64 a1,.int .i64 a2] w fun e w'=>∃ v0_:Value,e=.returned (.tuple #[v0_,.bool r2])∧Kd.R k77 77 w' w.heap.size (fun _=>True) v0_ r1∧Below w.heap.size w w':=by
 have HR0:=Aside0.mk hr0
 have HC0:=Aside0.mk hc0
 clear hr0 hc0
 have HB:=Aside0.mk (Below.refl w.heap.size w)
 have H:((spec_l2Good.f k l0).bind fun t228=>(if t228=true then ((spec_l11Two.f a1 a2).bind fun t229=>(if t229=true then ((spec_l11Front.f k l0 a1 a2).bind fun t230=>(some (t230,true))) else (some ((([]:List (S77))),false)))) else (some ((([]:List (S77))),false))))=some (r1,r2):=h
 clear h
 replace H:=Option.bind_eq_some_iff.mp H
 obtain ⟨t228,A40,H⟩:=H
 replace H:(if t228=true then ((spec_l11Two.f a1 a2).bind fun t229=>(if t229=true then ((spec_l11Front.f k l0 a1 a2).bind fun t230=>(some (t230,true))) else (some ((([]:List (S77))),false)))) else (some ((([]:List (S77))),false)))=some (r1,r2):=H
 have A4:=Aside0.mk A40
 clear A40
 by_cases c5:t228=true
 ·subst c5
  have H1:((spec_l11Two.f a1 a2).bind fun t229=>(if t229=true then ((spec_l11Front.f k l0 a1 a2).bind fun t230=>(some (t230,true))) else (some ((([]:List (S77))),false))))=some (r1,r2):=by rw [if_pos rfl] at H;exact H
  clear H
  have H:=H1
  clear H1
  replace H:=Option.bind_eq_some_iff.mp H
  obtain ⟨t229,A60,H⟩:=H
  replace H:(if t229=true then ((spec_l11Front.f k l0 a1 a2).bind fun t230=>(some (t230,true))) else (some ((([]:List (S77))),false)))=some (r1,r2):=H
  have A6:=Aside0.mk A60
  clear A60
  by_cases c7:t229=true
  ·subst c7
   have H1:((spec_l11Front.f k l0 a1 a2).bind fun t230=>(some (t230,true)))=some (r1,r2):=by rw [if_pos rfl] at H;exact H
   clear H
   have H:=H1
   clear H1
   replace H:=Option.bind_eq_some_iff.mp H
   obtain ⟨t230,A80,H⟩:=H
   replace H:(some (t230,true))=some (r1,r2):=H
   have A8:=Aside0.mk A80
   clear A80
   simp only [Option.some.injEq,Prod.mk.injEq] at H
   obtain ⟨rfl,rfl⟩:=H
   go_enter Try.func36,Try.ntmps36
   go_wp2_with (first|((with_reducible refine gate_callee (f:=57) rfl ?_);refine goesL_ (some 9) rfl rfl Try.func57 (by kernel_rfl) rfl #[.slice A0 l0.length c0] rfl (by (try simp only [List.map_toArray,List.map_cons,List.map_nil]);first|done|rfl|(simp only [List.length_drop,List.length_take];rfl)) ?_;(with_reducible refine (spec_l2Good.calls k _ _ l0 true _ ?side1 ?side2 A4.out).mono ?_);(case side1=>repeat (first|exact HR0.out|(with_reducible refine Kd.C_alloc ?_ _)|(with_reducible refine Kd.C_drewN ?_ _)|(with_reducible refine Kd.C_drew ?_)));(case side2=>exact HC0.out);rintro e w9 ⟨rfl,hb⟩;refine ⟨_,rfl,?_⟩;have n0_:=Aside0.mk (below_step (by repeat (first|(with_reducible first|exact HB.out|apply below_alloc|apply pw_below_drewN|apply below_drew1)|exact HB.out)) hb);clear HB;have HB:=n0_;clear n0_;(try clear hb);(try clear hb2);(try clear hk);(try clear hi))|(go_at_call 58;(with_reducible refine (spec_l11Two.calls a1 a2 true _ A6.out).mono ?_);rintro e w' ⟨rfl,⟨nd,rfl⟩⟩)|((with_reducible refine gate_callee (f:=75) rfl ?_);refine goesL_ (some 21) rfl rfl Try.func75 (by kernel_rfl) rfl #[.slice A0 l0.length c0,.int .i64 a1,.int .i64 a2] rfl (by (try simp only [List.map_toArray,List.map_cons,List.map_nil]);first|done|rfl|(simp only [List.length_drop,List.length_take];rfl)) ?_;(with_reducible refine (spec_l11Front.calls k _ _ l0 a1 a2 t230 _ ?side1 ?side2 A8.out).mono ?_);(case side1=>repeat (first|exact (Kd.C_below HR0.out (by repeat (first|(with_reducible first|exact HB.out|apply below_alloc|apply pw_below_drewN|apply below_drew1)|exact HB.out)))|(with_reducible refine Kd.C_alloc ?_ _)|(with_reducible refine Kd.C_drewN ?_ _)|(with_reducible refine Kd.C_drew ?_)));(case side2=>exact HC0.out);rintro e w10 ⟨v231,rfl,ho0,hb⟩;refine ⟨_,rfl,?_⟩;have n0_:=Aside0.mk (Kd.R_lower ho0 (below_size (by repeat (first|(with_reducible first|exact HB.out|apply below_alloc|apply pw_below_drewN|apply below_drew1)|exact HB.out))));have n1_:=Aside0.mk (below_step (by repeat (first|(with_reducible first|exact HB.out|apply below_alloc|apply pw_below_drewN|apply below_drew1)|exact HB.out)) hb);clear HB;have HO232:=n0_;have HB:=n1_;clear n0_ n1_;(try clear hb);(try clear hb2);(try clear hk);(try clear hi);(try clear ho0)))
   go_ret2
   exact ⟨_,by first|rfl|(simp [errW_none,errW_some] <;> rfl)|(simp [*,errW_none,errW_some] <;> rfl),by (with_reducible repeat (first|apply Kd.R_alloc|apply Kd.R_drewN|apply Kd.R_drew));exact HO232.out,by repeat (first|(with_reducible first|exact HB.out|apply below_alloc|apply pw_below_drewN|apply below_drew1)|exact HB.out)⟩
  ·replace c7:=Bool.eq_false_iff.mpr c7
   subst c7
   have H1:(some ((([]:List (S77))),false))=some (r1,r2):=by rw [if_neg (show ¬ (false=true) by decide)] at H;exact H
   clear H
   have H:=H1
   clear H1
   obtain ⟨y233,hy233⟩:∃ y_:List (S77),y_=(([]:List (S77))):=⟨_,rfl⟩
   replace H:(some (y233,false))=some (r1,r2):=by first|(rw [hy233];with_reducible exact H)|(have H2_:=(Option.bind_some _ _).symm.trans H;rw [hy233];with_reducible exact H2_)|(have H2_:=(Option.bind_some _ _).symm.trans H;with_reducible exact H2_)|with_reducible exact H|(rw [hy233];exact H)|exact H
   have Ny233:=Aside0.mk hy233
   clear hy233
   simp only [Option.some.injEq,Prod.mk.injEq] at H
   obtain ⟨rfl,rfl⟩:=H
   go_enter Try.func36,Try.ntmps36
   go_wp2_with (first|((with_reducible refine gate_callee (f:=57) rfl ?_);refine goesL_ (some 9) rfl rfl Try.func57 (by kernel_rfl) rfl #[.slice A0 l0.length c0] rfl (by (try simp only [List.map_toArray,List.map_cons,List.map_nil]);first|done|rfl|(simp only [List.length_drop,List.length_take];rfl)) ?_;(with_reducible refine (spec_l2Good.calls k _ _ l0 true _ ?side1 ?side2 A4.out).mono ?_);(case side1=>repeat (first|exact HR0.out|(with_reducible refine Kd.C_alloc ?_ _)|(with_reducible refine Kd.C_drewN ?_ _)|(with_reducible refine Kd.C_drew ?_)));(case side2=>exact HC0.out);rintro e w11 ⟨rfl,hb⟩;refine ⟨_,rfl,?_⟩;have n0_:=Aside0.mk (below_step (by repeat (first|(with_reducible first|exact HB.out|apply below_alloc|apply pw_below_drewN|apply below_drew1)|exact HB.out)) hb);clear HB;have HB:=n0_;clear n0_;(try clear hb);(try clear hb2);(try clear hk);(try clear hi))|(go_at_call 58;(with_reducible refine (spec_l11Two.calls a1 a2 false _ A6.out).mono ?_);rintro e w' ⟨rfl,⟨nd,rfl⟩⟩)|((with_reducible refine gate_dst (N:=17) rfl ?_);refine Kd.R_lit k77 _ 77 ?hg (N:=17) ?hd (xs:=([]:List (S77))) (inner:=[]) (ok:=fun _=>True) (okp:=fun _=>True) ?hr ?hp (fun _ hk=>hk) trivial (Below.refl _ _) (Nat.le_refl _) (by simp) ?_;(case hd=>rfl);(case hg=>rfl);(case hr=>first|(go_simp;done)|(go_simp;rfl));(case hp=>exact (Reps.none _ _));intro v234 w12 ho13 hb hg_ hnew_;clear hg_ hnew_;(first|rw [←Ny233.out] at ho13|(simp only [Int.reduceToNat] at ho13;rw [←Ny233.out] at ho13));have n0_:=Aside0.mk (Kd.R_lower ho13 (below_size (by repeat (first|(with_reducible first|exact HB.out|apply below_alloc|apply pw_below_drewN|apply below_drew1)|exact HB.out))));have n1_:=Aside0.mk (below_step (by repeat (first|(with_reducible first|exact HB.out|apply below_alloc|apply pw_below_drewN|apply below_drew1)|exact HB.out)) hb);clear HB;have HO235:=n0_;have HB:=n1_;clear n0_ n1_;clear hb ho13))
   go_ret2
   exact ⟨_,by first|rfl|(simp [errW_none,errW_some] <;> rfl)|(simp [*,errW_none,errW_some] <;> rfl),by (with_reducible repeat (first|apply Kd.R_alloc|apply Kd.R_drewN|apply Kd.R_drew));exact HO235.out,by repeat (first|(with_reducible first|exact HB.out|apply below_alloc|apply pw_below_drewN|apply below_drew1)|exact HB.out)⟩
 ·replace c5:=Bool.eq_false_iff.mpr c5
  subst c5
  have H1:(some ((([]:List (S77))),false))=some (r1,r2):=by rw [if_neg (show ¬ (false=true) by decide)] at H;exact H
  clear H
  have H:=H1
  clear H1
  obtain ⟨y236,hy236⟩:∃ y_:List (S77),y_=(([]:List (S77))):=⟨_,rfl⟩
  replace H:(some (y236,false))=some (r1,r2):=by first|(rw [hy236];with_reducible exact H)|(have H2_:=(Option.bind_some _ _).symm.trans H;rw [hy236];with_reducible exact H2_)|(have H2_:=(Option.bind_some _ _).symm.trans H;with_reducible exact H2_)|with_reducible exact H|(rw [hy236];exact H)|exact H
  have Ny236:=Aside0.mk hy236
  clear hy236
  simp only [Option.some.injEq,Prod.mk.injEq] at H
  obtain ⟨rfl,rfl⟩:=H
  go_enter Try.func36,Try.ntmps36
  go_wp2_with (first|((with_reducible refine gate_callee (f:=57) rfl ?_);refine goesL_ (some 9) rfl rfl Try.func57 (by kernel_rfl) rfl #[.slice A0 l0.length c0] rfl (by (try simp only [List.map_toArray,List.map_cons,List.map_nil]);first|done|rfl|(simp only [List.length_drop,List.length_take];rfl)) ?_;(with_reducible refine (spec_l2Good.calls k _ _ l0 false _ ?side1 ?side2 A4.out).mono ?_);(case side1=>repeat (first|exact HR0.out|(with_reducible refine Kd.C_alloc ?_ _)|(with_reducible refine Kd.C_drewN ?_ _)|(with_reducible refine Kd.C_drew ?_)));(case side2=>exact HC0.out);rintro e w14 ⟨rfl,hb⟩;refine ⟨_,rfl,?_⟩;have n0_:=Aside0.mk (below_step (by repeat (first|(with_reducible first|exact HB.out|apply below_alloc|apply pw_below_drewN|apply below_drew1)|exact HB.out)) hb);clear HB;have HB:=n0_;clear n0_;(try clear hb);(try clear hb2);(try clear hk);(try clear hi))|((with_reducible refine gate_dst (N:=17) rfl ?_);refine Kd.R_lit k77 _ 77 ?hg (N:=17) ?hd (xs:=([]:List (S77))) (inner:=[]) (ok:=fun _=>True) (okp:=fun _=>True) ?hr ?hp (fun _ hk=>hk) trivial (Below.refl _ _) (Nat.le_refl _) (by simp) ?_;(case hd=>rfl);(case hg=>rfl);(case hr=>first|(go_simp;done)|(go_simp;rfl));(case hp=>exact (Reps.none _ _));intro v237 w15 ho16 hb hg_ hnew_;clear hg_ hnew_;(first|rw [←Ny236.out] at ho16|(simp only [Int.reduceToNat] at ho16;rw [←Ny236.out] at ho16));have n0_:=Aside0.mk (Kd.R_lower ho16 (below_size (by repeat (first|(with_reducible first|exact HB.out|apply below_alloc|apply pw_below_drewN|apply below_drew1)|exact HB.out))));have n1_:=Aside0.mk (below_step (by repeat (first|(with_reducible first|exact HB.out|apply below_alloc|apply pw_below_drewN|apply below_drew1)|exact HB.out)) hb);clear HB;have HO238:=n0_;have HB:=n1_;clear n0_ n1_;clear hb ho16))
  go_ret2
  exact ⟨_,by first|rfl|(simp [errW_none,errW_some] <;> rfl)|(simp [*,errW_none,errW_some] <;> rfl),by (with_reducible repeat (first|apply Kd.R_alloc|apply Kd.R_drewN|apply Kd.R_drew));exact HO238.out,by repeat (first|(with_reducible first|exact HB.out|apply below_alloc|apply pw_below_drewN|apply below_drew1)|exact HB.out)⟩

/-! ### impl_within: function 107 -/
def impl_within.f (a0:Int) (a1:Int) (a2:Int):Option (Bool):=if a1≤a0 then (some (decide (a0≤a2))) else (some false)
set_option maxHeartbeats 8000000 in
set_option maxRecDepth 100000 in
theorem impl_within.calls (a0:Int) (a1:Int) (a2:Int) (r:Bool) (w:World) (h:impl_within.f a0 a1 a2=some r) :
  Calls Try.prog 107 #[.int .i64 a0,.int .i64 a1,.int .i64 a2] w fun e w'=>e=.returned (.bool r)∧Drawn0 w w':=by
 have H:(if a1≤a0 then (some (decide (a0≤a2))) else (some false))=some r:=h
 clear h
 by_cases c4:a1≤a0
 ·rw [if_pos c4] at H
  have c4b0:decide (a1≤a0)=true:=decide_eq_true c4
  clear c4
  obtain rfl:=Option.some.inj H
  go_enter Try.func107,Try.ntmps107
  go_wp2
  go_ret
  exact ⟨by first|rfl|(simp;done)|(simp [*];done),by repeat (first|exact Drawn0.refl _|apply Drawn0.step)⟩
 ·rw [if_neg c4] at H
  have c4b0:decide (a1≤a0)=false:=decide_eq_false c4
  clear c4
  obtain rfl:=Option.some.inj H
  go_enter Try.func107,Try.ntmps107
  go_wp2
  go_ret
  exact ⟨by first|rfl|(simp;done)|(simp [*];done),by repeat (first|exact Drawn0.refl _|apply Drawn0.step)⟩

/-! ### impl_isDate: function 119 -/
def impl_isDate.f (a0:Int):Option (Bool):=(impl_within.f a0 0 500).bind fun t239=>(some t239)
set_option maxHeartbeats 8000000 in
set_option maxRecDepth 100000 in
theorem impl_isDate.calls (a0:Int) (r:Bool) (w:World) (h:impl_isDate.f a0=some r) :
  Calls Try.prog 119 #[.int .i64 a0] w fun e w'=>e=.returned (.bool r)∧Drawn0 w w':=by
 have H:((impl_within.f a0 0 500).bind fun t239=>(some t239))=some r:=h
 clear h
 replace H:=Option.bind_eq_some_iff.mp H
 obtain ⟨t239,A20,H⟩:=H
 replace H:(some t239)=some r:=H
 have A2:=Aside0.mk A20
 clear A20
 obtain rfl:=Option.some.inj H
 go_enter Try.func119,Try.ntmps119
 go_wp2_with (first|((with_reducible refine gate_callee (f:=107) rfl ?_);refine goesL_ (some 4) rfl rfl Try.func107 (by kernel_rfl) rfl #[.int .i64 a0,.int .i64 0,.int .i64 500] rfl (by (try simp only [List.map_toArray,List.map_cons,List.map_nil]);first|done|rfl|(simp only [List.length_drop,List.length_take];rfl)) ?_;(with_reducible refine (impl_within.calls a0 0 500 t239 _ A2.out).mono ?_);rintro e w' ⟨rfl,⟨nd,rfl⟩⟩;refine ⟨_,rfl,?_⟩))
 go_ret
 exact ⟨by first|rfl|(simp;done)|(simp [*];done),by repeat (first|exact Drawn0.refl _|apply Drawn0.step)⟩

/-! ### impl_IsJobs: function 88 -/
def impl_IsJobs.l0:Nat→List (S62)→Int→Int→Option (Bool)
 | 0,_,_,_=>none
 | k + 1,x8,x9,x10=>if x10<x9 then (if 0≤x10 then (if x10<(x8.length:Int) then ((impl_within.f ((rd_T62 x8 x10).f0) 1 50).bind fun t242=>(if t242=true then ((impl_within.f ((rd_T62 x8 x10).f1) 0 50).bind fun t243=>(if t243=true then ((impl_isDate.f ((rd_T62 x8 x10).f2)).bind fun t244=>(if t244=true then ((impl_isDate.f ((rd_T62 x8 x10).f3)).bind fun t245=>(if t245=true then (impl_IsJobs.l0 k x8 x9 (wrap64 (x10 + 1))) else (some false))) else (some false))) else (some false))) else (some false))) else (none)) else (none)) else (some true)
def impl_IsJobs.f (k:Nat) (l0:List (S62)):Option (Bool):=if (l0.length:Int)>8 then (some false) else (impl_IsJobs.l0 k l0 (l0.length:Int) 0)
theorem impl_IsJobs.mono_l:∀ k,(∀ y0 y1 y2,LeO (impl_IsJobs.l0 k y0 y1 y2) (impl_IsJobs.l0 (k + 1) y0 y1 y2))
 | 0=>fun _ _ _ r h=>by simp [impl_IsJobs.l0] at h
 | k + 1=>by
  have ih0:=impl_IsJobs.mono_l k
  ·intro y0 y1 y2
   unfold impl_IsJobs.l0
   repeat' first
   | (with_reducible exact ih0 _ _ _)
   | (with_reducible exact LeO.refl _)
   | (with_reducible exact LeO.none _)
   | (with_reducible refine LeO.ite ?_ ?_)
   | (with_reducible refine LeO.bind ?_ (fun _=>?_))
   | exact ih0 _ _ _
   | exact LeO.none _
   | refine LeO.ite ?_ ?_
   | refine LeO.bind ?_ (fun _=>?_)
theorem impl_IsJobs.mono:∀ a0 k,LeO (impl_IsJobs.f k a0) (impl_IsJobs.f (k + 1) a0):=by
 intro a0 k
 have ih0:=impl_IsJobs.mono_l k
 unfold impl_IsJobs.f
 repeat' first
   | (with_reducible exact ih0 _ _ _)
   | (with_reducible exact LeO.refl _)
   | (with_reducible exact LeO.none _)
   | (with_reducible refine LeO.ite ?_ ?_)
   | (with_reducible refine LeO.bind ?_ (fun _=>?_))
   | exact ih0 _ _ _
   | exact LeO.none _
   | refine LeO.ite ?_ ?_
   | refine LeO.bind ?_ (fun _=>?_)
set_option maxHeartbeats 8000000 in
set_option maxRecDepth 100000 in
theorem impl_IsJobs.calls (k:Nat) (A0:Option Addr) (c0:Nat) (l0:List (S62)) (r:Bool) (w:World) (hr0:Kd.C k62 w A0 l0.length l0) (hc0:l0.length≤c0) (h:impl_IsJobs.f k l0=some r) :
  Calls Try.prog 88 #[.slice A0 l0.length c0] w fun e w'=>e=.returned (.bool r)∧Below w.heap.size w w':=by
 have hu62:=Try.underlying62
 have HR0:=Aside0.mk hr0
 have HC0:=Aside0.mk hc0
 clear hr0 hc0
 have HB:=Aside0.mk (Below.refl w.heap.size w)
 have H:(if (l0.length:Int)>8 then (some false) else (impl_IsJobs.l0 k l0 (l0.length:Int) 0))=some r:=h
 clear h
 by_cases c2:(l0.length:Int)>8
 ·rw [if_pos c2] at H
  have c2b0:decide (8<(l0.length:Int))=true:=decide_eq_true c2
  have c2b1:decide (8<l0.length)=true:=decide_eq_true (by omega)
  clear c2
  obtain rfl:=Option.some.inj H
  go_enter Try.func88,Try.ntmps88
  go_wp2
  go_ret
  exact ⟨by first|rfl|(simp [errW_none,errW_some] <;> rfl)|(simp [*,errW_none,errW_some] <;> rfl),by repeat (first|(with_reducible first|exact HB.out|apply below_alloc|apply pw_below_drewN|apply below_drew1)|exact HB.out)⟩
 ·rw [if_neg c2] at H
  have c2b0:decide (8<(l0.length:Int))=false:=decide_eq_false c2
  have c2b1:decide (8<l0.length)=false:=decide_eq_false (by omega)
  clear c2
  have H':=Aside0.mk H
  clear H
  go_enter Try.func88,Try.ntmps88
  go_wp2
  go_loopg [10] k (fun kq v10 w'=>∃ (x10_1:Int),v10=.int .i64 x10_1∧Aside0 (impl_IsJobs.l0 kq l0 (l0.length:Int) x10_1=some r)∧Aside0 (kq≤k)∧Aside0 (Below w.heap.size w w'))
  case atStart=>exact ⟨(0),(by first|rfl|(simp;done)|(simp [*];done)),H',⟨Nat.le_refl _⟩,⟨by repeat (first|(with_reducible first|exact HB.out|apply below_alloc|apply pw_below_drewN|apply below_drew1)|exact HB.out)⟩⟩
  case round=>
   clear H'
   try clear c2
   try clear c2b0
   try clear c2b1
   try clear p2
   obtain ⟨x10_1,rfl,HA,HK1,HB⟩:=hrel
   cases gk with
   | zero=>exact absurd HA.out (by simp [impl_IsJobs.l0])
   | succ k1=>
    have H:=HA.out
    clear HA
    simp only [impl_IsJobs.l0] at H
    by_cases c3:x10_1<(l0.length:Int)
    ·rw [if_pos c3] at H
     have c3b0:decide (x10_1<(l0.length:Int))=true:=decide_eq_true c3
     clear c3
     by_cases c4:0≤x10_1
     ·rw [if_pos c4] at H
      have c4b0:decide (0≤x10_1)=true:=decide_eq_true c4
      clear c4
      by_cases c5:x10_1<(l0.length:Int)
      ·rw [if_pos c5] at H
       have c5b0:decide (x10_1<(l0.length:Int))=true:=decide_eq_true c5
       clear c5
       replace H:=Option.bind_eq_some_iff.mp H
       obtain ⟨t242,A60,H⟩:=H
       replace H:(if t242=true then ((impl_within.f ((rd_T62 l0 x10_1).f1) 0 50).bind fun t243=>(if t243=true then ((impl_isDate.f ((rd_T62 l0 x10_1).f2)).bind fun t244=>(if t244=true then ((impl_isDate.f ((rd_T62 l0 x10_1).f3)).bind fun t245=>(if t245=true then (impl_IsJobs.l0 k1 l0 (l0.length:Int) (wrap64 (x10_1 + 1))) else (some false))) else (some false))) else (some false))) else (some false))=some r:=H
       have A6:=Aside0.mk A60
       clear A60
       by_cases c7:t242=true
       ·subst c7
        have H1:((impl_within.f ((rd_T62 l0 x10_1).f1) 0 50).bind fun t243=>(if t243=true then ((impl_isDate.f ((rd_T62 l0 x10_1).f2)).bind fun t244=>(if t244=true then ((impl_isDate.f ((rd_T62 l0 x10_1).f3)).bind fun t245=>(if t245=true then (impl_IsJobs.l0 k1 l0 (l0.length:Int) (wrap64 (x10_1 + 1))) else (some false))) else (some false))) else (some false)))=some r:=by rw [if_pos rfl] at H;exact H
        clear H
        have H:=H1
        clear H1
        replace H:=Option.bind_eq_some_iff.mp H
        obtain ⟨t243,A80,H⟩:=H
        replace H:(if t243=true then ((impl_isDate.f ((rd_T62 l0 x10_1).f2)).bind fun t244=>(if t244=true then ((impl_isDate.f ((rd_T62 l0 x10_1).f3)).bind fun t245=>(if t245=true then (impl_IsJobs.l0 k1 l0 (l0.length:Int) (wrap64 (x10_1 + 1))) else (some false))) else (some false))) else (some false))=some r:=H
        have A8:=Aside0.mk A80
        clear A80
        by_cases c9:t243=true
        ·subst c9
         have H1:((impl_isDate.f ((rd_T62 l0 x10_1).f2)).bind fun t244=>(if t244=true then ((impl_isDate.f ((rd_T62 l0 x10_1).f3)).bind fun t245=>(if t245=true then (impl_IsJobs.l0 k1 l0 (l0.length:Int) (wrap64 (x10_1 + 1))) else (some false))) else (some false)))=some r:=by rw [if_pos rfl] at H;exact H
         clear H
         have H:=H1
         clear H1
         replace H:=Option.bind_eq_some_iff.mp H
         obtain ⟨t244,A100,H⟩:=H
         replace H:(if t244=true then ((impl_isDate.f ((rd_T62 l0 x10_1).f3)).bind fun t245=>(if t245=true then (impl_IsJobs.l0 k1 l0 (l0.length:Int) (wrap64 (x10_1 + 1))) else (some false))) else (some false))=some r:=H
         have A10:=Aside0.mk A100
         clear A100
         by_cases c11:t244=true
         ·subst c11
          have H1:((impl_isDate.f ((rd_T62 l0 x10_1).f3)).bind fun t245=>(if t245=true then (impl_IsJobs.l0 k1 l0 (l0.length:Int) (wrap64 (x10_1 + 1))) else (some false)))=some r:=by rw [if_pos rfl] at H;exact H
          clear H
          have H:=H1
          clear H1
          replace H:=Option.bind_eq_some_iff.mp H
          obtain ⟨t245,A120,H⟩:=H
          replace H:(if t245=true then (impl_IsJobs.l0 k1 l0 (l0.length:Int) (wrap64 (x10_1 + 1))) else (some false))=some r:=H
          have A12:=Aside0.mk A120
          clear A120
          by_cases c13:t245=true
          ·subst c13
           have H1:(impl_IsJobs.l0 k1 l0 (l0.length:Int) (wrap64 (x10_1 + 1)))=some r:=by rw [if_pos rfl] at H;exact H
           clear H
           have H:=H1
           clear H1
           have H':=Aside0.mk H
           clear H
           have p240:0≤(x10_1:Int):=of_decide_eq_true (by first|(with_reducible assumption)|assumption)
           have q240:x10_1<(l0.length:Int):=of_decide_eq_true (by first|(with_reducible assumption)|assumption)
           obtain ⟨ad240,e240,hx240_0,hx240_1,hx240_2,hx240_3⟩:=at_T62 HR0.out x10_1 p240 q240
           cases e240
           replace hx240_0:=(HB.out.cell (World.block_lt_of_cell? w _ hx240_0)).trans hx240_0
           replace hx240_1:=(HB.out.cell (World.block_lt_of_cell? w _ hx240_1)).trans hx240_1
           replace hx240_2:=(HB.out.cell (World.block_lt_of_cell? w _ hx240_2)).trans hx240_2
           replace hx240_3:=(HB.out.cell (World.block_lt_of_cell? w _ hx240_3)).trans hx240_3
           replace p240:=eq_true p240
           replace q240:=eq_true q240
           go_wp2_with (first|((with_reducible refine gate_dst (N:=4) rfl ?_);refine box_event ?hg (N:=4) ?hd (cs:=#[.int .i64 0,.int .i64 0,.int .i64 0,.int .i64 0]) (t:=62) ?hr ?_;(case hd=>rfl);(case hg=>rfl);(case hr=>first|(go_simp;done)|(go_simp;rfl));intro gb241 hg w14 hbox hb;have n0_:=Aside0.mk (below_step (by repeat (first|(with_reducible first|exact HB.out|apply below_alloc|apply pw_below_drewN|apply below_drew1)|exact HB.out)) hb);have n1_:=Aside0.mk (hbox);have n2_:=Aside0.mk ((by rw [hg];exact (below_size (by repeat (first|(with_reducible first|exact HB.out|apply below_alloc|apply pw_below_drewN|apply below_drew1)|exact HB.out))):w.heap.size≤gb241));have n3_:=Aside0.mk ((by rw [hg];exact (below_size (by repeat (first|(with_reducible first|exact HB.out|apply below_alloc|apply pw_below_drewN|apply below_drew1)|exact HB.out))):w.heap.size≤gb241));clear HB;have HB:=n0_;have BK241:=n1_;have GW241:=n2_;have GE241:=n3_;clear n0_ n1_ n2_ n3_;clear hb hbox hg;have hcz15_0:w14.cell? ⟨gb241,0,none⟩=some (.int .i64 0):=(blk_cell BK241.out 0).trans rfl;have hcz15_1:w14.cell? ⟨gb241,1,none⟩=some (.int .i64 0):=(blk_cell BK241.out 1).trans rfl;have hcz15_2:w14.cell? ⟨gb241,2,none⟩=some (.int .i64 0):=(blk_cell BK241.out 2).trans rfl;have hcz15_3:w14.cell? ⟨gb241,3,none⟩=some (.int .i64 0):=(blk_cell BK241.out 3).trans rfl;have hfz15_0:=blk_frozen BK241.out 0;have hfz15_1:=blk_frozen BK241.out 1;have hfz15_2:=blk_frozen BK241.out 2;have hfz15_3:=blk_frozen BK241.out 3)|((with_reducible refine gate_callee (f:=107) rfl ?_);refine goesL_ (some 16) rfl rfl Try.func107 (by kernel_rfl) rfl #[.int .i64 ((rd_T62 l0 x10_1).f0),.int .i64 1,.int .i64 50] rfl (by (try simp only [List.map_toArray,List.map_cons,List.map_nil]);first|done|rfl|(simp only [List.length_drop,List.length_take];rfl)) ?_;(with_reducible refine (impl_within.calls ((rd_T62 l0 x10_1).f0) 1 50 true _ A6.out).mono ?_);rintro e w' ⟨rfl,⟨nd,rfl⟩⟩;refine ⟨_,rfl,?_⟩)|(go_at_call 107;(with_reducible refine (impl_within.calls ((rd_T62 l0 x10_1).f1) 0 50 true _ A8.out).mono ?_);rintro e w' ⟨rfl,⟨nd,rfl⟩⟩)|(go_at_call 119;(with_reducible refine (impl_isDate.calls ((rd_T62 l0 x10_1).f2) true _ A10.out).mono ?_);rintro e w' ⟨rfl,⟨nd,rfl⟩⟩)|(go_at_call 119;(with_reducible refine (impl_isDate.calls ((rd_T62 l0 x10_1).f3) true _ A12.out).mono ?_);rintro e w' ⟨rfl,⟨nd,rfl⟩⟩))
           go_roundg k1
           case measure=>have:=HK1.out;omega
           case rel=>exact ⟨(wrap64 (x10_1 + 1)),(by first|rfl|(simp;done)|(simp [*];done)),H',⟨by have:=HK1.out;omega⟩,⟨by repeat (first|(with_reducible first|exact HB.out|apply below_alloc|apply pw_below_drewN|apply below_drew1|refine below_set ?_ GE241.out)|exact HB.out)⟩⟩
          ·replace c13:=Bool.eq_false_iff.mpr c13
           subst c13
           have H1:(some false)=some r:=by rw [if_neg (show ¬ (false=true) by decide)] at H;exact H
           clear H
           have H:=H1
           clear H1
           obtain rfl:=Option.some.inj H
           have p240:0≤(x10_1:Int):=of_decide_eq_true (by first|(with_reducible assumption)|assumption)
           have q240:x10_1<(l0.length:Int):=of_decide_eq_true (by first|(with_reducible assumption)|assumption)
           obtain ⟨ad240,e240,hx240_0,hx240_1,hx240_2,hx240_3⟩:=at_T62 HR0.out x10_1 p240 q240
           cases e240
           replace hx240_0:=(HB.out.cell (World.block_lt_of_cell? w _ hx240_0)).trans hx240_0
           replace hx240_1:=(HB.out.cell (World.block_lt_of_cell? w _ hx240_1)).trans hx240_1
           replace hx240_2:=(HB.out.cell (World.block_lt_of_cell? w _ hx240_2)).trans hx240_2
           replace hx240_3:=(HB.out.cell (World.block_lt_of_cell? w _ hx240_3)).trans hx240_3
           replace p240:=eq_true p240
           replace q240:=eq_true q240
           go_wp2_with (first|((with_reducible refine gate_dst (N:=4) rfl ?_);refine box_event ?hg (N:=4) ?hd (cs:=#[.int .i64 0,.int .i64 0,.int .i64 0,.int .i64 0]) (t:=62) ?hr ?_;(case hd=>rfl);(case hg=>rfl);(case hr=>first|(go_simp;done)|(go_simp;rfl));intro gb241 hg w16 hbox hb;have n0_:=Aside0.mk (below_step (by repeat (first|(with_reducible first|exact HB.out|apply below_alloc|apply pw_below_drewN|apply below_drew1)|exact HB.out)) hb);have n1_:=Aside0.mk (hbox);have n2_:=Aside0.mk ((by rw [hg];exact (below_size (by repeat (first|(with_reducible first|exact HB.out|apply below_alloc|apply pw_below_drewN|apply below_drew1)|exact HB.out))):w.heap.size≤gb241));have n3_:=Aside0.mk ((by rw [hg];exact (below_size (by repeat (first|(with_reducible first|exact HB.out|apply below_alloc|apply pw_below_drewN|apply below_drew1)|exact HB.out))):w.heap.size≤gb241));clear HB;have HB:=n0_;have BK241:=n1_;have GW241:=n2_;have GE241:=n3_;clear n0_ n1_ n2_ n3_;clear hb hbox hg;have hcz17_0:w16.cell? ⟨gb241,0,none⟩=some (.int .i64 0):=(blk_cell BK241.out 0).trans rfl;have hcz17_1:w16.cell? ⟨gb241,1,none⟩=some (.int .i64 0):=(blk_cell BK241.out 1).trans rfl;have hcz17_2:w16.cell? ⟨gb241,2,none⟩=some (.int .i64 0):=(blk_cell BK241.out 2).trans rfl;have hcz17_3:w16.cell? ⟨gb241,3,none⟩=some (.int .i64 0):=(blk_cell BK241.out 3).trans rfl;have hfz17_0:=blk_frozen BK241.out 0;have hfz17_1:=blk_frozen BK241.out 1;have hfz17_2:=blk_frozen BK241.out 2;have hfz17_3:=blk_frozen BK241.out 3)|((with_reducible refine gate_callee (f:=107) rfl ?_);refine goesL_ (some 16) rfl rfl Try.func107 (by kernel_rfl) rfl #[.int .i64 ((rd_T62 l0 x10_1).f0),.int .i64 1,.int .i64 50] rfl (by (try simp only [List.map_toArray,List.map_cons,List.map_nil]);first|done|rfl|(simp only [List.length_drop,List.length_take];rfl)) ?_;(with_reducible refine (impl_within.calls ((rd_T62 l0 x10_1).f0) 1 50 true _ A6.out).mono ?_);rintro e w' ⟨rfl,⟨nd,rfl⟩⟩;refine ⟨_,rfl,?_⟩)|(go_at_call 107;(with_reducible refine (impl_within.calls ((rd_T62 l0 x10_1).f1) 0 50 true _ A8.out).mono ?_);rintro e w' ⟨rfl,⟨nd,rfl⟩⟩)|(go_at_call 119;(with_reducible refine (impl_isDate.calls ((rd_T62 l0 x10_1).f2) true _ A10.out).mono ?_);rintro e w' ⟨rfl,⟨nd,rfl⟩⟩)|(go_at_call 119;(with_reducible refine (impl_isDate.calls ((rd_T62 l0 x10_1).f3) false _ A12.out).mono ?_);rintro e w' ⟨rfl,⟨nd,rfl⟩⟩))
           go_ret
           exact ⟨by first|rfl|(simp [errW_none,errW_some] <;> rfl)|(simp [*,errW_none,errW_some] <;> rfl),by repeat (first|(with_reducible first|exact HB.out|apply below_alloc|apply pw_below_drewN|apply below_drew1|refine below_set ?_ GE241.out)|exact HB.out)⟩
         ·replace c11:=Bool.eq_false_iff.mpr c11
          subst c11
          have H1:(some false)=some r:=by rw [if_neg (show ¬ (false=true) by decide)] at H;exact H
          clear H
          have H:=H1
          clear H1
          obtain rfl:=Option.some.inj H
          have p240:0≤(x10_1:Int):=of_decide_eq_true (by first|(with_reducible assumption)|assumption)
          have q240:x10_1<(l0.length:Int):=of_decide_eq_true (by first|(with_reducible assumption)|assumption)
          obtain ⟨ad240,e240,hx240_0,hx240_1,hx240_2,hx240_3⟩:=at_T62 HR0.out x10_1 p240 q240
          cases e240
          replace hx240_0:=(HB.out.cell (World.block_lt_of_cell? w _ hx240_0)).trans hx240_0
          replace hx240_1:=(HB.out.cell (World.block_lt_of_cell? w _ hx240_1)).trans hx240_1
          replace hx240_2:=(HB.out.cell (World.block_lt_of_cell? w _ hx240_2)).trans hx240_2
          replace hx240_3:=(HB.out.cell (World.block_lt_of_cell? w _ hx240_3)).trans hx240_3
          replace p240:=eq_true p240
          replace q240:=eq_true q240
          go_wp2_with (first|((with_reducible refine gate_dst (N:=4) rfl ?_);refine box_event ?hg (N:=4) ?hd (cs:=#[.int .i64 0,.int .i64 0,.int .i64 0,.int .i64 0]) (t:=62) ?hr ?_;(case hd=>rfl);(case hg=>rfl);(case hr=>first|(go_simp;done)|(go_simp;rfl));intro gb241 hg w18 hbox hb;have n0_:=Aside0.mk (below_step (by repeat (first|(with_reducible first|exact HB.out|apply below_alloc|apply pw_below_drewN|apply below_drew1)|exact HB.out)) hb);have n1_:=Aside0.mk (hbox);have n2_:=Aside0.mk ((by rw [hg];exact (below_size (by repeat (first|(with_reducible first|exact HB.out|apply below_alloc|apply pw_below_drewN|apply below_drew1)|exact HB.out))):w.heap.size≤gb241));have n3_:=Aside0.mk ((by rw [hg];exact (below_size (by repeat (first|(with_reducible first|exact HB.out|apply below_alloc|apply pw_below_drewN|apply below_drew1)|exact HB.out))):w.heap.size≤gb241));clear HB;have HB:=n0_;have BK241:=n1_;have GW241:=n2_;have GE241:=n3_;clear n0_ n1_ n2_ n3_;clear hb hbox hg;have hcz19_0:w18.cell? ⟨gb241,0,none⟩=some (.int .i64 0):=(blk_cell BK241.out 0).trans rfl;have hcz19_1:w18.cell? ⟨gb241,1,none⟩=some (.int .i64 0):=(blk_cell BK241.out 1).trans rfl;have hcz19_2:w18.cell? ⟨gb241,2,none⟩=some (.int .i64 0):=(blk_cell BK241.out 2).trans rfl;have hcz19_3:w18.cell? ⟨gb241,3,none⟩=some (.int .i64 0):=(blk_cell BK241.out 3).trans rfl;have hfz19_0:=blk_frozen BK241.out 0;have hfz19_1:=blk_frozen BK241.out 1;have hfz19_2:=blk_frozen BK241.out 2;have hfz19_3:=blk_frozen BK241.out 3)|((with_reducible refine gate_callee (f:=107) rfl ?_);refine goesL_ (some 16) rfl rfl Try.func107 (by kernel_rfl) rfl #[.int .i64 ((rd_T62 l0 x10_1).f0),.int .i64 1,.int .i64 50] rfl (by (try simp only [List.map_toArray,List.map_cons,List.map_nil]);first|done|rfl|(simp only [List.length_drop,List.length_take];rfl)) ?_;(with_reducible refine (impl_within.calls ((rd_T62 l0 x10_1).f0) 1 50 true _ A6.out).mono ?_);rintro e w' ⟨rfl,⟨nd,rfl⟩⟩;refine ⟨_,rfl,?_⟩)|(go_at_call 107;(with_reducible refine (impl_within.calls ((rd_T62 l0 x10_1).f1) 0 50 true _ A8.out).mono ?_);rintro e w' ⟨rfl,⟨nd,rfl⟩⟩)|(go_at_call 119;(with_reducible refine (impl_isDate.calls ((rd_T62 l0 x10_1).f2) false _ A10.out).mono ?_);rintro e w' ⟨rfl,⟨nd,rfl⟩⟩))
          go_ret
          exact ⟨by first|rfl|(simp [errW_none,errW_some] <;> rfl)|(simp [*,errW_none,errW_some] <;> rfl),by repeat (first|(with_reducible first|exact HB.out|apply below_alloc|apply pw_below_drewN|apply below_drew1|refine below_set ?_ GE241.out)|exact HB.out)⟩
        ·replace c9:=Bool.eq_false_iff.mpr c9
         subst c9
         have H1:(some false)=some r:=by rw [if_neg (show ¬ (false=true) by decide)] at H;exact H
         clear H
         have H:=H1
         clear H1
         obtain rfl:=Option.some.inj H
         have p240:0≤(x10_1:Int):=of_decide_eq_true (by first|(with_reducible assumption)|assumption)
         have q240:x10_1<(l0.length:Int):=of_decide_eq_true (by first|(with_reducible assumption)|assumption)
         obtain ⟨ad240,e240,hx240_0,hx240_1,hx240_2,hx240_3⟩:=at_T62 HR0.out x10_1 p240 q240
         cases e240
         replace hx240_0:=(HB.out.cell (World.block_lt_of_cell? w _ hx240_0)).trans hx240_0
         replace hx240_1:=(HB.out.cell (World.block_lt_of_cell? w _ hx240_1)).trans hx240_1
         replace hx240_2:=(HB.out.cell (World.block_lt_of_cell? w _ hx240_2)).trans hx240_2
         replace hx240_3:=(HB.out.cell (World.block_lt_of_cell? w _ hx240_3)).trans hx240_3
         replace p240:=eq_true p240
         replace q240:=eq_true q240
         go_wp2_with (first|((with_reducible refine gate_dst (N:=4) rfl ?_);refine box_event ?hg (N:=4) ?hd (cs:=#[.int .i64 0,.int .i64 0,.int .i64 0,.int .i64 0]) (t:=62) ?hr ?_;(case hd=>rfl);(case hg=>rfl);(case hr=>first|(go_simp;done)|(go_simp;rfl));intro gb241 hg w20 hbox hb;have n0_:=Aside0.mk (below_step (by repeat (first|(with_reducible first|exact HB.out|apply below_alloc|apply pw_below_drewN|apply below_drew1)|exact HB.out)) hb);have n1_:=Aside0.mk (hbox);have n2_:=Aside0.mk ((by rw [hg];exact (below_size (by repeat (first|(with_reducible first|exact HB.out|apply below_alloc|apply pw_below_drewN|apply below_drew1)|exact HB.out))):w.heap.size≤gb241));have n3_:=Aside0.mk ((by rw [hg];exact (below_size (by repeat (first|(with_reducible first|exact HB.out|apply below_alloc|apply pw_below_drewN|apply below_drew1)|exact HB.out))):w.heap.size≤gb241));clear HB;have HB:=n0_;have BK241:=n1_;have GW241:=n2_;have GE241:=n3_;clear n0_ n1_ n2_ n3_;clear hb hbox hg;have hcz21_0:w20.cell? ⟨gb241,0,none⟩=some (.int .i64 0):=(blk_cell BK241.out 0).trans rfl;have hcz21_1:w20.cell? ⟨gb241,1,none⟩=some (.int .i64 0):=(blk_cell BK241.out 1).trans rfl;have hcz21_2:w20.cell? ⟨gb241,2,none⟩=some (.int .i64 0):=(blk_cell BK241.out 2).trans rfl;have hcz21_3:w20.cell? ⟨gb241,3,none⟩=some (.int .i64 0):=(blk_cell BK241.out 3).trans rfl;have hfz21_0:=blk_frozen BK241.out 0;have hfz21_1:=blk_frozen BK241.out 1;have hfz21_2:=blk_frozen BK241.out 2;have hfz21_3:=blk_frozen BK241.out 3)|((with_reducible refine gate_callee (f:=107) rfl ?_);refine goesL_ (some 16) rfl rfl Try.func107 (by kernel_rfl) rfl #[.int .i64 ((rd_T62 l0 x10_1).f0),.int .i64 1,.int .i64 50] rfl (by (try simp only [List.map_toArray,List.map_cons,List.map_nil]);first|done|rfl|(simp only [List.length_drop,List.length_take];rfl)) ?_;(with_reducible refine (impl_within.calls ((rd_T62 l0 x10_1).f0) 1 50 true _ A6.out).mono ?_);rintro e w' ⟨rfl,⟨nd,rfl⟩⟩;refine ⟨_,rfl,?_⟩)|(go_at_call 107;(with_reducible refine (impl_within.calls ((rd_T62 l0 x10_1).f1) 0 50 false _ A8.out).mono ?_);rintro e w' ⟨rfl,⟨nd,rfl⟩⟩))
         go_ret
         exact ⟨by first|rfl|(simp [errW_none,errW_some] <;> rfl)|(simp [*,errW_none,errW_some] <;> rfl),by repeat (first|(with_reducible first|exact HB.out|apply below_alloc|apply pw_below_drewN|apply below_drew1|refine below_set ?_ GE241.out)|exact HB.out)⟩
       ·replace c7:=Bool.eq_false_iff.mpr c7
        subst c7
        have H1:(some false)=some r:=by rw [if_neg (show ¬ (false=true) by decide)] at H;exact H
        clear H
        have H:=H1
        clear H1
        obtain rfl:=Option.some.inj H
        have p240:0≤(x10_1:Int):=of_decide_eq_true (by first|(with_reducible assumption)|assumption)
        have q240:x10_1<(l0.length:Int):=of_decide_eq_true (by first|(with_reducible assumption)|assumption)
        obtain ⟨ad240,e240,hx240_0,hx240_1,hx240_2,hx240_3⟩:=at_T62 HR0.out x10_1 p240 q240
        cases e240
        replace hx240_0:=(HB.out.cell (World.block_lt_of_cell? w _ hx240_0)).trans hx240_0
        replace hx240_1:=(HB.out.cell (World.block_lt_of_cell? w _ hx240_1)).trans hx240_1
        replace hx240_2:=(HB.out.cell (World.block_lt_of_cell? w _ hx240_2)).trans hx240_2
        replace hx240_3:=(HB.out.cell (World.block_lt_of_cell? w _ hx240_3)).trans hx240_3
        replace p240:=eq_true p240
        replace q240:=eq_true q240
        go_wp2_with (first|((with_reducible refine gate_dst (N:=4) rfl ?_);refine box_event ?hg (N:=4) ?hd (cs:=#[.int .i64 0,.int .i64 0,.int .i64 0,.int .i64 0]) (t:=62) ?hr ?_;(case hd=>rfl);(case hg=>rfl);(case hr=>first|(go_simp;done)|(go_simp;rfl));intro gb241 hg w22 hbox hb;have n0_:=Aside0.mk (below_step (by repeat (first|(with_reducible first|exact HB.out|apply below_alloc|apply pw_below_drewN|apply below_drew1)|exact HB.out)) hb);have n1_:=Aside0.mk (hbox);have n2_:=Aside0.mk ((by rw [hg];exact (below_size (by repeat (first|(with_reducible first|exact HB.out|apply below_alloc|apply pw_below_drewN|apply below_drew1)|exact HB.out))):w.heap.size≤gb241));have n3_:=Aside0.mk ((by rw [hg];exact (below_size (by repeat (first|(with_reducible first|exact HB.out|apply below_alloc|apply pw_below_drewN|apply below_drew1)|exact HB.out))):w.heap.size≤gb241));clear HB;have HB:=n0_;have BK241:=n1_;have GW241:=n2_;have GE241:=n3_;clear n0_ n1_ n2_ n3_;clear hb hbox hg;have hcz23_0:w22.cell? ⟨gb241,0,none⟩=some (.int .i64 0):=(blk_cell BK241.out 0).trans rfl;have hcz23_1:w22.cell? ⟨gb241,1,none⟩=some (.int .i64 0):=(blk_cell BK241.out 1).trans rfl;have hcz23_2:w22.cell? ⟨gb241,2,none⟩=some (.int .i64 0):=(blk_cell BK241.out 2).trans rfl;have hcz23_3:w22.cell? ⟨gb241,3,none⟩=some (.int .i64 0):=(blk_cell BK241.out 3).trans rfl;have hfz23_0:=blk_frozen BK241.out 0;have hfz23_1:=blk_frozen BK241.out 1;have hfz23_2:=blk_frozen BK241.out 2;have hfz23_3:=blk_frozen BK241.out 3)|((with_reducible refine gate_callee (f:=107) rfl ?_);refine goesL_ (some 16) rfl rfl Try.func107 (by kernel_rfl) rfl #[.int .i64 ((rd_T62 l0 x10_1).f0),.int .i64 1,.int .i64 50] rfl (by (try simp only [List.map_toArray,List.map_cons,List.map_nil]);first|done|rfl|(simp only [List.length_drop,List.length_take];rfl)) ?_;(with_reducible refine (impl_within.calls ((rd_T62 l0 x10_1).f0) 1 50 false _ A6.out).mono ?_);rintro e w' ⟨rfl,⟨nd,rfl⟩⟩;refine ⟨_,rfl,?_⟩))
        go_ret
        exact ⟨by first|rfl|(simp [errW_none,errW_some] <;> rfl)|(simp [*,errW_none,errW_some] <;> rfl),by repeat (first|(with_reducible first|exact HB.out|apply below_alloc|apply pw_below_drewN|apply below_drew1|refine below_set ?_ GE241.out)|exact HB.out)⟩
      ·rw [if_neg c5] at H
       exact absurd H (by simp)
     ·rw [if_neg c4] at H
      exact absurd H (by simp)
    ·rw [if_neg c3] at H
     have c3b0:decide (x10_1<(l0.length:Int))=false:=decide_eq_false c3
     clear c3
     obtain rfl:=Option.some.inj H
     go_wp2
     go_ret
     exact ⟨by first|rfl|(simp [errW_none,errW_some] <;> rfl)|(simp [*,errW_none,errW_some] <;> rfl),by repeat (first|(with_reducible first|exact HB.out|apply below_alloc|apply pw_below_drewN|apply below_drew1)|exact HB.out)⟩

/-! ### impl_isObjective: function 99 -/
def impl_isObjective.f (a0:Int):Option (Bool):=(impl_within.f a0 1 8).bind fun t246=>(some t246)
set_option maxHeartbeats 8000000 in
set_option maxRecDepth 100000 in
theorem impl_isObjective.calls (a0:Int) (r:Bool) (w:World) (h:impl_isObjective.f a0=some r) :
  Calls Try.prog 99 #[.int .i64 a0] w fun e w'=>e=.returned (.bool r)∧Drawn0 w w':=by
 have H:((impl_within.f a0 1 8).bind fun t246=>(some t246))=some r:=h
 clear h
 replace H:=Option.bind_eq_some_iff.mp H
 obtain ⟨t246,A20,H⟩:=H
 replace H:(some t246)=some r:=H
 have A2:=Aside0.mk A20
 clear A20
 obtain rfl:=Option.some.inj H
 go_enter Try.func99,Try.ntmps99
 go_wp2_with (first|((with_reducible refine gate_callee (f:=107) rfl ?_);refine goesL_ (some 4) rfl rfl Try.func107 (by kernel_rfl) rfl #[.int .i64 a0,.int .i64 1,.int .i64 8] rfl (by (try simp only [List.map_toArray,List.map_cons,List.map_nil]);first|done|rfl|(simp only [List.length_drop,List.length_take];rfl)) ?_;(with_reducible refine (impl_within.calls a0 1 8 t246 _ A2.out).mono ?_);rintro e w' ⟨rfl,⟨nd,rfl⟩⟩;refine ⟨_,rfl,?_⟩))
 go_ret
 exact ⟨by first|rfl|(simp;done)|(simp [*];done),by repeat (first|exact Drawn0.refl _|apply Drawn0.step)⟩

/-! ### impl_areTwo: function 60 -/
def impl_areTwo.f (k:Nat) (l0:List (S62)) (a1:Int) (a2:Int):Option (Bool):=(impl_IsJobs.f k l0).bind fun t247=>(if t247=true then ((impl_isObjective.f a1).bind fun t248=>(if t248=true then ((impl_isObjective.f a2).bind fun t249=>(some t249)) else (some false))) else (some false))
theorem impl_areTwo.mono:∀ a0 a1 a2 k,LeO (impl_areTwo.f k a0 a1 a2) (impl_areTwo.f (k + 1) a0 a1 a2):=by
 intro a0 a1 a2 k
 unfold impl_areTwo.f
 repeat' first
   | (with_reducible exact impl_IsJobs.mono _ _)
   | (with_reducible exact LeO.refl _)
   | (with_reducible exact LeO.none _)
   | (with_reducible refine LeO.ite ?_ ?_)
   | (with_reducible refine LeO.bind ?_ (fun _=>?_))
   | exact impl_IsJobs.mono _ _
   | exact LeO.none _
   | refine LeO.ite ?_ ?_
   | refine LeO.bind ?_ (fun _=>?_)
set_option maxHeartbeats 8000000 in
set_option maxRecDepth 100000 in
theorem impl_areTwo.calls (k:Nat) (A0:Option Addr) (c0:Nat) (l0:List (S62)) (a1:Int) (a2:Int) (r:Bool) (w:World) (hr0:Kd.C k62 w A0 l0.length l0) (hc0:l0.length≤c0) (h:impl_areTwo.f k l0 a1 a2=some r) :
  Calls Try.prog 60 #[.slice A0 l0.length c0,.int .i64 a1,.int .i64 a2] w fun e w'=>e=.returned (.bool r)∧Below w.heap.size w w':=by
 have HR0:=Aside0.mk hr0
 have HC0:=Aside0.mk hc0
 clear hr0 hc0
 have HB:=Aside0.mk (Below.refl w.heap.size w)
 have H:((impl_IsJobs.f k l0).bind fun t247=>(if t247=true then ((impl_isObjective.f a1).bind fun t248=>(if t248=true then ((impl_isObjective.f a2).bind fun t249=>(some t249)) else (some false))) else (some false)))=some r:=h
 clear h
 replace H:=Option.bind_eq_some_iff.mp H
 obtain ⟨t247,A40,H⟩:=H
 replace H:(if t247=true then ((impl_isObjective.f a1).bind fun t248=>(if t248=true then ((impl_isObjective.f a2).bind fun t249=>(some t249)) else (some false))) else (some false))=some r:=H
 have A4:=Aside0.mk A40
 clear A40
 by_cases c5:t247=true
 ·subst c5
  have H1:((impl_isObjective.f a1).bind fun t248=>(if t248=true then ((impl_isObjective.f a2).bind fun t249=>(some t249)) else (some false)))=some r:=by rw [if_pos rfl] at H;exact H
  clear H
  have H:=H1
  clear H1
  replace H:=Option.bind_eq_some_iff.mp H
  obtain ⟨t248,A60,H⟩:=H
  replace H:(if t248=true then ((impl_isObjective.f a2).bind fun t249=>(some t249)) else (some false))=some r:=H
  have A6:=Aside0.mk A60
  clear A60
  by_cases c7:t248=true
  ·subst c7
   have H1:((impl_isObjective.f a2).bind fun t249=>(some t249))=some r:=by rw [if_pos rfl] at H;exact H
   clear H
   have H:=H1
   clear H1
   replace H:=Option.bind_eq_some_iff.mp H
   obtain ⟨t249,A80,H⟩:=H
   replace H:(some t249)=some r:=H
   have A8:=Aside0.mk A80
   clear A80
   obtain rfl:=Option.some.inj H
   go_enter Try.func60,Try.ntmps60
   go_wp2_with (first|((with_reducible refine gate_callee (f:=88) rfl ?_);refine goesL_ (some 8) rfl rfl Try.func88 (by kernel_rfl) rfl #[.slice A0 l0.length c0] rfl (by (try simp only [List.map_toArray,List.map_cons,List.map_nil]);first|done|rfl|(simp only [List.length_drop,List.length_take];rfl)) ?_;(with_reducible refine (impl_IsJobs.calls k _ _ l0 true _ ?side1 ?side2 A4.out).mono ?_);(case side1=>repeat (first|exact HR0.out|(with_reducible refine Kd.C_alloc ?_ _)|(with_reducible refine Kd.C_drewN ?_ _)|(with_reducible refine Kd.C_drew ?_)));(case side2=>exact HC0.out);rintro e w9 ⟨rfl,hb⟩;refine ⟨_,rfl,?_⟩;have n0_:=Aside0.mk (below_step (by repeat (first|(with_reducible first|exact HB.out|apply below_alloc|apply pw_below_drewN|apply below_drew1)|exact HB.out)) hb);clear HB;have HB:=n0_;clear n0_;(try clear hb);(try clear hb2);(try clear hk);(try clear hi))|(go_at_call 99;(with_reducible refine (impl_isObjective.calls a1 true _ A6.out).mono ?_);rintro e w' ⟨rfl,⟨nd,rfl⟩⟩)|(go_at_call 99;(with_reducible refine (impl_isObjective.calls a2 t249 _ A8.out).mono ?_);rintro e w' ⟨rfl,⟨nd,rfl⟩⟩))
   go_ret
   exact ⟨by first|rfl|(simp [errW_none,errW_some] <;> rfl)|(simp [*,errW_none,errW_some] <;> rfl),by repeat (first|(with_reducible first|exact HB.out|apply below_alloc|apply pw_below_drewN|apply below_drew1)|exact HB.out)⟩
  ·replace c7:=Bool.eq_false_iff.mpr c7
   subst c7
   have H1:(some false)=some r:=by rw [if_neg (show ¬ (false=true) by decide)] at H;exact H
   clear H
   have H:=H1
   clear H1
   obtain rfl:=Option.some.inj H
   go_enter Try.func60,Try.ntmps60
   go_wp2_with (first|((with_reducible refine gate_callee (f:=88) rfl ?_);refine goesL_ (some 8) rfl rfl Try.func88 (by kernel_rfl) rfl #[.slice A0 l0.length c0] rfl (by (try simp only [List.map_toArray,List.map_cons,List.map_nil]);first|done|rfl|(simp only [List.length_drop,List.length_take];rfl)) ?_;(with_reducible refine (impl_IsJobs.calls k _ _ l0 true _ ?side1 ?side2 A4.out).mono ?_);(case side1=>repeat (first|exact HR0.out|(with_reducible refine Kd.C_alloc ?_ _)|(with_reducible refine Kd.C_drewN ?_ _)|(with_reducible refine Kd.C_drew ?_)));(case side2=>exact HC0.out);rintro e w10 ⟨rfl,hb⟩;refine ⟨_,rfl,?_⟩;have n0_:=Aside0.mk (below_step (by repeat (first|(with_reducible first|exact HB.out|apply below_alloc|apply pw_below_drewN|apply below_drew1)|exact HB.out)) hb);clear HB;have HB:=n0_;clear n0_;(try clear hb);(try clear hb2);(try clear hk);(try clear hi))|(go_at_call 99;(with_reducible refine (impl_isObjective.calls a1 false _ A6.out).mono ?_);rintro e w' ⟨rfl,⟨nd,rfl⟩⟩))
   go_ret
   exact ⟨by first|rfl|(simp [errW_none,errW_some] <;> rfl)|(simp [*,errW_none,errW_some] <;> rfl),by repeat (first|(with_reducible first|exact HB.out|apply below_alloc|apply pw_below_drewN|apply below_drew1)|exact HB.out)⟩
 ·replace c5:=Bool.eq_false_iff.mpr c5
  subst c5
  have H1:(some false)=some r:=by rw [if_neg (show ¬ (false=true) by decide)] at H;exact H
  clear H
  have H:=H1
  clear H1
  obtain rfl:=Option.some.inj H
  go_enter Try.func60,Try.ntmps60
  go_wp2_with (first|((with_reducible refine gate_callee (f:=88) rfl ?_);refine goesL_ (some 8) rfl rfl Try.func88 (by kernel_rfl) rfl #[.slice A0 l0.length c0] rfl (by (try simp only [List.map_toArray,List.map_cons,List.map_nil]);first|done|rfl|(simp only [List.length_drop,List.length_take];rfl)) ?_;(with_reducible refine (impl_IsJobs.calls k _ _ l0 false _ ?side1 ?side2 A4.out).mono ?_);(case side1=>repeat (first|exact HR0.out|(with_reducible refine Kd.C_alloc ?_ _)|(with_reducible refine Kd.C_drewN ?_ _)|(with_reducible refine Kd.C_drew ?_)));(case side2=>exact HC0.out);rintro e w11 ⟨rfl,hb⟩;refine ⟨_,rfl,?_⟩;have n0_:=Aside0.mk (below_step (by repeat (first|(with_reducible first|exact HB.out|apply below_alloc|apply pw_below_drewN|apply below_drew1)|exact HB.out)) hb);clear HB;have HB:=n0_;clear n0_;(try clear hb);(try clear hb2);(try clear hk);(try clear hi)))
  go_ret
  exact ⟨by first|rfl|(simp [errW_none,errW_some] <;> rfl)|(simp [*,errW_none,errW_some] <;> rfl),by repeat (first|(with_reducible first|exact HB.out|apply below_alloc|apply pw_below_drewN|apply below_drew1)|exact HB.out)⟩

/-! ### impl_numbersTo: function 91 -/
def impl_numbersTo.l0:Nat→Int→List Int→Int→Option (List Int)
 | 0,_,_,_=>none
 | k + 1,x0,x3,x4=>if x4<x0 then (if x3.length<17592186044416 then (impl_numbersTo.l0 k x0 (x3++[x4]) (wrap64 (x4 + 1))) else (none)) else (some x3)
def impl_numbersTo.f (k:Nat) (a0:Int):Option (List Int):=impl_numbersTo.l0 k a0 ([]:List Int) 0
theorem impl_numbersTo.mono_l:∀ k,(∀ y0 y1 y2,LeO (impl_numbersTo.l0 k y0 y1 y2) (impl_numbersTo.l0 (k + 1) y0 y1 y2))
 | 0=>fun _ _ _ r h=>by simp [impl_numbersTo.l0] at h
 | k + 1=>by
  have ih0:=impl_numbersTo.mono_l k
  ·intro y0 y1 y2
   unfold impl_numbersTo.l0
   repeat' first
   | (with_reducible exact ih0 _ _ _)
   | (with_reducible exact LeO.refl _)
   | (with_reducible exact LeO.none _)
   | (with_reducible refine LeO.ite ?_ ?_)
   | (with_reducible refine LeO.bind ?_ (fun _=>?_))
   | exact ih0 _ _ _
   | exact LeO.none _
   | refine LeO.ite ?_ ?_
   | refine LeO.bind ?_ (fun _=>?_)
theorem impl_numbersTo.mono:∀ a0 k,LeO (impl_numbersTo.f k a0) (impl_numbersTo.f (k + 1) a0):=by
 intro a0 k
 have ih0:=impl_numbersTo.mono_l k
 unfold impl_numbersTo.f
 repeat' first
   | (with_reducible exact ih0 _ _ _)
   | (with_reducible exact LeO.refl _)
   | (with_reducible exact LeO.none _)
   | (with_reducible refine LeO.ite ?_ ?_)
   | (with_reducible refine LeO.bind ?_ (fun _=>?_))
   | exact ih0 _ _ _
   | exact LeO.none _
   | refine LeO.ite ?_ ?_
   | refine LeO.bind ?_ (fun _=>?_)
set_option maxHeartbeats 8000000 in
set_option maxRecDepth 100000 in
theorem impl_numbersTo.calls (k:Nat) (a0:Int) (r:List Int) (w:World) (h:impl_numbersTo.f k a0=some r) :
  Calls Try.prog 91 #[.int .i64 a0] w fun e w'=>∃ v0_:Value,e=.returned (v0_)∧Kd.R (Kd.int .i64) 3 w' w.heap.size (fun _=>True) v0_ r∧Below w.heap.size w w':=by
 have HB:=Aside0.mk (Below.refl w.heap.size w)
 have H:(impl_numbersTo.l0 k a0 ([]:List Int) 0)=some r:=h
 clear h
 have H':=Aside0.mk H
 clear H
 go_enter Try.func91,Try.ntmps91
 go_wp2
 go_loopg [3,4] k (fun kq v3 v4 w'=>∃ (x3_1:List Int) (x4_1:Int),v4=.int .i64 x4_1∧Aside0 (impl_numbersTo.l0 kq a0 x3_1 x4_1=some r)∧Aside0 (kq≤k)∧Aside0 (Kd.R (Kd.int .i64) 3 w' w.heap.size (fun _=>True) v3 x3_1)∧Aside0 (Below w.heap.size w w'))
 case atStart=>exact ⟨(([]:List Int)),(0),(by first|rfl|(simp;done)|(simp [*];done)),H',⟨Nat.le_refl _⟩,⟨by first|exact Kd.R_nil _ _ _ _ _|exact Kd.N_nil _ _ _ _ _|exact Kd.V_nil _ _ _ _ _|exact Kd.Q_nil _ _ _ _ _|exact Kd.S_nil _ _ _ _ _⟩,⟨by repeat (first|(with_reducible first|exact HB.out|apply below_alloc|apply pw_below_drewN|apply below_drew1)|exact HB.out)⟩⟩
 case round=>
  clear H'
  obtain ⟨x3_1,x4_1,rfl,HA,HK1,HO_3,HB⟩:=hrel
  cases gk with
  | zero=>exact absurd HA.out (by simp [impl_numbersTo.l0])
  | succ k1=>
   have H:=HA.out
   clear HA
   simp only [impl_numbersTo.l0] at H
   by_cases c2:x4_1<a0
   ·rw [if_pos c2] at H
    have c2b0:decide (x4_1<a0)=true:=decide_eq_true c2
    clear c2
    by_cases c3:x3_1.length<17592186044416
    ·rw [if_pos c3] at H
     have LMc3:=Aside0.mk c3
     clear c3
     obtain ⟨y250,hy250⟩:∃ y_:List Int,y_=(x3_1++[x4_1]):=⟨_,rfl⟩
     replace H:(impl_numbersTo.l0 k1 a0 y250 (wrap64 (x4_1 + 1)))=some r:=by first|(rw [hy250];with_reducible exact H)|(have H2_:=(Option.bind_some _ _).symm.trans H;rw [hy250];with_reducible exact H2_)|(have H2_:=(Option.bind_some _ _).symm.trans H;with_reducible exact H2_)|with_reducible exact H|(rw [hy250];exact H)|exact H
     have Ny250:=Aside0.mk hy250
     clear hy250
     have H':=Aside0.mk H
     clear H
     go_wp2_with (first|((with_reducible refine gate_builtin (b:=.append) (xs:=#[.tmp 10,.tmp 12]) rfl ?_);at_builtin;refine Kd.R_append (Kd.int .i64) (w0:=w) w.heap.size rfl (.tmp 10) (.tmp 12) 41 3 (.int .i64 0) 8 rfl Try.underlying41 info3 rfl (by decide) (by omega) u3 x3_1 x4_1 [.int .i64 x4_1] (fun _=>True) (fun _=>False) rfl rfl ?aP (fun _ hk=>hk.elim) ?aF ?aO ?aB ?aS ?aL ?_;(case aP=>exact rfl);(case aB=>exact (by repeat (first|(with_reducible first|exact HB.out|apply below_alloc|apply pw_below_drewN|apply below_drew1)|exact HB.out)));(case aF=>exact (fun _ _=>trivial));(case aO=>exact (by (with_reducible repeat (first|apply Kd.R_alloc|apply Kd.R_drewN|apply Kd.R_drew));exact HO_3.out));(case aS=>exact (below_size (by repeat (first|(with_reducible first|exact HB.out|apply below_alloc|apply pw_below_drewN|apply below_drew1)|exact HB.out))));(case aL=>have:=LMc3.out;omega);intro v251 w4 ho hb hg hat;rw [←Ny250.out] at ho;have n0_:=Aside0.mk (hb);have n1_:=Aside0.mk (ho);clear HB;clear HO_3;have HB:=n0_;have HO252:=n1_;clear n0_ n1_;clear ho hb hg hat))
     go_roundg k1
     case measure=>have:=HK1.out;omega
     case rel=>exact ⟨(y250),(wrap64 (x4_1 + 1)),(by first|rfl|(simp;done)|(simp [*];done)),H',⟨by have:=HK1.out;omega⟩,⟨by (with_reducible repeat (first|apply Kd.R_alloc|apply Kd.R_drewN|apply Kd.R_drew));exact HO252.out⟩,⟨by repeat (first|(with_reducible first|exact HB.out|apply below_alloc|apply pw_below_drewN|apply below_drew1)|exact HB.out)⟩⟩
    ·rw [if_neg c3] at H
     exact absurd H (by simp)
   ·rw [if_neg c2] at H
    have c2b0:decide (x4_1<a0)=false:=decide_eq_false c2
    clear c2
    obtain rfl:=Option.some.inj H
    go_wp2
    go_ret
    exact ⟨_,by first|rfl|(simp [errW_none,errW_some] <;> rfl)|(simp [*,errW_none,errW_some] <;> rfl),by (with_reducible repeat (first|apply Kd.R_alloc|apply Kd.R_drewN|apply Kd.R_drew));exact HO_3.out,by repeat (first|(with_reducible first|exact HB.out|apply below_alloc|apply pw_below_drewN|apply below_drew1)|exact HB.out)⟩

end Go.Proofs.Ytbblhmpcpmamfaa.XFnExactFrontOf
-- minified
