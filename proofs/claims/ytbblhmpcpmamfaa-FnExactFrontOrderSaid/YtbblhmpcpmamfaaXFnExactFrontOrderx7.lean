-- Written by a program of this session (the kit's print, widened). Proved here: what each function answers, for the arguments that its contract names.
import Derived.Test.YtbblhmpcpmamfaaXFnExactFrontOrderx0
import Derived.Test.YtbblhmpcpmamfaaXFnExactFrontOrderx3
import Derived.Test.YtbblhmpcpmamfaaXFnExactFrontOrderx5
import Derived.Test.YtbblhmpcpmamfaaXFnExactFrontOrderx6
namespace Go.Proofs.Ytbblhmpcpmamfaa.XFnExactFrontOrder
open Go.RowKit Go.Proofs.YtbblhmpcpmamfaaW.PrintWords Go.Proofs.YtbblhmpcpmamfaaW.PrintLast Go.Proofs.YtbblhmpcpmamfaaW.PrintMore
attribute [local go_sem] max2_int min2_int max_two min_two max_three min_three max_four min_four   -- for this text's walks alone
attribute [local go_sem] idxA_77_0 idxA_77_1 fldS_68_0 fldS_68_1 fldS_73_0 fldS_73_1 fldS_73_2
set_option linter.unusedVariables false
set_option linter.unusedSimpArgs false

/-! ### spec_l11Try: function 109 -/
mutual
def spec_l11Try.l0:Nat→List (S62)→List Int→Int→Int→List (S77)→Int→Option ((List (S77)))
 | 0,_,_,_,_,_,_=>none
 | k + 1,x0,x1,x2,x3,x4,x11=>if x11<(x0.length:Int) then ((spec_l1Has.f k x1 x11).bind fun t210=>(if t210=true then (spec_l11Try.l0 k x0 x1 x2 x3 x4 (wrap64 (x11 + 1))) else ((spec_l1Own.f x1).bind fun t211=>(if t211.length<17592186044416 then ((spec_l11Try.f k x0 (t211++[x11]) x2 x3 x4).bind fun t217=>(spec_l11Try.l0 k x0 x1 x2 x3 t217 (wrap64 (x11 + 1)))) else (none))))) else (some x4)
def spec_l11Try.f:Nat→List (S62)→List Int→Int→Int→List (S77)→Option ((List (S77)))
 | 0,_,_,_,_,_=>none
 | k + 1,l0,l1,a2,a3,l4=>if (l1.length:Int)=(l0.length:Int) then ((spec_l11Point.f k l0 l1 a2 a3).bind fun bt205=>((spec_l11Put.f k l4 bt205.1 bt205.2).bind fun t207=>(some t207))) else (spec_l11Try.l0 k l0 l1 a2 a3 l4 0)
end
theorem spec_l11Try.mono_l:∀ k,(∀ y0 y1 y2 y3 y4,LeO (spec_l11Try.f k y0 y1 y2 y3 y4) (spec_l11Try.f (k + 1) y0 y1 y2 y3 y4))∧(∀ y0 y1 y2 y3 y4 y5,LeO (spec_l11Try.l0 k y0 y1 y2 y3 y4 y5) (spec_l11Try.l0 (k + 1) y0 y1 y2 y3 y4 y5))
 | 0=>⟨fun _ _ _ _ _ r h=>by simp [spec_l11Try.f] at h,fun _ _ _ _ _ _ r h=>by simp [spec_l11Try.l0] at h⟩
 | k + 1=>by
  obtain ⟨ih0,ih1⟩:=spec_l11Try.mono_l k
  refine ⟨?_,?_⟩
  ·intro y0 y1 y2 y3 y4
   unfold spec_l11Try.f
   repeat' first
   | (with_reducible exact ih0 _ _ _ _ _)
   | (with_reducible exact ih1 _ _ _ _ _ _)
   | (with_reducible exact spec_l11Point.mono _ _ _ _ _)
   | (with_reducible exact spec_l11Put.mono _ _ _ _)
   | (with_reducible exact spec_l1Has.mono _ _ _)
   | (with_reducible exact LeO.refl _)
   | (with_reducible exact LeO.none _)
   | (with_reducible refine LeO.ite ?_ ?_)
   | (with_reducible refine LeO.bind ?_ (fun _=>?_))
   | exact ih0 _ _ _ _ _
   | exact ih1 _ _ _ _ _ _
   | exact spec_l11Point.mono _ _ _ _ _
   | exact spec_l11Put.mono _ _ _ _
   | exact spec_l1Has.mono _ _ _
   | exact LeO.none _
   | refine LeO.ite ?_ ?_
   | refine LeO.bind ?_ (fun _=>?_)
  ·intro y0 y1 y2 y3 y4 y5
   unfold spec_l11Try.l0
   repeat' first
   | (with_reducible exact ih0 _ _ _ _ _)
   | (with_reducible exact ih1 _ _ _ _ _ _)
   | (with_reducible exact spec_l11Point.mono _ _ _ _ _)
   | (with_reducible exact spec_l11Put.mono _ _ _ _)
   | (with_reducible exact spec_l1Has.mono _ _ _)
   | (with_reducible exact LeO.refl _)
   | (with_reducible exact LeO.none _)
   | (with_reducible refine LeO.ite ?_ ?_)
   | (with_reducible refine LeO.bind ?_ (fun _=>?_))
   | exact ih0 _ _ _ _ _
   | exact ih1 _ _ _ _ _ _
   | exact spec_l11Point.mono _ _ _ _ _
   | exact spec_l11Put.mono _ _ _ _
   | exact spec_l1Has.mono _ _ _
   | exact LeO.none _
   | refine LeO.ite ?_ ?_
   | refine LeO.bind ?_ (fun _=>?_)
theorem spec_l11Try.mono:∀ a0 a1 a2 a3 a4 k,LeO (spec_l11Try.f k a0 a1 a2 a3 a4) (spec_l11Try.f (k + 1) a0 a1 a2 a3 a4):=by
 intro a0 a1 a2 a3 a4 k
 obtain ⟨ih0,ih1⟩:=spec_l11Try.mono_l k
 exact ih0 a0 a1 a2 a3 a4
set_option maxHeartbeats 8000000 in
set_option maxRecDepth 100000 in
theorem spec_l11Try.calls (k:Nat):∀ (A0:Option Addr) (c0:Nat) (l0:List (S62)) (A1:Option Addr) (c1:Nat) (l1:List Int) (a2:Int) (a3:Int) (P4_:Nat→Prop) (u9000_:Value) (l4:List (S77)) (r:List (S77)) (w0 w:World) (hB:Below w0.heap.size w0 w) (hr0:∀ W_,Kept w W_ (fun k_=>P4_ k_)→Kd.C k62 W_ A0 l0.length l0) (hc0:l0.length≤c0) (hr1:∀ W_,Kept w W_ (fun k_=>P4_ k_)→Kd.C (Kd.int .i64) W_ A1 l1.length l1) (hc1:l1.length≤c1) (ho4:Kd.R k77 77 w w0.heap.size P4_ u9000_ l4) (h:spec_l11Try.f k l0 l1 a2 a3 l4=some r),
  Calls Try.prog 109 #[.slice A0 l0.length c0,.slice A1 l1.length c1,.int .i64 a2,.int .i64 a3,u9000_] w fun e w'=>∃ v0_:Value,e=.returned (v0_)∧Kd.R k77 77 w' w0.heap.size (fun k_=>(P4_ k_∨w.heap.size≤k_)) v0_ r∧Below w0.heap.size w0 w'∧Kept w w' (fun k_=>P4_ k_):=by
 induction k using Nat.strongRecOn with
 | _ k ih=>
 intro A0 c0 l0 A1 c1 l1 a2 a3 P4_ u9000_ l4 r w0 w hB hr0 hc0 hr1 hc1 ho4 h
 cases k with
 | zero=>exact absurd h (by simp [spec_l11Try.f])
 | succ k=>
 simp only [spec_l11Try.f] at h
 have HR0:=Aside0.mk hr0
 have HC0:=Aside0.mk hc0
 clear hr0 hc0
 have HR1:=Aside0.mk hr1
 have HC1:=Aside0.mk hc1
 clear hr1 hc1
 have HO4:=Aside0.mk (show Kd.R k77 77 w w0.heap.size (fun k_=>(P4_ k_∨w.heap.size≤k_)) u9000_ l4 from Kd.R_mono ho4 (fun k_ hk=>(.inl hk)))
 have HK:=Aside0.mk (Kept.refl w (fun k_=>P4_ k_))
 have HW0:=Aside0.mk hB.size
 have HB:=Aside0.mk hB
 clear hB
 have H:(if (l1.length:Int)=(l0.length:Int) then ((spec_l11Point.f k l0 l1 a2 a3).bind fun bt205=>((spec_l11Put.f k l4 bt205.1 bt205.2).bind fun t207=>(some t207))) else (spec_l11Try.l0 k l0 l1 a2 a3 l4 0))=some r:=h
 clear h
 by_cases c6:(l1.length:Int)=(l0.length:Int)
 ·rw [if_pos c6] at H
  have c6b0:((l1.length:Int) == (l0.length:Int))=true:=beq_iff_eq.mpr c6
  have c6b1:((l1.length:Int) != (l0.length:Int))=false:=bne_eq_false_iff_eq.mpr c6
  have c6b2:(l1.length == l0.length)=true:=by first|simpa using c6|(simp at c6 ⊢;omega)
  clear c6
  replace H:=Option.bind_eq_some_iff.mp H
  obtain ⟨⟨t205,t206⟩,A70,H⟩:=H
  replace H:((spec_l11Put.f k l4 t205 t206).bind fun t207=>(some t207))=some r:=H
  have A7:=Aside0.mk A70
  clear A70
  replace H:=Option.bind_eq_some_iff.mp H
  obtain ⟨t207,A80,H⟩:=H
  replace H:(some t207)=some r:=H
  have A8:=Aside0.mk A80
  clear A80
  obtain rfl:=Option.some.inj H
  go_enter Try.func109,Try.ntmps109
  go_wp2_with (first|((with_reducible refine gate_callee (f:=97) rfl ?_);refine goesL_ (some 22) rfl rfl Try.func97 (by kernel_rfl) rfl #[.slice A0 l0.length c0,.slice A1 l1.length c1,.int .i64 a2,.int .i64 a3] rfl (by (try simp only [List.map_toArray,List.map_cons,List.map_nil]);first|done|rfl|(simp only [List.length_drop,List.length_take];rfl)) ?_;(with_reducible refine (spec_l11Point.calls k _ _ l0 _ _ l1 a2 a3 t205 t206 _ ?side1 ?side2 ?side3 ?side4 A7.out).mono ?_);(case side1=>exact Kd.C_kept_now HR0.out (by repeat (first|(with_reducible first|exact HK.out|apply Kept.alloc|apply Kept.drewN|apply Kept.drew)|exact HK.out)));(case side2=>exact HC0.out);(case side3=>exact Kd.C_kept_now HR1.out (by repeat (first|(with_reducible first|exact HK.out|apply Kept.alloc|apply Kept.drewN|apply Kept.drew)|exact HK.out)));(case side4=>exact HC1.out);rintro e w9 ⟨rfl,hb⟩;refine ⟨_,rfl,?_⟩;have n0_:=Aside0.mk (Kd.R_below (by (with_reducible repeat (first|apply Kd.R_alloc|apply Kd.R_drewN|apply Kd.R_drew));exact HO4.out) hb);have n1_:=Aside0.mk (Kept.below (S:=(fun k_=>P4_ k_)) (by repeat (first|(with_reducible first|exact HK.out|apply Kept.alloc|apply Kept.drewN|apply Kept.drew)|exact HK.out)) hb);have n2_:=Aside0.mk (below_step (by repeat (first|(with_reducible first|exact HB.out|apply below_alloc|apply pw_below_drewN|apply below_drew1)|exact HB.out)) hb);clear HO4;clear HK;clear HB;have HO4:=n0_;have HK:=n1_;have HB:=n2_;clear n0_ n1_ n2_;(try clear hb);(try clear hb2);(try clear hk);(try clear hi);obtain ⟨Ao10,co10,eo10⟩:=Kd.R_slice HO4.out;subst eo10)|((with_reducible refine gate_callee (f:=124) rfl ?_);refine goesL_ (some 23) rfl rfl Try.func124 (by kernel_rfl) rfl #[.slice Ao10 l4.length co10,.agg #[.int .i64 t205,.int .i64 t206]] rfl (by (try simp only [List.map_toArray,List.map_cons,List.map_nil]);first|done|rfl|(simp only [List.length_drop,List.length_take];rfl)) ?_;(with_reducible refine (spec_l11Put.calls k (fun k_=>some k_=(.slice Ao10 l4.length co10:Value).ownBlock) (.slice Ao10 l4.length co10) l4 t205 t206 t207 w0 _ ?side1 ?side2 A8.out).mono ?_);(case side1=>repeat (first|(with_reducible first|exact HB.out|apply below_alloc|apply pw_below_drewN|apply below_drew1)|exact HB.out));(case side2=>exact Kd.R_tight rfl HO4.out);rintro e w11 ⟨v208,rfl,ho0,hb,hkp⟩;refine ⟨_,rfl,?_⟩;have n0_:=Aside0.mk (Kd.R_mono (ok':=fun k_=>(P4_ k_∨w.heap.size≤k_)) ho0 (fun k_ hk_=>Or.elim hk_ (fun hs_=>(HO4.out.1 k_ (hs_).symm)) (fun hn_=>(.inr (Nat.le_trans (by first|exact HK.out.1|exact (show Kept w _ (fun k_=>P4_ k_) from by repeat (first|(with_reducible first|exact HK.out|apply Kept.alloc|apply Kept.drewN|apply Kept.drew)|exact HK.out)).1) hn_)))));have n1_:=Aside0.mk (Kept.then_ (S:=(fun k_=>P4_ k_)) (by repeat (first|(with_reducible first|exact HK.out|apply Kept.alloc|apply Kept.drewN|apply Kept.drew)|exact HK.out)) hkp (fun k_ hs_=>(fun e_=>(HO4.out.1 k_ e_.symm)) hs_));have n2_:=Aside0.mk (hb);clear HK;clear HB;clear HO4;have HO209:=n0_;have HK:=n1_;have HB:=n2_;clear n0_ n1_ n2_;(try clear hb);(try clear hkp);(try clear ho0)))
  go_ret
  exact ⟨_,by first|rfl|(simp [errW_none,errW_some] <;> rfl)|(simp [*,errW_none,errW_some] <;> rfl),by (with_reducible repeat (first|apply Kd.R_alloc|apply Kd.R_drewN|apply Kd.R_drew));exact HO209.out,by repeat (first|(with_reducible first|exact HB.out|apply below_alloc|apply pw_below_drewN|apply below_drew1)|exact HB.out),by repeat (first|(with_reducible first|exact HK.out|apply Kept.alloc|apply Kept.drewN|apply Kept.drew)|exact HK.out)⟩
 ·rw [if_neg c6] at H
  have c6b0:((l1.length:Int) == (l0.length:Int))=false:=beq_eq_false_iff_ne.mpr c6
  have c6b1:((l1.length:Int) != (l0.length:Int))=true:=bne_iff_ne.mpr c6
  have c6b2:(l1.length == l0.length)=false:=by first|simpa using c6|(simp at c6 ⊢;omega)
  have H':=Aside0.mk H
  clear H
  go_enter Try.func109,Try.ntmps109
  go_wp2
  go_loopg [4,11] k (fun kq v4 v11 w'=>∃ (x4_1:List (S77)) (x11_1:Int),v11=.int .i64 x11_1∧Aside0 (spec_l11Try.l0 kq l0 l1 a2 a3 x4_1 x11_1=some r)∧Aside0 (kq≤k)∧Aside0 (Kd.R k77 77 w' w0.heap.size (fun k_=>(P4_ k_∨w.heap.size≤k_)) v4 x4_1)∧Aside0 (Kept w w' (fun k_=>P4_ k_))∧Aside0 (Below w0.heap.size w0 w'))
  case atStart=>exact ⟨(l4),(0),(by first|rfl|(simp;done)|(simp [*];done)),H',⟨Nat.le_refl _⟩,⟨by (with_reducible repeat (first|apply Kd.R_alloc|apply Kd.R_drewN|apply Kd.R_drew));exact HO4.out⟩,⟨by repeat (first|(with_reducible first|exact HK.out|apply Kept.alloc|apply Kept.drewN|apply Kept.drew)|exact HK.out)⟩,⟨by repeat (first|(with_reducible first|exact HB.out|apply below_alloc|apply pw_below_drewN|apply below_drew1)|exact HB.out)⟩⟩
  case round=>
   clear H'
   try clear c1
   try clear p2
   try clear c6
   try clear c6b0
   try clear c6b1
   try clear c6b2
   try clear c9
   try clear c10
   obtain ⟨x4_1,x11_1,rfl,HA,HK1,HO_4,HK,HB⟩:=hrel
   cases gk with
   | zero=>exact absurd HA.out (by simp [spec_l11Try.l0])
   | succ k1=>
    have H:=HA.out
    clear HA
    simp only [spec_l11Try.l0] at H
    by_cases c12:x11_1<(l0.length:Int)
    ·rw [if_pos c12] at H
     have c12b0:decide (x11_1<(l0.length:Int))=true:=decide_eq_true c12
     clear c12
     replace H:=Option.bind_eq_some_iff.mp H
     obtain ⟨t210,A130,H⟩:=H
     replace H:(if t210=true then (spec_l11Try.l0 k1 l0 l1 a2 a3 x4_1 (wrap64 (x11_1 + 1))) else ((spec_l1Own.f l1).bind fun t211=>(if t211.length<17592186044416 then ((spec_l11Try.f k1 l0 (t211++[x11_1]) a2 a3 x4_1).bind fun t217=>(spec_l11Try.l0 k1 l0 l1 a2 a3 t217 (wrap64 (x11_1 + 1)))) else (none))))=some r:=H
     have A13:=Aside0.mk A130
     clear A130
     by_cases c14:t210=true
     ·subst c14
      have H1:(spec_l11Try.l0 k1 l0 l1 a2 a3 x4_1 (wrap64 (x11_1 + 1)))=some r:=by rw [if_pos rfl] at H;exact H
      clear H
      have H:=H1
      clear H1
      have H':=Aside0.mk H
      clear H
      go_wp2_with (first|((with_reducible refine gate_callee (f:=98) rfl ?_);refine goesL_ (some 32) rfl rfl Try.func98 (by kernel_rfl) rfl #[.slice A1 l1.length c1,.int .i64 x11_1] rfl (by (try simp only [List.map_toArray,List.map_cons,List.map_nil]);first|done|rfl|(simp only [List.length_drop,List.length_take];rfl)) ?_;(with_reducible refine (spec_l1Has.calls k1 _ _ l1 x11_1 true _ ?side1 ?side2 A13.out).mono ?_);(case side1=>exact Kd.C_kept_now HR1.out (by repeat (first|(with_reducible first|exact HK.out|apply Kept.alloc|apply Kept.drewN|apply Kept.drew)|exact HK.out)));(case side2=>exact HC1.out);rintro e w' ⟨rfl,⟨nd,rfl⟩⟩;refine ⟨_,rfl,?_⟩))
      go_roundg k1
      case measure=>have:=HK1.out;omega
      case rel=>exact ⟨(x4_1),(wrap64 (x11_1 + 1)),(by first|rfl|(simp;done)|(simp [*];done)),H',⟨by have:=HK1.out;omega⟩,⟨by (with_reducible repeat (first|apply Kd.R_alloc|apply Kd.R_drewN|apply Kd.R_drew));exact HO_4.out⟩,⟨by repeat (first|(with_reducible first|exact HK.out|apply Kept.alloc|apply Kept.drewN|apply Kept.drew)|exact HK.out)⟩,⟨by repeat (first|(with_reducible first|exact HB.out|apply below_alloc|apply pw_below_drewN|apply below_drew1)|exact HB.out)⟩⟩
     ·replace c14:=Bool.eq_false_iff.mpr c14
      subst c14
      have H1:((spec_l1Own.f l1).bind fun t211=>(if t211.length<17592186044416 then ((spec_l11Try.f k1 l0 (t211++[x11_1]) a2 a3 x4_1).bind fun t217=>(spec_l11Try.l0 k1 l0 l1 a2 a3 t217 (wrap64 (x11_1 + 1)))) else (none)))=some r:=by rw [if_neg (show ¬ (false=true) by decide)] at H;exact H
      clear H
      have H:=H1
      clear H1
      replace H:=Option.bind_eq_some_iff.mp H
      obtain ⟨t211,A150,H⟩:=H
      replace H:(if t211.length<17592186044416 then ((spec_l11Try.f k1 l0 (t211++[x11_1]) a2 a3 x4_1).bind fun t217=>(spec_l11Try.l0 k1 l0 l1 a2 a3 t217 (wrap64 (x11_1 + 1)))) else (none))=some r:=H
      have A15:=Aside0.mk A150
      clear A150
      by_cases c16:t211.length<17592186044416
      ·rw [if_pos c16] at H
       have LMc16:=Aside0.mk c16
       clear c16
       obtain ⟨y214,hy214⟩:∃ y_:List Int,y_=(t211++[x11_1]):=⟨_,rfl⟩
       replace H:((spec_l11Try.f k1 l0 y214 a2 a3 x4_1).bind fun t217=>(spec_l11Try.l0 k1 l0 l1 a2 a3 t217 (wrap64 (x11_1 + 1))))=some r:=by first|(rw [hy214];with_reducible exact H)|(have H2_:=(Option.bind_some _ _).symm.trans H;rw [hy214];with_reducible exact H2_)|(have H2_:=(Option.bind_some _ _).symm.trans H;with_reducible exact H2_)|with_reducible exact H|(rw [hy214];exact H)|exact H
       have Ny214:=Aside0.mk hy214
       clear hy214
       replace H:=Option.bind_eq_some_iff.mp H
       obtain ⟨t217,A170,H⟩:=H
       replace H:(spec_l11Try.l0 k1 l0 l1 a2 a3 t217 (wrap64 (x11_1 + 1)))=some r:=H
       have A17:=Aside0.mk A170
       clear A170
       have H':=Aside0.mk H
       clear H
       go_wp2_with (first|((with_reducible refine gate_callee (f:=98) rfl ?_);refine goesL_ (some 32) rfl rfl Try.func98 (by kernel_rfl) rfl #[.slice A1 l1.length c1,.int .i64 x11_1] rfl (by (try simp only [List.map_toArray,List.map_cons,List.map_nil]);first|done|rfl|(simp only [List.length_drop,List.length_take];rfl)) ?_;(with_reducible refine (spec_l1Has.calls k1 _ _ l1 x11_1 false _ ?side1 ?side2 A13.out).mono ?_);(case side1=>exact Kd.C_kept_now HR1.out (by repeat (first|(with_reducible first|exact HK.out|apply Kept.alloc|apply Kept.drewN|apply Kept.drew)|exact HK.out)));(case side2=>exact HC1.out);rintro e w' ⟨rfl,⟨nd,rfl⟩⟩;refine ⟨_,rfl,?_⟩)|((with_reducible refine gate_callee (f:=44) rfl ?_);refine goesL_ (some 36) rfl rfl Try.func44 (by kernel_rfl) rfl #[.slice A1 l1.length c1] rfl (by (try simp only [List.map_toArray,List.map_cons,List.map_nil]);first|done|rfl|(simp only [List.length_drop,List.length_take];rfl)) ?_;(with_reducible refine (spec_l1Own.calls _ _ l1 t211 _ ?side1 ?side2 A15.out).mono ?_);(case side1=>exact Kd.C_kept_now HR1.out (by repeat (first|(with_reducible first|exact HK.out|apply Kept.alloc|apply Kept.drewN|apply Kept.drew)|exact HK.out)));(case side2=>exact HC1.out);rintro e w18 ⟨v212,rfl,ho0,hb⟩;refine ⟨_,rfl,?_⟩;have n0_:=Aside0.mk (Kd.R_below (by (with_reducible repeat (first|apply Kd.R_alloc|apply Kd.R_drewN|apply Kd.R_drew));exact HO_4.out) hb);have n1_:=Aside0.mk (Kd.R_lower (Kd.R_newM (M:=fun k_=>(P4_ k_∨w.heap.size≤k_)) ho0 (by first|exact HK.out.1|exact (show Kept w _ (fun k_=>P4_ k_) from by repeat (first|(with_reducible first|exact HK.out|apply Kept.alloc|apply Kept.drewN|apply Kept.drew)|exact HK.out)).1) (fun k_ h_=>.inr h_)) (below_size (by repeat (first|(with_reducible first|exact HB.out|apply below_alloc|apply pw_below_drewN|apply below_drew1)|exact HB.out))));have n2_:=Aside0.mk (Kept.below (S:=(fun k_=>P4_ k_)) (by repeat (first|(with_reducible first|exact HK.out|apply Kept.alloc|apply Kept.drewN|apply Kept.drew)|exact HK.out)) hb);have n3_:=Aside0.mk (below_step (by repeat (first|(with_reducible first|exact HB.out|apply below_alloc|apply pw_below_drewN|apply below_drew1)|exact HB.out)) hb);clear HO_4;clear HK;clear HB;have HO_4:=n0_;have HO213:=n1_;have HK:=n2_;have HB:=n3_;clear n0_ n1_ n2_ n3_;(try clear hb);(try clear hb2);(try clear hk);(try clear hi);(try clear ho0))|((with_reducible refine gate_builtin (b:=.append) (xs:=#[.tmp 36,.tmp 38]) rfl ?_);at_builtin;refine Kd.R_append (Kd.int .i64) (w0:=w0) w0.heap.size rfl (.tmp 36) (.tmp 38) 41 3 (.int .i64 0) 8 rfl Try.underlying41 info3 rfl (by decide) (by omega) v212 t211 x11_1 [.int .i64 x11_1] (fun k_=>(P4_ k_∨w.heap.size≤k_)) (fun _=>False) rfl rfl ?aP (fun _ hk=>hk.elim) ?aF ?aO ?aB ?aS ?aL ?_;(case aP=>exact rfl);(case aB=>exact (by repeat (first|(with_reducible first|exact HB.out|apply below_alloc|apply pw_below_drewN|apply below_drew1)|exact HB.out)));(case aF=>exact (fun k_ hk=>(.inr (Nat.le_trans (by first|exact HK.out.1|exact (show Kept w _ (fun k_=>P4_ k_) from by repeat (first|(with_reducible first|exact HK.out|apply Kept.alloc|apply Kept.drewN|apply Kept.drew)|exact HK.out)).1) hk))));(case aO=>exact (by (with_reducible repeat (first|apply Kd.R_alloc|apply Kd.R_drewN|apply Kd.R_drew));exact Kd.R_mono HO213.out (fun _ hk=>hk.1)));(case aS=>exact (below_size (by repeat (first|(with_reducible first|exact HB.out|apply below_alloc|apply pw_below_drewN|apply below_drew1)|exact HB.out))));(case aL=>have:=LMc16.out;omega);intro v215 w19 ho hb hg hat;rw [←Ny214.out] at ho;have n0_:=Aside0.mk (Kd.R_over' (by (with_reducible repeat (first|apply Kd.R_alloc|apply Kd.R_drewN|apply Kd.R_drew));exact HO_4.out) (Kd.R_typed (by (with_reducible repeat (first|apply Kd.R_alloc|apply Kd.R_drewN|apply Kd.R_drew));exact HO213.out)) (by decide) hg);have n1_:=Aside0.mk (hb);have n2_:=Aside0.mk (Kept.of_grown (S:=(fun k_=>P4_ k_)) hg (by repeat (first|(with_reducible first|exact HK.out|apply Kept.alloc|apply Kept.drewN|apply Kept.drew)|exact HK.out)) (fun k_ e_=>(HO213.out.1 k_ e_).1));have n3_:=Aside0.mk (ho);clear HO_4;clear HB;clear HK;clear HO213;have HO_4:=n0_;have HB:=n1_;have HK:=n2_;have HO216:=n3_;clear n0_ n1_ n2_ n3_;clear ho hb hg hat;obtain ⟨Ao20,co20,eo20⟩:=Kd.R_slice HO216.out;subst eo20;obtain ⟨Ao21,co21,eo21⟩:=Kd.R_slice HO_4.out;subst eo21)|((with_reducible refine gate_callee (f:=109) rfl ?_);refine goesL_ (some 43) rfl rfl Try.func109 (by kernel_rfl) rfl #[.slice A0 l0.length c0,.slice Ao20 y214.length co20,.int .i64 a2,.int .i64 a3,.slice Ao21 x4_1.length co21] rfl (by (try simp only [List.map_toArray,List.map_cons,List.map_nil]);first|done|rfl|(simp only [List.length_drop,List.length_take];rfl)) ?_;(with_reducible refine (ih k1 (by have:=HK1.out;omega) _ _ l0 _ _ y214 a2 a3 (fun k_=>some k_=(.slice Ao21 x4_1.length co21:Value).ownBlock) (.slice Ao21 x4_1.length co21) x4_1 t217 w0 _ ?side1 ?side2 ?side3 ?side4 ?side5 ?side6 A17.out).mono ?_);(case side1=>repeat (first|(with_reducible first|exact HB.out|apply below_alloc|apply pw_below_drewN|apply below_drew1)|exact HB.out));(case side2=>exact Kd.C_kept_call HR0.out (by repeat (first|(with_reducible first|exact HK.out|apply Kept.alloc|apply Kept.drewN|apply Kept.drew)|exact HK.out)) (fun k_ hs_=>(fun e_=>(HO_4.out.1 k_ e_.symm)) hs_));(case side3=>exact HC0.out);(case side4=>exact Kd.C_kept_own ((Kd.R_apart' HO216.out (Kd.R_typed HO_4.out) (by decide))) (fun k_ hk_ hs_=>(hk_.2) hs_));(case side5=>exact (Kd.R_reads' HO216.out).2.1);(case side6=>exact Kd.R_tight rfl HO_4.out);rintro e w22 ⟨v218,rfl,ho0,hb,hkp⟩;refine ⟨_,rfl,?_⟩;have n0_:=Aside0.mk (Kd.R_mono (ok':=fun k_=>(P4_ k_∨w.heap.size≤k_)) (Kd.R_keptB ((Kd.R_apart' HO216.out (Kd.R_typed HO_4.out) (by decide))) hkp (fun k_ hk_ hs_=>(hk_.2) hs_)) (fun k_ hk_=>hk_.1.1));have n1_:=Aside0.mk (Kd.R_mono (ok':=fun k_=>(P4_ k_∨w.heap.size≤k_)) ho0 (fun k_ hk_=>Or.elim hk_ (fun hs_=>(HO_4.out.1 k_ (hs_).symm)) (fun hn_=>(.inr (Nat.le_trans (by first|exact HK.out.1|exact (show Kept w _ (fun k_=>P4_ k_) from by repeat (first|(with_reducible first|exact HK.out|apply Kept.alloc|apply Kept.drewN|apply Kept.drew)|exact HK.out)).1) hn_)))));have n2_:=Aside0.mk (Kept.then_ (S:=(fun k_=>P4_ k_)) (by repeat (first|(with_reducible first|exact HK.out|apply Kept.alloc|apply Kept.drewN|apply Kept.drew)|exact HK.out)) hkp (fun k_ hs_=>(fun e_=>(HO_4.out.1 k_ e_.symm)) hs_));have n3_:=Aside0.mk (hb);clear HO216;clear HK;clear HB;clear HO_4;have HO216:=n0_;have HO219:=n1_;have HK:=n2_;have HB:=n3_;clear n0_ n1_ n2_ n3_;(try clear hb);(try clear hkp);(try clear ho0)))
       go_roundg k1
       case measure=>have:=HK1.out;omega
       case rel=>exact ⟨(t217),(wrap64 (x11_1 + 1)),(by first|rfl|(simp;done)|(simp [*];done)),H',⟨by have:=HK1.out;omega⟩,⟨by (with_reducible repeat (first|apply Kd.R_alloc|apply Kd.R_drewN|apply Kd.R_drew));exact HO219.out⟩,⟨by repeat (first|(with_reducible first|exact HK.out|apply Kept.alloc|apply Kept.drewN|apply Kept.drew)|exact HK.out)⟩,⟨by repeat (first|(with_reducible first|exact HB.out|apply below_alloc|apply pw_below_drewN|apply below_drew1)|exact HB.out)⟩⟩
      ·rw [if_neg c16] at H
       exact absurd H (by simp)
    ·rw [if_neg c12] at H
     have c12b0:decide (x11_1<(l0.length:Int))=false:=decide_eq_false c12
     clear c12
     obtain rfl:=Option.some.inj H
     go_wp2
     go_ret
     exact ⟨_,by first|rfl|(simp [errW_none,errW_some] <;> rfl)|(simp [*,errW_none,errW_some] <;> rfl),by (with_reducible repeat (first|apply Kd.R_alloc|apply Kd.R_drewN|apply Kd.R_drew));exact HO_4.out,by repeat (first|(with_reducible first|exact HB.out|apply below_alloc|apply pw_below_drewN|apply below_drew1)|exact HB.out),by repeat (first|(with_reducible first|exact HK.out|apply Kept.alloc|apply Kept.drewN|apply Kept.drew)|exact HK.out)⟩

/-! ### spec_l11Front: function 75 -/
def spec_l11Front.f (k:Nat) (l0:List (S62)) (a1:Int) (a2:Int):Option ((List (S77))):=(spec_l11Try.f k l0 (([]:List Int)) a1 a2 (([]:List (S77)))).bind fun t226=>(some t226)
theorem spec_l11Front.mono:∀ a0 a1 a2 k,LeO (spec_l11Front.f k a0 a1 a2) (spec_l11Front.f (k + 1) a0 a1 a2):=by
 intro a0 a1 a2 k
 unfold spec_l11Front.f
 repeat' first
   | (with_reducible exact spec_l11Try.mono _ _ _ _ _ _)
   | (with_reducible exact LeO.refl _)
   | (with_reducible exact LeO.none _)
   | (with_reducible refine LeO.ite ?_ ?_)
   | (with_reducible refine LeO.bind ?_ (fun _=>?_))
   | exact spec_l11Try.mono _ _ _ _ _ _
   | exact LeO.none _
   | refine LeO.ite ?_ ?_
   | refine LeO.bind ?_ (fun _=>?_)
set_option maxHeartbeats 8000000 in
set_option maxRecDepth 100000 in
theorem spec_l11Front.calls (k:Nat) (A0:Option Addr) (c0:Nat) (l0:List (S62)) (a1:Int) (a2:Int) (r:List (S77)) (w:World) (hr0:Kd.C k62 w A0 l0.length l0) (hc0:l0.length≤c0) (h:spec_l11Front.f k l0 a1 a2=some r) :
  Calls Try.prog 75 #[.slice A0 l0.length c0,.int .i64 a1,.int .i64 a2] w fun e w'=>∃ v0_:Value,e=.returned (v0_)∧Kd.R k77 77 w' w.heap.size (fun _=>True) v0_ r∧Below w.heap.size w w':=by
 have HR0:=Aside0.mk hr0
 have HC0:=Aside0.mk hc0
 clear hr0 hc0
 have HB:=Aside0.mk (Below.refl w.heap.size w)
 have H:((spec_l11Try.f k l0 (([]:List Int)) a1 a2 (([]:List (S77)))).bind fun t226=>(some t226))=some r:=h
 clear h
 obtain ⟨y220,hy220⟩:∃ y_:List Int,y_=(([]:List Int)):=⟨_,rfl⟩
 replace H:((spec_l11Try.f k l0 y220 a1 a2 (([]:List (S77)))).bind fun t226=>(some t226))=some r:=by first|(rw [hy220];with_reducible exact H)|(have H2_:=(Option.bind_some _ _).symm.trans H;rw [hy220];with_reducible exact H2_)|(have H2_:=(Option.bind_some _ _).symm.trans H;with_reducible exact H2_)|with_reducible exact H|(rw [hy220];exact H)|exact H
 have Ny220:=Aside0.mk hy220
 clear hy220
 obtain ⟨y223,hy223⟩:∃ y_:List (S77),y_=(([]:List (S77))):=⟨_,rfl⟩
 replace H:((spec_l11Try.f k l0 y220 a1 a2 y223).bind fun t226=>(some t226))=some r:=by first|(rw [hy223];with_reducible exact H)|(have H2_:=(Option.bind_some _ _).symm.trans H;rw [hy223];with_reducible exact H2_)|(have H2_:=(Option.bind_some _ _).symm.trans H;with_reducible exact H2_)|with_reducible exact H|(rw [hy223];exact H)|exact H
 have Ny223:=Aside0.mk hy223
 clear hy223
 replace H:=Option.bind_eq_some_iff.mp H
 obtain ⟨t226,A40,H⟩:=H
 replace H:(some t226)=some r:=H
 have A4:=Aside0.mk A40
 clear A40
 obtain rfl:=Option.some.inj H
 go_enter Try.func75,Try.ntmps75
 go_wp2_with (first|((with_reducible refine gate_dst (N:=8) rfl ?_);refine Kd.R_lit (Kd.int .i64) _ 3 ?hg (N:=8) ?hd (xs:=([]:List Int)) (inner:=[]) (ok:=fun _=>True) (okp:=fun _=>True) ?hr ?hp (fun _ hk=>hk) trivial (Below.refl _ _) (Nat.le_refl _) (by simp) ?_;(case hd=>rfl);(case hg=>rfl);(case hr=>first|(go_simp;done)|(go_simp;rfl));(case hp=>exact (Reps.none _ _));intro v221 w5 ho6 hb hg_ hnew_;clear hg_ hnew_;(first|rw [←Ny220.out] at ho6|(simp only [Int.reduceToNat] at ho6;rw [←Ny220.out] at ho6));have n0_:=Aside0.mk (Kd.R_lower ho6 (below_size (by repeat (first|(with_reducible first|exact HB.out|apply below_alloc|apply pw_below_drewN|apply below_drew1)|exact HB.out))));have n1_:=Aside0.mk (below_step (by repeat (first|(with_reducible first|exact HB.out|apply below_alloc|apply pw_below_drewN|apply below_drew1)|exact HB.out)) hb);clear HB;have HO222:=n0_;have HB:=n1_;clear n0_ n1_;clear hb ho6)|((with_reducible refine gate_dst (N:=11) rfl ?_);refine Kd.R_lit k77 _ 77 ?hg (N:=11) ?hd (xs:=([]:List (S77))) (inner:=[]) (ok:=fun _=>True) (okp:=fun _=>True) ?hr ?hp (fun _ hk=>hk) trivial (Below.refl _ _) (Nat.le_refl _) (by simp) ?_;(case hd=>rfl);(case hg=>rfl);(case hr=>first|(go_simp;done)|(go_simp;rfl));(case hp=>exact (Reps.none _ _));intro v224 w7 ho8 hb hg_ hnew_;clear hg_ hnew_;(first|rw [←Ny223.out] at ho8|(simp only [Int.reduceToNat] at ho8;rw [←Ny223.out] at ho8));have n0_:=Aside0.mk (Kd.R_below (by (with_reducible repeat (first|apply Kd.R_alloc|apply Kd.R_drewN|apply Kd.R_drew));exact HO222.out) hb);have n1_:=Aside0.mk (Kd.R_lower ho8 (below_size (by repeat (first|(with_reducible first|exact HB.out|apply below_alloc|apply pw_below_drewN|apply below_drew1)|exact HB.out))));have n2_:=Aside0.mk (below_step (by repeat (first|(with_reducible first|exact HB.out|apply below_alloc|apply pw_below_drewN|apply below_drew1)|exact HB.out)) hb);clear HO222;clear HB;have HO222:=n0_;have HO225:=n1_;have HB:=n2_;clear n0_ n1_ n2_;clear hb ho8;obtain ⟨Ao9,co9,eo9⟩:=Kd.R_slice HO222.out;subst eo9;obtain ⟨Ao10,co10,eo10⟩:=Kd.R_slice HO225.out;subst eo10)|((with_reducible refine gate_callee (f:=109) rfl ?_);refine goesL_ (some 12) rfl rfl Try.func109 (by kernel_rfl) rfl #[.slice A0 l0.length c0,.slice Ao9 y220.length co9,.int .i64 a1,.int .i64 a2,.slice Ao10 y223.length co10] rfl (by (try simp only [List.map_toArray,List.map_cons,List.map_nil]);first|done|rfl|(simp only [List.length_drop,List.length_take];rfl)) ?_;(with_reducible refine (spec_l11Try.calls k _ _ l0 _ _ y220 a1 a2 (fun k_=>some k_=(.slice Ao10 y223.length co10:Value).ownBlock) (.slice Ao10 y223.length co10) y223 t226 w _ ?side1 ?side2 ?side3 ?side4 ?side5 ?side6 A4.out).mono ?_);(case side1=>repeat (first|(with_reducible first|exact HB.out|apply below_alloc|apply pw_below_drewN|apply below_drew1)|exact HB.out));(case side2=>exact Kd.C_kept_came k62_heap HR0.out (by repeat (first|(with_reducible first|exact HB.out|apply below_alloc|apply pw_below_drewN|apply below_drew1)|exact HB.out)) (fun k_ hs_=>(fun e_=>Kd.R_base HO225.out k_ e_.symm) hs_));(case side3=>exact HC0.out);(case side4=>exact Kd.C_kept_own ((Kd.R_apart' HO222.out (Kd.R_typed HO225.out) (by decide))) (fun k_ hk_ hs_=>(hk_.2) hs_));(case side5=>exact (Kd.R_reads' HO222.out).2.1);(case side6=>exact Kd.R_tight rfl HO225.out);rintro e w11 ⟨v227,rfl,ho0,hb,hkp⟩;refine ⟨_,rfl,?_⟩;have n0_:=Aside0.mk (Kd.R_mono (ok':=fun k_=>True) (Kd.R_keptB ((Kd.R_apart' HO222.out (Kd.R_typed HO225.out) (by decide))) hkp (fun k_ hk_ hs_=>(hk_.2) hs_)) (fun k_ hk_=>trivial));have n1_:=Aside0.mk (Kd.R_mono (ok':=fun k_=>True) ho0 (fun k_ hk_=>trivial));have n2_:=Aside0.mk (hb);clear HO222;clear HB;clear HO225;have HO222:=n0_;have HO228:=n1_;have HB:=n2_;clear n0_ n1_ n2_;(try clear hb);(try clear hkp);(try clear ho0)))
 go_ret
 exact ⟨_,by first|rfl|(simp [errW_none,errW_some] <;> rfl)|(simp [*,errW_none,errW_some] <;> rfl),by (with_reducible repeat (first|apply Kd.R_alloc|apply Kd.R_drewN|apply Kd.R_drew));exact HO228.out,by repeat (first|(with_reducible first|exact HB.out|apply below_alloc|apply pw_below_drewN|apply below_drew1)|exact HB.out)⟩

end Go.Proofs.Ytbblhmpcpmamfaa.XFnExactFrontOrder
-- minified
