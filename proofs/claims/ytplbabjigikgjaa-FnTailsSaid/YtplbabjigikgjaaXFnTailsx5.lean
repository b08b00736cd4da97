-- Written by a program of this session (the kit's print, widened). Proved here: what each function answers, for the arguments that its contract names.
import Derived.Test.YtplbabjigikgjaaXFnTailsx0
import Derived.Test.YtplbabjigikgjaaXFnTailsx2
import Derived.Test.YtplbabjigikgjaaXFnTailsx4
namespace Go.Proofs.Ytplbabjigikgjaa.XFnTails
open Go.RowKit Go.Proofs.YtplbabjigikgjaaW.PrintWords Go.Proofs.YtplbabjigikgjaaW.PrintLast Go.Proofs.YtplbabjigikgjaaW.PrintMore
attribute [local go_sem] max2_int min2_int max_two min_two max_three min_three max_four min_four   -- for this text's walks alone
attribute [local go_sem] idxA_45_0 idxA_45_1 fldS_94_0 fldS_94_1 fldS_94_2 fldS_125_0 fldS_125_1 fldS_125_2
set_option linter.unusedVariables false
set_option linter.unusedSimpArgs false

/-! ### spec_l1Cur_edges: function 68 -/
mutual
def spec_l1Cur_edges.l0:Nat→Int→List (S45)→Bool→Int→Int→List Int→Int→Int→Option ((List (S45)) × Int × Int)
 | 0,_,_,_,_,_,_,_,_=>none
 | k + 1,x1,x5,x6,x7,x8,x1000,x1001,x1002=>if x8<x1 then (spec_l1Cur_edges.l1 k x1 x5 x6 x7 x8 0 x1000 x1001 x1002) else ((spec_l1Cur_pick.f x1000 x1001 x1002 40).bind fun bt283=>(if bt283.1=0 then ((spec_l1Cur_pick.f x1000 bt283.2.1 bt283.2.2 (wrap64 (x1 + 1))).bind fun bt286=>((spec_l1Cur_pick.f x1000 bt286.2.1 bt286.2.2 (wrap64 (x1 + 1))).bind fun bt289=>(if x5.length<8796093022208 then (some ((x5++[(⟨wrap64 (bt286.1 - 1),bt289.1⟩:S45)]),bt289.2.1,bt289.2.2)) else (none)))) else (if bt283.1=1 then (if (x5.length:Int)>0 then (if 0≤(wrap64 ((x5.length:Int) - 1)) then (if (wrap64 ((x5.length:Int) - 1))<(x5.length:Int) then (if x5.length<8796093022208 then (some ((x5++[(⟨(rd_T45 x5 (wrap64 ((x5.length:Int) - 1))).f0,(rd_T45 x5 (wrap64 ((x5.length:Int) - 1))).f1⟩:S45)]),bt283.2.1,bt283.2.2)) else (none)) else (none)) else (none)) else (some (x5,bt283.2.1,bt283.2.2))) else (if bt283.1=2 then (if x1>2 then (some ((([(⟨0,1⟩:S45),(⟨1,2⟩:S45),(⟨2,0⟩:S45)]:List (S45))),bt283.2.1,bt283.2.2)) else (some (x5,bt283.2.1,bt283.2.2))) else (some (x5,bt283.2.1,bt283.2.2))))))
def spec_l1Cur_edges.l1:Nat→Int→List (S45)→Bool→Int→Int→Int→List Int→Int→Int→Option ((List (S45)) × Int × Int)
 | 0,_,_,_,_,_,_,_,_,_=>none
 | k + 1,x1,x5,x6,x7,x8,x9,x1000,x1001,x1002=>if x9<x1 then (if x8<x9 then (if x6=true then (if x8>x9 then ((spec_l1Cur_one.f x1000 x1001 x1002 x7).bind fun bt265=>(if bt265.1=true then (if (x5.length:Int)<28 then (if x5.length<8796093022208 then (spec_l1Cur_edges.l1 k x1 (x5++[(⟨x8,x9⟩:S45)]) x6 x7 x8 (wrap64 (x9 + 1)) x1000 bt265.2.1 bt265.2.2) else (none)) else (spec_l1Cur_edges.l1 k x1 x5 x6 x7 x8 (wrap64 (x9 + 1)) x1000 bt265.2.1 bt265.2.2)) else (spec_l1Cur_edges.l1 k x1 x5 x6 x7 x8 (wrap64 (x9 + 1)) x1000 bt265.2.1 bt265.2.2))) else (spec_l1Cur_edges.l1 k x1 x5 x6 x7 x8 (wrap64 (x9 + 1)) x1000 x1001 x1002)) else ((spec_l1Cur_one.f x1000 x1001 x1002 x7).bind fun bt271=>(if bt271.1=true then (if (x5.length:Int)<28 then (if x5.length<8796093022208 then (spec_l1Cur_edges.l1 k x1 (x5++[(⟨x8,x9⟩:S45)]) x6 x7 x8 (wrap64 (x9 + 1)) x1000 bt271.2.1 bt271.2.2) else (none)) else (spec_l1Cur_edges.l1 k x1 x5 x6 x7 x8 (wrap64 (x9 + 1)) x1000 bt271.2.1 bt271.2.2)) else (spec_l1Cur_edges.l1 k x1 x5 x6 x7 x8 (wrap64 (x9 + 1)) x1000 bt271.2.1 bt271.2.2)))) else (if x8>x9 then (if x6=true then ((spec_l1Cur_one.f x1000 x1001 x1002 x7).bind fun bt277=>(if bt277.1=true then (if (x5.length:Int)<28 then (if x5.length<8796093022208 then (spec_l1Cur_edges.l1 k x1 (x5++[(⟨x8,x9⟩:S45)]) x6 x7 x8 (wrap64 (x9 + 1)) x1000 bt277.2.1 bt277.2.2) else (none)) else (spec_l1Cur_edges.l1 k x1 x5 x6 x7 x8 (wrap64 (x9 + 1)) x1000 bt277.2.1 bt277.2.2)) else (spec_l1Cur_edges.l1 k x1 x5 x6 x7 x8 (wrap64 (x9 + 1)) x1000 bt277.2.1 bt277.2.2))) else (spec_l1Cur_edges.l1 k x1 x5 x6 x7 x8 (wrap64 (x9 + 1)) x1000 x1001 x1002)) else (spec_l1Cur_edges.l1 k x1 x5 x6 x7 x8 (wrap64 (x9 + 1)) x1000 x1001 x1002))) else (spec_l1Cur_edges.l0 k x1 x5 x6 x7 (wrap64 (x8 + 1)) x1000 x1001 x1002)
end
def spec_l1Cur_edges.f (k:Nat) (s0_0:List Int) (s0_1:Int) (s0_2:Int) (a1:Int):Option ((List (S45)) × Int × Int):=(spec_l1Cur_one.f s0_0 s0_1 s0_2 3).bind fun bt256=>((spec_l1Cur_among.f s0_0 bt256.2.1 bt256.2.2 (([2,3,5]:List Int))).bind fun bt262=>(spec_l1Cur_edges.l0 k a1 (([]:List (S45))) bt256.1 bt262.1 0 s0_0 bt262.2.1 bt262.2.2))
theorem spec_l1Cur_edges.mono_l:∀ k,(∀ y0 y1 y2 y3 y4 y5 y6 y7,LeO (spec_l1Cur_edges.l0 k y0 y1 y2 y3 y4 y5 y6 y7) (spec_l1Cur_edges.l0 (k + 1) y0 y1 y2 y3 y4 y5 y6 y7))∧(∀ y0 y1 y2 y3 y4 y5 y6 y7 y8,LeO (spec_l1Cur_edges.l1 k y0 y1 y2 y3 y4 y5 y6 y7 y8) (spec_l1Cur_edges.l1 (k + 1) y0 y1 y2 y3 y4 y5 y6 y7 y8))
 | 0=>⟨fun _ _ _ _ _ _ _ _ r h=>by simp [spec_l1Cur_edges.l0] at h,fun _ _ _ _ _ _ _ _ _ r h=>by simp [spec_l1Cur_edges.l1] at h⟩
 | k + 1=>by
  obtain ⟨ih0,ih1⟩:=spec_l1Cur_edges.mono_l k
  refine ⟨?_,?_⟩
  ·intro y0 y1 y2 y3 y4 y5 y6 y7
   unfold spec_l1Cur_edges.l0
   repeat' first
   | (with_reducible exact ih0 _ _ _ _ _ _ _ _)
   | (with_reducible exact ih1 _ _ _ _ _ _ _ _ _)
   | (with_reducible exact LeO.refl _)
   | (with_reducible exact LeO.none _)
   | (with_reducible refine LeO.ite ?_ ?_)
   | (with_reducible refine LeO.bind ?_ (fun _=>?_))
   | exact ih0 _ _ _ _ _ _ _ _
   | exact ih1 _ _ _ _ _ _ _ _ _
   | exact LeO.none _
   | refine LeO.ite ?_ ?_
   | refine LeO.bind ?_ (fun _=>?_)
  ·intro y0 y1 y2 y3 y4 y5 y6 y7 y8
   unfold spec_l1Cur_edges.l1
   repeat' first
   | (with_reducible exact ih0 _ _ _ _ _ _ _ _)
   | (with_reducible exact ih1 _ _ _ _ _ _ _ _ _)
   | (with_reducible exact LeO.refl _)
   | (with_reducible exact LeO.none _)
   | (with_reducible refine LeO.ite ?_ ?_)
   | (with_reducible refine LeO.bind ?_ (fun _=>?_))
   | exact ih0 _ _ _ _ _ _ _ _
   | exact ih1 _ _ _ _ _ _ _ _ _
   | exact LeO.none _
   | refine LeO.ite ?_ ?_
   | refine LeO.bind ?_ (fun _=>?_)
theorem spec_l1Cur_edges.mono:∀ a0 a1 a2 a3 k,LeO (spec_l1Cur_edges.f k a0 a1 a2 a3) (spec_l1Cur_edges.f (k + 1) a0 a1 a2 a3):=by
 intro a0 a1 a2 a3 k
 obtain ⟨ih0,ih1⟩:=spec_l1Cur_edges.mono_l k
 unfold spec_l1Cur_edges.f
 repeat' first
   | (with_reducible exact ih0 _ _ _ _ _ _ _ _)
   | (with_reducible exact ih1 _ _ _ _ _ _ _ _ _)
   | (with_reducible exact LeO.refl _)
   | (with_reducible exact LeO.none _)
   | (with_reducible refine LeO.ite ?_ ?_)
   | (with_reducible refine LeO.bind ?_ (fun _=>?_))
   | exact ih0 _ _ _ _ _ _ _ _
   | exact ih1 _ _ _ _ _ _ _ _ _
   | exact LeO.none _
   | refine LeO.ite ?_ ?_
   | refine LeO.bind ?_ (fun _=>?_)
set_option maxHeartbeats 8000000 in
set_option maxRecDepth 100000 in
theorem spec_l1Cur_edges.calls (k:Nat) (g:Nat) (s0_0:List Int) (s0_1:Int) (s0_2:Int) (a1:Int) (r1:List (S45)) (r2:Int) (r3:Int) (w0 w:World) (hI:IsS94 w0 w g s0_0 s0_1 s0_2) (hB:Below w0.heap.size w0 w) (h:spec_l1Cur_edges.f k s0_0 s0_1 s0_2 a1=some (r1,r2,r3)) :
  Calls Try.prog 68 #[.pointer (some ⟨g,0,none⟩),.int .i64 a1] w fun e w'=>∃ v0_:Value,e=.returned (v0_)∧Kd.R k45 45 w' w.heap.size (fun _=>True) v0_ r1∧IsS94 w0 w' g s0_0 r2 r3∧Below w0.heap.size w0 w'∧KeepBut w w' g none:=by
 have hu45:=Try.underlying45
 have HI0:=Aside0.mk hI
 have HK:=Aside0.mk (KeepBut.refl w g none)
 have HL:=Aside0.mk hB.size
 clear hI
 have HW0:=Aside0.mk hB.size
 have HB:=Aside0.mk hB
 clear hB
 have H:((spec_l1Cur_one.f s0_0 s0_1 s0_2 3).bind fun bt256=>((spec_l1Cur_among.f s0_0 bt256.2.1 bt256.2.2 (([2,3,5]:List Int))).bind fun bt262=>(spec_l1Cur_edges.l0 k a1 (([]:List (S45))) bt256.1 bt262.1 0 s0_0 bt262.2.1 bt262.2.2)))=some (r1,r2,r3):=h
 clear h
 obtain ⟨y253,hy253⟩:∃ y_:List (S45),y_=(([]:List (S45))):=⟨_,rfl⟩
 replace H:((spec_l1Cur_one.f s0_0 s0_1 s0_2 3).bind fun bt256=>((spec_l1Cur_among.f s0_0 bt256.2.1 bt256.2.2 (([2,3,5]:List Int))).bind fun bt262=>(spec_l1Cur_edges.l0 k a1 y253 bt256.1 bt262.1 0 s0_0 bt262.2.1 bt262.2.2)))=some (r1,r2,r3):=by first|(rw [hy253];with_reducible exact H)|(have H2_:=(Option.bind_some _ _).symm.trans H;rw [hy253];with_reducible exact H2_)|(have H2_:=(Option.bind_some _ _).symm.trans H;with_reducible exact H2_)|with_reducible exact H|(rw [hy253];exact H)|exact H
 have Ny253:=Aside0.mk hy253
 clear hy253
 replace H:=Option.bind_eq_some_iff.mp H
 obtain ⟨⟨t256,t257,t258⟩,A30,H⟩:=H
 try dsimp only at H
 have A3:=Aside0.mk A30
 clear A30
 obtain ⟨y259,hy259⟩:∃ y_:List Int,y_=(([2,3,5]:List Int)):=⟨_,rfl⟩
 replace H:((spec_l1Cur_among.f s0_0 t257 t258 y259).bind fun bt262=>(spec_l1Cur_edges.l0 k a1 y253 t256 bt262.1 0 s0_0 bt262.2.1 bt262.2.2))=some (r1,r2,r3):=by first|(rw [hy259];with_reducible exact H)|(have H2_:=(Option.bind_some _ _).symm.trans H;rw [hy259];with_reducible exact H2_)|(have H2_:=(Option.bind_some _ _).symm.trans H;with_reducible exact H2_)|with_reducible exact H|(rw [hy259];exact H)|exact H
 have Ny259:=Aside0.mk hy259
 clear hy259
 replace H:=Option.bind_eq_some_iff.mp H
 obtain ⟨⟨t262,t263,t264⟩,A40,H⟩:=H
 try dsimp only at H
 have A4:=Aside0.mk A40
 clear A40
 have H':=Aside0.mk H
 clear H
 go_enter Try.func68,Try.ntmps68
 go_wp2_with (first|((with_reducible refine gate_dst (N:=10) rfl ?_);(try (refine gate_guard (by rfl) ?_;dsimp only));refine Kd.R_lit k45 _ 45 ?hg (N:=10) ?hd (xs:=([]:List (S45))) (inner:=[]) (ok:=fun _=>True) (okp:=fun _=>True) ?hr ?hp (fun _ hk=>hk) trivial (Below.refl _ _) (Nat.le_refl _) (by simp) ?_;(case hd=>rfl);(case hg=>rfl);(case hr=>first|(go_simp;done)|(go_simp;rfl));(case hp=>exact (Reps.none _ _));intro v254 w5 ho6 hb hg_ hnew_;clear hg_ hnew_;(first|rw [←Ny253.out] at ho6|(simp only [Int.reduceToNat] at ho6;rw [←Ny253.out] at ho6));have n0_:=Aside0.mk (Kd.R_lower ho6 (keep_size (w:=w) (g:=g) (row:=none) (by repeat (first|(with_reducible first|exact HK.out|apply KeepBut.set_|apply keep_drewN|apply keep_drew|apply keep_alloc)|exact HK.out))));have n1_:=Aside0.mk (IsS94.below (by repeat (first|(with_reducible first|exact HI0.out|apply IsS94.alloc|apply IsS94.drewN|apply IsS94.drew|apply IsS94.set_1|apply IsS94.set_2)|exact HI0.out)) hb);have n2_:=Aside0.mk (KeepBut.trans (by repeat (first|(with_reducible first|exact HK.out|apply KeepBut.set_|apply keep_drewN|apply keep_drew|apply keep_alloc)|exact HK.out)) (KeepBut.of_below hb g none) (.inl rfl));have n3_:=Aside0.mk (below_step (by repeat (first|(with_reducible first|exact HB.out|apply below_alloc|apply pw_below_drewN|apply below_drew1|refine below_set ?_ (IsS94.ge HI0.out))|exact HB.out)) hb);clear HI0;clear HK;clear HB;have HO255:=n0_;have HI0:=n1_;have HK:=n2_;have HB:=n3_;clear n0_ n1_ n2_ n3_;clear hb ho6)|((with_reducible refine gate_callee (f:=116) rfl ?_);refine goesL_ (some 12) rfl rfl Try.func116 (by kernel_rfl) rfl #[.pointer (some ⟨g,0,none⟩),.int .i64 3] rfl zl ?_;(with_reducible refine (spec_l1Cur_one.calls g s0_0 s0_1 s0_2 3 t256 t257 t258 w0 _ ?side1 ?side2 A3.out).mono ?_);(case side1=>repeat (first|(with_reducible first|exact HI0.out|apply IsS94.alloc|apply IsS94.drewN|apply IsS94.drew|apply IsS94.set_1|apply IsS94.set_2)|exact HI0.out));(case side2=>repeat (first|(with_reducible first|exact HB.out|apply below_alloc|apply pw_below_drewN|apply below_drew1|refine below_set ?_ (IsS94.ge HI0.out))|exact HB.out));rintro e w7 ⟨rfl,hi,hb,hk⟩;refine ⟨_,rfl,?_⟩;replace HO255:=Aside0.mk (Kd.R_mono (Kd.R_keep (IsS94.apart (show IsS94 w0 _ g s0_0 s0_1 s0_2 from by repeat (first|(with_reducible first|exact HI0.out|apply IsS94.alloc|apply IsS94.drewN|apply IsS94.drew|apply IsS94.set_1|apply IsS94.set_2)|exact HI0.out)) (zR HO255.out) (by decide)) hk (fun _ h=>h.2)) (fun _ h=>h.1));replace HK:=Aside0.mk (KeepBut.trans (by repeat (first|(with_reducible first|exact HK.out|apply KeepBut.set_|apply keep_drewN|apply keep_drew|apply keep_alloc)|exact HK.out)) hk (.inl rfl));replace HB:=Aside0.mk (hb);replace HI0:=Aside0.mk (hi);(try clear hb);(try clear hk);(try clear hi))|((with_reducible refine gate_dst (N:=14) rfl ?_);(try (refine gate_guard (by rfl) ?_;dsimp only));refine Kd.R_lit (Kd.int .i64) _ 3 ?hg (N:=14) ?hd (xs:=([2,3,5]:List Int)) (inner:=[.int .i64 2,.int .i64 3,.int .i64 5]) (ok:=fun _=>True) (okp:=fun _=>True) ?hr ?hp (fun _ hk=>hk) trivial (Below.refl _ _) (Nat.le_refl _) (by simp) ?_;(case hd=>rfl);(case hg=>rfl);(case hr=>first|(go_simp;done)|(go_simp;rfl));(case hp=>exact (Reps.one (show Kd.M (Kd.int .i64) _ _ _ 2 [.int .i64 2] from rfl) (Reps.one (show Kd.M (Kd.int .i64) _ _ _ 3 [.int .i64 3] from rfl) (Reps.one (show Kd.M (Kd.int .i64) _ _ _ 5 [.int .i64 5] from rfl) (Reps.none _ _)))));intro v260 w8 ho9 hb hg_ hnew_;clear hg_ hnew_;(first|rw [←Ny259.out] at ho9|(simp only [Int.reduceToNat] at ho9;rw [←Ny259.out] at ho9));have n0_:=Aside0.mk (Kd.R_below (zR HO255.out) hb);have n1_:=Aside0.mk (Kd.R_lower ho9 (keep_size (w:=w) (g:=g) (row:=none) (by repeat (first|(with_reducible first|exact HK.out|apply KeepBut.set_|apply keep_drewN|apply keep_drew|apply keep_alloc)|exact HK.out))));have n2_:=Aside0.mk (IsS94.below (by repeat (first|(with_reducible first|exact HI0.out|apply IsS94.alloc|apply IsS94.drewN|apply IsS94.drew|apply IsS94.set_1|apply IsS94.set_2)|exact HI0.out)) hb);have n3_:=Aside0.mk (KeepBut.trans (by repeat (first|(with_reducible first|exact HK.out|apply KeepBut.set_|apply keep_drewN|apply keep_drew|apply keep_alloc)|exact HK.out)) (KeepBut.of_below hb g none) (.inl rfl));have n4_:=Aside0.mk (below_step (by repeat (first|(with_reducible first|exact HB.out|apply below_alloc|apply pw_below_drewN|apply below_drew1|refine below_set ?_ (IsS94.ge HI0.out))|exact HB.out)) hb);clear HO255;clear HI0;clear HK;clear HB;have HO255:=n0_;have HO261:=n1_;have HI0:=n2_;have HK:=n3_;have HB:=n4_;clear n0_ n1_ n2_ n3_ n4_;clear hb ho9;obtain ⟨Ao10,co10,eo10⟩:=Kd.R_slice HO261.out;subst eo10)|((with_reducible refine gate_callee (f:=117) rfl ?_);refine goesL_ (some 15) rfl rfl Try.func117 (by kernel_rfl) rfl #[.pointer (some ⟨g,0,none⟩),.slice Ao10 y259.length co10] rfl zl ?_;(with_reducible refine (spec_l1Cur_among.calls g s0_0 t257 t258 _ _ y259 t262 t263 t264 w0 _ ?side1 ?side2 ?side3 ?side4 ?side5 A4.out).mono ?_);(case side1=>repeat (first|(with_reducible first|exact HI0.out|apply IsS94.alloc|apply IsS94.drewN|apply IsS94.drew|apply IsS94.set_1|apply IsS94.set_2)|exact HI0.out));(case side2=>repeat (first|(with_reducible first|exact HB.out|apply below_alloc|apply pw_below_drewN|apply below_drew1|refine below_set ?_ (IsS94.ge HI0.out))|exact HB.out));(case side3=>exact zC ((Kd.R_reads' HO261.out).2.2));(case side4=>exact (Kd.R_reads' HO261.out).2.1);(case side5=>exact far_slice (IsS94.own_ne HI0.out HO261.out (by decide)));rintro e w11 ⟨rfl,hi,hb,hk⟩;refine ⟨_,rfl,?_⟩;replace HO255:=Aside0.mk (Kd.R_mono (Kd.R_keep (IsS94.apart (show IsS94 w0 _ g s0_0 t257 t258 from by repeat (first|(with_reducible first|exact HI0.out|apply IsS94.alloc|apply IsS94.drewN|apply IsS94.drew|apply IsS94.set_1|apply IsS94.set_2)|exact HI0.out)) (zR HO255.out) (by decide)) hk (fun _ h=>h.2)) (fun _ h=>h.1));replace HO261:=Aside0.mk (Kd.R_mono (Kd.R_keep (IsS94.apart (show IsS94 w0 _ g s0_0 t257 t258 from by repeat (first|(with_reducible first|exact HI0.out|apply IsS94.alloc|apply IsS94.drewN|apply IsS94.drew|apply IsS94.set_1|apply IsS94.set_2)|exact HI0.out)) (zR HO261.out) (by decide)) hk (fun _ h=>h.2)) (fun _ h=>h.1));replace HK:=Aside0.mk (KeepBut.trans (by repeat (first|(with_reducible first|exact HK.out|apply KeepBut.set_|apply keep_drewN|apply keep_drew|apply keep_alloc)|exact HK.out)) hk (.inl rfl));replace HB:=Aside0.mk (hb);replace HI0:=Aside0.mk (hi);(try clear hb);(try clear hk);(try clear hi)))
 try simp only [Act.put,List.setIfInBounds_toArray,List.set_cons_succ,List.set_cons_zero]
 go_loopg [5,8] k (fun kq v5 v8 w'=>∃ (x5_1:List (S45)) (x8_1:Int) (x1001_1:Int) (x1002_1:Int),v8=.int .i64 x8_1∧Aside0 (spec_l1Cur_edges.l0 kq a1 x5_1 t256 t262 x8_1 s0_0 x1001_1 x1002_1=some (r1,r2,r3))∧Aside0 (kq≤k)∧Aside0 (Kd.R k45 45 w' w.heap.size (fun _=>True) v5 x5_1)∧Aside0 (IsS94 w0 w' g s0_0 x1001_1 x1002_1)∧Aside0 (KeepBut w w' g none)∧Aside0 (Below w0.heap.size w0 w'))
 case atStart=>exact ⟨(y253),(0),(t263),(t264),zo,H',⟨Nat.le_refl _⟩,⟨zR HO255.out⟩,⟨by repeat (first|(with_reducible first|exact HI0.out|apply IsS94.alloc|apply IsS94.drewN|apply IsS94.drew|apply IsS94.set_1|apply IsS94.set_2)|exact HI0.out)⟩,⟨by repeat (first|(with_reducible first|exact HK.out|apply KeepBut.set_|apply keep_drewN|apply keep_drew|apply keep_alloc)|exact HK.out)⟩,⟨by repeat (first|(with_reducible first|exact HB.out|apply below_alloc|apply pw_below_drewN|apply below_drew1|refine below_set ?_ (IsS94.ge HI0.out))|exact HB.out)⟩⟩
 case round=>
  clear H'
  (try clear c1);(try clear p2);(try clear c6);(try clear c11)
  obtain ⟨x5_1,x8_1,x1001_1,x1002_1,rfl,HA,HK1,HO_5,HI0,HK,HB⟩:=hrel
  cases gk with
  | zero=>exact absurd HA.out (by simp [spec_l1Cur_edges.l0])
  | succ k1=>
   have H:=HA.out
   clear HA
   simp only [spec_l1Cur_edges.l0] at H
   by_cases c12:x8_1<a1
   ·rw [if_pos c12] at H
    have c12b0:decide (x8_1<a1)=true:=decide_eq_true c12
    clear c12
    have H':=Aside0.mk H
    clear H
    go_wp2
    try simp only [Act.put,List.setIfInBounds_toArray,List.set_cons_succ,List.set_cons_zero]
    go_loopg [5,9] k1 (fun kq v5 v9 w'=>∃ (x5_2:List (S45)) (x9_2:Int) (x1001_2:Int) (x1002_2:Int),v9=.int .i64 x9_2∧Aside0 (spec_l1Cur_edges.l1 kq a1 x5_2 t256 t262 x8_1 x9_2 s0_0 x1001_2 x1002_2=some (r1,r2,r3))∧Aside0 (kq≤k1)∧Aside0 (Kd.R k45 45 w' w.heap.size (fun _=>True) v5 x5_2)∧Aside0 (IsS94 w0 w' g s0_0 x1001_2 x1002_2)∧Aside0 (KeepBut w w' g none)∧Aside0 (Below w0.heap.size w0 w'))
    case atStart=>exact ⟨(x5_1),(0),(x1001_1),(x1002_1),zo,H',⟨Nat.le_refl _⟩,⟨zR HO_5.out⟩,⟨by repeat (first|(with_reducible first|exact HI0.out|apply IsS94.alloc|apply IsS94.drewN|apply IsS94.drew|apply IsS94.set_1|apply IsS94.set_2)|exact HI0.out)⟩,⟨by repeat (first|(with_reducible first|exact HK.out|apply KeepBut.set_|apply keep_drewN|apply keep_drew|apply keep_alloc)|exact HK.out)⟩,⟨by repeat (first|(with_reducible first|exact HB.out|apply below_alloc|apply pw_below_drewN|apply below_drew1|refine below_set ?_ (IsS94.ge HI0.out))|exact HB.out)⟩⟩
    case round=>
     clear H'
     (try clear c1);(try clear p2);(try clear c6);(try clear c11);(try clear c12);(try clear c12b0)
     obtain ⟨x5_2,x9_2,x1001_2,x1002_2,rfl,HA,HK2,HO_5,HI0,HK,HB⟩:=hrel
     cases gk with
     | zero=>exact absurd HA.out (by simp [spec_l1Cur_edges.l1])
     | succ k2=>
      have H:=HA.out
      clear HA
      simp only [spec_l1Cur_edges.l1] at H
      by_cases c13:x9_2<a1
      ·rw [if_pos c13] at H
       have c13b0:decide (x9_2<a1)=true:=decide_eq_true c13
       clear c13
       by_cases c14:x8_1<x9_2
       ·rw [if_pos c14] at H
        have c14b0:decide (x8_1<x9_2)=true:=decide_eq_true c14
        clear c14
        by_cases c15:t256=true
        ·subst c15
         rw [if_pos rfl] at H
         by_cases c16:x8_1>x9_2
         ·rw [if_pos c16] at H
          have c16b0:decide (x9_2<x8_1)=true:=decide_eq_true c16
          clear c16
          replace H:=Option.bind_eq_some_iff.mp H
          obtain ⟨⟨t265,t266,t267⟩,A170,H⟩:=H
          try dsimp only at H
          have A17:=Aside0.mk A170
          clear A170
          by_cases c18:t265=true
          ·subst c18
           rw [if_pos rfl] at H
           by_cases c19:(x5_2.length:Int)<28
           ·rw [if_pos c19] at H
            have c19b0:decide ((x5_2.length:Int)<28)=true:=decide_eq_true c19
            have c19b1:decide (x5_2.length<28)=true:=decide_eq_true (by omega)
            clear c19
            by_cases c20:x5_2.length<8796093022208
            ·rw [if_pos c20] at H
             have LMc20:=Aside0.mk c20
             clear c20
             obtain ⟨y268,hy268⟩:∃ y_:List (S45),y_=(x5_2++[(⟨x8_1,x9_2⟩:S45)]):=⟨_,rfl⟩
             replace H:(spec_l1Cur_edges.l1 k2 a1 y268 true t262 x8_1 (wrap64 (x9_2 + 1)) s0_0 t266 t267)=some (r1,r2,r3):=by first|(rw [hy268];with_reducible exact H)|(have H2_:=(Option.bind_some _ _).symm.trans H;rw [hy268];with_reducible exact H2_)|(have H2_:=(Option.bind_some _ _).symm.trans H;with_reducible exact H2_)|with_reducible exact H|(rw [hy268];exact H)|exact H
             have Ny268:=Aside0.mk hy268
             clear hy268
             have H':=Aside0.mk H
             clear H
             go_wp2_with (first|(go_at_call 116;(with_reducible refine (spec_l1Cur_one.calls g s0_0 x1001_2 x1002_2 t262 true t266 t267 w0 _ ?side1 ?side2 A17.out).mono ?_);(case side1=>repeat (first|(with_reducible first|exact HI0.out|apply IsS94.alloc|apply IsS94.drewN|apply IsS94.drew|apply IsS94.set_1|apply IsS94.set_2)|exact HI0.out));(case side2=>repeat (first|(with_reducible first|exact HB.out|apply below_alloc|apply pw_below_drewN|apply below_drew1|refine below_set ?_ (IsS94.ge HI0.out))|exact HB.out));rintro e w21 ⟨rfl,hi,hb,hk⟩;replace HO_5:=Aside0.mk (Kd.R_mono (Kd.R_keep (IsS94.apart (show IsS94 w0 _ g s0_0 x1001_2 x1002_2 from by repeat (first|(with_reducible first|exact HI0.out|apply IsS94.alloc|apply IsS94.drewN|apply IsS94.drew|apply IsS94.set_1|apply IsS94.set_2)|exact HI0.out)) (zR HO_5.out) (by decide)) hk (fun _ h=>h.2)) (fun _ h=>h.1));replace HK:=Aside0.mk (KeepBut.trans (by repeat (first|(with_reducible first|exact HK.out|apply KeepBut.set_|apply keep_drewN|apply keep_drew|apply keep_alloc)|exact HK.out)) hk (.inl rfl));replace HB:=Aside0.mk (hb);replace HI0:=Aside0.mk (hi);(try clear hb);(try clear hk);(try clear hi);obtain ⟨Ao22,co22,eo22⟩:=Kd.R_slice HO_5.out;subst eo22)|((with_reducible refine gate_builtin (b:=.append) (xs:=#[.tmp 51,.tmp 55]) rfl ?_);(try (refine gate_guard (by rfl) ?_;dsimp only));at_builtin;refine Kd.R_append k45 w.heap.size rfl (.tmp 51) (.tmp 55) 36 45 (.agg #[(.int .i64 0),(.int .i64 0)]) 16 rfl Try.underlying36 info45 rfl (by decide) (by omega) (.slice Ao22 x5_2.length co22) x5_2 (⟨x8_1,x9_2⟩:S45) [.int .i64 x8_1,.int .i64 x9_2] (fun _=>True) (fun _=>False) rfl rfl ?aP (fun _ hk=>hk.elim) ?aF ?aO (Below.refl _ _) ?aS ?aL ?_;(case aP=>exact k45_mkM _ _ _ (⟨x8_1,x9_2⟩:S45));(case aF=>exact (fun _ _=>trivial));(case aO=>exact (zR HO_5.out));(case aS=>exact (keep_size (w:=w) (g:=g) (row:=none) (by repeat (first|(with_reducible first|exact HK.out|apply KeepBut.set_|apply keep_drewN|apply keep_drew|apply keep_alloc)|exact HK.out))));(case aL=>have:=LMc20.out;omega);intro v269 w23 ho hb hg hat;rw [←Ny268.out] at ho;have n0_:=Aside0.mk (IsS94.grown (by repeat (first|(with_reducible first|exact HI0.out|apply IsS94.alloc|apply IsS94.drewN|apply IsS94.drew|apply IsS94.set_1|apply IsS94.set_2)|exact HI0.out)) hg (IsS94.own_ne HI0.out HO_5.out (by decide)));have n1_:=Aside0.mk (below_weaken (by repeat (first|(with_reducible first|exact HB.out|apply below_alloc|apply pw_below_drewN|apply below_drew1|refine below_set ?_ (IsS94.ge HI0.out))|exact HB.out)) HL.out hb);have n2_:=Aside0.mk (KeepBut.trans (by repeat (first|(with_reducible first|exact HK.out|apply KeepBut.set_|apply keep_drewN|apply keep_drew|apply keep_alloc)|exact HK.out)) (KeepBut.of_grown hg g) (Kd.R_base2 HO_5.out));have n3_:=Aside0.mk (ho);clear HI0;clear HB;clear HK;clear HO_5;have HI0:=n0_;have HB:=n1_;have HK:=n2_;have HO270:=n3_;clear n0_ n1_ n2_ n3_;clear ho hb hg hat))
             go_roundg k2
             case measure=>have:=HK1.out;have:=HK2.out;omega
             case rel=>exact ⟨(y268),(wrap64 (x9_2 + 1)),(t266),(t267),zo,H',⟨by have:=HK1.out;have:=HK2.out;omega⟩,⟨zR HO270.out⟩,⟨by repeat (first|(with_reducible first|exact HI0.out|apply IsS94.alloc|apply IsS94.drewN|apply IsS94.drew|apply IsS94.set_1|apply IsS94.set_2)|exact HI0.out)⟩,⟨by repeat (first|(with_reducible first|exact HK.out|apply KeepBut.set_|apply keep_drewN|apply keep_drew|apply keep_alloc)|exact HK.out)⟩,⟨by repeat (first|(with_reducible first|exact HB.out|apply below_alloc|apply pw_below_drewN|apply below_drew1|refine below_set ?_ (IsS94.ge HI0.out))|exact HB.out)⟩⟩
            ·rw [if_neg c20] at H
             exact absurd H (by simp)
           ·rw [if_neg c19] at H
            have c19b0:decide ((x5_2.length:Int)<28)=false:=decide_eq_false c19
            have c19b1:decide (x5_2.length<28)=false:=decide_eq_false (by omega)
            clear c19
            have H':=Aside0.mk H
            clear H
            go_wp2_with (first|(go_at_call 116;(with_reducible refine (spec_l1Cur_one.calls g s0_0 x1001_2 x1002_2 t262 true t266 t267 w0 _ ?side1 ?side2 A17.out).mono ?_);(case side1=>repeat (first|(with_reducible first|exact HI0.out|apply IsS94.alloc|apply IsS94.drewN|apply IsS94.drew|apply IsS94.set_1|apply IsS94.set_2)|exact HI0.out));(case side2=>repeat (first|(with_reducible first|exact HB.out|apply below_alloc|apply pw_below_drewN|apply below_drew1|refine below_set ?_ (IsS94.ge HI0.out))|exact HB.out));rintro e w24 ⟨rfl,hi,hb,hk⟩;replace HO_5:=Aside0.mk (Kd.R_mono (Kd.R_keep (IsS94.apart (show IsS94 w0 _ g s0_0 x1001_2 x1002_2 from by repeat (first|(with_reducible first|exact HI0.out|apply IsS94.alloc|apply IsS94.drewN|apply IsS94.drew|apply IsS94.set_1|apply IsS94.set_2)|exact HI0.out)) (zR HO_5.out) (by decide)) hk (fun _ h=>h.2)) (fun _ h=>h.1));replace HK:=Aside0.mk (KeepBut.trans (by repeat (first|(with_reducible first|exact HK.out|apply KeepBut.set_|apply keep_drewN|apply keep_drew|apply keep_alloc)|exact HK.out)) hk (.inl rfl));replace HB:=Aside0.mk (hb);replace HI0:=Aside0.mk (hi);(try clear hb);(try clear hk);(try clear hi);obtain ⟨Ao25,co25,eo25⟩:=Kd.R_slice HO_5.out;subst eo25))
            go_roundg k2
            case measure=>have:=HK1.out;have:=HK2.out;omega
            case rel=>exact ⟨(x5_2),(wrap64 (x9_2 + 1)),(t266),(t267),zo,H',⟨by have:=HK1.out;have:=HK2.out;omega⟩,⟨zR HO_5.out⟩,⟨by repeat (first|(with_reducible first|exact HI0.out|apply IsS94.alloc|apply IsS94.drewN|apply IsS94.drew|apply IsS94.set_1|apply IsS94.set_2)|exact HI0.out)⟩,⟨by repeat (first|(with_reducible first|exact HK.out|apply KeepBut.set_|apply keep_drewN|apply keep_drew|apply keep_alloc)|exact HK.out)⟩,⟨by repeat (first|(with_reducible first|exact HB.out|apply below_alloc|apply pw_below_drewN|apply below_drew1|refine below_set ?_ (IsS94.ge HI0.out))|exact HB.out)⟩⟩
          ·replace c18:=Bool.eq_false_iff.mpr c18
           subst c18
           rw [if_neg (show ¬ (false=true) by decide)] at H
           have H':=Aside0.mk H
           clear H
           go_wp2_with (first|(go_at_call 116;(with_reducible refine (spec_l1Cur_one.calls g s0_0 x1001_2 x1002_2 t262 false t266 t267 w0 _ ?side1 ?side2 A17.out).mono ?_);(case side1=>repeat (first|(with_reducible first|exact HI0.out|apply IsS94.alloc|apply IsS94.drewN|apply IsS94.drew|apply IsS94.set_1|apply IsS94.set_2)|exact HI0.out));(case side2=>repeat (first|(with_reducible first|exact HB.out|apply below_alloc|apply pw_below_drewN|apply below_drew1|refine below_set ?_ (IsS94.ge HI0.out))|exact HB.out));rintro e w26 ⟨rfl,hi,hb,hk⟩;replace HO_5:=Aside0.mk (Kd.R_mono (Kd.R_keep (IsS94.apart (show IsS94 w0 _ g s0_0 x1001_2 x1002_2 from by repeat (first|(with_reducible first|exact HI0.out|apply IsS94.alloc|apply IsS94.drewN|apply IsS94.drew|apply IsS94.set_1|apply IsS94.set_2)|exact HI0.out)) (zR HO_5.out) (by decide)) hk (fun _ h=>h.2)) (fun _ h=>h.1));replace HK:=Aside0.mk (KeepBut.trans (by repeat (first|(with_reducible first|exact HK.out|apply KeepBut.set_|apply keep_drewN|apply keep_drew|apply keep_alloc)|exact HK.out)) hk (.inl rfl));replace HB:=Aside0.mk (hb);replace HI0:=Aside0.mk (hi);(try clear hb);(try clear hk);(try clear hi)))
           go_roundg k2
           case measure=>have:=HK1.out;have:=HK2.out;omega
           case rel=>exact ⟨(x5_2),(wrap64 (x9_2 + 1)),(t266),(t267),zo,H',⟨by have:=HK1.out;have:=HK2.out;omega⟩,⟨zR HO_5.out⟩,⟨by repeat (first|(with_reducible first|exact HI0.out|apply IsS94.alloc|apply IsS94.drewN|apply IsS94.drew|apply IsS94.set_1|apply IsS94.set_2)|exact HI0.out)⟩,⟨by repeat (first|(with_reducible first|exact HK.out|apply KeepBut.set_|apply keep_drewN|apply keep_drew|apply keep_alloc)|exact HK.out)⟩,⟨by repeat (first|(with_reducible first|exact HB.out|apply below_alloc|apply pw_below_drewN|apply below_drew1|refine below_set ?_ (IsS94.ge HI0.out))|exact HB.out)⟩⟩
         ·rw [if_neg c16] at H
          have c16b0:decide (x9_2<x8_1)=false:=decide_eq_false c16
          clear c16
          have H':=Aside0.mk H
          clear H
          go_wp2
          go_roundg k2
          case measure=>have:=HK1.out;have:=HK2.out;omega
          case rel=>exact ⟨(x5_2),(wrap64 (x9_2 + 1)),(x1001_2),(x1002_2),zo,H',⟨by have:=HK1.out;have:=HK2.out;omega⟩,⟨zR HO_5.out⟩,⟨by repeat (first|(with_reducible first|exact HI0.out|apply IsS94.alloc|apply IsS94.drewN|apply IsS94.drew|apply IsS94.set_1|apply IsS94.set_2)|exact HI0.out)⟩,⟨by repeat (first|(with_reducible first|exact HK.out|apply KeepBut.set_|apply keep_drewN|apply keep_drew|apply keep_alloc)|exact HK.out)⟩,⟨by repeat (first|(with_reducible first|exact HB.out|apply below_alloc|apply pw_below_drewN|apply below_drew1|refine below_set ?_ (IsS94.ge HI0.out))|exact HB.out)⟩⟩
        ·replace c15:=Bool.eq_false_iff.mpr c15
         subst c15
         rw [if_neg (show ¬ (false=true) by decide)] at H
         replace H:=Option.bind_eq_some_iff.mp H
         obtain ⟨⟨t271,t272,t273⟩,A270,H⟩:=H
         try dsimp only at H
         have A27:=Aside0.mk A270
         clear A270
         by_cases c28:t271=true
         ·subst c28
          rw [if_pos rfl] at H
          by_cases c29:(x5_2.length:Int)<28
          ·rw [if_pos c29] at H
           have c29b0:decide ((x5_2.length:Int)<28)=true:=decide_eq_true c29
           have c29b1:decide (x5_2.length<28)=true:=decide_eq_true (by omega)
           clear c29
           by_cases c30:x5_2.length<8796093022208
           ·rw [if_pos c30] at H
            have LMc30:=Aside0.mk c30
            clear c30
            obtain ⟨y274,hy274⟩:∃ y_:List (S45),y_=(x5_2++[(⟨x8_1,x9_2⟩:S45)]):=⟨_,rfl⟩
            replace H:(spec_l1Cur_edges.l1 k2 a1 y274 false t262 x8_1 (wrap64 (x9_2 + 1)) s0_0 t272 t273)=some (r1,r2,r3):=by first|(rw [hy274];with_reducible exact H)|(have H2_:=(Option.bind_some _ _).symm.trans H;rw [hy274];with_reducible exact H2_)|(have H2_:=(Option.bind_some _ _).symm.trans H;with_reducible exact H2_)|with_reducible exact H|(rw [hy274];exact H)|exact H
            have Ny274:=Aside0.mk hy274
            clear hy274
            have H':=Aside0.mk H
            clear H
            go_wp2_with (first|(go_at_call 116;(with_reducible refine (spec_l1Cur_one.calls g s0_0 x1001_2 x1002_2 t262 true t272 t273 w0 _ ?side1 ?side2 A27.out).mono ?_);(case side1=>repeat (first|(with_reducible first|exact HI0.out|apply IsS94.alloc|apply IsS94.drewN|apply IsS94.drew|apply IsS94.set_1|apply IsS94.set_2)|exact HI0.out));(case side2=>repeat (first|(with_reducible first|exact HB.out|apply below_alloc|apply pw_below_drewN|apply below_drew1|refine below_set ?_ (IsS94.ge HI0.out))|exact HB.out));rintro e w31 ⟨rfl,hi,hb,hk⟩;replace HO_5:=Aside0.mk (Kd.R_mono (Kd.R_keep (IsS94.apart (show IsS94 w0 _ g s0_0 x1001_2 x1002_2 from by repeat (first|(with_reducible first|exact HI0.out|apply IsS94.alloc|apply IsS94.drewN|apply IsS94.drew|apply IsS94.set_1|apply IsS94.set_2)|exact HI0.out)) (zR HO_5.out) (by decide)) hk (fun _ h=>h.2)) (fun _ h=>h.1));replace HK:=Aside0.mk (KeepBut.trans (by repeat (first|(with_reducible first|exact HK.out|apply KeepBut.set_|apply keep_drewN|apply keep_drew|apply keep_alloc)|exact HK.out)) hk (.inl rfl));replace HB:=Aside0.mk (hb);replace HI0:=Aside0.mk (hi);(try clear hb);(try clear hk);(try clear hi);obtain ⟨Ao32,co32,eo32⟩:=Kd.R_slice HO_5.out;subst eo32)|((with_reducible refine gate_builtin (b:=.append) (xs:=#[.tmp 51,.tmp 55]) rfl ?_);(try (refine gate_guard (by rfl) ?_;dsimp only));at_builtin;refine Kd.R_append k45 w.heap.size rfl (.tmp 51) (.tmp 55) 36 45 (.agg #[(.int .i64 0),(.int .i64 0)]) 16 rfl Try.underlying36 info45 rfl (by decide) (by omega) (.slice Ao32 x5_2.length co32) x5_2 (⟨x8_1,x9_2⟩:S45) [.int .i64 x8_1,.int .i64 x9_2] (fun _=>True) (fun _=>False) rfl rfl ?aP (fun _ hk=>hk.elim) ?aF ?aO (Below.refl _ _) ?aS ?aL ?_;(case aP=>exact k45_mkM _ _ _ (⟨x8_1,x9_2⟩:S45));(case aF=>exact (fun _ _=>trivial));(case aO=>exact (zR HO_5.out));(case aS=>exact (keep_size (w:=w) (g:=g) (row:=none) (by repeat (first|(with_reducible first|exact HK.out|apply KeepBut.set_|apply keep_drewN|apply keep_drew|apply keep_alloc)|exact HK.out))));(case aL=>have:=LMc30.out;omega);intro v275 w33 ho hb hg hat;rw [←Ny274.out] at ho;have n0_:=Aside0.mk (IsS94.grown (by repeat (first|(with_reducible first|exact HI0.out|apply IsS94.alloc|apply IsS94.drewN|apply IsS94.drew|apply IsS94.set_1|apply IsS94.set_2)|exact HI0.out)) hg (IsS94.own_ne HI0.out HO_5.out (by decide)));have n1_:=Aside0.mk (below_weaken (by repeat (first|(with_reducible first|exact HB.out|apply below_alloc|apply pw_below_drewN|apply below_drew1|refine below_set ?_ (IsS94.ge HI0.out))|exact HB.out)) HL.out hb);have n2_:=Aside0.mk (KeepBut.trans (by repeat (first|(with_reducible first|exact HK.out|apply KeepBut.set_|apply keep_drewN|apply keep_drew|apply keep_alloc)|exact HK.out)) (KeepBut.of_grown hg g) (Kd.R_base2 HO_5.out));have n3_:=Aside0.mk (ho);clear HI0;clear HB;clear HK;clear HO_5;have HI0:=n0_;have HB:=n1_;have HK:=n2_;have HO276:=n3_;clear n0_ n1_ n2_ n3_;clear ho hb hg hat))
            go_roundg k2
            case measure=>have:=HK1.out;have:=HK2.out;omega
            case rel=>exact ⟨(y274),(wrap64 (x9_2 + 1)),(t272),(t273),zo,H',⟨by have:=HK1.out;have:=HK2.out;omega⟩,⟨zR HO276.out⟩,⟨by repeat (first|(with_reducible first|exact HI0.out|apply IsS94.alloc|apply IsS94.drewN|apply IsS94.drew|apply IsS94.set_1|apply IsS94.set_2)|exact HI0.out)⟩,⟨by repeat (first|(with_reducible first|exact HK.out|apply KeepBut.set_|apply keep_drewN|apply keep_drew|apply keep_alloc)|exact HK.out)⟩,⟨by repeat (first|(with_reducible first|exact HB.out|apply below_alloc|apply pw_below_drewN|apply below_drew1|refine below_set ?_ (IsS94.ge HI0.out))|exact HB.out)⟩⟩
           ·rw [if_neg c30] at H
            exact absurd H (by simp)
          ·rw [if_neg c29] at H
           have c29b0:decide ((x5_2.length:Int)<28)=false:=decide_eq_false c29
           have c29b1:decide (x5_2.length<28)=false:=decide_eq_false (by omega)
           clear c29
           have H':=Aside0.mk H
           clear H
           go_wp2_with (first|(go_at_call 116;(with_reducible refine (spec_l1Cur_one.calls g s0_0 x1001_2 x1002_2 t262 true t272 t273 w0 _ ?side1 ?side2 A27.out).mono ?_);(case side1=>repeat (first|(with_reducible first|exact HI0.out|apply IsS94.alloc|apply IsS94.drewN|apply IsS94.drew|apply IsS94.set_1|apply IsS94.set_2)|exact HI0.out));(case side2=>repeat (first|(with_reducible first|exact HB.out|apply below_alloc|apply pw_below_drewN|apply below_drew1|refine below_set ?_ (IsS94.ge HI0.out))|exact HB.out));rintro e w34 ⟨rfl,hi,hb,hk⟩;replace HO_5:=Aside0.mk (Kd.R_mono (Kd.R_keep (IsS94.apart (show IsS94 w0 _ g s0_0 x1001_2 x1002_2 from by repeat (first|(with_reducible first|exact HI0.out|apply IsS94.alloc|apply IsS94.drewN|apply IsS94.drew|apply IsS94.set_1|apply IsS94.set_2)|exact HI0.out)) (zR HO_5.out) (by decide)) hk (fun _ h=>h.2)) (fun _ h=>h.1));replace HK:=Aside0.mk (KeepBut.trans (by repeat (first|(with_reducible first|exact HK.out|apply KeepBut.set_|apply keep_drewN|apply keep_drew|apply keep_alloc)|exact HK.out)) hk (.inl rfl));replace HB:=Aside0.mk (hb);replace HI0:=Aside0.mk (hi);(try clear hb);(try clear hk);(try clear hi);obtain ⟨Ao35,co35,eo35⟩:=Kd.R_slice HO_5.out;subst eo35))
           go_roundg k2
           case measure=>have:=HK1.out;have:=HK2.out;omega
           case rel=>exact ⟨(x5_2),(wrap64 (x9_2 + 1)),(t272),(t273),zo,H',⟨by have:=HK1.out;have:=HK2.out;omega⟩,⟨zR HO_5.out⟩,⟨by repeat (first|(with_reducible first|exact HI0.out|apply IsS94.alloc|apply IsS94.drewN|apply IsS94.drew|apply IsS94.set_1|apply IsS94.set_2)|exact HI0.out)⟩,⟨by repeat (first|(with_reducible first|exact HK.out|apply KeepBut.set_|apply keep_drewN|apply keep_drew|apply keep_alloc)|exact HK.out)⟩,⟨by repeat (first|(with_reducible first|exact HB.out|apply below_alloc|apply pw_below_drewN|apply below_drew1|refine below_set ?_ (IsS94.ge HI0.out))|exact HB.out)⟩⟩
         ·replace c28:=Bool.eq_false_iff.mpr c28
          subst c28
          rw [if_neg (show ¬ (false=true) by decide)] at H
          have H':=Aside0.mk H
          clear H
          go_wp2_with (first|(go_at_call 116;(with_reducible refine (spec_l1Cur_one.calls g s0_0 x1001_2 x1002_2 t262 false t272 t273 w0 _ ?side1 ?side2 A27.out).mono ?_);(case side1=>repeat (first|(with_reducible first|exact HI0.out|apply IsS94.alloc|apply IsS94.drewN|apply IsS94.drew|apply IsS94.set_1|apply IsS94.set_2)|exact HI0.out));(case side2=>repeat (first|(with_reducible first|exact HB.out|apply below_alloc|apply pw_below_drewN|apply below_drew1|refine below_set ?_ (IsS94.ge HI0.out))|exact HB.out));rintro e w36 ⟨rfl,hi,hb,hk⟩;replace HO_5:=Aside0.mk (Kd.R_mono (Kd.R_keep (IsS94.apart (show IsS94 w0 _ g s0_0 x1001_2 x1002_2 from by repeat (first|(with_reducible first|exact HI0.out|apply IsS94.alloc|apply IsS94.drewN|apply IsS94.drew|apply IsS94.set_1|apply IsS94.set_2)|exact HI0.out)) (zR HO_5.out) (by decide)) hk (fun _ h=>h.2)) (fun _ h=>h.1));replace HK:=Aside0.mk (KeepBut.trans (by repeat (first|(with_reducible first|exact HK.out|apply KeepBut.set_|apply keep_drewN|apply keep_drew|apply keep_alloc)|exact HK.out)) hk (.inl rfl));replace HB:=Aside0.mk (hb);replace HI0:=Aside0.mk (hi);(try clear hb);(try clear hk);(try clear hi)))
          go_roundg k2
          case measure=>have:=HK1.out;have:=HK2.out;omega
          case rel=>exact ⟨(x5_2),(wrap64 (x9_2 + 1)),(t272),(t273),zo,H',⟨by have:=HK1.out;have:=HK2.out;omega⟩,⟨zR HO_5.out⟩,⟨by repeat (first|(with_reducible first|exact HI0.out|apply IsS94.alloc|apply IsS94.drewN|apply IsS94.drew|apply IsS94.set_1|apply IsS94.set_2)|exact HI0.out)⟩,⟨by repeat (first|(with_reducible first|exact HK.out|apply KeepBut.set_|apply keep_drewN|apply keep_drew|apply keep_alloc)|exact HK.out)⟩,⟨by repeat (first|(with_reducible first|exact HB.out|apply below_alloc|apply pw_below_drewN|apply below_drew1|refine below_set ?_ (IsS94.ge HI0.out))|exact HB.out)⟩⟩
       ·rw [if_neg c14] at H
        have c14b0:decide (x8_1<x9_2)=false:=decide_eq_false c14
        clear c14
        by_cases c37:x8_1>x9_2
        ·rw [if_pos c37] at H
         have c37b0:decide (x9_2<x8_1)=true:=decide_eq_true c37
         clear c37
         by_cases c38:t256=true
         ·subst c38
          rw [if_pos rfl] at H
          replace H:=Option.bind_eq_some_iff.mp H
          obtain ⟨⟨t277,t278,t279⟩,A390,H⟩:=H
          try dsimp only at H
          have A39:=Aside0.mk A390
          clear A390
          by_cases c40:t277=true
          ·subst c40
           rw [if_pos rfl] at H
           by_cases c41:(x5_2.length:Int)<28
           ·rw [if_pos c41] at H
            have c41b0:decide ((x5_2.length:Int)<28)=true:=decide_eq_true c41
            have c41b1:decide (x5_2.length<28)=true:=decide_eq_true (by omega)
            clear c41
            by_cases c42:x5_2.length<8796093022208
            ·rw [if_pos c42] at H
             have LMc42:=Aside0.mk c42
             clear c42
             obtain ⟨y280,hy280⟩:∃ y_:List (S45),y_=(x5_2++[(⟨x8_1,x9_2⟩:S45)]):=⟨_,rfl⟩
             replace H:(spec_l1Cur_edges.l1 k2 a1 y280 true t262 x8_1 (wrap64 (x9_2 + 1)) s0_0 t278 t279)=some (r1,r2,r3):=by first|(rw [hy280];with_reducible exact H)|(have H2_:=(Option.bind_some _ _).symm.trans H;rw [hy280];with_reducible exact H2_)|(have H2_:=(Option.bind_some _ _).symm.trans H;with_reducible exact H2_)|with_reducible exact H|(rw [hy280];exact H)|exact H
             have Ny280:=Aside0.mk hy280
             clear hy280
             have H':=Aside0.mk H
             clear H
             go_wp2_with (first|(go_at_call 116;(with_reducible refine (spec_l1Cur_one.calls g s0_0 x1001_2 x1002_2 t262 true t278 t279 w0 _ ?side1 ?side2 A39.out).mono ?_);(case side1=>repeat (first|(with_reducible first|exact HI0.out|apply IsS94.alloc|apply IsS94.drewN|apply IsS94.drew|apply IsS94.set_1|apply IsS94.set_2)|exact HI0.out));(case side2=>repeat (first|(with_reducible first|exact HB.out|apply below_alloc|apply pw_below_drewN|apply below_drew1|refine below_set ?_ (IsS94.ge HI0.out))|exact HB.out));rintro e w43 ⟨rfl,hi,hb,hk⟩;replace HO_5:=Aside0.mk (Kd.R_mono (Kd.R_keep (IsS94.apart (show IsS94 w0 _ g s0_0 x1001_2 x1002_2 from by repeat (first|(with_reducible first|exact HI0.out|apply IsS94.alloc|apply IsS94.drewN|apply IsS94.drew|apply IsS94.set_1|apply IsS94.set_2)|exact HI0.out)) (zR HO_5.out) (by decide)) hk (fun _ h=>h.2)) (fun _ h=>h.1));replace HK:=Aside0.mk (KeepBut.trans (by repeat (first|(with_reducible first|exact HK.out|apply KeepBut.set_|apply keep_drewN|apply keep_drew|apply keep_alloc)|exact HK.out)) hk (.inl rfl));replace HB:=Aside0.mk (hb);replace HI0:=Aside0.mk (hi);(try clear hb);(try clear hk);(try clear hi);obtain ⟨Ao44,co44,eo44⟩:=Kd.R_slice HO_5.out;subst eo44)|((with_reducible refine gate_builtin (b:=.append) (xs:=#[.tmp 51,.tmp 55]) rfl ?_);(try (refine gate_guard (by rfl) ?_;dsimp only));at_builtin;refine Kd.R_append k45 w.heap.size rfl (.tmp 51) (.tmp 55) 36 45 (.agg #[(.int .i64 0),(.int .i64 0)]) 16 rfl Try.underlying36 info45 rfl (by decide) (by omega) (.slice Ao44 x5_2.length co44) x5_2 (⟨x8_1,x9_2⟩:S45) [.int .i64 x8_1,.int .i64 x9_2] (fun _=>True) (fun _=>False) rfl rfl ?aP (fun _ hk=>hk.elim) ?aF ?aO (Below.refl _ _) ?aS ?aL ?_;(case aP=>exact k45_mkM _ _ _ (⟨x8_1,x9_2⟩:S45));(case aF=>exact (fun _ _=>trivial));(case aO=>exact (zR HO_5.out));(case aS=>exact (keep_size (w:=w) (g:=g) (row:=none) (by repeat (first|(with_reducible first|exact HK.out|apply KeepBut.set_|apply keep_drewN|apply keep_drew|apply keep_alloc)|exact HK.out))));(case aL=>have:=LMc42.out;omega);intro v281 w45 ho hb hg hat;rw [←Ny280.out] at ho;have n0_:=Aside0.mk (IsS94.grown (by repeat (first|(with_reducible first|exact HI0.out|apply IsS94.alloc|apply IsS94.drewN|apply IsS94.drew|apply IsS94.set_1|apply IsS94.set_2)|exact HI0.out)) hg (IsS94.own_ne HI0.out HO_5.out (by decide)));have n1_:=Aside0.mk (below_weaken (by repeat (first|(with_reducible first|exact HB.out|apply below_alloc|apply pw_below_drewN|apply below_drew1|refine below_set ?_ (IsS94.ge HI0.out))|exact HB.out)) HL.out hb);have n2_:=Aside0.mk (KeepBut.trans (by repeat (first|(with_reducible first|exact HK.out|apply KeepBut.set_|apply keep_drewN|apply keep_drew|apply keep_alloc)|exact HK.out)) (KeepBut.of_grown hg g) (Kd.R_base2 HO_5.out));have n3_:=Aside0.mk (ho);clear HI0;clear HB;clear HK;clear HO_5;have HI0:=n0_;have HB:=n1_;have HK:=n2_;have HO282:=n3_;clear n0_ n1_ n2_ n3_;clear ho hb hg hat))
             go_roundg k2
             case measure=>have:=HK1.out;have:=HK2.out;omega
             case rel=>exact ⟨(y280),(wrap64 (x9_2 + 1)),(t278),(t279),zo,H',⟨by have:=HK1.out;have:=HK2.out;omega⟩,⟨zR HO282.out⟩,⟨by repeat (first|(with_reducible first|exact HI0.out|apply IsS94.alloc|apply IsS94.drewN|apply IsS94.drew|apply IsS94.set_1|apply IsS94.set_2)|exact HI0.out)⟩,⟨by repeat (first|(with_reducible first|exact HK.out|apply KeepBut.set_|apply keep_drewN|apply keep_drew|apply keep_alloc)|exact HK.out)⟩,⟨by repeat (first|(with_reducible first|exact HB.out|apply below_alloc|apply pw_below_drewN|apply below_drew1|refine below_set ?_ (IsS94.ge HI0.out))|exact HB.out)⟩⟩
            ·rw [if_neg c42] at H
             exact absurd H (by simp)
           ·rw [if_neg c41] at H
            have c41b0:decide ((x5_2.length:Int)<28)=false:=decide_eq_false c41
            have c41b1:decide (x5_2.length<28)=false:=decide_eq_false (by omega)
            clear c41
            have H':=Aside0.mk H
            clear H
            go_wp2_with (first|(go_at_call 116;(with_reducible refine (spec_l1Cur_one.calls g s0_0 x1001_2 x1002_2 t262 true t278 t279 w0 _ ?side1 ?side2 A39.out).mono ?_);(case side1=>repeat (first|(with_reducible first|exact HI0.out|apply IsS94.alloc|apply IsS94.drewN|apply IsS94.drew|apply IsS94.set_1|apply IsS94.set_2)|exact HI0.out));(case side2=>repeat (first|(with_reducible first|exact HB.out|apply below_alloc|apply pw_below_drewN|apply below_drew1|refine below_set ?_ (IsS94.ge HI0.out))|exact HB.out));rintro e w46 ⟨rfl,hi,hb,hk⟩;replace HO_5:=Aside0.mk (Kd.R_mono (Kd.R_keep (IsS94.apart (show IsS94 w0 _ g s0_0 x1001_2 x1002_2 from by repeat (first|(with_reducible first|exact HI0.out|apply IsS94.alloc|apply IsS94.drewN|apply IsS94.drew|apply IsS94.set_1|apply IsS94.set_2)|exact HI0.out)) (zR HO_5.out) (by decide)) hk (fun _ h=>h.2)) (fun _ h=>h.1));replace HK:=Aside0.mk (KeepBut.trans (by repeat (first|(with_reducible first|exact HK.out|apply KeepBut.set_|apply keep_drewN|apply keep_drew|apply keep_alloc)|exact HK.out)) hk (.inl rfl));replace HB:=Aside0.mk (hb);replace HI0:=Aside0.mk (hi);(try clear hb);(try clear hk);(try clear hi);obtain ⟨Ao47,co47,eo47⟩:=Kd.R_slice HO_5.out;subst eo47))
            go_roundg k2
            case measure=>have:=HK1.out;have:=HK2.out;omega
            case rel=>exact ⟨(x5_2),(wrap64 (x9_2 + 1)),(t278),(t279),zo,H',⟨by have:=HK1.out;have:=HK2.out;omega⟩,⟨zR HO_5.out⟩,⟨by repeat (first|(with_reducible first|exact HI0.out|apply IsS94.alloc|apply IsS94.drewN|apply IsS94.drew|apply IsS94.set_1|apply IsS94.set_2)|exact HI0.out)⟩,⟨by repeat (first|(with_reducible first|exact HK.out|apply KeepBut.set_|apply keep_drewN|apply keep_drew|apply keep_alloc)|exact HK.out)⟩,⟨by repeat (first|(with_reducible first|exact HB.out|apply below_alloc|apply pw_below_drewN|apply below_drew1|refine below_set ?_ (IsS94.ge HI0.out))|exact HB.out)⟩⟩
          ·replace c40:=Bool.eq_false_iff.mpr c40
           subst c40
           rw [if_neg (show ¬ (false=true) by decide)] at H
           have H':=Aside0.mk H
           clear H
           go_wp2_with (first|(go_at_call 116;(with_reducible refine (spec_l1Cur_one.calls g s0_0 x1001_2 x1002_2 t262 false t278 t279 w0 _ ?side1 ?side2 A39.out).mono ?_);(case side1=>repeat (first|(with_reducible first|exact HI0.out|apply IsS94.alloc|apply IsS94.drewN|apply IsS94.drew|apply IsS94.set_1|apply IsS94.set_2)|exact HI0.out));(case side2=>repeat (first|(with_reducible first|exact HB.out|apply below_alloc|apply pw_below_drewN|apply below_drew1|refine below_set ?_ (IsS94.ge HI0.out))|exact HB.out));rintro e w48 ⟨rfl,hi,hb,hk⟩;replace HO_5:=Aside0.mk (Kd.R_mono (Kd.R_keep (IsS94.apart (show IsS94 w0 _ g s0_0 x1001_2 x1002_2 from by repeat (first|(with_reducible first|exact HI0.out|apply IsS94.alloc|apply IsS94.drewN|apply IsS94.drew|apply IsS94.set_1|apply IsS94.set_2)|exact HI0.out)) (zR HO_5.out) (by decide)) hk (fun _ h=>h.2)) (fun _ h=>h.1));replace HK:=Aside0.mk (KeepBut.trans (by repeat (first|(with_reducible first|exact HK.out|apply KeepBut.set_|apply keep_drewN|apply keep_drew|apply keep_alloc)|exact HK.out)) hk (.inl rfl));replace HB:=Aside0.mk (hb);replace HI0:=Aside0.mk (hi);(try clear hb);(try clear hk);(try clear hi)))
           go_roundg k2
           case measure=>have:=HK1.out;have:=HK2.out;omega
           case rel=>exact ⟨(x5_2),(wrap64 (x9_2 + 1)),(t278),(t279),zo,H',⟨by have:=HK1.out;have:=HK2.out;omega⟩,⟨zR HO_5.out⟩,⟨by repeat (first|(with_reducible first|exact HI0.out|apply IsS94.alloc|apply IsS94.drewN|apply IsS94.drew|apply IsS94.set_1|apply IsS94.set_2)|exact HI0.out)⟩,⟨by repeat (first|(with_reducible first|exact HK.out|apply KeepBut.set_|apply keep_drewN|apply keep_drew|apply keep_alloc)|exact HK.out)⟩,⟨by repeat (first|(with_reducible first|exact HB.out|apply below_alloc|apply pw_below_drewN|apply below_drew1|refine below_set ?_ (IsS94.ge HI0.out))|exact HB.out)⟩⟩
         ·replace c38:=Bool.eq_false_iff.mpr c38
          subst c38
          rw [if_neg (show ¬ (false=true) by decide)] at H
          have H':=Aside0.mk H
          clear H
          go_wp2
          go_roundg k2
          case measure=>have:=HK1.out;have:=HK2.out;omega
          case rel=>exact ⟨(x5_2),(wrap64 (x9_2 + 1)),(x1001_2),(x1002_2),zo,H',⟨by have:=HK1.out;have:=HK2.out;omega⟩,⟨zR HO_5.out⟩,⟨by repeat (first|(with_reducible first|exact HI0.out|apply IsS94.alloc|apply IsS94.drewN|apply IsS94.drew|apply IsS94.set_1|apply IsS94.set_2)|exact HI0.out)⟩,⟨by repeat (first|(with_reducible first|exact HK.out|apply KeepBut.set_|apply keep_drewN|apply keep_drew|apply keep_alloc)|exact HK.out)⟩,⟨by repeat (first|(with_reducible first|exact HB.out|apply below_alloc|apply pw_below_drewN|apply below_drew1|refine below_set ?_ (IsS94.ge HI0.out))|exact HB.out)⟩⟩
        ·rw [if_neg c37] at H
         have c37b0:decide (x9_2<x8_1)=false:=decide_eq_false c37
         clear c37
         have H':=Aside0.mk H
         clear H
         go_wp2
         go_roundg k2
         case measure=>have:=HK1.out;have:=HK2.out;omega
         case rel=>exact ⟨(x5_2),(wrap64 (x9_2 + 1)),(x1001_2),(x1002_2),zo,H',⟨by have:=HK1.out;have:=HK2.out;omega⟩,⟨zR HO_5.out⟩,⟨by repeat (first|(with_reducible first|exact HI0.out|apply IsS94.alloc|apply IsS94.drewN|apply IsS94.drew|apply IsS94.set_1|apply IsS94.set_2)|exact HI0.out)⟩,⟨by repeat (first|(with_reducible first|exact HK.out|apply KeepBut.set_|apply keep_drewN|apply keep_drew|apply keep_alloc)|exact HK.out)⟩,⟨by repeat (first|(with_reducible first|exact HB.out|apply below_alloc|apply pw_below_drewN|apply below_drew1|refine below_set ?_ (IsS94.ge HI0.out))|exact HB.out)⟩⟩
      ·rw [if_neg c13] at H
       have c13b0:decide (x9_2<a1)=false:=decide_eq_false c13
       clear c13
       have H':=Aside0.mk H
       clear H
       go_wp2
       go_roundg k2
       case measure=>have:=HK1.out;have:=HK2.out;omega
       case rel=>exact ⟨(x5_2),(wrap64 (x8_1 + 1)),(x1001_2),(x1002_2),zo,H',⟨by have:=HK1.out;have:=HK2.out;omega⟩,⟨zR HO_5.out⟩,⟨by repeat (first|(with_reducible first|exact HI0.out|apply IsS94.alloc|apply IsS94.drewN|apply IsS94.drew|apply IsS94.set_1|apply IsS94.set_2)|exact HI0.out)⟩,⟨by repeat (first|(with_reducible first|exact HK.out|apply KeepBut.set_|apply keep_drewN|apply keep_drew|apply keep_alloc)|exact HK.out)⟩,⟨by repeat (first|(with_reducible first|exact HB.out|apply below_alloc|apply pw_below_drewN|apply below_drew1|refine below_set ?_ (IsS94.ge HI0.out))|exact HB.out)⟩⟩
   ·rw [if_neg c12] at H
    have c12b0:decide (x8_1<a1)=false:=decide_eq_false c12
    clear c12
    replace H:=Option.bind_eq_some_iff.mp H
    obtain ⟨⟨t283,t284,t285⟩,A490,H⟩:=H
    try dsimp only at H
    have A49:=Aside0.mk A490
    clear A490
    by_cases c50:t283=0
    ·rw [if_pos c50] at H
     have c50b0:(t283 == 0)=true:=beq_iff_eq.mpr c50
     have c50b1:(t283 != 0)=false:=bne_eq_false_iff_eq.mpr c50
     clear c50
     replace H:=Option.bind_eq_some_iff.mp H
     obtain ⟨⟨t286,t287,t288⟩,A510,H⟩:=H
     try dsimp only at H
     have A51:=Aside0.mk A510
     clear A510
     replace H:=Option.bind_eq_some_iff.mp H
     obtain ⟨⟨t289,t290,t291⟩,A520,H⟩:=H
     try dsimp only at H
     have A52:=Aside0.mk A520
     clear A520
     by_cases c53:x5_1.length<8796093022208
     ·rw [if_pos c53] at H
      have LMc53:=Aside0.mk c53
      clear c53
      obtain ⟨y292,hy292⟩:∃ y_:List (S45),y_=(x5_1++[(⟨wrap64 (t286 - 1),t289⟩:S45)]):=⟨_,rfl⟩
      replace H:(some (y292,t290,t291))=some (r1,r2,r3):=by first|(rw [hy292];with_reducible exact H)|(have H2_:=(Option.bind_some _ _).symm.trans H;rw [hy292];with_reducible exact H2_)|(have H2_:=(Option.bind_some _ _).symm.trans H;with_reducible exact H2_)|with_reducible exact H|(rw [hy292];exact H)|exact H
      have Ny292:=Aside0.mk hy292
      clear hy292
      simp only [Option.some.injEq,Prod.mk.injEq] at H
      obtain ⟨rfl,rfl,rfl⟩:=H
      go_wp2_with (first|((with_reducible refine gate_callee (f:=118) rfl ?_);refine goesL_ (some 58) rfl rfl Try.func118 (by kernel_rfl) rfl #[.pointer (some ⟨g,0,none⟩),.int .i64 40] rfl zl ?_;(with_reducible refine (spec_l1Cur_pick.calls g s0_0 x1001_1 x1002_1 40 t283 t284 t285 w0 _ ?side1 ?side2 A49.out).mono ?_);(case side1=>repeat (first|(with_reducible first|exact HI0.out|apply IsS94.alloc|apply IsS94.drewN|apply IsS94.drew|apply IsS94.set_1|apply IsS94.set_2)|exact HI0.out));(case side2=>repeat (first|(with_reducible first|exact HB.out|apply below_alloc|apply pw_below_drewN|apply below_drew1|refine below_set ?_ (IsS94.ge HI0.out))|exact HB.out));rintro e w54 ⟨rfl,hi,hb,hk⟩;refine ⟨_,rfl,?_⟩;replace HO_5:=Aside0.mk (Kd.R_mono (Kd.R_keep (IsS94.apart (show IsS94 w0 _ g s0_0 x1001_1 x1002_1 from by repeat (first|(with_reducible first|exact HI0.out|apply IsS94.alloc|apply IsS94.drewN|apply IsS94.drew|apply IsS94.set_1|apply IsS94.set_2)|exact HI0.out)) (zR HO_5.out) (by decide)) hk (fun _ h=>h.2)) (fun _ h=>h.1));replace HK:=Aside0.mk (KeepBut.trans (by repeat (first|(with_reducible first|exact HK.out|apply KeepBut.set_|apply keep_drewN|apply keep_drew|apply keep_alloc)|exact HK.out)) hk (.inl rfl));replace HB:=Aside0.mk (hb);replace HI0:=Aside0.mk (hi);(try clear hb);(try clear hk);(try clear hi))|((with_reducible refine gate_callee (f:=118) rfl ?_);refine goesL_ (some 65) rfl rfl Try.func118 (by kernel_rfl) rfl #[.pointer (some ⟨g,0,none⟩),.int .i64 (wrap64 (a1 + 1))] rfl zl ?_;(with_reducible refine (spec_l1Cur_pick.calls g s0_0 t284 t285 (wrap64 (a1 + 1)) t286 t287 t288 w0 _ ?side1 ?side2 A51.out).mono ?_);(case side1=>repeat (first|(with_reducible first|exact HI0.out|apply IsS94.alloc|apply IsS94.drewN|apply IsS94.drew|apply IsS94.set_1|apply IsS94.set_2)|exact HI0.out));(case side2=>repeat (first|(with_reducible first|exact HB.out|apply below_alloc|apply pw_below_drewN|apply below_drew1|refine below_set ?_ (IsS94.ge HI0.out))|exact HB.out));rintro e w55 ⟨rfl,hi,hb,hk⟩;refine ⟨_,rfl,?_⟩;replace HO_5:=Aside0.mk (Kd.R_mono (Kd.R_keep (IsS94.apart (show IsS94 w0 _ g s0_0 t284 t285 from by repeat (first|(with_reducible first|exact HI0.out|apply IsS94.alloc|apply IsS94.drewN|apply IsS94.drew|apply IsS94.set_1|apply IsS94.set_2)|exact HI0.out)) (zR HO_5.out) (by decide)) hk (fun _ h=>h.2)) (fun _ h=>h.1));replace HK:=Aside0.mk (KeepBut.trans (by repeat (first|(with_reducible first|exact HK.out|apply KeepBut.set_|apply keep_drewN|apply keep_drew|apply keep_alloc)|exact HK.out)) hk (.inl rfl));replace HB:=Aside0.mk (hb);replace HI0:=Aside0.mk (hi);(try clear hb);(try clear hk);(try clear hi))|((with_reducible refine gate_callee (f:=118) rfl ?_);refine goesL_ (some 70) rfl rfl Try.func118 (by kernel_rfl) rfl #[.pointer (some ⟨g,0,none⟩),.int .i64 (wrap64 (a1 + 1))] rfl zl ?_;(with_reducible refine (spec_l1Cur_pick.calls g s0_0 t287 t288 (wrap64 (a1 + 1)) t289 t290 t291 w0 _ ?side1 ?side2 A52.out).mono ?_);(case side1=>repeat (first|(with_reducible first|exact HI0.out|apply IsS94.alloc|apply IsS94.drewN|apply IsS94.drew|apply IsS94.set_1|apply IsS94.set_2)|exact HI0.out));(case side2=>repeat (first|(with_reducible first|exact HB.out|apply below_alloc|apply pw_below_drewN|apply below_drew1|refine below_set ?_ (IsS94.ge HI0.out))|exact HB.out));rintro e w56 ⟨rfl,hi,hb,hk⟩;refine ⟨_,rfl,?_⟩;replace HO_5:=Aside0.mk (Kd.R_mono (Kd.R_keep (IsS94.apart (show IsS94 w0 _ g s0_0 t287 t288 from by repeat (first|(with_reducible first|exact HI0.out|apply IsS94.alloc|apply IsS94.drewN|apply IsS94.drew|apply IsS94.set_1|apply IsS94.set_2)|exact HI0.out)) (zR HO_5.out) (by decide)) hk (fun _ h=>h.2)) (fun _ h=>h.1));replace HK:=Aside0.mk (KeepBut.trans (by repeat (first|(with_reducible first|exact HK.out|apply KeepBut.set_|apply keep_drewN|apply keep_drew|apply keep_alloc)|exact HK.out)) hk (.inl rfl));replace HB:=Aside0.mk (hb);replace HI0:=Aside0.mk (hi);(try clear hb);(try clear hk);(try clear hi))|((with_reducible refine gate_builtin (b:=.append) (xs:=#[.tmp 61,.tmp 72]) rfl ?_);(try (refine gate_guard (by rfl) ?_;dsimp only));at_builtin;refine Kd.R_append k45 w.heap.size rfl (.tmp 61) (.tmp 72) 36 45 (.agg #[(.int .i64 0),(.int .i64 0)]) 16 rfl Try.underlying36 info45 rfl (by decide) (by omega) u5 x5_1 (⟨wrap64 (t286 - 1),t289⟩:S45) [.int .i64 (wrap64 (t286 - 1)),.int .i64 t289] (fun _=>True) (fun _=>False) rfl rfl ?aP (fun _ hk=>hk.elim) ?aF ?aO (Below.refl _ _) ?aS ?aL ?_;(case aP=>exact k45_mkM _ _ _ (⟨wrap64 (t286 - 1),t289⟩:S45));(case aF=>exact (fun _ _=>trivial));(case aO=>exact (zR HO_5.out));(case aS=>exact (keep_size (w:=w) (g:=g) (row:=none) (by repeat (first|(with_reducible first|exact HK.out|apply KeepBut.set_|apply keep_drewN|apply keep_drew|apply keep_alloc)|exact HK.out))));(case aL=>have:=LMc53.out;omega);intro v293 w57 ho hb hg hat;rw [←Ny292.out] at ho;have n0_:=Aside0.mk (IsS94.grown (by repeat (first|(with_reducible first|exact HI0.out|apply IsS94.alloc|apply IsS94.drewN|apply IsS94.drew|apply IsS94.set_1|apply IsS94.set_2)|exact HI0.out)) hg (IsS94.own_ne HI0.out HO_5.out (by decide)));have n1_:=Aside0.mk (below_weaken (by repeat (first|(with_reducible first|exact HB.out|apply below_alloc|apply pw_below_drewN|apply below_drew1|refine below_set ?_ (IsS94.ge HI0.out))|exact HB.out)) HL.out hb);have n2_:=Aside0.mk (KeepBut.trans (by repeat (first|(with_reducible first|exact HK.out|apply KeepBut.set_|apply keep_drewN|apply keep_drew|apply keep_alloc)|exact HK.out)) (KeepBut.of_grown hg g) (Kd.R_base2 HO_5.out));have n3_:=Aside0.mk (ho);clear HI0;clear HB;clear HK;clear HO_5;have HI0:=n0_;have HB:=n1_;have HK:=n2_;have HO294:=n3_;clear n0_ n1_ n2_ n3_;clear ho hb hg hat))
      go_ret
      exact ⟨_,by first|rfl|(simp [errW_none,errW_some] <;> rfl)|(simp [*,errW_none,errW_some] <;> rfl),zR HO294.out,by repeat (first|(with_reducible first|exact HI0.out|apply IsS94.alloc|apply IsS94.drewN|apply IsS94.drew|apply IsS94.set_1|apply IsS94.set_2)|exact HI0.out),by repeat (first|(with_reducible first|exact HB.out|apply below_alloc|apply pw_below_drewN|apply below_drew1|refine below_set ?_ (IsS94.ge HI0.out))|exact HB.out),by repeat (first|(with_reducible first|exact HK.out|apply KeepBut.set_|apply keep_drewN|apply keep_drew|apply keep_alloc)|exact HK.out)⟩
     ·rw [if_neg c53] at H
      exact absurd H (by simp)
    ·rw [if_neg c50] at H
     have c50b0:(t283 == 0)=false:=beq_eq_false_iff_ne.mpr c50
     have c50b1:(t283 != 0)=true:=bne_iff_ne.mpr c50
     by_cases c58:t283=1
     ·rw [if_pos c58] at H
      have c58b0:(t283 == 1)=true:=beq_iff_eq.mpr c58
      have c58b1:(t283 != 1)=false:=bne_eq_false_iff_eq.mpr c58
      clear c58
      by_cases c59:(x5_1.length:Int)>0
      ·rw [if_pos c59] at H
       have c59b0:decide (0<(x5_1.length:Int))=true:=decide_eq_true c59
       have c59b1:decide (0<x5_1.length)=true:=decide_eq_true (by omega)
       clear c59
       obtain ⟨ji60,hji60⟩:∃ j_:Int,(wrap64 ((x5_1.length:Int) - 1))=j_:=⟨_,rfl⟩
       replace H:(if 0≤(ji60) then (if (ji60)<(x5_1.length:Int) then (if x5_1.length<8796093022208 then (some ((x5_1++[(⟨(rd_T45 x5_1 (ji60)).f0,(rd_T45 x5_1 (ji60)).f1⟩:S45)]),t284,t285)) else (none)) else (none)) else (none))=some (r1,r2,r3):=by first|(rw [hji60] at H;exact H)|(simp only [hji60] at H ⊢;exact H)
       (try rw [hji60] at A49)
       have hji60w:(IntKind.i64.wrap ((x5_1.length:Int) - 1))=ji60:=(i64_w _).trans hji60
       by_cases c61:0≤(ji60)
       ·rw [if_pos c61] at H
        have c61b0:decide (0≤(ji60))=true:=decide_eq_true c61
        clear c61
        by_cases c62:(ji60)<(x5_1.length:Int)
        ·rw [if_pos c62] at H
         have c62b0:decide ((ji60)<(x5_1.length:Int))=true:=decide_eq_true c62
         clear c62
         by_cases c63:x5_1.length<8796093022208
         ·rw [if_pos c63] at H
          have LMc63:=Aside0.mk c63
          clear c63
          obtain ⟨y296,hy296⟩:∃ y_:List (S45),y_=(x5_1++[(⟨(rd_T45 x5_1 (ji60)).f0,(rd_T45 x5_1 (ji60)).f1⟩:S45)]):=⟨_,rfl⟩
          replace H:(some (y296,t284,t285))=some (r1,r2,r3):=by first|(rw [hy296];with_reducible exact H)|(have H2_:=(Option.bind_some _ _).symm.trans H;rw [hy296];with_reducible exact H2_)|(have H2_:=(Option.bind_some _ _).symm.trans H;with_reducible exact H2_)|with_reducible exact H|(rw [hy296];exact H)|exact H
          have Ny296:=Aside0.mk hy296
          clear hy296
          simp only [Option.some.injEq,Prod.mk.injEq] at H
          obtain ⟨rfl,rfl,rfl⟩:=H
          go_wp2_with (first|((with_reducible refine gate_callee (f:=118) rfl ?_);refine goesL_ (some 58) rfl rfl Try.func118 (by kernel_rfl) rfl #[.pointer (some ⟨g,0,none⟩),.int .i64 40] rfl zl ?_;(with_reducible refine (spec_l1Cur_pick.calls g s0_0 x1001_1 x1002_1 40 t283 t284 t285 w0 _ ?side1 ?side2 A49.out).mono ?_);(case side1=>repeat (first|(with_reducible first|exact HI0.out|apply IsS94.alloc|apply IsS94.drewN|apply IsS94.drew|apply IsS94.set_1|apply IsS94.set_2)|exact HI0.out));(case side2=>repeat (first|(with_reducible first|exact HB.out|apply below_alloc|apply pw_below_drewN|apply below_drew1|refine below_set ?_ (IsS94.ge HI0.out))|exact HB.out));rintro e w64 ⟨rfl,hi,hb,hk⟩;refine ⟨_,rfl,?_⟩;replace HO_5:=Aside0.mk (Kd.R_mono (Kd.R_keep (IsS94.apart (show IsS94 w0 _ g s0_0 x1001_1 x1002_1 from by repeat (first|(with_reducible first|exact HI0.out|apply IsS94.alloc|apply IsS94.drewN|apply IsS94.drew|apply IsS94.set_1|apply IsS94.set_2)|exact HI0.out)) (zR HO_5.out) (by decide)) hk (fun _ h=>h.2)) (fun _ h=>h.1));replace HK:=Aside0.mk (KeepBut.trans (by repeat (first|(with_reducible first|exact HK.out|apply KeepBut.set_|apply keep_drewN|apply keep_drew|apply keep_alloc)|exact HK.out)) hk (.inl rfl));replace HB:=Aside0.mk (hb);replace HI0:=Aside0.mk (hi);(try clear hb);(try clear hk);(try clear hi);obtain ⟨Ao65,co65,eo65⟩:=Kd.R_slice HO_5.out;subst eo65;have p295:0≤((ji60):Int):=of_decide_eq_true za;have q295:(ji60)<(x5_1.length:Int):=of_decide_eq_true za;obtain ⟨ad295,e295,hx295_0,hx295_1⟩:=at_T45 (Kd.R_reads' HO_5.out).2.2 (ji60) p295 q295;cases e295;replace p295:=eq_true p295;replace q295:=eq_true q295)|((with_reducible refine gate_builtin (b:=.append) (xs:=#[.tmp 79,.tmp 86]) rfl ?_);(try (refine gate_guard (by rfl) ?_;dsimp only));at_builtin;refine Kd.R_append k45 w.heap.size rfl (.tmp 79) (.tmp 86) 36 45 (.agg #[(.int .i64 0),(.int .i64 0)]) 16 rfl Try.underlying36 info45 rfl (by decide) (by omega) (.slice (some ad295) x5_1.length co65) x5_1 (⟨(rd_T45 x5_1 (ji60)).f0,(rd_T45 x5_1 (ji60)).f1⟩:S45) [.int .i64 ((rd_T45 x5_1 (ji60)).f0),.int .i64 ((rd_T45 x5_1 (ji60)).f1)] (fun _=>True) (fun _=>False) rfl rfl ?aP (fun _ hk=>hk.elim) ?aF ?aO (Below.refl _ _) ?aS ?aL ?_;(case aP=>exact k45_mkM _ _ _ (⟨(rd_T45 x5_1 (ji60)).f0,(rd_T45 x5_1 (ji60)).f1⟩:S45));(case aF=>exact (fun _ _=>trivial));(case aO=>exact (zR HO_5.out));(case aS=>exact (keep_size (w:=w) (g:=g) (row:=none) (by repeat (first|(with_reducible first|exact HK.out|apply KeepBut.set_|apply keep_drewN|apply keep_drew|apply keep_alloc)|exact HK.out))));(case aL=>have:=LMc63.out;omega);intro v297 w66 ho hb hg hat;rw [←Ny296.out] at ho;have n0_:=Aside0.mk (IsS94.grown (by repeat (first|(with_reducible first|exact HI0.out|apply IsS94.alloc|apply IsS94.drewN|apply IsS94.drew|apply IsS94.set_1|apply IsS94.set_2)|exact HI0.out)) hg (IsS94.own_ne HI0.out HO_5.out (by decide)));have n1_:=Aside0.mk (below_weaken (by repeat (first|(with_reducible first|exact HB.out|apply below_alloc|apply pw_below_drewN|apply below_drew1|refine below_set ?_ (IsS94.ge HI0.out))|exact HB.out)) HL.out hb);have n2_:=Aside0.mk (KeepBut.trans (by repeat (first|(with_reducible first|exact HK.out|apply KeepBut.set_|apply keep_drewN|apply keep_drew|apply keep_alloc)|exact HK.out)) (KeepBut.of_grown hg g) (Kd.R_base2 HO_5.out));have n3_:=Aside0.mk (ho);clear HI0;clear HB;clear HK;clear HO_5;have HI0:=n0_;have HB:=n1_;have HK:=n2_;have HO298:=n3_;clear n0_ n1_ n2_ n3_;clear ho hb hg hat))
          go_ret
          exact ⟨_,by first|rfl|(simp [errW_none,errW_some] <;> rfl)|(simp only [←hji60];first|rfl|(simp [errW_none,errW_some] <;> rfl))|(simp [*,errW_none,errW_some] <;> rfl),zR HO298.out,by repeat (first|(with_reducible first|exact HI0.out|apply IsS94.alloc|apply IsS94.drewN|apply IsS94.drew|apply IsS94.set_1|apply IsS94.set_2)|exact HI0.out),by repeat (first|(with_reducible first|exact HB.out|apply below_alloc|apply pw_below_drewN|apply below_drew1|refine below_set ?_ (IsS94.ge HI0.out))|exact HB.out),by repeat (first|(with_reducible first|exact HK.out|apply KeepBut.set_|apply keep_drewN|apply keep_drew|apply keep_alloc)|exact HK.out)⟩
         ·rw [if_neg c63] at H
          exact absurd H (by simp)
        ·rw [if_neg c62] at H
         exact absurd H (by simp)
       ·rw [if_neg c61] at H
        exact absurd H (by simp)
      ·rw [if_neg c59] at H
       have c59b0:decide (0<(x5_1.length:Int))=false:=decide_eq_false c59
       have c59b1:decide (0<x5_1.length)=false:=decide_eq_false (by omega)
       clear c59
       simp only [Option.some.injEq,Prod.mk.injEq] at H
       obtain ⟨rfl,rfl,rfl⟩:=H
       go_wp2_with (first|((with_reducible refine gate_callee (f:=118) rfl ?_);refine goesL_ (some 58) rfl rfl Try.func118 (by kernel_rfl) rfl #[.pointer (some ⟨g,0,none⟩),.int .i64 40] rfl zl ?_;(with_reducible refine (spec_l1Cur_pick.calls g s0_0 x1001_1 x1002_1 40 t283 t284 t285 w0 _ ?side1 ?side2 A49.out).mono ?_);(case side1=>repeat (first|(with_reducible first|exact HI0.out|apply IsS94.alloc|apply IsS94.drewN|apply IsS94.drew|apply IsS94.set_1|apply IsS94.set_2)|exact HI0.out));(case side2=>repeat (first|(with_reducible first|exact HB.out|apply below_alloc|apply pw_below_drewN|apply below_drew1|refine below_set ?_ (IsS94.ge HI0.out))|exact HB.out));rintro e w67 ⟨rfl,hi,hb,hk⟩;refine ⟨_,rfl,?_⟩;replace HO_5:=Aside0.mk (Kd.R_mono (Kd.R_keep (IsS94.apart (show IsS94 w0 _ g s0_0 x1001_1 x1002_1 from by repeat (first|(with_reducible first|exact HI0.out|apply IsS94.alloc|apply IsS94.drewN|apply IsS94.drew|apply IsS94.set_1|apply IsS94.set_2)|exact HI0.out)) (zR HO_5.out) (by decide)) hk (fun _ h=>h.2)) (fun _ h=>h.1));replace HK:=Aside0.mk (KeepBut.trans (by repeat (first|(with_reducible first|exact HK.out|apply KeepBut.set_|apply keep_drewN|apply keep_drew|apply keep_alloc)|exact HK.out)) hk (.inl rfl));replace HB:=Aside0.mk (hb);replace HI0:=Aside0.mk (hi);(try clear hb);(try clear hk);(try clear hi);obtain ⟨Ao68,co68,eo68⟩:=Kd.R_slice HO_5.out;subst eo68))
       go_ret
       exact ⟨_,by first|rfl|(simp [errW_none,errW_some] <;> rfl)|(simp [*,errW_none,errW_some] <;> rfl),zR HO_5.out,by repeat (first|(with_reducible first|exact HI0.out|apply IsS94.alloc|apply IsS94.drewN|apply IsS94.drew|apply IsS94.set_1|apply IsS94.set_2)|exact HI0.out),by repeat (first|(with_reducible first|exact HB.out|apply below_alloc|apply pw_below_drewN|apply below_drew1|refine below_set ?_ (IsS94.ge HI0.out))|exact HB.out),by repeat (first|(with_reducible first|exact HK.out|apply KeepBut.set_|apply keep_drewN|apply keep_drew|apply keep_alloc)|exact HK.out)⟩
     ·rw [if_neg c58] at H
      have c58b0:(t283 == 1)=false:=beq_eq_false_iff_ne.mpr c58
      have c58b1:(t283 != 1)=true:=bne_iff_ne.mpr c58
      by_cases c69:t283=2
      ·rw [if_pos c69] at H
       have c69b0:(t283 == 2)=true:=beq_iff_eq.mpr c69
       have c69b1:(t283 != 2)=false:=bne_eq_false_iff_eq.mpr c69
       clear c69
       by_cases c70:a1>2
       ·rw [if_pos c70] at H
        have c70b0:decide (2<a1)=true:=decide_eq_true c70
        clear c70
        obtain ⟨y299,hy299⟩:∃ y_:List (S45),y_=(([(⟨0,1⟩:S45),(⟨1,2⟩:S45),(⟨2,0⟩:S45)]:List (S45))):=⟨_,rfl⟩
        replace H:(some (y299,t284,t285))=some (r1,r2,r3):=by first|(rw [hy299];with_reducible exact H)|(have H2_:=(Option.bind_some _ _).symm.trans H;rw [hy299];with_reducible exact H2_)|(have H2_:=(Option.bind_some _ _).symm.trans H;with_reducible exact H2_)|with_reducible exact H|(rw [hy299];exact H)|exact H
        have Ny299:=Aside0.mk hy299
        clear hy299
        simp only [Option.some.injEq,Prod.mk.injEq] at H
        obtain ⟨rfl,rfl,rfl⟩:=H
        go_wp2_with (first|((with_reducible refine gate_callee (f:=118) rfl ?_);refine goesL_ (some 58) rfl rfl Try.func118 (by kernel_rfl) rfl #[.pointer (some ⟨g,0,none⟩),.int .i64 40] rfl zl ?_;(with_reducible refine (spec_l1Cur_pick.calls g s0_0 x1001_1 x1002_1 40 t283 t284 t285 w0 _ ?side1 ?side2 A49.out).mono ?_);(case side1=>repeat (first|(with_reducible first|exact HI0.out|apply IsS94.alloc|apply IsS94.drewN|apply IsS94.drew|apply IsS94.set_1|apply IsS94.set_2)|exact HI0.out));(case side2=>repeat (first|(with_reducible first|exact HB.out|apply below_alloc|apply pw_below_drewN|apply below_drew1|refine below_set ?_ (IsS94.ge HI0.out))|exact HB.out));rintro e w71 ⟨rfl,hi,hb,hk⟩;refine ⟨_,rfl,?_⟩;replace HO_5:=Aside0.mk (Kd.R_mono (Kd.R_keep (IsS94.apart (show IsS94 w0 _ g s0_0 x1001_1 x1002_1 from by repeat (first|(with_reducible first|exact HI0.out|apply IsS94.alloc|apply IsS94.drewN|apply IsS94.drew|apply IsS94.set_1|apply IsS94.set_2)|exact HI0.out)) (zR HO_5.out) (by decide)) hk (fun _ h=>h.2)) (fun _ h=>h.1));replace HK:=Aside0.mk (KeepBut.trans (by repeat (first|(with_reducible first|exact HK.out|apply KeepBut.set_|apply keep_drewN|apply keep_drew|apply keep_alloc)|exact HK.out)) hk (.inl rfl));replace HB:=Aside0.mk (hb);replace HI0:=Aside0.mk (hi);(try clear hb);(try clear hk);(try clear hi))|((with_reducible refine gate_dst (N:=95) rfl ?_);(try (refine gate_guard (by rfl) ?_;dsimp only));refine Kd.R_lit k45 _ 45 ?hg (N:=95) ?hd (xs:=([(⟨0,1⟩:S45),(⟨1,2⟩:S45),(⟨2,0⟩:S45)]:List (S45))) (inner:=[.int .i64 0,.int .i64 1,.int .i64 1,.int .i64 2,.int .i64 2,.int .i64 0]) (ok:=fun _=>True) (okp:=fun _=>True) ?hr ?hp (fun _ hk=>hk) trivial (Below.refl _ _) (Nat.le_refl _) (by simp) ?_;(case hd=>rfl);(case hg=>rfl);(case hr=>first|(go_simp;done)|(go_simp;rfl));(case hp=>exact (Reps.c2 (show Kd.M k45 _ _ _ (⟨0,1⟩:S45) [.int .i64 0,.int .i64 1] from (k45_mkM _ _ _ (⟨0,1⟩:S45))) (Reps.c2 (show Kd.M k45 _ _ _ (⟨1,2⟩:S45) [.int .i64 1,.int .i64 2] from (k45_mkM _ _ _ (⟨1,2⟩:S45))) (Reps.c2 (show Kd.M k45 _ _ _ (⟨2,0⟩:S45) [.int .i64 2,.int .i64 0] from (k45_mkM _ _ _ (⟨2,0⟩:S45))) (Reps.none _ _)))));intro v300 w72 ho73 hb hg_ hnew_;clear hg_ hnew_;(first|rw [←Ny299.out] at ho73|(simp only [Int.reduceToNat] at ho73;rw [←Ny299.out] at ho73));have n0_:=Aside0.mk (Kd.R_elder' (zR HO_5.out) (Kd.R_base ho73) hb);have n1_:=Aside0.mk (Kd.R_lower (Kd.R_new' ho73 (Kd.R_lt (zR HO_5.out))) (keep_size (w:=w) (g:=g) (row:=none) (by repeat (first|(with_reducible first|exact HK.out|apply KeepBut.set_|apply keep_drewN|apply keep_drew|apply keep_alloc)|exact HK.out))));have n2_:=Aside0.mk (IsS94.below (by repeat (first|(with_reducible first|exact HI0.out|apply IsS94.alloc|apply IsS94.drewN|apply IsS94.drew|apply IsS94.set_1|apply IsS94.set_2)|exact HI0.out)) hb);have n3_:=Aside0.mk (KeepBut.trans (by repeat (first|(with_reducible first|exact HK.out|apply KeepBut.set_|apply keep_drewN|apply keep_drew|apply keep_alloc)|exact HK.out)) (KeepBut.of_below hb g none) (.inl rfl));have n4_:=Aside0.mk (below_step (by repeat (first|(with_reducible first|exact HB.out|apply below_alloc|apply pw_below_drewN|apply below_drew1|refine below_set ?_ (IsS94.ge HI0.out))|exact HB.out)) hb);clear HO_5;clear HI0;clear HK;clear HB;have HO_5:=n0_;have HO301:=n1_;have HI0:=n2_;have HK:=n3_;have HB:=n4_;clear n0_ n1_ n2_ n3_ n4_;clear hb ho73))
        go_ret
        exact ⟨_,by first|rfl|(simp [errW_none,errW_some] <;> rfl)|(simp [*,errW_none,errW_some] <;> rfl),zR (Kd.R_mono HO301.out (fun _ hk=>trivial)),by repeat (first|(with_reducible first|exact HI0.out|apply IsS94.alloc|apply IsS94.drewN|apply IsS94.drew|apply IsS94.set_1|apply IsS94.set_2)|exact HI0.out),by repeat (first|(with_reducible first|exact HB.out|apply below_alloc|apply pw_below_drewN|apply below_drew1|refine below_set ?_ (IsS94.ge HI0.out))|exact HB.out),by repeat (first|(with_reducible first|exact HK.out|apply KeepBut.set_|apply keep_drewN|apply keep_drew|apply keep_alloc)|exact HK.out)⟩
       ·rw [if_neg c70] at H
        have c70b0:decide (2<a1)=false:=decide_eq_false c70
        clear c70
        simp only [Option.some.injEq,Prod.mk.injEq] at H
        obtain ⟨rfl,rfl,rfl⟩:=H
        go_wp2_with (first|((with_reducible refine gate_callee (f:=118) rfl ?_);refine goesL_ (some 58) rfl rfl Try.func118 (by kernel_rfl) rfl #[.pointer (some ⟨g,0,none⟩),.int .i64 40] rfl zl ?_;(with_reducible refine (spec_l1Cur_pick.calls g s0_0 x1001_1 x1002_1 40 t283 t284 t285 w0 _ ?side1 ?side2 A49.out).mono ?_);(case side1=>repeat (first|(with_reducible first|exact HI0.out|apply IsS94.alloc|apply IsS94.drewN|apply IsS94.drew|apply IsS94.set_1|apply IsS94.set_2)|exact HI0.out));(case side2=>repeat (first|(with_reducible first|exact HB.out|apply below_alloc|apply pw_below_drewN|apply below_drew1|refine below_set ?_ (IsS94.ge HI0.out))|exact HB.out));rintro e w74 ⟨rfl,hi,hb,hk⟩;refine ⟨_,rfl,?_⟩;replace HO_5:=Aside0.mk (Kd.R_mono (Kd.R_keep (IsS94.apart (show IsS94 w0 _ g s0_0 x1001_1 x1002_1 from by repeat (first|(with_reducible first|exact HI0.out|apply IsS94.alloc|apply IsS94.drewN|apply IsS94.drew|apply IsS94.set_1|apply IsS94.set_2)|exact HI0.out)) (zR HO_5.out) (by decide)) hk (fun _ h=>h.2)) (fun _ h=>h.1));replace HK:=Aside0.mk (KeepBut.trans (by repeat (first|(with_reducible first|exact HK.out|apply KeepBut.set_|apply keep_drewN|apply keep_drew|apply keep_alloc)|exact HK.out)) hk (.inl rfl));replace HB:=Aside0.mk (hb);replace HI0:=Aside0.mk (hi);(try clear hb);(try clear hk);(try clear hi)))
        go_ret
        exact ⟨_,by first|rfl|(simp [errW_none,errW_some] <;> rfl)|(simp [*,errW_none,errW_some] <;> rfl),zR HO_5.out,by repeat (first|(with_reducible first|exact HI0.out|apply IsS94.alloc|apply IsS94.drewN|apply IsS94.drew|apply IsS94.set_1|apply IsS94.set_2)|exact HI0.out),by repeat (first|(with_reducible first|exact HB.out|apply below_alloc|apply pw_below_drewN|apply below_drew1|refine below_set ?_ (IsS94.ge HI0.out))|exact HB.out),by repeat (first|(with_reducible first|exact HK.out|apply KeepBut.set_|apply keep_drewN|apply keep_drew|apply keep_alloc)|exact HK.out)⟩
      ·rw [if_neg c69] at H
       have c69b0:(t283 == 2)=false:=beq_eq_false_iff_ne.mpr c69
       have c69b1:(t283 != 2)=true:=bne_iff_ne.mpr c69
       simp only [Option.some.injEq,Prod.mk.injEq] at H
       obtain ⟨rfl,rfl,rfl⟩:=H
       go_wp2_with (first|((with_reducible refine gate_callee (f:=118) rfl ?_);refine goesL_ (some 58) rfl rfl Try.func118 (by kernel_rfl) rfl #[.pointer (some ⟨g,0,none⟩),.int .i64 40] rfl zl ?_;(with_reducible refine (spec_l1Cur_pick.calls g s0_0 x1001_1 x1002_1 40 t283 t284 t285 w0 _ ?side1 ?side2 A49.out).mono ?_);(case side1=>repeat (first|(with_reducible first|exact HI0.out|apply IsS94.alloc|apply IsS94.drewN|apply IsS94.drew|apply IsS94.set_1|apply IsS94.set_2)|exact HI0.out));(case side2=>repeat (first|(with_reducible first|exact HB.out|apply below_alloc|apply pw_below_drewN|apply below_drew1|refine below_set ?_ (IsS94.ge HI0.out))|exact HB.out));rintro e w75 ⟨rfl,hi,hb,hk⟩;refine ⟨_,rfl,?_⟩;replace HO_5:=Aside0.mk (Kd.R_mono (Kd.R_keep (IsS94.apart (show IsS94 w0 _ g s0_0 x1001_1 x1002_1 from by repeat (first|(with_reducible first|exact HI0.out|apply IsS94.alloc|apply IsS94.drewN|apply IsS94.drew|apply IsS94.set_1|apply IsS94.set_2)|exact HI0.out)) (zR HO_5.out) (by decide)) hk (fun _ h=>h.2)) (fun _ h=>h.1));replace HK:=Aside0.mk (KeepBut.trans (by repeat (first|(with_reducible first|exact HK.out|apply KeepBut.set_|apply keep_drewN|apply keep_drew|apply keep_alloc)|exact HK.out)) hk (.inl rfl));replace HB:=Aside0.mk (hb);replace HI0:=Aside0.mk (hi);(try clear hb);(try clear hk);(try clear hi)))
       go_ret
       exact ⟨_,by first|rfl|(simp [errW_none,errW_some] <;> rfl)|(simp [*,errW_none,errW_some] <;> rfl),zR HO_5.out,by repeat (first|(with_reducible first|exact HI0.out|apply IsS94.alloc|apply IsS94.drewN|apply IsS94.drew|apply IsS94.set_1|apply IsS94.set_2)|exact HI0.out),by repeat (first|(with_reducible first|exact HB.out|apply below_alloc|apply pw_below_drewN|apply below_drew1|refine below_set ?_ (IsS94.ge HI0.out))|exact HB.out),by repeat (first|(with_reducible first|exact HK.out|apply KeepBut.set_|apply keep_drewN|apply keep_drew|apply keep_alloc)|exact HK.out)⟩

/-! ### spec_DrawTailsOf: function 19 -/
def spec_DrawTailsOf.f (k:Nat) (l0:List Int):Option ((List (S47)) × (List (S45))):=(spec_l1Cur_work7.f k l0 0 0).bind fun bt303=>((spec_l1Cur_edges.f k l0 bt303.2.1 bt303.2.2 (bt303.1.length:Int)).bind fun bt308=>(some (bt303.1,bt308.1)))
theorem spec_DrawTailsOf.mono:∀ a0 k,LeO (spec_DrawTailsOf.f k a0) (spec_DrawTailsOf.f (k + 1) a0):=by
 intro a0 k
 unfold spec_DrawTailsOf.f
 repeat' first
   | (with_reducible exact spec_l1Cur_edges.mono _ _ _ _ _)
   | (with_reducible exact spec_l1Cur_work7.mono _ _ _ _)
   | (with_reducible exact LeO.refl _)
   | (with_reducible exact LeO.none _)
   | (with_reducible refine LeO.ite ?_ ?_)
   | (with_reducible refine LeO.bind ?_ (fun _=>?_))
   | exact spec_l1Cur_edges.mono _ _ _ _ _
   | exact spec_l1Cur_work7.mono _ _ _ _
   | exact LeO.none _
   | refine LeO.ite ?_ ?_
   | refine LeO.bind ?_ (fun _=>?_)
set_option maxHeartbeats 8000000 in
set_option maxRecDepth 100000 in
theorem spec_DrawTailsOf.calls (k:Nat) (A0:Option Addr) (c0:Nat) (l0:List Int) (r1:List (S47)) (r2:List (S45)) (w:World) (hr0:Kd.C (Kd.int .u8) w A0 l0.length l0) (hc0:l0.length≤c0) (h:spec_DrawTailsOf.f k l0=some (r1,r2)) :
  Calls Try.prog 19 #[.slice A0 l0.length c0] w fun e w'=>∃ v0_ v1_:Value,e=.returned (.tuple #[v0_,v1_])∧Kd.R k47 47 w' w.heap.size (fun _=>True) v0_ r1∧Kd.R k45 45 w' w.heap.size (fun _=>True) v1_ r2∧Below w.heap.size w w':=by
 have hu94:=Try.underlying94
 have HR0:=Aside0.mk hr0
 have HC0:=Aside0.mk hc0
 clear hr0 hc0
 have HB:=Aside0.mk (Below.refl w.heap.size w)
 have H:((spec_l1Cur_work7.f k l0 0 0).bind fun bt303=>((spec_l1Cur_edges.f k l0 bt303.2.1 bt303.2.2 (bt303.1.length:Int)).bind fun bt308=>(some (bt303.1,bt308.1))))=some (r1,r2):=h
 clear h
 replace H:=Option.bind_eq_some_iff.mp H
 obtain ⟨⟨t303,t306,t307⟩,A20,H⟩:=H
 try dsimp only at H
 have A2:=Aside0.mk A20
 clear A20
 replace H:=Option.bind_eq_some_iff.mp H
 obtain ⟨⟨t308,t311,t312⟩,A30,H⟩:=H
 try dsimp only at H
 have A3:=Aside0.mk A30
 clear A30
 simp only [Option.some.injEq,Prod.mk.injEq] at H
 obtain ⟨rfl,rfl⟩:=H
 go_enter Try.func19,Try.ntmps19
 go_wp2_with (first|((with_reducible refine gate_dst (N:=8) rfl ?_);refine box_event ?hg (N:=8) ?hd (cs:=#[.slice A0 l0.length c0,.int .i64 0,.int .u64 0]) (t:=94) ?hr ?_;(case hd=>rfl);(case hg=>rfl);(case hr=>first|(go_simp;done)|(go_simp;rfl));intro gb302 hg w4 hbox hb;have n0_:=Aside0.mk (below_step zb hb);have n1_:=Aside0.mk ((by rw [hg];exact (below_size zb):w.heap.size≤gb302));have n2_:=Aside0.mk ((by rw [hg];exact (below_size zb):w.heap.size≤gb302));have n3_:=Aside0.mk ((show IsS94 w _ gb302 l0 0 0 from ⟨_,_,hbox,(by rw [hg];exact (below_size zb):w.heap.size≤gb302),HR0.out⟩));clear HB;have HB:=n0_;have GW302:=n1_;have GE302:=n2_;have HI302:=n3_;clear n0_ n1_ n2_ n3_;clear hb hbox hg)|((with_reducible refine gate_callee (f:=67) rfl ?_);refine goesL_ (some 10) rfl rfl Try.func67 (by kernel_rfl) rfl #[.pointer (some ⟨gb302,0,none⟩)] rfl zl ?_;(with_reducible refine (spec_l1Cur_work7.calls k gb302 l0 0 0 t303 t306 t307 w _ ?side1 ?side2 A2.out).mono ?_);(case side1=>repeat (first|(with_reducible first|exact HI302.out|apply IsS94.alloc|apply IsS94.drewN|apply IsS94.drew|apply IsS94.set_1|apply IsS94.set_2)|exact HI302.out));(case side2=>repeat (first|(with_reducible first|exact HB.out|apply below_alloc|apply pw_below_drewN|apply below_drew1|refine below_set ?_ (IsS94.ge HI302.out))|exact HB.out));rintro e w5 ⟨v304,rfl,ho0,hi,hb,hk⟩;refine ⟨_,rfl,?_⟩;have HO305:=Aside0.mk (Kd.R_lower ho0 (below_size (by repeat (first|(with_reducible first|exact HB.out|apply below_alloc|apply pw_below_drewN|apply below_drew1|refine below_set ?_ (IsS94.ge HI302.out))|exact HB.out))));replace HB:=Aside0.mk (hb);replace HI302:=Aside0.mk (hi);(try clear hb);(try clear hk);(try clear hi);(try clear ho0);obtain ⟨Ao6,co6,eo6⟩:=Kd.R_slice HO305.out;subst eo6)|((with_reducible refine gate_callee (f:=68) rfl ?_);refine goesL_ (some 15) rfl rfl Try.func68 (by kernel_rfl) rfl #[.pointer (some ⟨gb302,0,none⟩),.int .i64 (t303.length:Int)] rfl zl ?_;(with_reducible refine (spec_l1Cur_edges.calls k gb302 l0 t306 t307 (t303.length:Int) t308 t311 t312 w _ ?side1 ?side2 A3.out).mono ?_);(case side1=>repeat (first|(with_reducible first|exact HI302.out|apply IsS94.alloc|apply IsS94.drewN|apply IsS94.drew|apply IsS94.set_1|apply IsS94.set_2)|exact HI302.out));(case side2=>repeat (first|(with_reducible first|exact HB.out|apply below_alloc|apply pw_below_drewN|apply below_drew1|refine below_set ?_ (IsS94.ge HI302.out))|exact HB.out));rintro e w7 ⟨v309,rfl,ho0,hi,hb,hk⟩;refine ⟨_,rfl,?_⟩;replace HO305:=Aside0.mk (Kd.R_mono (Kd.R_keep (IsS94.apart (show IsS94 w _ gb302 l0 t306 t307 from by repeat (first|(with_reducible first|exact HI302.out|apply IsS94.alloc|apply IsS94.drewN|apply IsS94.drew|apply IsS94.set_1|apply IsS94.set_2)|exact HI302.out)) (zR HO305.out) (by decide)) hk (fun _ h=>h.2)) (fun _ h=>h.1));have HO310:=Aside0.mk (Kd.R_lower ho0 (below_size (by repeat (first|(with_reducible first|exact HB.out|apply below_alloc|apply pw_below_drewN|apply below_drew1|refine below_set ?_ (IsS94.ge HI302.out))|exact HB.out))));replace HB:=Aside0.mk (hb);replace HI302:=Aside0.mk (hi);(try clear hb);(try clear hk);(try clear hi);(try clear ho0)))
 go_ret2
 exact ⟨_,_,by first|rfl|(simp [errW_none,errW_some] <;> rfl)|(simp [*,errW_none,errW_some] <;> rfl),zR HO305.out,zR HO310.out,by repeat (first|(with_reducible first|exact HB.out|apply below_alloc|apply pw_below_drewN|apply below_drew1|refine below_set ?_ (IsS94.ge HI302.out))|exact HB.out)⟩

end Go.Proofs.Ytplbabjigikgjaa.XFnTails
-- minified
