-- Written by a program of this session (the kit's print, widened). Proved here: what each function answers, for the arguments that its contract names.
import Derived.Test.YtbblhmpcpmamfaaXFnExactSmithPricesx0
import Derived.Test.YtbblhmpcpmamfaaXFnExactSmithPricesx5
import Derived.Test.YtbblhmpcpmamfaaXFnExactSmithPricesx9
import Derived.Test.YtbblhmpcpmamfaaXFnExactSmithPricesx11
namespace Go.Proofs.Ytbblhmpcpmamfaa.XFnExactSmithPrices
open Go.RowKit Go.Proofs.YtbblhmpcpmamfaaW.PrintWords Go.Proofs.YtbblhmpcpmamfaaW.PrintLast Go.Proofs.YtbblhmpcpmamfaaW.PrintMore
attribute [local go_sem] max2_int min2_int max_two min_two max_three min_three max_four min_four   -- for this text's walks alone
attribute [local go_sem] idxA_77_0 idxA_77_1 fldS_68_0 fldS_68_1 fldS_73_0 fldS_73_1 fldS_73_2
set_option linter.unusedVariables false
set_option linter.unusedSimpArgs false

/-! ### impl_SmithPrices: function 19 -/
mutual
def impl_SmithPrices.l0:Nat→List (S62)→Int→List (S62)→Int→Int→Option ((List (S68)) × Int × Bool)
 | 0,_,_,_,_,_=>none
 | k + 1,x0,x5,x17,x18,x19=>if x19<x18 then (if 0≤x19 then (if x19<(x17.length:Int) then ((impl_gcd.f k x5 ((rd_T62 x17 x19).f0)).bind fun t297=>(if t297=0 then (none) else (if (wrap64 ((wrap64 (Int.tdiv x5 t297)) * ((rd_T62 x17 x19).f0)))>1000000 then (some (([]:List (S68)),0,false)) else (impl_SmithPrices.l0 k x0 (wrap64 ((wrap64 (Int.tdiv x5 t297)) * ((rd_T62 x17 x19).f0))) x17 x18 (wrap64 (x19 + 1)))))) else (none)) else (none)) else ((impl_ruledOrder.f k x0 3).bind fun t298=>(impl_SmithPrices.l1 k x0 x5 t298 ([]:List (S68)) t298 (t298.length:Int) 0))
def impl_SmithPrices.l1:Nat→List (S62)→Int→List Int→List (S68)→List Int→Int→Int→Option ((List (S68)) × Int × Bool)
 | 0,_,_,_,_,_,_,_=>none
 | k + 1,x0,x5,x8,x9,x37,x38,x39=>if x39<x38 then (if 0≤x39 then (if x39<(x37.length:Int) then (if 0≤(rd x37 x39) then (if (rd x37 x39)<(x0.length:Int) then (if ((rd_T62 x0 (rd x37 x39)).f0)=0 then (none) else (if (wrap64 (x39 + 1))<(x8.length:Int) then (if 0≤(wrap64 (x39 + 1)) then (if 0≤(rd x8 (wrap64 (x39 + 1))) then (if (rd x8 (wrap64 (x39 + 1)))<(x0.length:Int) then (if ((rd_T62 x0 (rd x8 (wrap64 (x39 + 1)))).f0)=0 then (none) else (if (wrap64 ((wrap64 ((wrap64 (Int.tdiv x5 ((rd_T62 x0 (rd x37 x39)).f0))) * ((rd_T62 x0 (rd x37 x39)).f1))) - (wrap64 ((wrap64 (Int.tdiv x5 ((rd_T62 x0 (rd x8 (wrap64 (x39 + 1)))).f0))) * ((rd_T62 x0 (rd x8 (wrap64 (x39 + 1)))).f1)))))=0 then (impl_SmithPrices.l1 k x0 x5 x8 x9 x37 x38 (wrap64 (x39 + 1))) else (if (wrap64 (x39 + 1))≤(x8.length:Int) then ((impl_ascending.f k (x8.take ((wrap64 (x39 + 1)):Int).toNat)).bind fun t311=>(if x9.length<4398046511104 then (impl_SmithPrices.l1 k x0 x5 x8 (x9++[(⟨t311,wrap64 ((wrap64 ((wrap64 (Int.tdiv x5 ((rd_T62 x0 (rd x37 x39)).f0))) * ((rd_T62 x0 (rd x37 x39)).f1))) - (wrap64 ((wrap64 (Int.tdiv x5 ((rd_T62 x0 (rd x8 (wrap64 (x39 + 1)))).f0))) * ((rd_T62 x0 (rd x8 (wrap64 (x39 + 1)))).f1))))⟩:S68)]) x37 x38 (wrap64 (x39 + 1))) else (none))) else (none)))) else (none)) else (none)) else (none)) else (if (wrap64 ((wrap64 (Int.tdiv x5 ((rd_T62 x0 (rd x37 x39)).f0))) * ((rd_T62 x0 (rd x37 x39)).f1)))=0 then (impl_SmithPrices.l1 k x0 x5 x8 x9 x37 x38 (wrap64 (x39 + 1))) else (if 0≤(wrap64 (x39 + 1)) then (if (wrap64 (x39 + 1))≤(x8.length:Int) then ((impl_ascending.f k (x8.take ((wrap64 (x39 + 1)):Int).toNat)).bind fun t321=>(if x9.length<4398046511104 then (impl_SmithPrices.l1 k x0 x5 x8 (x9++[(⟨t321,wrap64 ((wrap64 (Int.tdiv x5 ((rd_T62 x0 (rd x37 x39)).f0))) * ((rd_T62 x0 (rd x37 x39)).f1))⟩:S68)]) x37 x38 (wrap64 (x39 + 1))) else (none))) else (none)) else (none))))) else (none)) else (none)) else (none)) else (none)) else (some (x9,x5,true))
end
def impl_SmithPrices.f (k:Nat) (l0:List (S62)):Option ((List (S68)) × Int × Bool):=(impl_IsPlain.f k l0).bind fun t294=>(if t294=true then (impl_SmithPrices.l0 k l0 1 l0 (l0.length:Int) 0) else (some (([]:List (S68)),0,false)))
theorem impl_SmithPrices.mono_l:∀ k,(∀ y0 y1 y2 y3 y4,LeO (impl_SmithPrices.l0 k y0 y1 y2 y3 y4) (impl_SmithPrices.l0 (k + 1) y0 y1 y2 y3 y4))∧(∀ y0 y1 y2 y3 y4 y5 y6,LeO (impl_SmithPrices.l1 k y0 y1 y2 y3 y4 y5 y6) (impl_SmithPrices.l1 (k + 1) y0 y1 y2 y3 y4 y5 y6))
 | 0=>⟨fun _ _ _ _ _ r h=>by simp [impl_SmithPrices.l0] at h,fun _ _ _ _ _ _ _ r h=>by simp [impl_SmithPrices.l1] at h⟩
 | k + 1=>by
  obtain ⟨ih0,ih1⟩:=impl_SmithPrices.mono_l k
  refine ⟨?_,?_⟩
  ·intro y0 y1 y2 y3 y4
   unfold impl_SmithPrices.l0
   repeat' first
   | (with_reducible exact ih0 _ _ _ _ _)
   | (with_reducible exact ih1 _ _ _ _ _ _ _)
   | (with_reducible exact impl_IsPlain.mono _ _)
   | (with_reducible exact impl_ascending.mono _ _)
   | (with_reducible exact impl_gcd.mono _ _ _)
   | (with_reducible exact impl_ruledOrder.mono _ _ _)
   | (with_reducible exact LeO.refl _)
   | (with_reducible exact LeO.none _)
   | (with_reducible refine LeO.ite ?_ ?_)
   | (with_reducible refine LeO.bind ?_ (fun _=>?_))
   | exact ih0 _ _ _ _ _
   | exact ih1 _ _ _ _ _ _ _
   | exact impl_IsPlain.mono _ _
   | exact impl_ascending.mono _ _
   | exact impl_gcd.mono _ _ _
   | exact impl_ruledOrder.mono _ _ _
   | exact LeO.none _
   | refine LeO.ite ?_ ?_
   | refine LeO.bind ?_ (fun _=>?_)
  ·intro y0 y1 y2 y3 y4 y5 y6
   unfold impl_SmithPrices.l1
   repeat' first
   | (with_reducible exact ih0 _ _ _ _ _)
   | (with_reducible exact ih1 _ _ _ _ _ _ _)
   | (with_reducible exact impl_IsPlain.mono _ _)
   | (with_reducible exact impl_ascending.mono _ _)
   | (with_reducible exact impl_gcd.mono _ _ _)
   | (with_reducible exact impl_ruledOrder.mono _ _ _)
   | (with_reducible exact LeO.refl _)
   | (with_reducible exact LeO.none _)
   | (with_reducible refine LeO.ite ?_ ?_)
   | (with_reducible refine LeO.bind ?_ (fun _=>?_))
   | exact ih0 _ _ _ _ _
   | exact ih1 _ _ _ _ _ _ _
   | exact impl_IsPlain.mono _ _
   | exact impl_ascending.mono _ _
   | exact impl_gcd.mono _ _ _
   | exact impl_ruledOrder.mono _ _ _
   | exact LeO.none _
   | refine LeO.ite ?_ ?_
   | refine LeO.bind ?_ (fun _=>?_)
theorem impl_SmithPrices.mono:∀ a0 k,LeO (impl_SmithPrices.f k a0) (impl_SmithPrices.f (k + 1) a0):=by
 intro a0 k
 obtain ⟨ih0,ih1⟩:=impl_SmithPrices.mono_l k
 unfold impl_SmithPrices.f
 repeat' first
   | (with_reducible exact ih0 _ _ _ _ _)
   | (with_reducible exact ih1 _ _ _ _ _ _ _)
   | (with_reducible exact impl_IsPlain.mono _ _)
   | (with_reducible exact impl_ascending.mono _ _)
   | (with_reducible exact impl_gcd.mono _ _ _)
   | (with_reducible exact impl_ruledOrder.mono _ _ _)
   | (with_reducible exact LeO.refl _)
   | (with_reducible exact LeO.none _)
   | (with_reducible refine LeO.ite ?_ ?_)
   | (with_reducible refine LeO.bind ?_ (fun _=>?_))
   | exact ih0 _ _ _ _ _
   | exact ih1 _ _ _ _ _ _ _
   | exact impl_IsPlain.mono _ _
   | exact impl_ascending.mono _ _
   | exact impl_gcd.mono _ _ _
   | exact impl_ruledOrder.mono _ _ _
   | exact LeO.none _
   | refine LeO.ite ?_ ?_
   | refine LeO.bind ?_ (fun _=>?_)
set_option maxHeartbeats 8000000 in
set_option maxRecDepth 100000 in
theorem impl_SmithPrices.calls (k:Nat) (A0:Option Addr) (c0:Nat) (l0:List (S62)) (r1:List (S68)) (r2:Int) (r3:Bool) (w:World) (hr0:Kd.C k62 w A0 l0.length l0) (hc0:l0.length≤c0) (h:impl_SmithPrices.f k l0=some (r1,r2,r3)) :
  Calls Try.prog 19 #[.slice A0 l0.length c0] w fun e w'=>∃ v0_:Value,e=.returned (.tuple #[v0_,.int .i64 r2,.bool r3])∧Kd.S k68 68 w' w.heap.size (fun _=>True) v0_ r1∧Below w.heap.size w w':=by
 have hu62:=Try.underlying62
 have hu68:=Try.underlying68
 have HR0:=Aside0.mk hr0
 have HC0:=Aside0.mk hc0
 clear hr0 hc0
 have HB:=Aside0.mk (Below.refl w.heap.size w)
 have H:((impl_IsPlain.f k l0).bind fun t294=>(if t294=true then (impl_SmithPrices.l0 k l0 1 l0 (l0.length:Int) 0) else (some (([]:List (S68)),0,false))))=some (r1,r2,r3):=h
 clear h
 replace H:=Option.bind_eq_some_iff.mp H
 obtain ⟨t294,A20,H⟩:=H
 replace H:(if t294=true then (impl_SmithPrices.l0 k l0 1 l0 (l0.length:Int) 0) else (some (([]:List (S68)),0,false)))=some (r1,r2,r3):=H
 have A2:=Aside0.mk A20
 clear A20
 by_cases c3:t294=true
 ·subst c3
  have H1:(impl_SmithPrices.l0 k l0 1 l0 (l0.length:Int) 0)=some (r1,r2,r3):=by rw [if_pos rfl] at H;exact H
  clear H
  have H:=H1
  clear H1
  have H':=Aside0.mk H
  clear H
  go_enter Try.func19,Try.ntmps19
  go_wp2_with (first|(go_at_call 51;(with_reducible refine (impl_IsPlain.calls k _ _ l0 true _ ?side1 ?side2 A2.out).mono ?_);(case side1=>repeat (first|exact HR0.out|(with_reducible refine Kd.C_alloc ?_ _)|(with_reducible refine Kd.C_drewN ?_ _)|(with_reducible refine Kd.C_drew ?_)));(case side2=>exact HC0.out);rintro e w4 ⟨rfl,hb⟩;have n0_:=Aside0.mk (below_step (by repeat (first|(with_reducible first|exact HB.out|apply below_alloc|apply pw_below_drewN|apply below_drew1)|exact HB.out)) hb);clear HB;have HB:=n0_;clear n0_;(try clear hb);(try clear hb2);(try clear hk);(try clear hi)))
  repeat (go_quiet (first|(go_at_call 51;(with_reducible refine (impl_IsPlain.calls k _ _ l0 true _ ?side1 ?side2 A2.out).mono ?_);(case side1=>repeat (first|exact HR0.out|(with_reducible refine Kd.C_alloc ?_ _)|(with_reducible refine Kd.C_drewN ?_ _)|(with_reducible refine Kd.C_drew ?_)));(case side2=>exact HC0.out);rintro e w4 ⟨rfl,hb⟩;have n0_:=Aside0.mk (below_step (by repeat (first|(with_reducible first|exact HB.out|apply below_alloc|apply pw_below_drewN|apply below_drew1)|exact HB.out)) hb);clear HB;have HB:=n0_;clear n0_;(try clear hb);(try clear hb2);(try clear hk);(try clear hi)));try go_wp2_with (first|(go_at_call 51;(with_reducible refine (impl_IsPlain.calls k _ _ l0 true _ ?side1 ?side2 A2.out).mono ?_);(case side1=>repeat (first|exact HR0.out|(with_reducible refine Kd.C_alloc ?_ _)|(with_reducible refine Kd.C_drewN ?_ _)|(with_reducible refine Kd.C_drew ?_)));(case side2=>exact HC0.out);rintro e w4 ⟨rfl,hb⟩;have n0_:=Aside0.mk (below_step (by repeat (first|(with_reducible first|exact HB.out|apply below_alloc|apply pw_below_drewN|apply below_drew1)|exact HB.out)) hb);clear HB;have HB:=n0_;clear n0_;(try clear hb);(try clear hb2);(try clear hk);(try clear hi))))
  go_loopg [5,19] k (fun kq v5 v19 w'=>∃ (x5_1:Int) (x19_1:Int),v5=.int .i64 x5_1∧v19=.int .i64 x19_1∧Aside0 (impl_SmithPrices.l0 kq l0 x5_1 l0 (l0.length:Int) x19_1=some (r1,r2,r3))∧Aside0 (kq≤k)∧Aside0 (Below w.heap.size w w'))
  case atStart=>exact ⟨(1),(0),(by first|rfl|(simp;done)|(simp [*];done)),(by first|rfl|(simp;done)|(simp [*];done)),H',⟨Nat.le_refl _⟩,⟨by repeat (first|(with_reducible first|exact HB.out|apply below_alloc|apply pw_below_drewN|apply below_drew1)|exact HB.out)⟩⟩
  case round=>
   clear H'
   try clear c1
   try clear p2
   try clear c3
   obtain ⟨x5_1,x19_1,rfl,rfl,HA,HK1,HB⟩:=hrel
   cases gk with
   | zero=>exact absurd HA.out (by simp [impl_SmithPrices.l0])
   | succ k1=>
    have H:=HA.out
    clear HA
    simp only [impl_SmithPrices.l0] at H
    by_cases c5:x19_1<(l0.length:Int)
    ·rw [if_pos c5] at H
     have c5b0:decide (x19_1<(l0.length:Int))=true:=decide_eq_true c5
     clear c5
     by_cases c6:0≤x19_1
     ·rw [if_pos c6] at H
      have c6b0:decide (0≤x19_1)=true:=decide_eq_true c6
      clear c6
      by_cases c7:x19_1<(l0.length:Int)
      ·rw [if_pos c7] at H
       have c7b0:decide (x19_1<(l0.length:Int))=true:=decide_eq_true c7
       clear c7
       replace H:=Option.bind_eq_some_iff.mp H
       obtain ⟨t297,A80,H⟩:=H
       replace H:(if t297=0 then (none) else (if (wrap64 ((wrap64 (Int.tdiv x5_1 t297)) * ((rd_T62 l0 x19_1).f0)))>1000000 then (some (([]:List (S68)),0,false)) else (impl_SmithPrices.l0 k1 l0 (wrap64 ((wrap64 (Int.tdiv x5_1 t297)) * ((rd_T62 l0 x19_1).f0))) l0 (l0.length:Int) (wrap64 (x19_1 + 1)))))=some (r1,r2,r3):=H
       have A8:=Aside0.mk A80
       clear A80
       by_cases c9:t297=0
       ·rw [if_pos c9] at H
        exact absurd H (by simp)
       ·rw [if_neg c9] at H
        have c9b0:(t297 == 0)=false:=beq_eq_false_iff_ne.mpr c9
        have c9b1:(t297 != 0)=true:=bne_iff_ne.mpr c9
        by_cases c10:(wrap64 ((wrap64 (Int.tdiv x5_1 t297)) * ((rd_T62 l0 x19_1).f0)))>1000000
        ·rw [if_pos c10] at H
         have c10b0:decide (1000000<(wrap64 ((wrap64 (Int.tdiv x5_1 t297)) * ((rd_T62 l0 x19_1).f0))))=true:=decide_eq_true c10
         clear c10
         simp only [Option.some.injEq,Prod.mk.injEq] at H
         obtain ⟨rfl,rfl,rfl⟩:=H
         have p295:0≤(x19_1:Int):=of_decide_eq_true (by first|(with_reducible assumption)|assumption)
         have q295:x19_1<(l0.length:Int):=of_decide_eq_true (by first|(with_reducible assumption)|assumption)
         obtain ⟨ad295,e295,hx295_0,hx295_1,hx295_2,hx295_3⟩:=at_T62 HR0.out x19_1 p295 q295
         cases e295
         replace hx295_0:=(HB.out.cell (World.block_lt_of_cell? w _ hx295_0)).trans hx295_0
         replace hx295_1:=(HB.out.cell (World.block_lt_of_cell? w _ hx295_1)).trans hx295_1
         replace hx295_2:=(HB.out.cell (World.block_lt_of_cell? w _ hx295_2)).trans hx295_2
         replace hx295_3:=(HB.out.cell (World.block_lt_of_cell? w _ hx295_3)).trans hx295_3
         replace p295:=eq_true p295
         replace q295:=eq_true q295
         go_wp2_with (first|((with_reducible refine gate_dst (N:=7) rfl ?_);refine box_event ?hg (N:=7) ?hd (cs:=#[.int .i64 0,.int .i64 0,.int .i64 0,.int .i64 0]) (t:=62) ?hr ?_;(case hd=>rfl);(case hg=>rfl);(case hr=>first|(go_simp;done)|(go_simp;rfl));intro gb296 hg w11 hbox hb;have n0_:=Aside0.mk (below_step (by repeat (first|(with_reducible first|exact HB.out|apply below_alloc|apply pw_below_drewN|apply below_drew1)|exact HB.out)) hb);have n1_:=Aside0.mk (hbox);have n2_:=Aside0.mk ((by rw [hg];exact (below_size (by repeat (first|(with_reducible first|exact HB.out|apply below_alloc|apply pw_below_drewN|apply below_drew1)|exact HB.out))):w.heap.size≤gb296));have n3_:=Aside0.mk ((by rw [hg];exact (below_size (by repeat (first|(with_reducible first|exact HB.out|apply below_alloc|apply pw_below_drewN|apply below_drew1)|exact HB.out))):w.heap.size≤gb296));clear HB;have HB:=n0_;have BK296:=n1_;have GW296:=n2_;have GE296:=n3_;clear n0_ n1_ n2_ n3_;clear hb hbox hg;have hcz12_0:w11.cell? ⟨gb296,0,none⟩=some (.int .i64 0):=(blk_cell BK296.out 0).trans rfl;have hcz12_1:w11.cell? ⟨gb296,1,none⟩=some (.int .i64 0):=(blk_cell BK296.out 1).trans rfl;have hcz12_2:w11.cell? ⟨gb296,2,none⟩=some (.int .i64 0):=(blk_cell BK296.out 2).trans rfl;have hcz12_3:w11.cell? ⟨gb296,3,none⟩=some (.int .i64 0):=(blk_cell BK296.out 3).trans rfl;have hfz12_0:=blk_frozen BK296.out 0;have hfz12_1:=blk_frozen BK296.out 1;have hfz12_2:=blk_frozen BK296.out 2;have hfz12_3:=blk_frozen BK296.out 3)|(go_at_call 52;(with_reducible refine (impl_gcd.calls k1 x5_1 ((rd_T62 l0 x19_1).f0) t297 _ A8.out).mono ?_);rintro e w' ⟨rfl,⟨nd,rfl⟩⟩;(try first|exact ⟨rfl,_,World.drewN_drewN _ _ _⟩|exact ⟨rfl,_,Eq.trans (World.drewN_drewN _ _ _) (congrArg (World.drewN _) (Nat.add_assoc _ _ _))⟩)))
         repeat (go_quiet (first|((with_reducible refine gate_dst (N:=7) rfl ?_);refine box_event ?hg (N:=7) ?hd (cs:=#[.int .i64 0,.int .i64 0,.int .i64 0,.int .i64 0]) (t:=62) ?hr ?_;(case hd=>rfl);(case hg=>rfl);(case hr=>first|(go_simp;done)|(go_simp;rfl));intro gb296 hg w11 hbox hb;have n0_:=Aside0.mk (below_step (by repeat (first|(with_reducible first|exact HB.out|apply below_alloc|apply pw_below_drewN|apply below_drew1)|exact HB.out)) hb);have n1_:=Aside0.mk (hbox);have n2_:=Aside0.mk ((by rw [hg];exact (below_size (by repeat (first|(with_reducible first|exact HB.out|apply below_alloc|apply pw_below_drewN|apply below_drew1)|exact HB.out))):w.heap.size≤gb296));have n3_:=Aside0.mk ((by rw [hg];exact (below_size (by repeat (first|(with_reducible first|exact HB.out|apply below_alloc|apply pw_below_drewN|apply below_drew1)|exact HB.out))):w.heap.size≤gb296));clear HB;have HB:=n0_;have BK296:=n1_;have GW296:=n2_;have GE296:=n3_;clear n0_ n1_ n2_ n3_;clear hb hbox hg;have hcz12_0:w11.cell? ⟨gb296,0,none⟩=some (.int .i64 0):=(blk_cell BK296.out 0).trans rfl;have hcz12_1:w11.cell? ⟨gb296,1,none⟩=some (.int .i64 0):=(blk_cell BK296.out 1).trans rfl;have hcz12_2:w11.cell? ⟨gb296,2,none⟩=some (.int .i64 0):=(blk_cell BK296.out 2).trans rfl;have hcz12_3:w11.cell? ⟨gb296,3,none⟩=some (.int .i64 0):=(blk_cell BK296.out 3).trans rfl;have hfz12_0:=blk_frozen BK296.out 0;have hfz12_1:=blk_frozen BK296.out 1;have hfz12_2:=blk_frozen BK296.out 2;have hfz12_3:=blk_frozen BK296.out 3)|(go_at_call 52;(with_reducible refine (impl_gcd.calls k1 x5_1 ((rd_T62 l0 x19_1).f0) t297 _ A8.out).mono ?_);rintro e w' ⟨rfl,⟨nd,rfl⟩⟩;(try first|exact ⟨rfl,_,World.drewN_drewN _ _ _⟩|exact ⟨rfl,_,Eq.trans (World.drewN_drewN _ _ _) (congrArg (World.drewN _) (Nat.add_assoc _ _ _))⟩)));try go_wp2_with (first|((with_reducible refine gate_dst (N:=7) rfl ?_);refine box_event ?hg (N:=7) ?hd (cs:=#[.int .i64 0,.int .i64 0,.int .i64 0,.int .i64 0]) (t:=62) ?hr ?_;(case hd=>rfl);(case hg=>rfl);(case hr=>first|(go_simp;done)|(go_simp;rfl));intro gb296 hg w11 hbox hb;have n0_:=Aside0.mk (below_step (by repeat (first|(with_reducible first|exact HB.out|apply below_alloc|apply pw_below_drewN|apply below_drew1)|exact HB.out)) hb);have n1_:=Aside0.mk (hbox);have n2_:=Aside0.mk ((by rw [hg];exact (below_size (by repeat (first|(with_reducible first|exact HB.out|apply below_alloc|apply pw_below_drewN|apply below_drew1)|exact HB.out))):w.heap.size≤gb296));have n3_:=Aside0.mk ((by rw [hg];exact (below_size (by repeat (first|(with_reducible first|exact HB.out|apply below_alloc|apply pw_below_drewN|apply below_drew1)|exact HB.out))):w.heap.size≤gb296));clear HB;have HB:=n0_;have BK296:=n1_;have GW296:=n2_;have GE296:=n3_;clear n0_ n1_ n2_ n3_;clear hb hbox hg;have hcz12_0:w11.cell? ⟨gb296,0,none⟩=some (.int .i64 0):=(blk_cell BK296.out 0).trans rfl;have hcz12_1:w11.cell? ⟨gb296,1,none⟩=some (.int .i64 0):=(blk_cell BK296.out 1).trans rfl;have hcz12_2:w11.cell? ⟨gb296,2,none⟩=some (.int .i64 0):=(blk_cell BK296.out 2).trans rfl;have hcz12_3:w11.cell? ⟨gb296,3,none⟩=some (.int .i64 0):=(blk_cell BK296.out 3).trans rfl;have hfz12_0:=blk_frozen BK296.out 0;have hfz12_1:=blk_frozen BK296.out 1;have hfz12_2:=blk_frozen BK296.out 2;have hfz12_3:=blk_frozen BK296.out 3)|(go_at_call 52;(with_reducible refine (impl_gcd.calls k1 x5_1 ((rd_T62 l0 x19_1).f0) t297 _ A8.out).mono ?_);rintro e w' ⟨rfl,⟨nd,rfl⟩⟩;(try first|exact ⟨rfl,_,World.drewN_drewN _ _ _⟩|exact ⟨rfl,_,Eq.trans (World.drewN_drewN _ _ _) (congrArg (World.drewN _) (Nat.add_assoc _ _ _))⟩))))
         go_ret3
         exact ⟨_,by first|rfl|(simp [errW_none,errW_some] <;> rfl)|(simp [*,errW_none,errW_some] <;> rfl),by first|exact Kd.S_nil _ _ _ _ _|exact Kd.N_nil _ _ _ _ _|exact Kd.V_nil _ _ _ _ _|exact Kd.Q_nil _ _ _ _ _|exact Kd.R_nil _ _ _ _ _,by repeat (first|(with_reducible first|exact HB.out|apply below_alloc|apply pw_below_drewN|apply below_drew1|refine below_set ?_ GE296.out)|exact HB.out)⟩
        ·rw [if_neg c10] at H
         have c10b0:decide (1000000<(wrap64 ((wrap64 (Int.tdiv x5_1 t297)) * ((rd_T62 l0 x19_1).f0))))=false:=decide_eq_false c10
         clear c10
         have H':=Aside0.mk H
         clear H
         have p295:0≤(x19_1:Int):=of_decide_eq_true (by first|(with_reducible assumption)|assumption)
         have q295:x19_1<(l0.length:Int):=of_decide_eq_true (by first|(with_reducible assumption)|assumption)
         obtain ⟨ad295,e295,hx295_0,hx295_1,hx295_2,hx295_3⟩:=at_T62 HR0.out x19_1 p295 q295
         cases e295
         replace hx295_0:=(HB.out.cell (World.block_lt_of_cell? w _ hx295_0)).trans hx295_0
         replace hx295_1:=(HB.out.cell (World.block_lt_of_cell? w _ hx295_1)).trans hx295_1
         replace hx295_2:=(HB.out.cell (World.block_lt_of_cell? w _ hx295_2)).trans hx295_2
         replace hx295_3:=(HB.out.cell (World.block_lt_of_cell? w _ hx295_3)).trans hx295_3
         replace p295:=eq_true p295
         replace q295:=eq_true q295
         go_wp2_with (first|((with_reducible refine gate_dst (N:=7) rfl ?_);refine box_event ?hg (N:=7) ?hd (cs:=#[.int .i64 0,.int .i64 0,.int .i64 0,.int .i64 0]) (t:=62) ?hr ?_;(case hd=>rfl);(case hg=>rfl);(case hr=>first|(go_simp;done)|(go_simp;rfl));intro gb296 hg w13 hbox hb;have n0_:=Aside0.mk (below_step (by repeat (first|(with_reducible first|exact HB.out|apply below_alloc|apply pw_below_drewN|apply below_drew1)|exact HB.out)) hb);have n1_:=Aside0.mk (hbox);have n2_:=Aside0.mk ((by rw [hg];exact (below_size (by repeat (first|(with_reducible first|exact HB.out|apply below_alloc|apply pw_below_drewN|apply below_drew1)|exact HB.out))):w.heap.size≤gb296));have n3_:=Aside0.mk ((by rw [hg];exact (below_size (by repeat (first|(with_reducible first|exact HB.out|apply below_alloc|apply pw_below_drewN|apply below_drew1)|exact HB.out))):w.heap.size≤gb296));clear HB;have HB:=n0_;have BK296:=n1_;have GW296:=n2_;have GE296:=n3_;clear n0_ n1_ n2_ n3_;clear hb hbox hg;have hcz14_0:w13.cell? ⟨gb296,0,none⟩=some (.int .i64 0):=(blk_cell BK296.out 0).trans rfl;have hcz14_1:w13.cell? ⟨gb296,1,none⟩=some (.int .i64 0):=(blk_cell BK296.out 1).trans rfl;have hcz14_2:w13.cell? ⟨gb296,2,none⟩=some (.int .i64 0):=(blk_cell BK296.out 2).trans rfl;have hcz14_3:w13.cell? ⟨gb296,3,none⟩=some (.int .i64 0):=(blk_cell BK296.out 3).trans rfl;have hfz14_0:=blk_frozen BK296.out 0;have hfz14_1:=blk_frozen BK296.out 1;have hfz14_2:=blk_frozen BK296.out 2;have hfz14_3:=blk_frozen BK296.out 3)|(go_at_call 52;(with_reducible refine (impl_gcd.calls k1 x5_1 ((rd_T62 l0 x19_1).f0) t297 _ A8.out).mono ?_);rintro e w' ⟨rfl,⟨nd,rfl⟩⟩;(try first|exact ⟨rfl,_,World.drewN_drewN _ _ _⟩|exact ⟨rfl,_,Eq.trans (World.drewN_drewN _ _ _) (congrArg (World.drewN _) (Nat.add_assoc _ _ _))⟩)))
         repeat (go_quiet (first|((with_reducible refine gate_dst (N:=7) rfl ?_);refine box_event ?hg (N:=7) ?hd (cs:=#[.int .i64 0,.int .i64 0,.int .i64 0,.int .i64 0]) (t:=62) ?hr ?_;(case hd=>rfl);(case hg=>rfl);(case hr=>first|(go_simp;done)|(go_simp;rfl));intro gb296 hg w13 hbox hb;have n0_:=Aside0.mk (below_step (by repeat (first|(with_reducible first|exact HB.out|apply below_alloc|apply pw_below_drewN|apply below_drew1)|exact HB.out)) hb);have n1_:=Aside0.mk (hbox);have n2_:=Aside0.mk ((by rw [hg];exact (below_size (by repeat (first|(with_reducible first|exact HB.out|apply below_alloc|apply pw_below_drewN|apply below_drew1)|exact HB.out))):w.heap.size≤gb296));have n3_:=Aside0.mk ((by rw [hg];exact (below_size (by repeat (first|(with_reducible first|exact HB.out|apply below_alloc|apply pw_below_drewN|apply below_drew1)|exact HB.out))):w.heap.size≤gb296));clear HB;have HB:=n0_;have BK296:=n1_;have GW296:=n2_;have GE296:=n3_;clear n0_ n1_ n2_ n3_;clear hb hbox hg;have hcz14_0:w13.cell? ⟨gb296,0,none⟩=some (.int .i64 0):=(blk_cell BK296.out 0).trans rfl;have hcz14_1:w13.cell? ⟨gb296,1,none⟩=some (.int .i64 0):=(blk_cell BK296.out 1).trans rfl;have hcz14_2:w13.cell? ⟨gb296,2,none⟩=some (.int .i64 0):=(blk_cell BK296.out 2).trans rfl;have hcz14_3:w13.cell? ⟨gb296,3,none⟩=some (.int .i64 0):=(blk_cell BK296.out 3).trans rfl;have hfz14_0:=blk_frozen BK296.out 0;have hfz14_1:=blk_frozen BK296.out 1;have hfz14_2:=blk_frozen BK296.out 2;have hfz14_3:=blk_frozen BK296.out 3)|(go_at_call 52;(with_reducible refine (impl_gcd.calls k1 x5_1 ((rd_T62 l0 x19_1).f0) t297 _ A8.out).mono ?_);rintro e w' ⟨rfl,⟨nd,rfl⟩⟩;(try first|exact ⟨rfl,_,World.drewN_drewN _ _ _⟩|exact ⟨rfl,_,Eq.trans (World.drewN_drewN _ _ _) (congrArg (World.drewN _) (Nat.add_assoc _ _ _))⟩)));try go_wp2_with (first|((with_reducible refine gate_dst (N:=7) rfl ?_);refine box_event ?hg (N:=7) ?hd (cs:=#[.int .i64 0,.int .i64 0,.int .i64 0,.int .i64 0]) (t:=62) ?hr ?_;(case hd=>rfl);(case hg=>rfl);(case hr=>first|(go_simp;done)|(go_simp;rfl));intro gb296 hg w13 hbox hb;have n0_:=Aside0.mk (below_step (by repeat (first|(with_reducible first|exact HB.out|apply below_alloc|apply pw_below_drewN|apply below_drew1)|exact HB.out)) hb);have n1_:=Aside0.mk (hbox);have n2_:=Aside0.mk ((by rw [hg];exact (below_size (by repeat (first|(with_reducible first|exact HB.out|apply below_alloc|apply pw_below_drewN|apply below_drew1)|exact HB.out))):w.heap.size≤gb296));have n3_:=Aside0.mk ((by rw [hg];exact (below_size (by repeat (first|(with_reducible first|exact HB.out|apply below_alloc|apply pw_below_drewN|apply below_drew1)|exact HB.out))):w.heap.size≤gb296));clear HB;have HB:=n0_;have BK296:=n1_;have GW296:=n2_;have GE296:=n3_;clear n0_ n1_ n2_ n3_;clear hb hbox hg;have hcz14_0:w13.cell? ⟨gb296,0,none⟩=some (.int .i64 0):=(blk_cell BK296.out 0).trans rfl;have hcz14_1:w13.cell? ⟨gb296,1,none⟩=some (.int .i64 0):=(blk_cell BK296.out 1).trans rfl;have hcz14_2:w13.cell? ⟨gb296,2,none⟩=some (.int .i64 0):=(blk_cell BK296.out 2).trans rfl;have hcz14_3:w13.cell? ⟨gb296,3,none⟩=some (.int .i64 0):=(blk_cell BK296.out 3).trans rfl;have hfz14_0:=blk_frozen BK296.out 0;have hfz14_1:=blk_frozen BK296.out 1;have hfz14_2:=blk_frozen BK296.out 2;have hfz14_3:=blk_frozen BK296.out 3)|(go_at_call 52;(with_reducible refine (impl_gcd.calls k1 x5_1 ((rd_T62 l0 x19_1).f0) t297 _ A8.out).mono ?_);rintro e w' ⟨rfl,⟨nd,rfl⟩⟩;(try first|exact ⟨rfl,_,World.drewN_drewN _ _ _⟩|exact ⟨rfl,_,Eq.trans (World.drewN_drewN _ _ _) (congrArg (World.drewN _) (Nat.add_assoc _ _ _))⟩))))
         go_roundg k1
         case measure=>have:=HK1.out;omega
         case rel=>exact ⟨(wrap64 ((wrap64 (Int.tdiv x5_1 t297)) * ((rd_T62 l0 x19_1).f0))),(wrap64 (x19_1 + 1)),(by first|rfl|(simp;done)|(simp [*];done)),(by first|rfl|(simp;done)|(simp [*];done)),H',⟨by have:=HK1.out;omega⟩,⟨by repeat (first|(with_reducible first|exact HB.out|apply below_alloc|apply pw_below_drewN|apply below_drew1|refine below_set ?_ GE296.out)|exact HB.out)⟩⟩
      ·rw [if_neg c7] at H
       exact absurd H (by simp)
     ·rw [if_neg c6] at H
      exact absurd H (by simp)
    ·rw [if_neg c5] at H
     have c5b0:decide (x19_1<(l0.length:Int))=false:=decide_eq_false c5
     clear c5
     replace H:=Option.bind_eq_some_iff.mp H
     obtain ⟨t298,A150,H⟩:=H
     replace H:(impl_SmithPrices.l1 k1 l0 x5_1 t298 ([]:List (S68)) t298 (t298.length:Int) 0)=some (r1,r2,r3):=H
     have A15:=Aside0.mk A150
     clear A150
     have H':=Aside0.mk H
     clear H
     go_wp2_with (first|(go_at_call 53;(with_reducible refine (impl_ruledOrder.calls k1 _ _ l0 3 t298 _ ?side1 ?side2 A15.out).mono ?_);(case side1=>repeat (first|exact (Kd.C_below HR0.out HB.out)|(with_reducible refine Kd.C_alloc ?_ _)|(with_reducible refine Kd.C_drewN ?_ _)|(with_reducible refine Kd.C_drew ?_)));(case side2=>exact HC0.out);rintro e w16 ⟨v299,rfl,ho0,hb⟩;have n0_:=Aside0.mk (Kd.R_lower ho0 (below_size (by repeat (first|(with_reducible first|exact HB.out|apply below_alloc|apply pw_below_drewN|apply below_drew1)|exact HB.out))));have n1_:=Aside0.mk (below_step (by repeat (first|(with_reducible first|exact HB.out|apply below_alloc|apply pw_below_drewN|apply below_drew1)|exact HB.out)) hb);clear HB;have HO300:=n0_;have HB:=n1_;clear n0_ n1_;(try clear hb);(try clear hb2);(try clear hk);(try clear hi);(try clear ho0);obtain ⟨Ao17,co17,eo17⟩:=Kd.R_slice HO300.out;subst eo17))
     repeat (go_quiet (first|(go_at_call 53;(with_reducible refine (impl_ruledOrder.calls k1 _ _ l0 3 t298 _ ?side1 ?side2 A15.out).mono ?_);(case side1=>repeat (first|exact (Kd.C_below HR0.out HB.out)|(with_reducible refine Kd.C_alloc ?_ _)|(with_reducible refine Kd.C_drewN ?_ _)|(with_reducible refine Kd.C_drew ?_)));(case side2=>exact HC0.out);rintro e w16 ⟨v299,rfl,ho0,hb⟩;have n0_:=Aside0.mk (Kd.R_lower ho0 (below_size (by repeat (first|(with_reducible first|exact HB.out|apply below_alloc|apply pw_below_drewN|apply below_drew1)|exact HB.out))));have n1_:=Aside0.mk (below_step (by repeat (first|(with_reducible first|exact HB.out|apply below_alloc|apply pw_below_drewN|apply below_drew1)|exact HB.out)) hb);clear HB;have HO300:=n0_;have HB:=n1_;clear n0_ n1_;(try clear hb);(try clear hb2);(try clear hk);(try clear hi);(try clear ho0);obtain ⟨Ao17,co17,eo17⟩:=Kd.R_slice HO300.out;subst eo17));try go_wp2_with (first|(go_at_call 53;(with_reducible refine (impl_ruledOrder.calls k1 _ _ l0 3 t298 _ ?side1 ?side2 A15.out).mono ?_);(case side1=>repeat (first|exact (Kd.C_below HR0.out HB.out)|(with_reducible refine Kd.C_alloc ?_ _)|(with_reducible refine Kd.C_drewN ?_ _)|(with_reducible refine Kd.C_drew ?_)));(case side2=>exact HC0.out);rintro e w16 ⟨v299,rfl,ho0,hb⟩;have n0_:=Aside0.mk (Kd.R_lower ho0 (below_size (by repeat (first|(with_reducible first|exact HB.out|apply below_alloc|apply pw_below_drewN|apply below_drew1)|exact HB.out))));have n1_:=Aside0.mk (below_step (by repeat (first|(with_reducible first|exact HB.out|apply below_alloc|apply pw_below_drewN|apply below_drew1)|exact HB.out)) hb);clear HB;have HO300:=n0_;have HB:=n1_;clear n0_ n1_;(try clear hb);(try clear hb2);(try clear hk);(try clear hi);(try clear ho0);obtain ⟨Ao17,co17,eo17⟩:=Kd.R_slice HO300.out;subst eo17)))
     go_loopg [9,39] k1 (fun kq v9 v39 w'=>∃ (x9_2:List (S68)) (x39_2:Int),v39=.int .i64 x39_2∧Aside0 (impl_SmithPrices.l1 kq l0 x5_1 t298 x9_2 t298 (t298.length:Int) x39_2=some (r1,r2,r3))∧Aside0 (kq≤k1)∧Aside0 (Kd.R (Kd.int .i64) 3 w' w.heap.size (fun _=>True) (.slice Ao17 t298.length co17) t298)∧Aside0 (Kd.S k68 68 w' w.heap.size (fun k_=>some k_≠((.slice Ao17 t298.length co17):Value).ownBlock∧some k_≠((.slice Ao17 t298.length co17):Value).ownBlock) v9 x9_2)∧Aside0 (Kd.R (Kd.int .i64) 3 w' w.heap.size (fun _=>True) (.slice Ao17 t298.length co17) t298)∧Aside0 (Below w.heap.size w w'))
     case atStart=>exact ⟨(([]:List (S68))),(0),(by first|rfl|(simp;done)|(simp [*];done)),H',⟨Nat.le_refl _⟩,⟨by (with_reducible repeat (first|apply Kd.R_alloc|apply Kd.R_drewN|apply Kd.R_drew));exact HO300.out⟩,⟨by first|exact Kd.S_nil _ _ _ _ _|exact Kd.N_nil _ _ _ _ _|exact Kd.V_nil _ _ _ _ _|exact Kd.Q_nil _ _ _ _ _|exact Kd.R_nil _ _ _ _ _⟩,⟨by (with_reducible repeat (first|apply Kd.R_alloc|apply Kd.R_drewN|apply Kd.R_drew));exact HO300.out⟩,⟨by repeat (first|(with_reducible first|exact HB.out|apply below_alloc|apply pw_below_drewN|apply below_drew1)|exact HB.out)⟩⟩
     case round=>
      clear H'
      try clear c1
      try clear p2
      try clear q2
      try clear hx2
      try clear c3
      try clear c5
      try clear c5b0
      try clear c6
      try clear c6b0
      try clear p6
      try clear c7
      try clear c7b0
      try clear c9
      try clear c9b0
      try clear c9b1
      try clear c10
      try clear c10b0
      try clear hcz12_0
      try clear hcz12_1
      try clear hcz12_2
      try clear hcz12_3
      try clear hcz14_0
      try clear hcz14_1
      try clear hcz14_2
      try clear hcz14_3
      try clear hfz12_0
      try clear hfz12_1
      try clear hfz12_2
      try clear hfz12_3
      try clear hfz14_0
      try clear hfz14_1
      try clear hfz14_2
      try clear hfz14_3
      try clear hx295_0
      try clear hx295_1
      try clear hx295_2
      try clear hx295_3
      try clear p2
      try clear p295
      try clear q295
      obtain ⟨x9_2,x39_2,rfl,HA,HK2,HO_8,HO_9,HO_37,HB⟩:=hrel
      cases gk with
      | zero=>exact absurd HA.out (by simp [impl_SmithPrices.l1])
      | succ k2=>
       have H:=HA.out
       clear HA
       simp only [impl_SmithPrices.l1] at H
       by_cases c18:x39_2<(t298.length:Int)
       ·rw [if_pos c18] at H
        have c18b0:decide (x39_2<(t298.length:Int))=true:=decide_eq_true c18
        clear c18
        by_cases c19:0≤x39_2
        ·rw [if_pos c19] at H
         have c19b0:decide (0≤x39_2)=true:=decide_eq_true c19
         clear c19
         by_cases c20:x39_2<(t298.length:Int)
         ·rw [if_pos c20] at H
          have c20b0:decide (x39_2<(t298.length:Int))=true:=decide_eq_true c20
          clear c20
          by_cases c21:0≤(rd t298 x39_2)
          ·rw [if_pos c21] at H
           have c21b0:decide (0≤(rd t298 x39_2))=true:=decide_eq_true c21
           clear c21
           by_cases c22:(rd t298 x39_2)<(l0.length:Int)
           ·rw [if_pos c22] at H
            have c22b0:decide ((rd t298 x39_2)<(l0.length:Int))=true:=decide_eq_true c22
            clear c22
            by_cases c23:((rd_T62 l0 (rd t298 x39_2)).f0)=0
            ·rw [if_pos c23] at H
             exact absurd H (by simp)
            ·rw [if_neg c23] at H
             have c23b0:(((rd_T62 l0 (rd t298 x39_2)).f0) == 0)=false:=beq_eq_false_iff_ne.mpr c23
             have c23b1:(((rd_T62 l0 (rd t298 x39_2)).f0) != 0)=true:=bne_iff_ne.mpr c23
             by_cases c24:(wrap64 (x39_2 + 1))<(t298.length:Int)
             ·rw [if_pos c24] at H
              have c24b0:decide ((wrap64 (x39_2 + 1))<(t298.length:Int))=true:=decide_eq_true c24
              clear c24
              obtain ⟨ji25,hji25⟩:∃ j_:Int,(wrap64 (x39_2 + 1))=j_:=⟨_,rfl⟩
              replace H:(if 0≤(ji25) then (if 0≤(rd t298 (ji25)) then (if (rd t298 (ji25))<(l0.length:Int) then (if ((rd_T62 l0 (rd t298 (ji25))).f0)=0 then (none) else (if (wrap64 ((wrap64 ((wrap64 (Int.tdiv x5_1 ((rd_T62 l0 (rd t298 x39_2)).f0))) * ((rd_T62 l0 (rd t298 x39_2)).f1))) - (wrap64 ((wrap64 (Int.tdiv x5_1 ((rd_T62 l0 (rd t298 (ji25))).f0))) * ((rd_T62 l0 (rd t298 (ji25))).f1)))))=0 then (impl_SmithPrices.l1 k2 l0 x5_1 t298 x9_2 t298 (t298.length:Int) ji25) else (if (ji25)≤(t298.length:Int) then ((impl_ascending.f k2 (t298.take ((ji25):Int).toNat)).bind fun t311=>(if x9_2.length<4398046511104 then (impl_SmithPrices.l1 k2 l0 x5_1 t298 (x9_2++[(⟨t311,wrap64 ((wrap64 ((wrap64 (Int.tdiv x5_1 ((rd_T62 l0 (rd t298 x39_2)).f0))) * ((rd_T62 l0 (rd t298 x39_2)).f1))) - (wrap64 ((wrap64 (Int.tdiv x5_1 ((rd_T62 l0 (rd t298 (ji25))).f0))) * ((rd_T62 l0 (rd t298 (ji25))).f1))))⟩:S68)]) t298 (t298.length:Int) ji25) else (none))) else (none)))) else (none)) else (none)) else (none))=some (r1,r2,r3):=by first|(rw [hji25] at H;exact H)|(simp only [hji25] at H ⊢;exact H)
              (try rw [hji25] at c24b0)
              have hji25w:(IntKind.i64.wrap (x39_2 + 1))=ji25:=(i64_w _).trans hji25
              by_cases c26:0≤(ji25)
              ·rw [if_pos c26] at H
               have c26b0:decide (0≤(ji25))=true:=decide_eq_true c26
               clear c26
               by_cases c27:0≤(rd t298 (ji25))
               ·rw [if_pos c27] at H
                have c27b0:decide (0≤(rd t298 (ji25)))=true:=decide_eq_true c27
                clear c27
                by_cases c28:(rd t298 (ji25))<(l0.length:Int)
                ·rw [if_pos c28] at H
                 have c28b0:decide ((rd t298 (ji25))<(l0.length:Int))=true:=decide_eq_true c28
                 clear c28
                 by_cases c29:((rd_T62 l0 (rd t298 (ji25))).f0)=0
                 ·rw [if_pos c29] at H
                  exact absurd H (by simp)
                 ·rw [if_neg c29] at H
                  have c29b0:(((rd_T62 l0 (rd t298 (ji25))).f0) == 0)=false:=beq_eq_false_iff_ne.mpr c29
                  have c29b1:(((rd_T62 l0 (rd t298 (ji25))).f0) != 0)=true:=bne_iff_ne.mpr c29
                  by_cases c30:(wrap64 ((wrap64 ((wrap64 (Int.tdiv x5_1 ((rd_T62 l0 (rd t298 x39_2)).f0))) * ((rd_T62 l0 (rd t298 x39_2)).f1))) - (wrap64 ((wrap64 (Int.tdiv x5_1 ((rd_T62 l0 (rd t298 (ji25))).f0))) * ((rd_T62 l0 (rd t298 (ji25))).f1)))))=0
                  ·rw [if_pos c30] at H
                   have c30b0:((wrap64 ((wrap64 ((wrap64 (Int.tdiv x5_1 ((rd_T62 l0 (rd t298 x39_2)).f0))) * ((rd_T62 l0 (rd t298 x39_2)).f1))) - (wrap64 ((wrap64 (Int.tdiv x5_1 ((rd_T62 l0 (rd t298 (ji25))).f0))) * ((rd_T62 l0 (rd t298 (ji25))).f1))))) == 0)=true:=beq_iff_eq.mpr c30
                   have c30b1:((wrap64 ((wrap64 ((wrap64 (Int.tdiv x5_1 ((rd_T62 l0 (rd t298 x39_2)).f0))) * ((rd_T62 l0 (rd t298 x39_2)).f1))) - (wrap64 ((wrap64 (Int.tdiv x5_1 ((rd_T62 l0 (rd t298 (ji25))).f0))) * ((rd_T62 l0 (rd t298 (ji25))).f1))))) != 0)=false:=bne_eq_false_iff_eq.mpr c30
                   clear c30
                   have H':=Aside0.mk H
                   clear H
                   have p301:0≤(x39_2:Int):=of_decide_eq_true (by first|(with_reducible assumption)|assumption)
                   have q301:x39_2<(t298.length:Int):=of_decide_eq_true (by first|(with_reducible assumption)|assumption)
                   obtain ⟨ad301,e301,hx301_0⟩:=Kd.at_int (Kd.R_reads' HO_37.out).2.2 x39_2 p301 q301
                   cases e301
                   replace p301:=eq_true p301
                   replace q301:=eq_true q301
                   have p302:0≤((rd t298 x39_2):Int):=of_decide_eq_true (by first|(with_reducible assumption)|assumption)
                   have q302:(rd t298 x39_2)<(l0.length:Int):=of_decide_eq_true (by first|(with_reducible assumption)|assumption)
                   obtain ⟨ad302,e302,hx302_0,hx302_1,hx302_2,hx302_3⟩:=at_T62 HR0.out (rd t298 x39_2) p302 q302
                   cases e302
                   replace hx302_0:=(HB.out.cell (World.block_lt_of_cell? w _ hx302_0)).trans hx302_0
                   replace hx302_1:=(HB.out.cell (World.block_lt_of_cell? w _ hx302_1)).trans hx302_1
                   replace hx302_2:=(HB.out.cell (World.block_lt_of_cell? w _ hx302_2)).trans hx302_2
                   replace hx302_3:=(HB.out.cell (World.block_lt_of_cell? w _ hx302_3)).trans hx302_3
                   replace p302:=eq_true p302
                   replace q302:=eq_true q302
                   have p303:0≤((rd t298 x39_2):Int):=of_decide_eq_true (by first|(with_reducible assumption)|assumption)
                   have q303:(rd t298 x39_2)<(l0.length:Int):=of_decide_eq_true (by first|(with_reducible assumption)|assumption)
                   obtain ⟨ad303,e303,hx303_0,hx303_1,hx303_2,hx303_3⟩:=at_T62 HR0.out (rd t298 x39_2) p303 q303
                   obtain rfl:ad302=ad303:=(by injection e303)
                   replace hx303_0:=(HB.out.cell (World.block_lt_of_cell? w _ hx303_0)).trans hx303_0
                   replace hx303_1:=(HB.out.cell (World.block_lt_of_cell? w _ hx303_1)).trans hx303_1
                   replace hx303_2:=(HB.out.cell (World.block_lt_of_cell? w _ hx303_2)).trans hx303_2
                   replace hx303_3:=(HB.out.cell (World.block_lt_of_cell? w _ hx303_3)).trans hx303_3
                   replace p303:=eq_true p303
                   replace q303:=eq_true q303
                   have p304:0≤((ji25):Int):=of_decide_eq_true (by first|(with_reducible assumption)|assumption)
                   have q304:(ji25)<(t298.length:Int):=of_decide_eq_true (by first|(with_reducible assumption)|assumption)
                   obtain ⟨ad304,e304,hx304_0⟩:=Kd.at_int (Kd.R_reads' HO_8.out).2.2 (ji25) p304 q304
                   obtain rfl:ad301=ad304:=(by injection e304)
                   replace p304:=eq_true p304
                   replace q304:=eq_true q304
                   have p305:0≤((rd t298 (ji25)):Int):=of_decide_eq_true (by first|(with_reducible assumption)|assumption)
                   have q305:(rd t298 (ji25))<(l0.length:Int):=of_decide_eq_true (by first|(with_reducible assumption)|assumption)
                   obtain ⟨ad305,e305,hx305_0,hx305_1,hx305_2,hx305_3⟩:=at_T62 HR0.out (rd t298 (ji25)) p305 q305
                   obtain rfl:ad302=ad305:=(by injection e305)
                   replace hx305_0:=(HB.out.cell (World.block_lt_of_cell? w _ hx305_0)).trans hx305_0
                   replace hx305_1:=(HB.out.cell (World.block_lt_of_cell? w _ hx305_1)).trans hx305_1
                   replace hx305_2:=(HB.out.cell (World.block_lt_of_cell? w _ hx305_2)).trans hx305_2
                   replace hx305_3:=(HB.out.cell (World.block_lt_of_cell? w _ hx305_3)).trans hx305_3
                   replace p305:=eq_true p305
                   replace q305:=eq_true q305
                   go_wp2_with (first|((with_reducible refine gate_dst (N:=13) rfl ?_);refine box_event ?hg (N:=13) ?hd (cs:=#[.int .i64 0,.int .i64 0,.int .i64 0,.int .i64 0]) (t:=62) ?hr ?_;(case hd=>rfl);(case hg=>rfl);(case hr=>first|(go_simp;done)|(go_simp;rfl));intro gb306 hg w31 hbox hb;have n0_:=Aside0.mk (Kd.R_below (by (with_reducible repeat (first|apply Kd.R_alloc|apply Kd.R_drewN|apply Kd.R_drew));exact HO_8.out) hb);have n1_:=Aside0.mk (Kd.S_below (by (with_reducible repeat (first|apply Kd.S_alloc|apply Kd.S_drewN|apply Kd.S_drew));exact HO_9.out) hb);have n2_:=Aside0.mk (Kd.R_below (by (with_reducible repeat (first|apply Kd.R_alloc|apply Kd.R_drewN|apply Kd.R_drew));exact HO_37.out) hb);have n3_:=Aside0.mk (below_step (by repeat (first|(with_reducible first|exact HB.out|apply below_alloc|apply pw_below_drewN|apply below_drew1)|exact HB.out)) hb);have n4_:=Aside0.mk (hbox);have n5_:=Aside0.mk ((by rw [hg];exact (below_size (by repeat (first|(with_reducible first|exact HB.out|apply below_alloc|apply pw_below_drewN|apply below_drew1)|exact HB.out))):w.heap.size≤gb306));have n6_:=Aside0.mk ((by rw [hg];exact (below_size (by repeat (first|(with_reducible first|exact HB.out|apply below_alloc|apply pw_below_drewN|apply below_drew1)|exact HB.out))):w.heap.size≤gb306));clear HO_8;clear HO_9;clear HO_37;clear HB;have HO_8:=n0_;have HO_9:=n1_;have HO_37:=n2_;have HB:=n3_;have BK306:=n4_;have GW306:=n5_;have GE306:=n6_;clear n0_ n1_ n2_ n3_ n4_ n5_ n6_;clear hb hbox hg;have hcz32_0:w31.cell? ⟨gb306,0,none⟩=some (.int .i64 0):=(blk_cell BK306.out 0).trans rfl;have hcz32_1:w31.cell? ⟨gb306,1,none⟩=some (.int .i64 0):=(blk_cell BK306.out 1).trans rfl;have hcz32_2:w31.cell? ⟨gb306,2,none⟩=some (.int .i64 0):=(blk_cell BK306.out 2).trans rfl;have hcz32_3:w31.cell? ⟨gb306,3,none⟩=some (.int .i64 0):=(blk_cell BK306.out 3).trans rfl;have hfz32_0:=blk_frozen BK306.out 0;have hfz32_1:=blk_frozen BK306.out 1;have hfz32_2:=blk_frozen BK306.out 2;have hfz32_3:=blk_frozen BK306.out 3))
                   repeat (go_quiet (first|((with_reducible refine gate_dst (N:=13) rfl ?_);refine box_event ?hg (N:=13) ?hd (cs:=#[.int .i64 0,.int .i64 0,.int .i64 0,.int .i64 0]) (t:=62) ?hr ?_;(case hd=>rfl);(case hg=>rfl);(case hr=>first|(go_simp;done)|(go_simp;rfl));intro gb306 hg w31 hbox hb;have n0_:=Aside0.mk (Kd.R_below (by (with_reducible repeat (first|apply Kd.R_alloc|apply Kd.R_drewN|apply Kd.R_drew));exact HO_8.out) hb);have n1_:=Aside0.mk (Kd.S_below (by (with_reducible repeat (first|apply Kd.S_alloc|apply Kd.S_drewN|apply Kd.S_drew));exact HO_9.out) hb);have n2_:=Aside0.mk (Kd.R_below (by (with_reducible repeat (first|apply Kd.R_alloc|apply Kd.R_drewN|apply Kd.R_drew));exact HO_37.out) hb);have n3_:=Aside0.mk (below_step (by repeat (first|(with_reducible first|exact HB.out|apply below_alloc|apply pw_below_drewN|apply below_drew1)|exact HB.out)) hb);have n4_:=Aside0.mk (hbox);have n5_:=Aside0.mk ((by rw [hg];exact (below_size (by repeat (first|(with_reducible first|exact HB.out|apply below_alloc|apply pw_below_drewN|apply below_drew1)|exact HB.out))):w.heap.size≤gb306));have n6_:=Aside0.mk ((by rw [hg];exact (below_size (by repeat (first|(with_reducible first|exact HB.out|apply below_alloc|apply pw_below_drewN|apply below_drew1)|exact HB.out))):w.heap.size≤gb306));clear HO_8;clear HO_9;clear HO_37;clear HB;have HO_8:=n0_;have HO_9:=n1_;have HO_37:=n2_;have HB:=n3_;have BK306:=n4_;have GW306:=n5_;have GE306:=n6_;clear n0_ n1_ n2_ n3_ n4_ n5_ n6_;clear hb hbox hg;have hcz32_0:w31.cell? ⟨gb306,0,none⟩=some (.int .i64 0):=(blk_cell BK306.out 0).trans rfl;have hcz32_1:w31.cell? ⟨gb306,1,none⟩=some (.int .i64 0):=(blk_cell BK306.out 1).trans rfl;have hcz32_2:w31.cell? ⟨gb306,2,none⟩=some (.int .i64 0):=(blk_cell BK306.out 2).trans rfl;have hcz32_3:w31.cell? ⟨gb306,3,none⟩=some (.int .i64 0):=(blk_cell BK306.out 3).trans rfl;have hfz32_0:=blk_frozen BK306.out 0;have hfz32_1:=blk_frozen BK306.out 1;have hfz32_2:=blk_frozen BK306.out 2;have hfz32_3:=blk_frozen BK306.out 3));try go_wp2_with (first|((with_reducible refine gate_dst (N:=13) rfl ?_);refine box_event ?hg (N:=13) ?hd (cs:=#[.int .i64 0,.int .i64 0,.int .i64 0,.int .i64 0]) (t:=62) ?hr ?_;(case hd=>rfl);(case hg=>rfl);(case hr=>first|(go_simp;done)|(go_simp;rfl));intro gb306 hg w31 hbox hb;have n0_:=Aside0.mk (Kd.R_below (by (with_reducible repeat (first|apply Kd.R_alloc|apply Kd.R_drewN|apply Kd.R_drew));exact HO_8.out) hb);have n1_:=Aside0.mk (Kd.S_below (by (with_reducible repeat (first|apply Kd.S_alloc|apply Kd.S_drewN|apply Kd.S_drew));exact HO_9.out) hb);have n2_:=Aside0.mk (Kd.R_below (by (with_reducible repeat (first|apply Kd.R_alloc|apply Kd.R_drewN|apply Kd.R_drew));exact HO_37.out) hb);have n3_:=Aside0.mk (below_step (by repeat (first|(with_reducible first|exact HB.out|apply below_alloc|apply pw_below_drewN|apply below_drew1)|exact HB.out)) hb);have n4_:=Aside0.mk (hbox);have n5_:=Aside0.mk ((by rw [hg];exact (below_size (by repeat (first|(with_reducible first|exact HB.out|apply below_alloc|apply pw_below_drewN|apply below_drew1)|exact HB.out))):w.heap.size≤gb306));have n6_:=Aside0.mk ((by rw [hg];exact (below_size (by repeat (first|(with_reducible first|exact HB.out|apply below_alloc|apply pw_below_drewN|apply below_drew1)|exact HB.out))):w.heap.size≤gb306));clear HO_8;clear HO_9;clear HO_37;clear HB;have HO_8:=n0_;have HO_9:=n1_;have HO_37:=n2_;have HB:=n3_;have BK306:=n4_;have GW306:=n5_;have GE306:=n6_;clear n0_ n1_ n2_ n3_ n4_ n5_ n6_;clear hb hbox hg;have hcz32_0:w31.cell? ⟨gb306,0,none⟩=some (.int .i64 0):=(blk_cell BK306.out 0).trans rfl;have hcz32_1:w31.cell? ⟨gb306,1,none⟩=some (.int .i64 0):=(blk_cell BK306.out 1).trans rfl;have hcz32_2:w31.cell? ⟨gb306,2,none⟩=some (.int .i64 0):=(blk_cell BK306.out 2).trans rfl;have hcz32_3:w31.cell? ⟨gb306,3,none⟩=some (.int .i64 0):=(blk_cell BK306.out 3).trans rfl;have hfz32_0:=blk_frozen BK306.out 0;have hfz32_1:=blk_frozen BK306.out 1;have hfz32_2:=blk_frozen BK306.out 2;have hfz32_3:=blk_frozen BK306.out 3)))
                   go_roundg k2
                   case measure=>have:=HK1.out;have:=HK2.out;omega
                   case rel=>exact ⟨(x9_2),(ji25),(by first|rfl|(simp;done)|(simp only [←hji25] <;> (first|rfl|simp))|(simp [*];done)),H',⟨by have:=HK1.out;have:=HK2.out;omega⟩,⟨by (with_reducible repeat (first|apply Kd.R_alloc|apply Kd.R_drewN|apply Kd.R_drew));exact Kd.R_mono (Kd.R_far (p:=⟨gb306,3,none⟩) (Kd.R_far (p:=⟨gb306,2,none⟩) (Kd.R_far (p:=⟨gb306,1,none⟩) (Kd.R_far (p:=⟨gb306,0,none⟩) (Kd.R_types HO_8.out BK306.out (by decide)) (fun _ hk=>hk.2) (.int .i64 ((rd_T62 l0 (rd t298 (ji25))).f0))) (fun _ hk=>hk.2) (.int .i64 ((rd_T62 l0 (rd t298 (ji25))).f1))) (fun _ hk=>hk.2) (.int .i64 ((rd_T62 l0 (rd t298 (ji25))).f2))) (fun _ hk=>hk.2) (.int .i64 ((rd_T62 l0 (rd t298 (ji25))).f3))) (fun _ hk=>trivial)⟩,⟨by (with_reducible repeat (first|apply Kd.S_alloc|apply Kd.S_drewN|apply Kd.S_drew));exact Kd.S_mono (Kd.S_far (p:=⟨gb306,3,none⟩) (Kd.S_far (p:=⟨gb306,2,none⟩) (Kd.S_far (p:=⟨gb306,1,none⟩) (Kd.S_far (p:=⟨gb306,0,none⟩) (Kd.S_types HO_9.out BK306.out (by decide)) (fun _ hk=>hk.2) (.int .i64 ((rd_T62 l0 (rd t298 (ji25))).f0))) (fun _ hk=>hk.2) (.int .i64 ((rd_T62 l0 (rd t298 (ji25))).f1))) (fun _ hk=>hk.2) (.int .i64 ((rd_T62 l0 (rd t298 (ji25))).f2))) (fun _ hk=>hk.2) (.int .i64 ((rd_T62 l0 (rd t298 (ji25))).f3))) (fun _ hk=>⟨hk.1.1,hk.1.2⟩)⟩,⟨by (with_reducible repeat (first|apply Kd.R_alloc|apply Kd.R_drewN|apply Kd.R_drew));exact Kd.R_mono (Kd.R_far (p:=⟨gb306,3,none⟩) (Kd.R_far (p:=⟨gb306,2,none⟩) (Kd.R_far (p:=⟨gb306,1,none⟩) (Kd.R_far (p:=⟨gb306,0,none⟩) (Kd.R_types HO_37.out BK306.out (by decide)) (fun _ hk=>hk.2) (.int .i64 ((rd_T62 l0 (rd t298 (ji25))).f0))) (fun _ hk=>hk.2) (.int .i64 ((rd_T62 l0 (rd t298 (ji25))).f1))) (fun _ hk=>hk.2) (.int .i64 ((rd_T62 l0 (rd t298 (ji25))).f2))) (fun _ hk=>hk.2) (.int .i64 ((rd_T62 l0 (rd t298 (ji25))).f3))) (fun _ hk=>trivial)⟩,⟨by repeat (first|(with_reducible first|exact HB.out|apply below_alloc|apply pw_below_drewN|apply below_drew1|refine below_set ?_ GE306.out)|exact HB.out)⟩⟩
                  ·rw [if_neg c30] at H
                   have c30b0:((wrap64 ((wrap64 ((wrap64 (Int.tdiv x5_1 ((rd_T62 l0 (rd t298 x39_2)).f0))) * ((rd_T62 l0 (rd t298 x39_2)).f1))) - (wrap64 ((wrap64 (Int.tdiv x5_1 ((rd_T62 l0 (rd t298 (ji25))).f0))) * ((rd_T62 l0 (rd t298 (ji25))).f1))))) == 0)=false:=beq_eq_false_iff_ne.mpr c30
                   have c30b1:((wrap64 ((wrap64 ((wrap64 (Int.tdiv x5_1 ((rd_T62 l0 (rd t298 x39_2)).f0))) * ((rd_T62 l0 (rd t298 x39_2)).f1))) - (wrap64 ((wrap64 (Int.tdiv x5_1 ((rd_T62 l0 (rd t298 (ji25))).f0))) * ((rd_T62 l0 (rd t298 (ji25))).f1))))) != 0)=true:=bne_iff_ne.mpr c30
                   have c33b0:=eq_true (of_decide_eq_true (by first|(with_reducible assumption)|assumption):0≤(ji25))
                   by_cases c34:(ji25)≤(t298.length:Int)
                   ·rw [if_pos c34] at H
                    have c34b0:=eq_true c34
                    have c34b1:decide ((ji25)≤(t298.length:Int))=true:=decide_eq_true c34
                    clear c34
                    obtain ⟨y307,hy307⟩:∃ y_:List Int,y_=(t298.take ((ji25):Int).toNat):=⟨_,rfl⟩
                    replace H:((impl_ascending.f k2 y307).bind fun t311=>(if x9_2.length<4398046511104 then (impl_SmithPrices.l1 k2 l0 x5_1 t298 (x9_2++[(⟨t311,wrap64 ((wrap64 ((wrap64 (Int.tdiv x5_1 ((rd_T62 l0 (rd t298 x39_2)).f0))) * ((rd_T62 l0 (rd t298 x39_2)).f1))) - (wrap64 ((wrap64 (Int.tdiv x5_1 ((rd_T62 l0 (rd t298 (ji25))).f0))) * ((rd_T62 l0 (rd t298 (ji25))).f1))))⟩:S68)]) t298 (t298.length:Int) ji25) else (none)))=some (r1,r2,r3):=by first|(rw [hy307];with_reducible exact H)|(have H2_:=(Option.bind_some _ _).symm.trans H;rw [hy307];with_reducible exact H2_)|(have H2_:=(Option.bind_some _ _).symm.trans H;with_reducible exact H2_)|with_reducible exact H|(rw [hy307];exact H)|exact H
                    have Ny307:=Aside0.mk hy307
                    clear hy307
                    replace H:=Option.bind_eq_some_iff.mp H
                    obtain ⟨t311,A350,H⟩:=H
                    replace H:(if x9_2.length<4398046511104 then (impl_SmithPrices.l1 k2 l0 x5_1 t298 (x9_2++[(⟨t311,wrap64 ((wrap64 ((wrap64 (Int.tdiv x5_1 ((rd_T62 l0 (rd t298 x39_2)).f0))) * ((rd_T62 l0 (rd t298 x39_2)).f1))) - (wrap64 ((wrap64 (Int.tdiv x5_1 ((rd_T62 l0 (rd t298 (ji25))).f0))) * ((rd_T62 l0 (rd t298 (ji25))).f1))))⟩:S68)]) t298 (t298.length:Int) ji25) else (none))=some (r1,r2,r3):=H
                    have A35:=Aside0.mk A350
                    clear A350
                    by_cases c36:x9_2.length<4398046511104
                    ·rw [if_pos c36] at H
                     have LMc36:=Aside0.mk c36
                     clear c36
                     obtain ⟨y314,hy314⟩:∃ y_:List (S68),y_=(x9_2++[(⟨t311,wrap64 ((wrap64 ((wrap64 (Int.tdiv x5_1 ((rd_T62 l0 (rd t298 x39_2)).f0))) * ((rd_T62 l0 (rd t298 x39_2)).f1))) - (wrap64 ((wrap64 (Int.tdiv x5_1 ((rd_T62 l0 (rd t298 (ji25))).f0))) * ((rd_T62 l0 (rd t298 (ji25))).f1))))⟩:S68)]):=⟨_,rfl⟩
                     replace H:(impl_SmithPrices.l1 k2 l0 x5_1 t298 y314 t298 (t298.length:Int) ji25)=some (r1,r2,r3):=by first|(rw [hy314];with_reducible exact H)|(have H2_:=(Option.bind_some _ _).symm.trans H;rw [hy314];with_reducible exact H2_)|(have H2_:=(Option.bind_some _ _).symm.trans H;with_reducible exact H2_)|with_reducible exact H|(rw [hy314];exact H)|exact H
                     have Ny314:=Aside0.mk hy314
                     clear hy314
                     have H':=Aside0.mk H
                     clear H
                     have p301:0≤(x39_2:Int):=of_decide_eq_true (by first|(with_reducible assumption)|assumption)
                     have q301:x39_2<(t298.length:Int):=of_decide_eq_true (by first|(with_reducible assumption)|assumption)
                     obtain ⟨ad301,e301,hx301_0⟩:=Kd.at_int (Kd.R_reads' HO_37.out).2.2 x39_2 p301 q301
                     cases e301
                     replace p301:=eq_true p301
                     replace q301:=eq_true q301
                     have p302:0≤((rd t298 x39_2):Int):=of_decide_eq_true (by first|(with_reducible assumption)|assumption)
                     have q302:(rd t298 x39_2)<(l0.length:Int):=of_decide_eq_true (by first|(with_reducible assumption)|assumption)
                     obtain ⟨ad302,e302,hx302_0,hx302_1,hx302_2,hx302_3⟩:=at_T62 HR0.out (rd t298 x39_2) p302 q302
                     cases e302
                     replace hx302_0:=(HB.out.cell (World.block_lt_of_cell? w _ hx302_0)).trans hx302_0
                     replace hx302_1:=(HB.out.cell (World.block_lt_of_cell? w _ hx302_1)).trans hx302_1
                     replace hx302_2:=(HB.out.cell (World.block_lt_of_cell? w _ hx302_2)).trans hx302_2
                     replace hx302_3:=(HB.out.cell (World.block_lt_of_cell? w _ hx302_3)).trans hx302_3
                     replace p302:=eq_true p302
                     replace q302:=eq_true q302
                     have p303:0≤((rd t298 x39_2):Int):=of_decide_eq_true (by first|(with_reducible assumption)|assumption)
                     have q303:(rd t298 x39_2)<(l0.length:Int):=of_decide_eq_true (by first|(with_reducible assumption)|assumption)
                     obtain ⟨ad303,e303,hx303_0,hx303_1,hx303_2,hx303_3⟩:=at_T62 HR0.out (rd t298 x39_2) p303 q303
                     obtain rfl:ad302=ad303:=(by injection e303)
                     replace hx303_0:=(HB.out.cell (World.block_lt_of_cell? w _ hx303_0)).trans hx303_0
                     replace hx303_1:=(HB.out.cell (World.block_lt_of_cell? w _ hx303_1)).trans hx303_1
                     replace hx303_2:=(HB.out.cell (World.block_lt_of_cell? w _ hx303_2)).trans hx303_2
                     replace hx303_3:=(HB.out.cell (World.block_lt_of_cell? w _ hx303_3)).trans hx303_3
                     replace p303:=eq_true p303
                     replace q303:=eq_true q303
                     have p304:0≤((ji25):Int):=of_decide_eq_true (by first|(with_reducible assumption)|assumption)
                     have q304:(ji25)<(t298.length:Int):=of_decide_eq_true (by first|(with_reducible assumption)|assumption)
                     obtain ⟨ad304,e304,hx304_0⟩:=Kd.at_int (Kd.R_reads' HO_8.out).2.2 (ji25) p304 q304
                     obtain rfl:ad301=ad304:=(by injection e304)
                     replace p304:=eq_true p304
                     replace q304:=eq_true q304
                     have p305:0≤((rd t298 (ji25)):Int):=of_decide_eq_true (by first|(with_reducible assumption)|assumption)
                     have q305:(rd t298 (ji25))<(l0.length:Int):=of_decide_eq_true (by first|(with_reducible assumption)|assumption)
                     obtain ⟨ad305,e305,hx305_0,hx305_1,hx305_2,hx305_3⟩:=at_T62 HR0.out (rd t298 (ji25)) p305 q305
                     obtain rfl:ad302=ad305:=(by injection e305)
                     replace hx305_0:=(HB.out.cell (World.block_lt_of_cell? w _ hx305_0)).trans hx305_0
                     replace hx305_1:=(HB.out.cell (World.block_lt_of_cell? w _ hx305_1)).trans hx305_1
                     replace hx305_2:=(HB.out.cell (World.block_lt_of_cell? w _ hx305_2)).trans hx305_2
                     replace hx305_3:=(HB.out.cell (World.block_lt_of_cell? w _ hx305_3)).trans hx305_3
                     replace p305:=eq_true p305
                     replace q305:=eq_true q305
                     go_wp2_with (first|((with_reducible refine gate_dst (N:=13) rfl ?_);refine box_event ?hg (N:=13) ?hd (cs:=#[.int .i64 0,.int .i64 0,.int .i64 0,.int .i64 0]) (t:=62) ?hr ?_;(case hd=>rfl);(case hg=>rfl);(case hr=>first|(go_simp;done)|(go_simp;rfl));intro gb306 hg w37 hbox hb;have n0_:=Aside0.mk (Kd.R_below (by (with_reducible repeat (first|apply Kd.R_alloc|apply Kd.R_drewN|apply Kd.R_drew));exact HO_8.out) hb);have n1_:=Aside0.mk (Kd.S_below (by (with_reducible repeat (first|apply Kd.S_alloc|apply Kd.S_drewN|apply Kd.S_drew));exact HO_9.out) hb);have n2_:=Aside0.mk (Kd.R_below (by (with_reducible repeat (first|apply Kd.R_alloc|apply Kd.R_drewN|apply Kd.R_drew));exact HO_37.out) hb);have n3_:=Aside0.mk (below_step (by repeat (first|(with_reducible first|exact HB.out|apply below_alloc|apply pw_below_drewN|apply below_drew1)|exact HB.out)) hb);have n4_:=Aside0.mk (hbox);have n5_:=Aside0.mk ((by rw [hg];exact (below_size (by repeat (first|(with_reducible first|exact HB.out|apply below_alloc|apply pw_below_drewN|apply below_drew1)|exact HB.out))):w.heap.size≤gb306));have n6_:=Aside0.mk ((by rw [hg];exact (below_size (by repeat (first|(with_reducible first|exact HB.out|apply below_alloc|apply pw_below_drewN|apply below_drew1)|exact HB.out))):w.heap.size≤gb306));clear HO_8;clear HO_9;clear HO_37;clear HB;have HO_8:=n0_;have HO_9:=n1_;have HO_37:=n2_;have HB:=n3_;have BK306:=n4_;have GW306:=n5_;have GE306:=n6_;clear n0_ n1_ n2_ n3_ n4_ n5_ n6_;clear hb hbox hg;have hcz38_0:w37.cell? ⟨gb306,0,none⟩=some (.int .i64 0):=(blk_cell BK306.out 0).trans rfl;have hcz38_1:w37.cell? ⟨gb306,1,none⟩=some (.int .i64 0):=(blk_cell BK306.out 1).trans rfl;have hcz38_2:w37.cell? ⟨gb306,2,none⟩=some (.int .i64 0):=(blk_cell BK306.out 2).trans rfl;have hcz38_3:w37.cell? ⟨gb306,3,none⟩=some (.int .i64 0):=(blk_cell BK306.out 3).trans rfl;have hfz38_0:=blk_frozen BK306.out 0;have hfz38_1:=blk_frozen BK306.out 1;have hfz38_2:=blk_frozen BK306.out 2;have hfz38_3:=blk_frozen BK306.out 3)|((with_reducible refine gate_store (t:=62) (p:=13) rfl ?_);(try (rw [drewN_self w37];generalize hq_:World.drewN w37 _=w37;have n0_:=Aside0.mk (Kd.R_at hq_ HO_8.out);have n1_:=Aside0.mk (Kd.S_at hq_ HO_9.out);have n2_:=Aside0.mk (Kd.R_at hq_ HO_37.out);have n3_:=Aside0.mk (blk_at hq_ BK306.out);have n4_:=Aside0.mk (below_at hq_ HB.out);clear hq_ HO_8 HO_9 HO_37 BK306 HB;have HO_8:=n0_;have HO_9:=n1_;have HO_37:=n2_;have BK306:=n3_;have HB:=n4_;clear n0_ n1_ n2_ n3_ n4_));refine store_event (t:=62) (p:=13) (v:=?vo_w39) (w1:=((((w37.setCell ⟨gb306,0,none⟩ (.int .i64 ((rd_T62 l0 (rd t298 (ji25))).f0))).setCell ⟨gb306,1,none⟩ (.int .i64 ((rd_T62 l0 (rd t298 (ji25))).f1))).setCell ⟨gb306,2,none⟩ (.int .i64 ((rd_T62 l0 (rd t298 (ji25))).f2))).setCell ⟨gb306,3,none⟩ (.int .i64 ((rd_T62 l0 (rd t298 (ji25))).f3)))) ?hg ?ho ?hn ?hr ?_;(case ho=>rfl);(case hg=>rfl);(case hn=>rfl);(case hr=>first|(go_simp;done)|(go_simp;rfl));intro w39 hw;have n0_:Aside0 (Kd.R (Kd.int .i64) 3 w39 w.heap.size (fun _=>True) (.slice (some ad301) t298.length co17) t298):=⟨(by rw [hw];exact (by (with_reducible repeat (first|apply Kd.R_alloc|apply Kd.R_drewN|apply Kd.R_drew));exact Kd.R_mono (Kd.R_far (p:=⟨gb306,3,none⟩) (Kd.R_far (p:=⟨gb306,2,none⟩) (Kd.R_far (p:=⟨gb306,1,none⟩) (Kd.R_far (p:=⟨gb306,0,none⟩) (Kd.R_types HO_8.out BK306.out (by decide)) (fun _ hk=>hk.2) (.int .i64 ((rd_T62 l0 (rd t298 (ji25))).f0))) (fun _ hk=>hk.2) (.int .i64 ((rd_T62 l0 (rd t298 (ji25))).f1))) (fun _ hk=>hk.2) (.int .i64 ((rd_T62 l0 (rd t298 (ji25))).f2))) (fun _ hk=>hk.2) (.int .i64 ((rd_T62 l0 (rd t298 (ji25))).f3))) (fun _ hk=>trivial)))⟩;have n1_:Aside0 (Kd.S k68 68 w39 w.heap.size (fun k_=>some k_≠(.slice (some ad301) t298.length co17:Value).ownBlock∧some k_≠(.slice (some ad301) t298.length co17:Value).ownBlock) u9 x9_2):=⟨(by rw [hw];exact (by (with_reducible repeat (first|apply Kd.S_alloc|apply Kd.S_drewN|apply Kd.S_drew));exact Kd.S_mono (Kd.S_far (p:=⟨gb306,3,none⟩) (Kd.S_far (p:=⟨gb306,2,none⟩) (Kd.S_far (p:=⟨gb306,1,none⟩) (Kd.S_far (p:=⟨gb306,0,none⟩) (Kd.S_types HO_9.out BK306.out (by decide)) (fun _ hk=>hk.2) (.int .i64 ((rd_T62 l0 (rd t298 (ji25))).f0))) (fun _ hk=>hk.2) (.int .i64 ((rd_T62 l0 (rd t298 (ji25))).f1))) (fun _ hk=>hk.2) (.int .i64 ((rd_T62 l0 (rd t298 (ji25))).f2))) (fun _ hk=>hk.2) (.int .i64 ((rd_T62 l0 (rd t298 (ji25))).f3))) (fun _ hk=>⟨hk.1.1,hk.1.2⟩)))⟩;have n2_:Aside0 (Kd.R (Kd.int .i64) 3 w39 w.heap.size (fun _=>True) (.slice (some ad301) t298.length co17) t298):=⟨(by rw [hw];exact (by (with_reducible repeat (first|apply Kd.R_alloc|apply Kd.R_drewN|apply Kd.R_drew));exact Kd.R_mono (Kd.R_far (p:=⟨gb306,3,none⟩) (Kd.R_far (p:=⟨gb306,2,none⟩) (Kd.R_far (p:=⟨gb306,1,none⟩) (Kd.R_far (p:=⟨gb306,0,none⟩) (Kd.R_types HO_37.out BK306.out (by decide)) (fun _ hk=>hk.2) (.int .i64 ((rd_T62 l0 (rd t298 (ji25))).f0))) (fun _ hk=>hk.2) (.int .i64 ((rd_T62 l0 (rd t298 (ji25))).f1))) (fun _ hk=>hk.2) (.int .i64 ((rd_T62 l0 (rd t298 (ji25))).f2))) (fun _ hk=>hk.2) (.int .i64 ((rd_T62 l0 (rd t298 (ji25))).f3))) (fun _ hk=>trivial)))⟩;have n3_:Aside0 (w39.heap[gb306]?=some (.cells #[.int .i64 ((rd_T62 l0 (rd t298 (ji25))).f0),.int .i64 ((rd_T62 l0 (rd t298 (ji25))).f1),.int .i64 ((rd_T62 l0 (rd t298 (ji25))).f2),.int .i64 ((rd_T62 l0 (rd t298 (ji25))).f3)] 62 (0,0))):=⟨(by rw [hw];exact (by (with_reducible repeat (first|refine blk_drewN ?_ _|refine blk_drew ?_|refine blk_alloc ?_ _));refine blk_put (cs:=#[.int .i64 ((rd_T62 l0 (rd t298 (ji25))).f0),.int .i64 ((rd_T62 l0 (rd t298 (ji25))).f1),.int .i64 ((rd_T62 l0 (rd t298 (ji25))).f2),.int .i64 0]) ?_ 3 _ rfl;(with_reducible repeat (first|refine blk_drewN ?_ _|refine blk_drew ?_|refine blk_alloc ?_ _));refine blk_put (cs:=#[.int .i64 ((rd_T62 l0 (rd t298 (ji25))).f0),.int .i64 ((rd_T62 l0 (rd t298 (ji25))).f1),.int .i64 0,.int .i64 0]) ?_ 2 _ rfl;(with_reducible repeat (first|refine blk_drewN ?_ _|refine blk_drew ?_|refine blk_alloc ?_ _));refine blk_put (cs:=#[.int .i64 ((rd_T62 l0 (rd t298 (ji25))).f0),.int .i64 0,.int .i64 0,.int .i64 0]) ?_ 1 _ rfl;(with_reducible repeat (first|refine blk_drewN ?_ _|refine blk_drew ?_|refine blk_alloc ?_ _));refine blk_put (cs:=#[.int .i64 0,.int .i64 0,.int .i64 0,.int .i64 0]) ?_ 0 _ rfl;(with_reducible repeat (first|refine blk_drewN ?_ _|refine blk_drew ?_|refine blk_alloc ?_ _));exact BK306.out))⟩;have n4_:Aside0 (Below w.heap.size w w39):=⟨(by rw [hw];exact (by repeat (first|(with_reducible first|exact HB.out|apply below_alloc|apply pw_below_drewN|apply below_drew1|refine below_set ?_ GE306.out)|exact HB.out)))⟩;clear hw;clear HO_8;clear HO_9;clear HO_37;clear BK306;clear HB;have HO_8:=n0_;have HO_9:=n1_;have HO_37:=n2_;have BK306:=n3_;have HB:=n4_;clear n0_ n1_ n2_ n3_ n4_;have hcz40_0:w39.cell? ⟨gb306,0,none⟩=some (.int .i64 ((rd_T62 l0 (rd t298 (ji25))).f0)):=(blk_cell BK306.out 0).trans rfl;have hcz40_1:w39.cell? ⟨gb306,1,none⟩=some (.int .i64 ((rd_T62 l0 (rd t298 (ji25))).f1)):=(blk_cell BK306.out 1).trans rfl;have hcz40_2:w39.cell? ⟨gb306,2,none⟩=some (.int .i64 ((rd_T62 l0 (rd t298 (ji25))).f2)):=(blk_cell BK306.out 2).trans rfl;have hcz40_3:w39.cell? ⟨gb306,3,none⟩=some (.int .i64 ((rd_T62 l0 (rd t298 (ji25))).f3)):=(blk_cell BK306.out 3).trans rfl;have hfz40_0:=blk_frozen BK306.out 0;have hfz40_1:=blk_frozen BK306.out 1;have hfz40_2:=blk_frozen BK306.out 2;have hfz40_3:=blk_frozen BK306.out 3;have q41:((ji25):Int)≤((t298.length:Int):Int):=of_decide_eq_true (by first|(with_reducible assumption)|assumption);obtain ⟨i041,hi041,_,hsz41,_⟩:=info_parts info3;have hroom41:t298.length≤co17:=(Kd.R_reads' HO_8.out).2.1;have hC41:Kd.C (Kd.int .i64) _ (some ad301) t298.length t298:=(Kd.R_reads' HO_8.out).2.2;have hcut41:=cut_to (P:=Try.prog) 41 3 .i64 Try.underlying41 hi041 (some ad301) t298.length co17 (ji25) (of_decide_eq_true (by first|(with_reducible assumption)|assumption)) q41 hroom41;have hr41:=Kd.C_take (m:=((ji25):Int).toNat) hC41 (by omega);have hy41:y307.length=((ji25):Int).toNat:=(by rw [Ny307.out,List.length_take];omega);rw [←Ny307.out] at hr41;rw [←hy41] at hcut41;have HR310:=Aside0.mk hr41;have HC310:=Aside0.mk (show y307.length≤co17 from by omega);clear hr41 hC41 hroom41 hi041 hsz41;have KY41:=Aside0.mk hy41;clear hy41;have KL41:=Aside0.mk (show ((ji25):Int).toNat≤t298.length from by omega);replace q41:=eq_true q41)|(go_at_call 54;(with_reducible refine (impl_ascending.calls k2 _ _ y307 t311 _ ?side1 ?side2 A35.out).mono ?_);(case side1=>repeat (first|exact (by repeat (first|(with_reducible exact HR310.out)|(with_reducible refine Kd.C_alloc ?_ _)|(with_reducible refine Kd.C_drewN ?_ _)|(with_reducible refine Kd.C_drew ?_)|exact HR310.out))|(with_reducible refine Kd.C_alloc ?_ _)|(with_reducible refine Kd.C_drewN ?_ _)|(with_reducible refine Kd.C_drew ?_)));(case side2=>exact HC310.out);rintro e w42 ⟨v312,rfl,ho0,hb⟩;have n0_:=Aside0.mk (Kd.R_elder' (by (with_reducible repeat (first|apply Kd.R_alloc|apply Kd.R_drewN|apply Kd.R_drew));exact HO_8.out) (Kd.R_base ho0) hb);have n1_:=Aside0.mk (Kd.S_elder' (by (with_reducible repeat (first|apply Kd.S_alloc|apply Kd.S_drewN|apply Kd.S_drew));exact HO_9.out) (Kd.R_base ho0) hb);have n2_:=Aside0.mk (Kd.R_elder' (by (with_reducible repeat (first|apply Kd.R_alloc|apply Kd.R_drewN|apply Kd.R_drew));exact HO_37.out) (Kd.R_base ho0) hb);have n3_:=Aside0.mk (Kd.R_lower (Kd.R_new' (Kd.R_new' ho0 (Kd.R_lt (by (with_reducible repeat (first|apply Kd.R_alloc|apply Kd.R_drewN|apply Kd.R_drew));exact HO_8.out))) (Kd.R_lt (by (with_reducible repeat (first|apply Kd.R_alloc|apply Kd.R_drewN|apply Kd.R_drew));exact HO_37.out))) (below_size (by repeat (first|(with_reducible first|exact HB.out|apply below_alloc|apply pw_below_drewN|apply below_drew1|refine below_set ?_ GE306.out)|exact HB.out))));have n4_:=Aside0.mk (blk_below (g:=gb306) (o:=.cells #[.int .i64 ((rd_T62 l0 (rd t298 (ji25))).f0),.int .i64 ((rd_T62 l0 (rd t298 (ji25))).f1),.int .i64 ((rd_T62 l0 (rd t298 (ji25))).f2),.int .i64 ((rd_T62 l0 (rd t298 (ji25))).f3)] 62 (0,0)) (by (with_reducible repeat (first|refine blk_drewN ?_ _|refine blk_drew ?_|refine blk_alloc ?_ _));exact BK306.out) hb);have n5_:=Aside0.mk (Kd.C_below (by repeat (first|(with_reducible exact HR310.out)|(with_reducible refine Kd.C_alloc ?_ _)|(with_reducible refine Kd.C_drewN ?_ _)|(with_reducible refine Kd.C_drew ?_)|exact HR310.out)) hb);have n6_:=Aside0.mk (below_step (by repeat (first|(with_reducible first|exact HB.out|apply below_alloc|apply pw_below_drewN|apply below_drew1|refine below_set ?_ GE306.out)|exact HB.out)) hb);clear HO_8;clear HO_9;clear HO_37;clear BK306;clear HR310;clear HB;have HO_8:=n0_;have HO_9:=n1_;have HO_37:=n2_;have HO313:=n3_;have BK306:=n4_;have HR310:=n5_;have HB:=n6_;clear n0_ n1_ n2_ n3_ n4_ n5_ n6_;(try clear hb);(try clear hb2);(try clear hk);(try clear hi);(try clear ho0);obtain ⟨Ao43,co43,eo43⟩:=Kd.R_slice HO313.out;subst eo43)|((with_reducible refine gate_builtin (b:=.append) (xs:=#[.tmp 81,.tmp 89]) rfl ?_);at_builtin;refine Kd.S_append k68 (w0:=w) w.heap.size rfl (.tmp 81) (.tmp 89) 31 68 (.agg #[(.slice none 0 0),(.int .i64 0)]) 32 rfl Try.underlying31 info68 rfl (by decide) (by omega) u9 x9_2 (⟨t311,wrap64 ((wrap64 ((wrap64 (Int.tdiv x5_1 ((rd_T62 l0 (rd t298 x39_2)).f0))) * ((rd_T62 l0 (rd t298 x39_2)).f1))) - (wrap64 ((wrap64 (Int.tdiv x5_1 ((rd_T62 l0 (rd t298 (ji25))).f0))) * ((rd_T62 l0 (rd t298 (ji25))).f1))))⟩:S68) [.slice Ao43 t311.length co43,.int .i64 (wrap64 ((wrap64 ((wrap64 (Int.tdiv x5_1 ((rd_T62 l0 (rd t298 x39_2)).f0))) * ((rd_T62 l0 (rd t298 x39_2)).f1))) - (wrap64 ((wrap64 (Int.tdiv x5_1 ((rd_T62 l0 (rd t298 (ji25))).f0))) * ((rd_T62 l0 (rd t298 (ji25))).f1)))))] (fun k_=>some k_≠(.slice (some ad301) t298.length co17:Value).ownBlock∧some k_≠(.slice (some ad301) t298.length co17:Value).ownBlock) (fun k_=>some k_=(.slice Ao43 t311.length co43:Value).ownBlock) rfl rfl ?aP (fun k_ hk_=>((Kd.R_mono (ok':=fun k_=>((fun k_=>some k_≠(.slice (some ad301) t298.length co17:Value).ownBlock∧some k_≠(.slice (some ad301) t298.length co17:Value).ownBlock)) k_∧some k_≠(u9:Value).ownBlock) (Kd.R_apart' (HO313.out) (Kd.S_typed HO_9.out) (by decide)) (fun k_ hk=>⟨⟨hk.1.1.2,hk.1.2⟩,hk.2⟩))).1 k_ hk_.symm) ?aF ?aO ?aB ?aS ?aL ?_;(case aP=>exact k68_mkM _ _ _ (⟨t311,wrap64 ((wrap64 ((wrap64 (Int.tdiv x5_1 ((rd_T62 l0 (rd t298 x39_2)).f0))) * ((rd_T62 l0 (rd t298 x39_2)).f1))) - (wrap64 ((wrap64 (Int.tdiv x5_1 ((rd_T62 l0 (rd t298 (ji25))).f0))) * ((rd_T62 l0 (rd t298 (ji25))).f1))))⟩:S68) (Kd.R_mono (Kd.R_tight rfl (Kd.R_mono (ok':=fun k_=>((fun k_=>some k_≠(.slice (some ad301) t298.length co17:Value).ownBlock∧some k_≠(.slice (some ad301) t298.length co17:Value).ownBlock)) k_∧some k_≠(u9:Value).ownBlock) (Kd.R_apart' (HO313.out) (Kd.S_typed HO_9.out) (by decide)) (fun k_ hk=>⟨⟨hk.1.1.2,hk.1.2⟩,hk.2⟩))) (fun _ h_=>h_)));(case aB=>exact (by repeat (first|(with_reducible first|exact HB.out|apply below_alloc|apply pw_below_drewN|apply below_drew1|refine below_set ?_ GE306.out)|exact HB.out)));(case aF=>exact (fun k_ hk=>⟨Kd.fresh' (Kd.R_lt (by (with_reducible repeat (first|apply Kd.R_alloc|apply Kd.R_drewN|apply Kd.R_drew));exact HO_8.out)) k_ hk,Kd.fresh' (Kd.R_lt (by (with_reducible repeat (first|apply Kd.R_alloc|apply Kd.R_drewN|apply Kd.R_drew));exact HO_37.out)) k_ hk⟩));(case aO=>exact (by (with_reducible repeat (first|apply Kd.S_alloc|apply Kd.S_drewN|apply Kd.S_drew));exact Kd.S_mono HO_9.out (fun k_ hk=>⟨⟨hk.1.1,hk.1.2⟩,fun e_=>hk.2 e_⟩)));(case aS=>exact (below_size (by repeat (first|(with_reducible first|exact HB.out|apply below_alloc|apply pw_below_drewN|apply below_drew1|refine below_set ?_ GE306.out)|exact HB.out))));(case aL=>have:=LMc36.out;omega);intro v315 w44 ho hb hg hat;rw [←Ny314.out] at ho;have n0_:=Aside0.mk (Kd.R_over' (by (with_reducible repeat (first|apply Kd.R_alloc|apply Kd.R_drewN|apply Kd.R_drew));exact HO_8.out) (Kd.S_typed (by (with_reducible repeat (first|apply Kd.S_alloc|apply Kd.S_drewN|apply Kd.S_drew));exact HO_9.out)) (by decide) hg);have n1_:=Aside0.mk (Kd.R_over' (by (with_reducible repeat (first|apply Kd.R_alloc|apply Kd.R_drewN|apply Kd.R_drew));exact HO_37.out) (Kd.S_typed (by (with_reducible repeat (first|apply Kd.S_alloc|apply Kd.S_drewN|apply Kd.S_drew));exact HO_9.out)) (by decide) hg);have n2_:=Aside0.mk (blk_grown (g:=gb306) (o:=.cells #[.int .i64 ((rd_T62 l0 (rd t298 (ji25))).f0),.int .i64 ((rd_T62 l0 (rd t298 (ji25))).f1),.int .i64 ((rd_T62 l0 (rd t298 (ji25))).f2),.int .i64 ((rd_T62 l0 (rd t298 (ji25))).f3)] 62 (0,0)) (by (with_reducible repeat (first|refine blk_drewN ?_ _|refine blk_drew ?_|refine blk_alloc ?_ _));exact BK306.out) hg (Kd.S_ne HO_9.out BK306.out (by decide)));have n3_:=Aside0.mk (hb);have n4_:=Aside0.mk ((show Kd.C (Kd.int .i64) w44 (some ad301) y307.length y307 from by rw [Ny307.out];exact Kd.C_take (m:=((ji25):Int).toNat) ((Kd.R_reads' (Kd.R_over' (by (with_reducible repeat (first|apply Kd.R_alloc|apply Kd.R_drewN|apply Kd.R_drew));exact HO_8.out) (Kd.S_typed (by (with_reducible repeat (first|apply Kd.S_alloc|apply Kd.S_drewN|apply Kd.S_drew));exact HO_9.out)) (by decide) hg)).2.2) KL41.out));have n5_:=Aside0.mk (ho);clear HO_8;clear HO_37;clear BK306;clear HB;clear HR310;clear HO_9;clear HO313;have HO_8:=n0_;have HO_37:=n1_;have BK306:=n2_;have HB:=n3_;have HR310:=n4_;have HO316:=n5_;clear n0_ n1_ n2_ n3_ n4_ n5_;clear ho hb hg hat))
                     repeat (go_quiet (first|((with_reducible refine gate_dst (N:=13) rfl ?_);refine box_event ?hg (N:=13) ?hd (cs:=#[.int .i64 0,.int .i64 0,.int .i64 0,.int .i64 0]) (t:=62) ?hr ?_;(case hd=>rfl);(case hg=>rfl);(case hr=>first|(go_simp;done)|(go_simp;rfl));intro gb306 hg w37 hbox hb;have n0_:=Aside0.mk (Kd.R_below (by (with_reducible repeat (first|apply Kd.R_alloc|apply Kd.R_drewN|apply Kd.R_drew));exact HO_8.out) hb);have n1_:=Aside0.mk (Kd.S_below (by (with_reducible repeat (first|apply Kd.S_alloc|apply Kd.S_drewN|apply Kd.S_drew));exact HO_9.out) hb);have n2_:=Aside0.mk (Kd.R_below (by (with_reducible repeat (first|apply Kd.R_alloc|apply Kd.R_drewN|apply Kd.R_drew));exact HO_37.out) hb);have n3_:=Aside0.mk (below_step (by repeat (first|(with_reducible first|exact HB.out|apply below_alloc|apply pw_below_drewN|apply below_drew1)|exact HB.out)) hb);have n4_:=Aside0.mk (hbox);have n5_:=Aside0.mk ((by rw [hg];exact (below_size (by repeat (first|(with_reducible first|exact HB.out|apply below_alloc|apply pw_below_drewN|apply below_drew1)|exact HB.out))):w.heap.size≤gb306));have n6_:=Aside0.mk ((by rw [hg];exact (below_size (by repeat (first|(with_reducible first|exact HB.out|apply below_alloc|apply pw_below_drewN|apply below_drew1)|exact HB.out))):w.heap.size≤gb306));clear HO_8;clear HO_9;clear HO_37;clear HB;have HO_8:=n0_;have HO_9:=n1_;have HO_37:=n2_;have HB:=n3_;have BK306:=n4_;have GW306:=n5_;have GE306:=n6_;clear n0_ n1_ n2_ n3_ n4_ n5_ n6_;clear hb hbox hg;have hcz38_0:w37.cell? ⟨gb306,0,none⟩=some (.int .i64 0):=(blk_cell BK306.out 0).trans rfl;have hcz38_1:w37.cell? ⟨gb306,1,none⟩=some (.int .i64 0):=(blk_cell BK306.out 1).trans rfl;have hcz38_2:w37.cell? ⟨gb306,2,none⟩=some (.int .i64 0):=(blk_cell BK306.out 2).trans rfl;have hcz38_3:w37.cell? ⟨gb306,3,none⟩=some (.int .i64 0):=(blk_cell BK306.out 3).trans rfl;have hfz38_0:=blk_frozen BK306.out 0;have hfz38_1:=blk_frozen BK306.out 1;have hfz38_2:=blk_frozen BK306.out 2;have hfz38_3:=blk_frozen BK306.out 3)|((with_reducible refine gate_store (t:=62) (p:=13) rfl ?_);(try (rw [drewN_self w37];generalize hq_:World.drewN w37 _=w37;have n0_:=Aside0.mk (Kd.R_at hq_ HO_8.out);have n1_:=Aside0.mk (Kd.S_at hq_ HO_9.out);have n2_:=Aside0.mk (Kd.R_at hq_ HO_37.out);have n3_:=Aside0.mk (blk_at hq_ BK306.out);have n4_:=Aside0.mk (below_at hq_ HB.out);clear hq_ HO_8 HO_9 HO_37 BK306 HB;have HO_8:=n0_;have HO_9:=n1_;have HO_37:=n2_;have BK306:=n3_;have HB:=n4_;clear n0_ n1_ n2_ n3_ n4_));refine store_event (t:=62) (p:=13) (v:=?vo_w39) (w1:=((((w37.setCell ⟨gb306,0,none⟩ (.int .i64 ((rd_T62 l0 (rd t298 (ji25))).f0))).setCell ⟨gb306,1,none⟩ (.int .i64 ((rd_T62 l0 (rd t298 (ji25))).f1))).setCell ⟨gb306,2,none⟩ (.int .i64 ((rd_T62 l0 (rd t298 (ji25))).f2))).setCell ⟨gb306,3,none⟩ (.int .i64 ((rd_T62 l0 (rd t298 (ji25))).f3)))) ?hg ?ho ?hn ?hr ?_;(case ho=>rfl);(case hg=>rfl);(case hn=>rfl);(case hr=>first|(go_simp;done)|(go_simp;rfl));intro w39 hw;have n0_:Aside0 (Kd.R (Kd.int .i64) 3 w39 w.heap.size (fun _=>True) (.slice (some ad301) t298.length co17) t298):=⟨(by rw [hw];exact (by (with_reducible repeat (first|apply Kd.R_alloc|apply Kd.R_drewN|apply Kd.R_drew));exact Kd.R_mono (Kd.R_far (p:=⟨gb306,3,none⟩) (Kd.R_far (p:=⟨gb306,2,none⟩) (Kd.R_far (p:=⟨gb306,1,none⟩) (Kd.R_far (p:=⟨gb306,0,none⟩) (Kd.R_types HO_8.out BK306.out (by decide)) (fun _ hk=>hk.2) (.int .i64 ((rd_T62 l0 (rd t298 (ji25))).f0))) (fun _ hk=>hk.2) (.int .i64 ((rd_T62 l0 (rd t298 (ji25))).f1))) (fun _ hk=>hk.2) (.int .i64 ((rd_T62 l0 (rd t298 (ji25))).f2))) (fun _ hk=>hk.2) (.int .i64 ((rd_T62 l0 (rd t298 (ji25))).f3))) (fun _ hk=>trivial)))⟩;have n1_:Aside0 (Kd.S k68 68 w39 w.heap.size (fun k_=>some k_≠(.slice (some ad301) t298.length co17:Value).ownBlock∧some k_≠(.slice (some ad301) t298.length co17:Value).ownBlock) u9 x9_2):=⟨(by rw [hw];exact (by (with_reducible repeat (first|apply Kd.S_alloc|apply Kd.S_drewN|apply Kd.S_drew));exact Kd.S_mono (Kd.S_far (p:=⟨gb306,3,none⟩) (Kd.S_far (p:=⟨gb306,2,none⟩) (Kd.S_far (p:=⟨gb306,1,none⟩) (Kd.S_far (p:=⟨gb306,0,none⟩) (Kd.S_types HO_9.out BK306.out (by decide)) (fun _ hk=>hk.2) (.int .i64 ((rd_T62 l0 (rd t298 (ji25))).f0))) (fun _ hk=>hk.2) (.int .i64 ((rd_T62 l0 (rd t298 (ji25))).f1))) (fun _ hk=>hk.2) (.int .i64 ((rd_T62 l0 (rd t298 (ji25))).f2))) (fun _ hk=>hk.2) (.int .i64 ((rd_T62 l0 (rd t298 (ji25))).f3))) (fun _ hk=>⟨hk.1.1,hk.1.2⟩)))⟩;have n2_:Aside0 (Kd.R (Kd.int .i64) 3 w39 w.heap.size (fun _=>True) (.slice (some ad301) t298.length co17) t298):=⟨(by rw [hw];exact (by (with_reducible repeat (first|apply Kd.R_alloc|apply Kd.R_drewN|apply Kd.R_drew));exact Kd.R_mono (Kd.R_far (p:=⟨gb306,3,none⟩) (Kd.R_far (p:=⟨gb306,2,none⟩) (Kd.R_far (p:=⟨gb306,1,none⟩) (Kd.R_far (p:=⟨gb306,0,none⟩) (Kd.R_types HO_37.out BK306.out (by decide)) (fun _ hk=>hk.2) (.int .i64 ((rd_T62 l0 (rd t298 (ji25))).f0))) (fun _ hk=>hk.2) (.int .i64 ((rd_T62 l0 (rd t298 (ji25))).f1))) (fun _ hk=>hk.2) (.int .i64 ((rd_T62 l0 (rd t298 (ji25))).f2))) (fun _ hk=>hk.2) (.int .i64 ((rd_T62 l0 (rd t298 (ji25))).f3))) (fun _ hk=>trivial)))⟩;have n3_:Aside0 (w39.heap[gb306]?=some (.cells #[.int .i64 ((rd_T62 l0 (rd t298 (ji25))).f0),.int .i64 ((rd_T62 l0 (rd t298 (ji25))).f1),.int .i64 ((rd_T62 l0 (rd t298 (ji25))).f2),.int .i64 ((rd_T62 l0 (rd t298 (ji25))).f3)] 62 (0,0))):=⟨(by rw [hw];exact (by (with_reducible repeat (first|refine blk_drewN ?_ _|refine blk_drew ?_|refine blk_alloc ?_ _));refine blk_put (cs:=#[.int .i64 ((rd_T62 l0 (rd t298 (ji25))).f0),.int .i64 ((rd_T62 l0 (rd t298 (ji25))).f1),.int .i64 ((rd_T62 l0 (rd t298 (ji25))).f2),.int .i64 0]) ?_ 3 _ rfl;(with_reducible repeat (first|refine blk_drewN ?_ _|refine blk_drew ?_|refine blk_alloc ?_ _));refine blk_put (cs:=#[.int .i64 ((rd_T62 l0 (rd t298 (ji25))).f0),.int .i64 ((rd_T62 l0 (rd t298 (ji25))).f1),.int .i64 0,.int .i64 0]) ?_ 2 _ rfl;(with_reducible repeat (first|refine blk_drewN ?_ _|refine blk_drew ?_|refine blk_alloc ?_ _));refine blk_put (cs:=#[.int .i64 ((rd_T62 l0 (rd t298 (ji25))).f0),.int .i64 0,.int .i64 0,.int .i64 0]) ?_ 1 _ rfl;(with_reducible repeat (first|refine blk_drewN ?_ _|refine blk_drew ?_|refine blk_alloc ?_ _));refine blk_put (cs:=#[.int .i64 0,.int .i64 0,.int .i64 0,.int .i64 0]) ?_ 0 _ rfl;(with_reducible repeat (first|refine blk_drewN ?_ _|refine blk_drew ?_|refine blk_alloc ?_ _));exact BK306.out))⟩;have n4_:Aside0 (Below w.heap.size w w39):=⟨(by rw [hw];exact (by repeat (first|(with_reducible first|exact HB.out|apply below_alloc|apply pw_below_drewN|apply below_drew1|refine below_set ?_ GE306.out)|exact HB.out)))⟩;clear hw;clear HO_8;clear HO_9;clear HO_37;clear BK306;clear HB;have HO_8:=n0_;have HO_9:=n1_;have HO_37:=n2_;have BK306:=n3_;have HB:=n4_;clear n0_ n1_ n2_ n3_ n4_;have hcz40_0:w39.cell? ⟨gb306,0,none⟩=some (.int .i64 ((rd_T62 l0 (rd t298 (ji25))).f0)):=(blk_cell BK306.out 0).trans rfl;have hcz40_1:w39.cell? ⟨gb306,1,none⟩=some (.int .i64 ((rd_T62 l0 (rd t298 (ji25))).f1)):=(blk_cell BK306.out 1).trans rfl;have hcz40_2:w39.cell? ⟨gb306,2,none⟩=some (.int .i64 ((rd_T62 l0 (rd t298 (ji25))).f2)):=(blk_cell BK306.out 2).trans rfl;have hcz40_3:w39.cell? ⟨gb306,3,none⟩=some (.int .i64 ((rd_T62 l0 (rd t298 (ji25))).f3)):=(blk_cell BK306.out 3).trans rfl;have hfz40_0:=blk_frozen BK306.out 0;have hfz40_1:=blk_frozen BK306.out 1;have hfz40_2:=blk_frozen BK306.out 2;have hfz40_3:=blk_frozen BK306.out 3;have q41:((ji25):Int)≤((t298.length:Int):Int):=of_decide_eq_true (by first|(with_reducible assumption)|assumption);obtain ⟨i041,hi041,_,hsz41,_⟩:=info_parts info3;have hroom41:t298.length≤co17:=(Kd.R_reads' HO_8.out).2.1;have hC41:Kd.C (Kd.int .i64) _ (some ad301) t298.length t298:=(Kd.R_reads' HO_8.out).2.2;have hcut41:=cut_to (P:=Try.prog) 41 3 .i64 Try.underlying41 hi041 (some ad301) t298.length co17 (ji25) (of_decide_eq_true (by first|(with_reducible assumption)|assumption)) q41 hroom41;have hr41:=Kd.C_take (m:=((ji25):Int).toNat) hC41 (by omega);have hy41:y307.length=((ji25):Int).toNat:=(by rw [Ny307.out,List.length_take];omega);rw [←Ny307.out] at hr41;rw [←hy41] at hcut41;have HR310:=Aside0.mk hr41;have HC310:=Aside0.mk (show y307.length≤co17 from by omega);clear hr41 hC41 hroom41 hi041 hsz41;have KY41:=Aside0.mk hy41;clear hy41;have KL41:=Aside0.mk (show ((ji25):Int).toNat≤t298.length from by omega);replace q41:=eq_true q41)|(go_at_call 54;(with_reducible refine (impl_ascending.calls k2 _ _ y307 t311 _ ?side1 ?side2 A35.out).mono ?_);(case side1=>repeat (first|exact (by repeat (first|(with_reducible exact HR310.out)|(with_reducible refine Kd.C_alloc ?_ _)|(with_reducible refine Kd.C_drewN ?_ _)|(with_reducible refine Kd.C_drew ?_)|exact HR310.out))|(with_reducible refine Kd.C_alloc ?_ _)|(with_reducible refine Kd.C_drewN ?_ _)|(with_reducible refine Kd.C_drew ?_)));(case side2=>exact HC310.out);rintro e w42 ⟨v312,rfl,ho0,hb⟩;have n0_:=Aside0.mk (Kd.R_elder' (by (with_reducible repeat (first|apply Kd.R_alloc|apply Kd.R_drewN|apply Kd.R_drew));exact HO_8.out) (Kd.R_base ho0) hb);have n1_:=Aside0.mk (Kd.S_elder' (by (with_reducible repeat (first|apply Kd.S_alloc|apply Kd.S_drewN|apply Kd.S_drew));exact HO_9.out) (Kd.R_base ho0) hb);have n2_:=Aside0.mk (Kd.R_elder' (by (with_reducible repeat (first|apply Kd.R_alloc|apply Kd.R_drewN|apply Kd.R_drew));exact HO_37.out) (Kd.R_base ho0) hb);have n3_:=Aside0.mk (Kd.R_lower (Kd.R_new' (Kd.R_new' ho0 (Kd.R_lt (by (with_reducible repeat (first|apply Kd.R_alloc|apply Kd.R_drewN|apply Kd.R_drew));exact HO_8.out))) (Kd.R_lt (by (with_reducible repeat (first|apply Kd.R_alloc|apply Kd.R_drewN|apply Kd.R_drew));exact HO_37.out))) (below_size (by repeat (first|(with_reducible first|exact HB.out|apply below_alloc|apply pw_below_drewN|apply below_drew1|refine below_set ?_ GE306.out)|exact HB.out))));have n4_:=Aside0.mk (blk_below (g:=gb306) (o:=.cells #[.int .i64 ((rd_T62 l0 (rd t298 (ji25))).f0),.int .i64 ((rd_T62 l0 (rd t298 (ji25))).f1),.int .i64 ((rd_T62 l0 (rd t298 (ji25))).f2),.int .i64 ((rd_T62 l0 (rd t298 (ji25))).f3)] 62 (0,0)) (by (with_reducible repeat (first|refine blk_drewN ?_ _|refine blk_drew ?_|refine blk_alloc ?_ _));exact BK306.out) hb);have n5_:=Aside0.mk (Kd.C_below (by repeat (first|(with_reducible exact HR310.out)|(with_reducible refine Kd.C_alloc ?_ _)|(with_reducible refine Kd.C_drewN ?_ _)|(with_reducible refine Kd.C_drew ?_)|exact HR310.out)) hb);have n6_:=Aside0.mk (below_step (by repeat (first|(with_reducible first|exact HB.out|apply below_alloc|apply pw_below_drewN|apply below_drew1|refine below_set ?_ GE306.out)|exact HB.out)) hb);clear HO_8;clear HO_9;clear HO_37;clear BK306;clear HR310;clear HB;have HO_8:=n0_;have HO_9:=n1_;have HO_37:=n2_;have HO313:=n3_;have BK306:=n4_;have HR310:=n5_;have HB:=n6_;clear n0_ n1_ n2_ n3_ n4_ n5_ n6_;(try clear hb);(try clear hb2);(try clear hk);(try clear hi);(try clear ho0);obtain ⟨Ao43,co43,eo43⟩:=Kd.R_slice HO313.out;subst eo43)|((with_reducible refine gate_builtin (b:=.append) (xs:=#[.tmp 81,.tmp 89]) rfl ?_);at_builtin;refine Kd.S_append k68 (w0:=w) w.heap.size rfl (.tmp 81) (.tmp 89) 31 68 (.agg #[(.slice none 0 0),(.int .i64 0)]) 32 rfl Try.underlying31 info68 rfl (by decide) (by omega) u9 x9_2 (⟨t311,wrap64 ((wrap64 ((wrap64 (Int.tdiv x5_1 ((rd_T62 l0 (rd t298 x39_2)).f0))) * ((rd_T62 l0 (rd t298 x39_2)).f1))) - (wrap64 ((wrap64 (Int.tdiv x5_1 ((rd_T62 l0 (rd t298 (ji25))).f0))) * ((rd_T62 l0 (rd t298 (ji25))).f1))))⟩:S68) [.slice Ao43 t311.length co43,.int .i64 (wrap64 ((wrap64 ((wrap64 (Int.tdiv x5_1 ((rd_T62 l0 (rd t298 x39_2)).f0))) * ((rd_T62 l0 (rd t298 x39_2)).f1))) - (wrap64 ((wrap64 (Int.tdiv x5_1 ((rd_T62 l0 (rd t298 (ji25))).f0))) * ((rd_T62 l0 (rd t298 (ji25))).f1)))))] (fun k_=>some k_≠(.slice (some ad301) t298.length co17:Value).ownBlock∧some k_≠(.slice (some ad301) t298.length co17:Value).ownBlock) (fun k_=>some k_=(.slice Ao43 t311.length co43:Value).ownBlock) rfl rfl ?aP (fun k_ hk_=>((Kd.R_mono (ok':=fun k_=>((fun k_=>some k_≠(.slice (some ad301) t298.length co17:Value).ownBlock∧some k_≠(.slice (some ad301) t298.length co17:Value).ownBlock)) k_∧some k_≠(u9:Value).ownBlock) (Kd.R_apart' (HO313.out) (Kd.S_typed HO_9.out) (by decide)) (fun k_ hk=>⟨⟨hk.1.1.2,hk.1.2⟩,hk.2⟩))).1 k_ hk_.symm) ?aF ?aO ?aB ?aS ?aL ?_;(case aP=>exact k68_mkM _ _ _ (⟨t311,wrap64 ((wrap64 ((wrap64 (Int.tdiv x5_1 ((rd_T62 l0 (rd t298 x39_2)).f0))) * ((rd_T62 l0 (rd t298 x39_2)).f1))) - (wrap64 ((wrap64 (Int.tdiv x5_1 ((rd_T62 l0 (rd t298 (ji25))).f0))) * ((rd_T62 l0 (rd t298 (ji25))).f1))))⟩:S68) (Kd.R_mono (Kd.R_tight rfl (Kd.R_mono (ok':=fun k_=>((fun k_=>some k_≠(.slice (some ad301) t298.length co17:Value).ownBlock∧some k_≠(.slice (some ad301) t298.length co17:Value).ownBlock)) k_∧some k_≠(u9:Value).ownBlock) (Kd.R_apart' (HO313.out) (Kd.S_typed HO_9.out) (by decide)) (fun k_ hk=>⟨⟨hk.1.1.2,hk.1.2⟩,hk.2⟩))) (fun _ h_=>h_)));(case aB=>exact (by repeat (first|(with_reducible first|exact HB.out|apply below_alloc|apply pw_below_drewN|apply below_drew1|refine below_set ?_ GE306.out)|exact HB.out)));(case aF=>exact (fun k_ hk=>⟨Kd.fresh' (Kd.R_lt (by (with_reducible repeat (first|apply Kd.R_alloc|apply Kd.R_drewN|apply Kd.R_drew));exact HO_8.out)) k_ hk,Kd.fresh' (Kd.R_lt (by (with_reducible repeat (first|apply Kd.R_alloc|apply Kd.R_drewN|apply Kd.R_drew));exact HO_37.out)) k_ hk⟩));(case aO=>exact (by (with_reducible repeat (first|apply Kd.S_alloc|apply Kd.S_drewN|apply Kd.S_drew));exact Kd.S_mono HO_9.out (fun k_ hk=>⟨⟨hk.1.1,hk.1.2⟩,fun e_=>hk.2 e_⟩)));(case aS=>exact (below_size (by repeat (first|(with_reducible first|exact HB.out|apply below_alloc|apply pw_below_drewN|apply below_drew1|refine below_set ?_ GE306.out)|exact HB.out))));(case aL=>have:=LMc36.out;omega);intro v315 w44 ho hb hg hat;rw [←Ny314.out] at ho;have n0_:=Aside0.mk (Kd.R_over' (by (with_reducible repeat (first|apply Kd.R_alloc|apply Kd.R_drewN|apply Kd.R_drew));exact HO_8.out) (Kd.S_typed (by (with_reducible repeat (first|apply Kd.S_alloc|apply Kd.S_drewN|apply Kd.S_drew));exact HO_9.out)) (by decide) hg);have n1_:=Aside0.mk (Kd.R_over' (by (with_reducible repeat (first|apply Kd.R_alloc|apply Kd.R_drewN|apply Kd.R_drew));exact HO_37.out) (Kd.S_typed (by (with_reducible repeat (first|apply Kd.S_alloc|apply Kd.S_drewN|apply Kd.S_drew));exact HO_9.out)) (by decide) hg);have n2_:=Aside0.mk (blk_grown (g:=gb306) (o:=.cells #[.int .i64 ((rd_T62 l0 (rd t298 (ji25))).f0),.int .i64 ((rd_T62 l0 (rd t298 (ji25))).f1),.int .i64 ((rd_T62 l0 (rd t298 (ji25))).f2),.int .i64 ((rd_T62 l0 (rd t298 (ji25))).f3)] 62 (0,0)) (by (with_reducible repeat (first|refine blk_drewN ?_ _|refine blk_drew ?_|refine blk_alloc ?_ _));exact BK306.out) hg (Kd.S_ne HO_9.out BK306.out (by decide)));have n3_:=Aside0.mk (hb);have n4_:=Aside0.mk ((show Kd.C (Kd.int .i64) w44 (some ad301) y307.length y307 from by rw [Ny307.out];exact Kd.C_take (m:=((ji25):Int).toNat) ((Kd.R_reads' (Kd.R_over' (by (with_reducible repeat (first|apply Kd.R_alloc|apply Kd.R_drewN|apply Kd.R_drew));exact HO_8.out) (Kd.S_typed (by (with_reducible repeat (first|apply Kd.S_alloc|apply Kd.S_drewN|apply Kd.S_drew));exact HO_9.out)) (by decide) hg)).2.2) KL41.out));have n5_:=Aside0.mk (ho);clear HO_8;clear HO_37;clear BK306;clear HB;clear HR310;clear HO_9;clear HO313;have HO_8:=n0_;have HO_37:=n1_;have BK306:=n2_;have HB:=n3_;have HR310:=n4_;have HO316:=n5_;clear n0_ n1_ n2_ n3_ n4_ n5_;clear ho hb hg hat));try go_wp2_with (first|((with_reducible refine gate_dst (N:=13) rfl ?_);refine box_event ?hg (N:=13) ?hd (cs:=#[.int .i64 0,.int .i64 0,.int .i64 0,.int .i64 0]) (t:=62) ?hr ?_;(case hd=>rfl);(case hg=>rfl);(case hr=>first|(go_simp;done)|(go_simp;rfl));intro gb306 hg w37 hbox hb;have n0_:=Aside0.mk (Kd.R_below (by (with_reducible repeat (first|apply Kd.R_alloc|apply Kd.R_drewN|apply Kd.R_drew));exact HO_8.out) hb);have n1_:=Aside0.mk (Kd.S_below (by (with_reducible repeat (first|apply Kd.S_alloc|apply Kd.S_drewN|apply Kd.S_drew));exact HO_9.out) hb);have n2_:=Aside0.mk (Kd.R_below (by (with_reducible repeat (first|apply Kd.R_alloc|apply Kd.R_drewN|apply Kd.R_drew));exact HO_37.out) hb);have n3_:=Aside0.mk (below_step (by repeat (first|(with_reducible first|exact HB.out|apply below_alloc|apply pw_below_drewN|apply below_drew1)|exact HB.out)) hb);have n4_:=Aside0.mk (hbox);have n5_:=Aside0.mk ((by rw [hg];exact (below_size (by repeat (first|(with_reducible first|exact HB.out|apply below_alloc|apply pw_below_drewN|apply below_drew1)|exact HB.out))):w.heap.size≤gb306));have n6_:=Aside0.mk ((by rw [hg];exact (below_size (by repeat (first|(with_reducible first|exact HB.out|apply below_alloc|apply pw_below_drewN|apply below_drew1)|exact HB.out))):w.heap.size≤gb306));clear HO_8;clear HO_9;clear HO_37;clear HB;have HO_8:=n0_;have HO_9:=n1_;have HO_37:=n2_;have HB:=n3_;have BK306:=n4_;have GW306:=n5_;have GE306:=n6_;clear n0_ n1_ n2_ n3_ n4_ n5_ n6_;clear hb hbox hg;have hcz38_0:w37.cell? ⟨gb306,0,none⟩=some (.int .i64 0):=(blk_cell BK306.out 0).trans rfl;have hcz38_1:w37.cell? ⟨gb306,1,none⟩=some (.int .i64 0):=(blk_cell BK306.out 1).trans rfl;have hcz38_2:w37.cell? ⟨gb306,2,none⟩=some (.int .i64 0):=(blk_cell BK306.out 2).trans rfl;have hcz38_3:w37.cell? ⟨gb306,3,none⟩=some (.int .i64 0):=(blk_cell BK306.out 3).trans rfl;have hfz38_0:=blk_frozen BK306.out 0;have hfz38_1:=blk_frozen BK306.out 1;have hfz38_2:=blk_frozen BK306.out 2;have hfz38_3:=blk_frozen BK306.out 3)|((with_reducible refine gate_store (t:=62) (p:=13) rfl ?_);(try (rw [drewN_self w37];generalize hq_:World.drewN w37 _=w37;have n0_:=Aside0.mk (Kd.R_at hq_ HO_8.out);have n1_:=Aside0.mk (Kd.S_at hq_ HO_9.out);have n2_:=Aside0.mk (Kd.R_at hq_ HO_37.out);have n3_:=Aside0.mk (blk_at hq_ BK306.out);have n4_:=Aside0.mk (below_at hq_ HB.out);clear hq_ HO_8 HO_9 HO_37 BK306 HB;have HO_8:=n0_;have HO_9:=n1_;have HO_37:=n2_;have BK306:=n3_;have HB:=n4_;clear n0_ n1_ n2_ n3_ n4_));refine store_event (t:=62) (p:=13) (v:=?vo_w39) (w1:=((((w37.setCell ⟨gb306,0,none⟩ (.int .i64 ((rd_T62 l0 (rd t298 (ji25))).f0))).setCell ⟨gb306,1,none⟩ (.int .i64 ((rd_T62 l0 (rd t298 (ji25))).f1))).setCell ⟨gb306,2,none⟩ (.int .i64 ((rd_T62 l0 (rd t298 (ji25))).f2))).setCell ⟨gb306,3,none⟩ (.int .i64 ((rd_T62 l0 (rd t298 (ji25))).f3)))) ?hg ?ho ?hn ?hr ?_;(case ho=>rfl);(case hg=>rfl);(case hn=>rfl);(case hr=>first|(go_simp;done)|(go_simp;rfl));intro w39 hw;have n0_:Aside0 (Kd.R (Kd.int .i64) 3 w39 w.heap.size (fun _=>True) (.slice (some ad301) t298.length co17) t298):=⟨(by rw [hw];exact (by (with_reducible repeat (first|apply Kd.R_alloc|apply Kd.R_drewN|apply Kd.R_drew));exact Kd.R_mono (Kd.R_far (p:=⟨gb306,3,none⟩) (Kd.R_far (p:=⟨gb306,2,none⟩) (Kd.R_far (p:=⟨gb306,1,none⟩) (Kd.R_far (p:=⟨gb306,0,none⟩) (Kd.R_types HO_8.out BK306.out (by decide)) (fun _ hk=>hk.2) (.int .i64 ((rd_T62 l0 (rd t298 (ji25))).f0))) (fun _ hk=>hk.2) (.int .i64 ((rd_T62 l0 (rd t298 (ji25))).f1))) (fun _ hk=>hk.2) (.int .i64 ((rd_T62 l0 (rd t298 (ji25))).f2))) (fun _ hk=>hk.2) (.int .i64 ((rd_T62 l0 (rd t298 (ji25))).f3))) (fun _ hk=>trivial)))⟩;have n1_:Aside0 (Kd.S k68 68 w39 w.heap.size (fun k_=>some k_≠(.slice (some ad301) t298.length co17:Value).ownBlock∧some k_≠(.slice (some ad301) t298.length co17:Value).ownBlock) u9 x9_2):=⟨(by rw [hw];exact (by (with_reducible repeat (first|apply Kd.S_alloc|apply Kd.S_drewN|apply Kd.S_drew));exact Kd.S_mono (Kd.S_far (p:=⟨gb306,3,none⟩) (Kd.S_far (p:=⟨gb306,2,none⟩) (Kd.S_far (p:=⟨gb306,1,none⟩) (Kd.S_far (p:=⟨gb306,0,none⟩) (Kd.S_types HO_9.out BK306.out (by decide)) (fun _ hk=>hk.2) (.int .i64 ((rd_T62 l0 (rd t298 (ji25))).f0))) (fun _ hk=>hk.2) (.int .i64 ((rd_T62 l0 (rd t298 (ji25))).f1))) (fun _ hk=>hk.2) (.int .i64 ((rd_T62 l0 (rd t298 (ji25))).f2))) (fun _ hk=>hk.2) (.int .i64 ((rd_T62 l0 (rd t298 (ji25))).f3))) (fun _ hk=>⟨hk.1.1,hk.1.2⟩)))⟩;have n2_:Aside0 (Kd.R (Kd.int .i64) 3 w39 w.heap.size (fun _=>True) (.slice (some ad301) t298.length co17) t298):=⟨(by rw [hw];exact (by (with_reducible repeat (first|apply Kd.R_alloc|apply Kd.R_drewN|apply Kd.R_drew));exact Kd.R_mono (Kd.R_far (p:=⟨gb306,3,none⟩) (Kd.R_far (p:=⟨gb306,2,none⟩) (Kd.R_far (p:=⟨gb306,1,none⟩) (Kd.R_far (p:=⟨gb306,0,none⟩) (Kd.R_types HO_37.out BK306.out (by decide)) (fun _ hk=>hk.2) (.int .i64 ((rd_T62 l0 (rd t298 (ji25))).f0))) (fun _ hk=>hk.2) (.int .i64 ((rd_T62 l0 (rd t298 (ji25))).f1))) (fun _ hk=>hk.2) (.int .i64 ((rd_T62 l0 (rd t298 (ji25))).f2))) (fun _ hk=>hk.2) (.int .i64 ((rd_T62 l0 (rd t298 (ji25))).f3))) (fun _ hk=>trivial)))⟩;have n3_:Aside0 (w39.heap[gb306]?=some (.cells #[.int .i64 ((rd_T62 l0 (rd t298 (ji25))).f0),.int .i64 ((rd_T62 l0 (rd t298 (ji25))).f1),.int .i64 ((rd_T62 l0 (rd t298 (ji25))).f2),.int .i64 ((rd_T62 l0 (rd t298 (ji25))).f3)] 62 (0,0))):=⟨(by rw [hw];exact (by (with_reducible repeat (first|refine blk_drewN ?_ _|refine blk_drew ?_|refine blk_alloc ?_ _));refine blk_put (cs:=#[.int .i64 ((rd_T62 l0 (rd t298 (ji25))).f0),.int .i64 ((rd_T62 l0 (rd t298 (ji25))).f1),.int .i64 ((rd_T62 l0 (rd t298 (ji25))).f2),.int .i64 0]) ?_ 3 _ rfl;(with_reducible repeat (first|refine blk_drewN ?_ _|refine blk_drew ?_|refine blk_alloc ?_ _));refine blk_put (cs:=#[.int .i64 ((rd_T62 l0 (rd t298 (ji25))).f0),.int .i64 ((rd_T62 l0 (rd t298 (ji25))).f1),.int .i64 0,.int .i64 0]) ?_ 2 _ rfl;(with_reducible repeat (first|refine blk_drewN ?_ _|refine blk_drew ?_|refine blk_alloc ?_ _));refine blk_put (cs:=#[.int .i64 ((rd_T62 l0 (rd t298 (ji25))).f0),.int .i64 0,.int .i64 0,.int .i64 0]) ?_ 1 _ rfl;(with_reducible repeat (first|refine blk_drewN ?_ _|refine blk_drew ?_|refine blk_alloc ?_ _));refine blk_put (cs:=#[.int .i64 0,.int .i64 0,.int .i64 0,.int .i64 0]) ?_ 0 _ rfl;(with_reducible repeat (first|refine blk_drewN ?_ _|refine blk_drew ?_|refine blk_alloc ?_ _));exact BK306.out))⟩;have n4_:Aside0 (Below w.heap.size w w39):=⟨(by rw [hw];exact (by repeat (first|(with_reducible first|exact HB.out|apply below_alloc|apply pw_below_drewN|apply below_drew1|refine below_set ?_ GE306.out)|exact HB.out)))⟩;clear hw;clear HO_8;clear HO_9;clear HO_37;clear BK306;clear HB;have HO_8:=n0_;have HO_9:=n1_;have HO_37:=n2_;have BK306:=n3_;have HB:=n4_;clear n0_ n1_ n2_ n3_ n4_;have hcz40_0:w39.cell? ⟨gb306,0,none⟩=some (.int .i64 ((rd_T62 l0 (rd t298 (ji25))).f0)):=(blk_cell BK306.out 0).trans rfl;have hcz40_1:w39.cell? ⟨gb306,1,none⟩=some (.int .i64 ((rd_T62 l0 (rd t298 (ji25))).f1)):=(blk_cell BK306.out 1).trans rfl;have hcz40_2:w39.cell? ⟨gb306,2,none⟩=some (.int .i64 ((rd_T62 l0 (rd t298 (ji25))).f2)):=(blk_cell BK306.out 2).trans rfl;have hcz40_3:w39.cell? ⟨gb306,3,none⟩=some (.int .i64 ((rd_T62 l0 (rd t298 (ji25))).f3)):=(blk_cell BK306.out 3).trans rfl;have hfz40_0:=blk_frozen BK306.out 0;have hfz40_1:=blk_frozen BK306.out 1;have hfz40_2:=blk_frozen BK306.out 2;have hfz40_3:=blk_frozen BK306.out 3;have q41:((ji25):Int)≤((t298.length:Int):Int):=of_decide_eq_true (by first|(with_reducible assumption)|assumption);obtain ⟨i041,hi041,_,hsz41,_⟩:=info_parts info3;have hroom41:t298.length≤co17:=(Kd.R_reads' HO_8.out).2.1;have hC41:Kd.C (Kd.int .i64) _ (some ad301) t298.length t298:=(Kd.R_reads' HO_8.out).2.2;have hcut41:=cut_to (P:=Try.prog) 41 3 .i64 Try.underlying41 hi041 (some ad301) t298.length co17 (ji25) (of_decide_eq_true (by first|(with_reducible assumption)|assumption)) q41 hroom41;have hr41:=Kd.C_take (m:=((ji25):Int).toNat) hC41 (by omega);have hy41:y307.length=((ji25):Int).toNat:=(by rw [Ny307.out,List.length_take];omega);rw [←Ny307.out] at hr41;rw [←hy41] at hcut41;have HR310:=Aside0.mk hr41;have HC310:=Aside0.mk (show y307.length≤co17 from by omega);clear hr41 hC41 hroom41 hi041 hsz41;have KY41:=Aside0.mk hy41;clear hy41;have KL41:=Aside0.mk (show ((ji25):Int).toNat≤t298.length from by omega);replace q41:=eq_true q41)|(go_at_call 54;(with_reducible refine (impl_ascending.calls k2 _ _ y307 t311 _ ?side1 ?side2 A35.out).mono ?_);(case side1=>repeat (first|exact (by repeat (first|(with_reducible exact HR310.out)|(with_reducible refine Kd.C_alloc ?_ _)|(with_reducible refine Kd.C_drewN ?_ _)|(with_reducible refine Kd.C_drew ?_)|exact HR310.out))|(with_reducible refine Kd.C_alloc ?_ _)|(with_reducible refine Kd.C_drewN ?_ _)|(with_reducible refine Kd.C_drew ?_)));(case side2=>exact HC310.out);rintro e w42 ⟨v312,rfl,ho0,hb⟩;have n0_:=Aside0.mk (Kd.R_elder' (by (with_reducible repeat (first|apply Kd.R_alloc|apply Kd.R_drewN|apply Kd.R_drew));exact HO_8.out) (Kd.R_base ho0) hb);have n1_:=Aside0.mk (Kd.S_elder' (by (with_reducible repeat (first|apply Kd.S_alloc|apply Kd.S_drewN|apply Kd.S_drew));exact HO_9.out) (Kd.R_base ho0) hb);have n2_:=Aside0.mk (Kd.R_elder' (by (with_reducible repeat (first|apply Kd.R_alloc|apply Kd.R_drewN|apply Kd.R_drew));exact HO_37.out) (Kd.R_base ho0) hb);have n3_:=Aside0.mk (Kd.R_lower (Kd.R_new' (Kd.R_new' ho0 (Kd.R_lt (by (with_reducible repeat (first|apply Kd.R_alloc|apply Kd.R_drewN|apply Kd.R_drew));exact HO_8.out))) (Kd.R_lt (by (with_reducible repeat (first|apply Kd.R_alloc|apply Kd.R_drewN|apply Kd.R_drew));exact HO_37.out))) (below_size (by repeat (first|(with_reducible first|exact HB.out|apply below_alloc|apply pw_below_drewN|apply below_drew1|refine below_set ?_ GE306.out)|exact HB.out))));have n4_:=Aside0.mk (blk_below (g:=gb306) (o:=.cells #[.int .i64 ((rd_T62 l0 (rd t298 (ji25))).f0),.int .i64 ((rd_T62 l0 (rd t298 (ji25))).f1),.int .i64 ((rd_T62 l0 (rd t298 (ji25))).f2),.int .i64 ((rd_T62 l0 (rd t298 (ji25))).f3)] 62 (0,0)) (by (with_reducible repeat (first|refine blk_drewN ?_ _|refine blk_drew ?_|refine blk_alloc ?_ _));exact BK306.out) hb);have n5_:=Aside0.mk (Kd.C_below (by repeat (first|(with_reducible exact HR310.out)|(with_reducible refine Kd.C_alloc ?_ _)|(with_reducible refine Kd.C_drewN ?_ _)|(with_reducible refine Kd.C_drew ?_)|exact HR310.out)) hb);have n6_:=Aside0.mk (below_step (by repeat (first|(with_reducible first|exact HB.out|apply below_alloc|apply pw_below_drewN|apply below_drew1|refine below_set ?_ GE306.out)|exact HB.out)) hb);clear HO_8;clear HO_9;clear HO_37;clear BK306;clear HR310;clear HB;have HO_8:=n0_;have HO_9:=n1_;have HO_37:=n2_;have HO313:=n3_;have BK306:=n4_;have HR310:=n5_;have HB:=n6_;clear n0_ n1_ n2_ n3_ n4_ n5_ n6_;(try clear hb);(try clear hb2);(try clear hk);(try clear hi);(try clear ho0);obtain ⟨Ao43,co43,eo43⟩:=Kd.R_slice HO313.out;subst eo43)|((with_reducible refine gate_builtin (b:=.append) (xs:=#[.tmp 81,.tmp 89]) rfl ?_);at_builtin;refine Kd.S_append k68 (w0:=w) w.heap.size rfl (.tmp 81) (.tmp 89) 31 68 (.agg #[(.slice none 0 0),(.int .i64 0)]) 32 rfl Try.underlying31 info68 rfl (by decide) (by omega) u9 x9_2 (⟨t311,wrap64 ((wrap64 ((wrap64 (Int.tdiv x5_1 ((rd_T62 l0 (rd t298 x39_2)).f0))) * ((rd_T62 l0 (rd t298 x39_2)).f1))) - (wrap64 ((wrap64 (Int.tdiv x5_1 ((rd_T62 l0 (rd t298 (ji25))).f0))) * ((rd_T62 l0 (rd t298 (ji25))).f1))))⟩:S68) [.slice Ao43 t311.length co43,.int .i64 (wrap64 ((wrap64 ((wrap64 (Int.tdiv x5_1 ((rd_T62 l0 (rd t298 x39_2)).f0))) * ((rd_T62 l0 (rd t298 x39_2)).f1))) - (wrap64 ((wrap64 (Int.tdiv x5_1 ((rd_T62 l0 (rd t298 (ji25))).f0))) * ((rd_T62 l0 (rd t298 (ji25))).f1)))))] (fun k_=>some k_≠(.slice (some ad301) t298.length co17:Value).ownBlock∧some k_≠(.slice (some ad301) t298.length co17:Value).ownBlock) (fun k_=>some k_=(.slice Ao43 t311.length co43:Value).ownBlock) rfl rfl ?aP (fun k_ hk_=>((Kd.R_mono (ok':=fun k_=>((fun k_=>some k_≠(.slice (some ad301) t298.length co17:Value).ownBlock∧some k_≠(.slice (some ad301) t298.length co17:Value).ownBlock)) k_∧some k_≠(u9:Value).ownBlock) (Kd.R_apart' (HO313.out) (Kd.S_typed HO_9.out) (by decide)) (fun k_ hk=>⟨⟨hk.1.1.2,hk.1.2⟩,hk.2⟩))).1 k_ hk_.symm) ?aF ?aO ?aB ?aS ?aL ?_;(case aP=>exact k68_mkM _ _ _ (⟨t311,wrap64 ((wrap64 ((wrap64 (Int.tdiv x5_1 ((rd_T62 l0 (rd t298 x39_2)).f0))) * ((rd_T62 l0 (rd t298 x39_2)).f1))) - (wrap64 ((wrap64 (Int.tdiv x5_1 ((rd_T62 l0 (rd t298 (ji25))).f0))) * ((rd_T62 l0 (rd t298 (ji25))).f1))))⟩:S68) (Kd.R_mono (Kd.R_tight rfl (Kd.R_mono (ok':=fun k_=>((fun k_=>some k_≠(.slice (some ad301) t298.length co17:Value).ownBlock∧some k_≠(.slice (some ad301) t298.length co17:Value).ownBlock)) k_∧some k_≠(u9:Value).ownBlock) (Kd.R_apart' (HO313.out) (Kd.S_typed HO_9.out) (by decide)) (fun k_ hk=>⟨⟨hk.1.1.2,hk.1.2⟩,hk.2⟩))) (fun _ h_=>h_)));(case aB=>exact (by repeat (first|(with_reducible first|exact HB.out|apply below_alloc|apply pw_below_drewN|apply below_drew1|refine below_set ?_ GE306.out)|exact HB.out)));(case aF=>exact (fun k_ hk=>⟨Kd.fresh' (Kd.R_lt (by (with_reducible repeat (first|apply Kd.R_alloc|apply Kd.R_drewN|apply Kd.R_drew));exact HO_8.out)) k_ hk,Kd.fresh' (Kd.R_lt (by (with_reducible repeat (first|apply Kd.R_alloc|apply Kd.R_drewN|apply Kd.R_drew));exact HO_37.out)) k_ hk⟩));(case aO=>exact (by (with_reducible repeat (first|apply Kd.S_alloc|apply Kd.S_drewN|apply Kd.S_drew));exact Kd.S_mono HO_9.out (fun k_ hk=>⟨⟨hk.1.1,hk.1.2⟩,fun e_=>hk.2 e_⟩)));(case aS=>exact (below_size (by repeat (first|(with_reducible first|exact HB.out|apply below_alloc|apply pw_below_drewN|apply below_drew1|refine below_set ?_ GE306.out)|exact HB.out))));(case aL=>have:=LMc36.out;omega);intro v315 w44 ho hb hg hat;rw [←Ny314.out] at ho;have n0_:=Aside0.mk (Kd.R_over' (by (with_reducible repeat (first|apply Kd.R_alloc|apply Kd.R_drewN|apply Kd.R_drew));exact HO_8.out) (Kd.S_typed (by (with_reducible repeat (first|apply Kd.S_alloc|apply Kd.S_drewN|apply Kd.S_drew));exact HO_9.out)) (by decide) hg);have n1_:=Aside0.mk (Kd.R_over' (by (with_reducible repeat (first|apply Kd.R_alloc|apply Kd.R_drewN|apply Kd.R_drew));exact HO_37.out) (Kd.S_typed (by (with_reducible repeat (first|apply Kd.S_alloc|apply Kd.S_drewN|apply Kd.S_drew));exact HO_9.out)) (by decide) hg);have n2_:=Aside0.mk (blk_grown (g:=gb306) (o:=.cells #[.int .i64 ((rd_T62 l0 (rd t298 (ji25))).f0),.int .i64 ((rd_T62 l0 (rd t298 (ji25))).f1),.int .i64 ((rd_T62 l0 (rd t298 (ji25))).f2),.int .i64 ((rd_T62 l0 (rd t298 (ji25))).f3)] 62 (0,0)) (by (with_reducible repeat (first|refine blk_drewN ?_ _|refine blk_drew ?_|refine blk_alloc ?_ _));exact BK306.out) hg (Kd.S_ne HO_9.out BK306.out (by decide)));have n3_:=Aside0.mk (hb);have n4_:=Aside0.mk ((show Kd.C (Kd.int .i64) w44 (some ad301) y307.length y307 from by rw [Ny307.out];exact Kd.C_take (m:=((ji25):Int).toNat) ((Kd.R_reads' (Kd.R_over' (by (with_reducible repeat (first|apply Kd.R_alloc|apply Kd.R_drewN|apply Kd.R_drew));exact HO_8.out) (Kd.S_typed (by (with_reducible repeat (first|apply Kd.S_alloc|apply Kd.S_drewN|apply Kd.S_drew));exact HO_9.out)) (by decide) hg)).2.2) KL41.out));have n5_:=Aside0.mk (ho);clear HO_8;clear HO_37;clear BK306;clear HB;clear HR310;clear HO_9;clear HO313;have HO_8:=n0_;have HO_37:=n1_;have BK306:=n2_;have HB:=n3_;have HR310:=n4_;have HO316:=n5_;clear n0_ n1_ n2_ n3_ n4_ n5_;clear ho hb hg hat)))
                     go_roundg k2
                     case measure=>have:=HK1.out;have:=HK2.out;omega
                     case rel=>exact ⟨(y314),(ji25),(by first|rfl|(simp;done)|(simp only [←hji25] <;> (first|rfl|simp))|(simp [*];done)),H',⟨by have:=HK1.out;have:=HK2.out;omega⟩,⟨by (with_reducible repeat (first|apply Kd.R_alloc|apply Kd.R_drewN|apply Kd.R_drew));exact Kd.R_mono HO_8.out (fun _ hk=>trivial)⟩,⟨by (with_reducible repeat (first|apply Kd.S_alloc|apply Kd.S_drewN|apply Kd.S_drew));exact HO316.out⟩,⟨by (with_reducible repeat (first|apply Kd.R_alloc|apply Kd.R_drewN|apply Kd.R_drew));exact Kd.R_mono HO_37.out (fun _ hk=>trivial)⟩,⟨by repeat (first|(with_reducible first|exact HB.out|apply below_alloc|apply pw_below_drewN|apply below_drew1|refine below_set ?_ GE306.out)|exact HB.out)⟩⟩
                    ·rw [if_neg c36] at H
                     exact absurd H (by simp)
                   ·rw [if_neg c34] at H
                    exact absurd H (by simp)
                ·rw [if_neg c28] at H
                 exact absurd H (by simp)
               ·rw [if_neg c27] at H
                exact absurd H (by simp)
              ·rw [if_neg c26] at H
               exact absurd H (by simp)
             ·rw [if_neg c24] at H
              have c24b0:decide ((wrap64 (x39_2 + 1))<(t298.length:Int))=false:=decide_eq_false c24
              clear c24
              by_cases c45:(wrap64 ((wrap64 (Int.tdiv x5_1 ((rd_T62 l0 (rd t298 x39_2)).f0))) * ((rd_T62 l0 (rd t298 x39_2)).f1)))=0
              ·rw [if_pos c45] at H
               have c45b0:((wrap64 ((wrap64 (Int.tdiv x5_1 ((rd_T62 l0 (rd t298 x39_2)).f0))) * ((rd_T62 l0 (rd t298 x39_2)).f1))) == 0)=true:=beq_iff_eq.mpr c45
               have c45b1:((wrap64 ((wrap64 (Int.tdiv x5_1 ((rd_T62 l0 (rd t298 x39_2)).f0))) * ((rd_T62 l0 (rd t298 x39_2)).f1))) != 0)=false:=bne_eq_false_iff_eq.mpr c45
               clear c45
               have H':=Aside0.mk H
               clear H
               have p301:0≤(x39_2:Int):=of_decide_eq_true (by first|(with_reducible assumption)|assumption)
               have q301:x39_2<(t298.length:Int):=of_decide_eq_true (by first|(with_reducible assumption)|assumption)
               obtain ⟨ad301,e301,hx301_0⟩:=Kd.at_int (Kd.R_reads' HO_37.out).2.2 x39_2 p301 q301
               cases e301
               replace p301:=eq_true p301
               replace q301:=eq_true q301
               have p302:0≤((rd t298 x39_2):Int):=of_decide_eq_true (by first|(with_reducible assumption)|assumption)
               have q302:(rd t298 x39_2)<(l0.length:Int):=of_decide_eq_true (by first|(with_reducible assumption)|assumption)
               obtain ⟨ad302,e302,hx302_0,hx302_1,hx302_2,hx302_3⟩:=at_T62 HR0.out (rd t298 x39_2) p302 q302
               cases e302
               replace hx302_0:=(HB.out.cell (World.block_lt_of_cell? w _ hx302_0)).trans hx302_0
               replace hx302_1:=(HB.out.cell (World.block_lt_of_cell? w _ hx302_1)).trans hx302_1
               replace hx302_2:=(HB.out.cell (World.block_lt_of_cell? w _ hx302_2)).trans hx302_2
               replace hx302_3:=(HB.out.cell (World.block_lt_of_cell? w _ hx302_3)).trans hx302_3
               replace p302:=eq_true p302
               replace q302:=eq_true q302
               have p303:0≤((rd t298 x39_2):Int):=of_decide_eq_true (by first|(with_reducible assumption)|assumption)
               have q303:(rd t298 x39_2)<(l0.length:Int):=of_decide_eq_true (by first|(with_reducible assumption)|assumption)
               obtain ⟨ad303,e303,hx303_0,hx303_1,hx303_2,hx303_3⟩:=at_T62 HR0.out (rd t298 x39_2) p303 q303
               obtain rfl:ad302=ad303:=(by injection e303)
               replace hx303_0:=(HB.out.cell (World.block_lt_of_cell? w _ hx303_0)).trans hx303_0
               replace hx303_1:=(HB.out.cell (World.block_lt_of_cell? w _ hx303_1)).trans hx303_1
               replace hx303_2:=(HB.out.cell (World.block_lt_of_cell? w _ hx303_2)).trans hx303_2
               replace hx303_3:=(HB.out.cell (World.block_lt_of_cell? w _ hx303_3)).trans hx303_3
               replace p303:=eq_true p303
               replace q303:=eq_true q303
               go_wp2
               repeat (go_quiet (fail);try go_wp2)
               go_roundg k2
               case measure=>have:=HK1.out;have:=HK2.out;omega
               case rel=>exact ⟨(x9_2),(wrap64 (x39_2 + 1)),(by first|rfl|(simp;done)|(simp [*];done)),H',⟨by have:=HK1.out;have:=HK2.out;omega⟩,⟨by (with_reducible repeat (first|apply Kd.R_alloc|apply Kd.R_drewN|apply Kd.R_drew));exact HO_8.out⟩,⟨by (with_reducible repeat (first|apply Kd.S_alloc|apply Kd.S_drewN|apply Kd.S_drew));exact HO_9.out⟩,⟨by (with_reducible repeat (first|apply Kd.R_alloc|apply Kd.R_drewN|apply Kd.R_drew));exact HO_37.out⟩,⟨by repeat (first|(with_reducible first|exact HB.out|apply below_alloc|apply pw_below_drewN|apply below_drew1)|exact HB.out)⟩⟩
              ·rw [if_neg c45] at H
               have c45b0:((wrap64 ((wrap64 (Int.tdiv x5_1 ((rd_T62 l0 (rd t298 x39_2)).f0))) * ((rd_T62 l0 (rd t298 x39_2)).f1))) == 0)=false:=beq_eq_false_iff_ne.mpr c45
               have c45b1:((wrap64 ((wrap64 (Int.tdiv x5_1 ((rd_T62 l0 (rd t298 x39_2)).f0))) * ((rd_T62 l0 (rd t298 x39_2)).f1))) != 0)=true:=bne_iff_ne.mpr c45
               obtain ⟨ji46,hji46⟩:∃ j_:Int,(wrap64 (x39_2 + 1))=j_:=⟨_,rfl⟩
               replace H:(if 0≤(ji46) then (if (ji46)≤(t298.length:Int) then ((impl_ascending.f k2 (t298.take ((ji46):Int).toNat)).bind fun t321=>(if x9_2.length<4398046511104 then (impl_SmithPrices.l1 k2 l0 x5_1 t298 (x9_2++[(⟨t321,wrap64 ((wrap64 (Int.tdiv x5_1 ((rd_T62 l0 (rd t298 x39_2)).f0))) * ((rd_T62 l0 (rd t298 x39_2)).f1))⟩:S68)]) t298 (t298.length:Int) ji46) else (none))) else (none)) else (none))=some (r1,r2,r3):=by first|(rw [hji46] at H;exact H)|(simp only [hji46] at H ⊢;exact H)
               (try rw [hji46] at c24b0)
               have hji46w:(IntKind.i64.wrap (x39_2 + 1))=ji46:=(i64_w _).trans hji46
               by_cases c47:0≤(ji46)
               ·rw [if_pos c47] at H
                have c47b0:=eq_true c47
                have c47b1:decide (0≤(ji46))=true:=decide_eq_true c47
                clear c47
                by_cases c48:(ji46)≤(t298.length:Int)
                ·rw [if_pos c48] at H
                 have c48b0:=eq_true c48
                 have c48b1:decide ((ji46)≤(t298.length:Int))=true:=decide_eq_true c48
                 clear c48
                 obtain ⟨y317,hy317⟩:∃ y_:List Int,y_=(t298.take ((ji46):Int).toNat):=⟨_,rfl⟩
                 replace H:((impl_ascending.f k2 y317).bind fun t321=>(if x9_2.length<4398046511104 then (impl_SmithPrices.l1 k2 l0 x5_1 t298 (x9_2++[(⟨t321,wrap64 ((wrap64 (Int.tdiv x5_1 ((rd_T62 l0 (rd t298 x39_2)).f0))) * ((rd_T62 l0 (rd t298 x39_2)).f1))⟩:S68)]) t298 (t298.length:Int) ji46) else (none)))=some (r1,r2,r3):=by first|(rw [hy317];with_reducible exact H)|(have H2_:=(Option.bind_some _ _).symm.trans H;rw [hy317];with_reducible exact H2_)|(have H2_:=(Option.bind_some _ _).symm.trans H;with_reducible exact H2_)|with_reducible exact H|(rw [hy317];exact H)|exact H
                 have Ny317:=Aside0.mk hy317
                 clear hy317
                 replace H:=Option.bind_eq_some_iff.mp H
                 obtain ⟨t321,A490,H⟩:=H
                 replace H:(if x9_2.length<4398046511104 then (impl_SmithPrices.l1 k2 l0 x5_1 t298 (x9_2++[(⟨t321,wrap64 ((wrap64 (Int.tdiv x5_1 ((rd_T62 l0 (rd t298 x39_2)).f0))) * ((rd_T62 l0 (rd t298 x39_2)).f1))⟩:S68)]) t298 (t298.length:Int) ji46) else (none))=some (r1,r2,r3):=H
                 have A49:=Aside0.mk A490
                 clear A490
                 by_cases c50:x9_2.length<4398046511104
                 ·rw [if_pos c50] at H
                  have LMc50:=Aside0.mk c50
                  clear c50
                  obtain ⟨y324,hy324⟩:∃ y_:List (S68),y_=(x9_2++[(⟨t321,wrap64 ((wrap64 (Int.tdiv x5_1 ((rd_T62 l0 (rd t298 x39_2)).f0))) * ((rd_T62 l0 (rd t298 x39_2)).f1))⟩:S68)]):=⟨_,rfl⟩
                  replace H:(impl_SmithPrices.l1 k2 l0 x5_1 t298 y324 t298 (t298.length:Int) ji46)=some (r1,r2,r3):=by first|(rw [hy324];with_reducible exact H)|(have H2_:=(Option.bind_some _ _).symm.trans H;rw [hy324];with_reducible exact H2_)|(have H2_:=(Option.bind_some _ _).symm.trans H;with_reducible exact H2_)|with_reducible exact H|(rw [hy324];exact H)|exact H
                  have Ny324:=Aside0.mk hy324
                  clear hy324
                  have H':=Aside0.mk H
                  clear H
                  have p301:0≤(x39_2:Int):=of_decide_eq_true (by first|(with_reducible assumption)|assumption)
                  have q301:x39_2<(t298.length:Int):=of_decide_eq_true (by first|(with_reducible assumption)|assumption)
                  obtain ⟨ad301,e301,hx301_0⟩:=Kd.at_int (Kd.R_reads' HO_37.out).2.2 x39_2 p301 q301
                  cases e301
                  replace p301:=eq_true p301
                  replace q301:=eq_true q301
                  have p302:0≤((rd t298 x39_2):Int):=of_decide_eq_true (by first|(with_reducible assumption)|assumption)
                  have q302:(rd t298 x39_2)<(l0.length:Int):=of_decide_eq_true (by first|(with_reducible assumption)|assumption)
                  obtain ⟨ad302,e302,hx302_0,hx302_1,hx302_2,hx302_3⟩:=at_T62 HR0.out (rd t298 x39_2) p302 q302
                  cases e302
                  replace hx302_0:=(HB.out.cell (World.block_lt_of_cell? w _ hx302_0)).trans hx302_0
                  replace hx302_1:=(HB.out.cell (World.block_lt_of_cell? w _ hx302_1)).trans hx302_1
                  replace hx302_2:=(HB.out.cell (World.block_lt_of_cell? w _ hx302_2)).trans hx302_2
                  replace hx302_3:=(HB.out.cell (World.block_lt_of_cell? w _ hx302_3)).trans hx302_3
                  replace p302:=eq_true p302
                  replace q302:=eq_true q302
                  have p303:0≤((rd t298 x39_2):Int):=of_decide_eq_true (by first|(with_reducible assumption)|assumption)
                  have q303:(rd t298 x39_2)<(l0.length:Int):=of_decide_eq_true (by first|(with_reducible assumption)|assumption)
                  obtain ⟨ad303,e303,hx303_0,hx303_1,hx303_2,hx303_3⟩:=at_T62 HR0.out (rd t298 x39_2) p303 q303
                  obtain rfl:ad302=ad303:=(by injection e303)
                  replace hx303_0:=(HB.out.cell (World.block_lt_of_cell? w _ hx303_0)).trans hx303_0
                  replace hx303_1:=(HB.out.cell (World.block_lt_of_cell? w _ hx303_1)).trans hx303_1
                  replace hx303_2:=(HB.out.cell (World.block_lt_of_cell? w _ hx303_2)).trans hx303_2
                  replace hx303_3:=(HB.out.cell (World.block_lt_of_cell? w _ hx303_3)).trans hx303_3
                  replace p303:=eq_true p303
                  replace q303:=eq_true q303
                  have q51:((ji46):Int)≤((t298.length:Int):Int):=of_decide_eq_true (by first|(with_reducible assumption)|assumption)
                  obtain ⟨i051,hi051,_,hsz51,_⟩:=info_parts info3
                  have hroom51:t298.length≤co17:=(Kd.R_reads' HO_8.out).2.1
                  have hC51:Kd.C (Kd.int .i64) _ (some ad301) t298.length t298:=(Kd.R_reads' HO_8.out).2.2
                  have hcut51:=cut_to (P:=Try.prog) 41 3 .i64 Try.underlying41 hi051 (some ad301) t298.length co17 (ji46) (of_decide_eq_true (by first|(with_reducible assumption)|assumption)) q51 hroom51
                  have hr51:=Kd.C_take (m:=((ji46):Int).toNat) hC51 (by omega)
                  have hy51:y317.length=((ji46):Int).toNat:=(by rw [Ny317.out,List.length_take];omega)
                  rw [←Ny317.out] at hr51
                  rw [←hy51] at hcut51
                  have HR320:=Aside0.mk hr51
                  have HC320:=Aside0.mk (show y317.length≤co17 from by omega)
                  clear hr51 hC51 hroom51 hi051 hsz51
                  have KY51:=Aside0.mk hy51
                  clear hy51
                  have KL51:=Aside0.mk (show ((ji46):Int).toNat≤t298.length from by omega)
                  replace q51:=eq_true q51
                  go_wp2_with (first|(go_at_call 54;(with_reducible refine (impl_ascending.calls k2 _ _ y317 t321 _ ?side1 ?side2 A49.out).mono ?_);(case side1=>repeat (first|exact (by repeat (first|(with_reducible exact HR320.out)|(with_reducible refine Kd.C_alloc ?_ _)|(with_reducible refine Kd.C_drewN ?_ _)|(with_reducible refine Kd.C_drew ?_)|exact HR320.out))|(with_reducible refine Kd.C_alloc ?_ _)|(with_reducible refine Kd.C_drewN ?_ _)|(with_reducible refine Kd.C_drew ?_)));(case side2=>exact HC320.out);rintro e w52 ⟨v322,rfl,ho0,hb⟩;have n0_:=Aside0.mk (Kd.R_elder' (by (with_reducible repeat (first|apply Kd.R_alloc|apply Kd.R_drewN|apply Kd.R_drew));exact HO_8.out) (Kd.R_base ho0) hb);have n1_:=Aside0.mk (Kd.S_elder' (by (with_reducible repeat (first|apply Kd.S_alloc|apply Kd.S_drewN|apply Kd.S_drew));exact HO_9.out) (Kd.R_base ho0) hb);have n2_:=Aside0.mk (Kd.R_elder' (by (with_reducible repeat (first|apply Kd.R_alloc|apply Kd.R_drewN|apply Kd.R_drew));exact HO_37.out) (Kd.R_base ho0) hb);have n3_:=Aside0.mk (Kd.R_lower (Kd.R_new' (Kd.R_new' ho0 (Kd.R_lt (by (with_reducible repeat (first|apply Kd.R_alloc|apply Kd.R_drewN|apply Kd.R_drew));exact HO_8.out))) (Kd.R_lt (by (with_reducible repeat (first|apply Kd.R_alloc|apply Kd.R_drewN|apply Kd.R_drew));exact HO_37.out))) (below_size (by repeat (first|(with_reducible first|exact HB.out|apply below_alloc|apply pw_below_drewN|apply below_drew1)|exact HB.out))));have n4_:=Aside0.mk (Kd.C_below (by repeat (first|(with_reducible exact HR320.out)|(with_reducible refine Kd.C_alloc ?_ _)|(with_reducible refine Kd.C_drewN ?_ _)|(with_reducible refine Kd.C_drew ?_)|exact HR320.out)) hb);have n5_:=Aside0.mk (below_step (by repeat (first|(with_reducible first|exact HB.out|apply below_alloc|apply pw_below_drewN|apply below_drew1)|exact HB.out)) hb);clear HO_8;clear HO_9;clear HO_37;clear HR320;clear HB;have HO_8:=n0_;have HO_9:=n1_;have HO_37:=n2_;have HO323:=n3_;have HR320:=n4_;have HB:=n5_;clear n0_ n1_ n2_ n3_ n4_ n5_;(try clear hb);(try clear hb2);(try clear hk);(try clear hi);(try clear ho0);obtain ⟨Ao53,co53,eo53⟩:=Kd.R_slice HO323.out;subst eo53)|((with_reducible refine gate_builtin (b:=.append) (xs:=#[.tmp 81,.tmp 89]) rfl ?_);at_builtin;refine Kd.S_append k68 (w0:=w) w.heap.size rfl (.tmp 81) (.tmp 89) 31 68 (.agg #[(.slice none 0 0),(.int .i64 0)]) 32 rfl Try.underlying31 info68 rfl (by decide) (by omega) u9 x9_2 (⟨t321,wrap64 ((wrap64 (Int.tdiv x5_1 ((rd_T62 l0 (rd t298 x39_2)).f0))) * ((rd_T62 l0 (rd t298 x39_2)).f1))⟩:S68) [.slice Ao53 t321.length co53,.int .i64 (wrap64 ((wrap64 (Int.tdiv x5_1 ((rd_T62 l0 (rd t298 x39_2)).f0))) * ((rd_T62 l0 (rd t298 x39_2)).f1)))] (fun k_=>some k_≠(.slice (some ad301) t298.length co17:Value).ownBlock∧some k_≠(.slice (some ad301) t298.length co17:Value).ownBlock) (fun k_=>some k_=(.slice Ao53 t321.length co53:Value).ownBlock) rfl rfl ?aP (fun k_ hk_=>((Kd.R_mono (ok':=fun k_=>((fun k_=>some k_≠(.slice (some ad301) t298.length co17:Value).ownBlock∧some k_≠(.slice (some ad301) t298.length co17:Value).ownBlock)) k_∧some k_≠(u9:Value).ownBlock) (Kd.R_apart' (HO323.out) (Kd.S_typed HO_9.out) (by decide)) (fun k_ hk=>⟨⟨hk.1.1.2,hk.1.2⟩,hk.2⟩))).1 k_ hk_.symm) ?aF ?aO ?aB ?aS ?aL ?_;(case aP=>exact k68_mkM _ _ _ (⟨t321,wrap64 ((wrap64 (Int.tdiv x5_1 ((rd_T62 l0 (rd t298 x39_2)).f0))) * ((rd_T62 l0 (rd t298 x39_2)).f1))⟩:S68) (Kd.R_mono (Kd.R_tight rfl (Kd.R_mono (ok':=fun k_=>((fun k_=>some k_≠(.slice (some ad301) t298.length co17:Value).ownBlock∧some k_≠(.slice (some ad301) t298.length co17:Value).ownBlock)) k_∧some k_≠(u9:Value).ownBlock) (Kd.R_apart' (HO323.out) (Kd.S_typed HO_9.out) (by decide)) (fun k_ hk=>⟨⟨hk.1.1.2,hk.1.2⟩,hk.2⟩))) (fun _ h_=>h_)));(case aB=>exact (by repeat (first|(with_reducible first|exact HB.out|apply below_alloc|apply pw_below_drewN|apply below_drew1)|exact HB.out)));(case aF=>exact (fun k_ hk=>⟨Kd.fresh' (Kd.R_lt (by (with_reducible repeat (first|apply Kd.R_alloc|apply Kd.R_drewN|apply Kd.R_drew));exact HO_8.out)) k_ hk,Kd.fresh' (Kd.R_lt (by (with_reducible repeat (first|apply Kd.R_alloc|apply Kd.R_drewN|apply Kd.R_drew));exact HO_37.out)) k_ hk⟩));(case aO=>exact (by (with_reducible repeat (first|apply Kd.S_alloc|apply Kd.S_drewN|apply Kd.S_drew));exact Kd.S_mono HO_9.out (fun k_ hk=>⟨⟨hk.1.1,hk.1.2⟩,fun e_=>hk.2 e_⟩)));(case aS=>exact (below_size (by repeat (first|(with_reducible first|exact HB.out|apply below_alloc|apply pw_below_drewN|apply below_drew1)|exact HB.out))));(case aL=>have:=LMc50.out;omega);intro v325 w54 ho hb hg hat;rw [←Ny324.out] at ho;have n0_:=Aside0.mk (Kd.R_over' (by (with_reducible repeat (first|apply Kd.R_alloc|apply Kd.R_drewN|apply Kd.R_drew));exact HO_8.out) (Kd.S_typed (by (with_reducible repeat (first|apply Kd.S_alloc|apply Kd.S_drewN|apply Kd.S_drew));exact HO_9.out)) (by decide) hg);have n1_:=Aside0.mk (Kd.R_over' (by (with_reducible repeat (first|apply Kd.R_alloc|apply Kd.R_drewN|apply Kd.R_drew));exact HO_37.out) (Kd.S_typed (by (with_reducible repeat (first|apply Kd.S_alloc|apply Kd.S_drewN|apply Kd.S_drew));exact HO_9.out)) (by decide) hg);have n2_:=Aside0.mk (hb);have n3_:=Aside0.mk ((show Kd.C (Kd.int .i64) w54 (some ad301) y317.length y317 from by rw [Ny317.out];exact Kd.C_take (m:=((ji46):Int).toNat) ((Kd.R_reads' (Kd.R_over' (by (with_reducible repeat (first|apply Kd.R_alloc|apply Kd.R_drewN|apply Kd.R_drew));exact HO_8.out) (Kd.S_typed (by (with_reducible repeat (first|apply Kd.S_alloc|apply Kd.S_drewN|apply Kd.S_drew));exact HO_9.out)) (by decide) hg)).2.2) KL51.out));have n4_:=Aside0.mk (ho);clear HO_8;clear HO_37;clear HB;clear HR320;clear HO_9;clear HO323;have HO_8:=n0_;have HO_37:=n1_;have HB:=n2_;have HR320:=n3_;have HO326:=n4_;clear n0_ n1_ n2_ n3_ n4_;clear ho hb hg hat))
                  repeat (go_quiet (first|(go_at_call 54;(with_reducible refine (impl_ascending.calls k2 _ _ y317 t321 _ ?side1 ?side2 A49.out).mono ?_);(case side1=>repeat (first|exact (by repeat (first|(with_reducible exact HR320.out)|(with_reducible refine Kd.C_alloc ?_ _)|(with_reducible refine Kd.C_drewN ?_ _)|(with_reducible refine Kd.C_drew ?_)|exact HR320.out))|(with_reducible refine Kd.C_alloc ?_ _)|(with_reducible refine Kd.C_drewN ?_ _)|(with_reducible refine Kd.C_drew ?_)));(case side2=>exact HC320.out);rintro e w52 ⟨v322,rfl,ho0,hb⟩;have n0_:=Aside0.mk (Kd.R_elder' (by (with_reducible repeat (first|apply Kd.R_alloc|apply Kd.R_drewN|apply Kd.R_drew));exact HO_8.out) (Kd.R_base ho0) hb);have n1_:=Aside0.mk (Kd.S_elder' (by (with_reducible repeat (first|apply Kd.S_alloc|apply Kd.S_drewN|apply Kd.S_drew));exact HO_9.out) (Kd.R_base ho0) hb);have n2_:=Aside0.mk (Kd.R_elder' (by (with_reducible repeat (first|apply Kd.R_alloc|apply Kd.R_drewN|apply Kd.R_drew));exact HO_37.out) (Kd.R_base ho0) hb);have n3_:=Aside0.mk (Kd.R_lower (Kd.R_new' (Kd.R_new' ho0 (Kd.R_lt (by (with_reducible repeat (first|apply Kd.R_alloc|apply Kd.R_drewN|apply Kd.R_drew));exact HO_8.out))) (Kd.R_lt (by (with_reducible repeat (first|apply Kd.R_alloc|apply Kd.R_drewN|apply Kd.R_drew));exact HO_37.out))) (below_size (by repeat (first|(with_reducible first|exact HB.out|apply below_alloc|apply pw_below_drewN|apply below_drew1)|exact HB.out))));have n4_:=Aside0.mk (Kd.C_below (by repeat (first|(with_reducible exact HR320.out)|(with_reducible refine Kd.C_alloc ?_ _)|(with_reducible refine Kd.C_drewN ?_ _)|(with_reducible refine Kd.C_drew ?_)|exact HR320.out)) hb);have n5_:=Aside0.mk (below_step (by repeat (first|(with_reducible first|exact HB.out|apply below_alloc|apply pw_below_drewN|apply below_drew1)|exact HB.out)) hb);clear HO_8;clear HO_9;clear HO_37;clear HR320;clear HB;have HO_8:=n0_;have HO_9:=n1_;have HO_37:=n2_;have HO323:=n3_;have HR320:=n4_;have HB:=n5_;clear n0_ n1_ n2_ n3_ n4_ n5_;(try clear hb);(try clear hb2);(try clear hk);(try clear hi);(try clear ho0);obtain ⟨Ao53,co53,eo53⟩:=Kd.R_slice HO323.out;subst eo53)|((with_reducible refine gate_builtin (b:=.append) (xs:=#[.tmp 81,.tmp 89]) rfl ?_);at_builtin;refine Kd.S_append k68 (w0:=w) w.heap.size rfl (.tmp 81) (.tmp 89) 31 68 (.agg #[(.slice none 0 0),(.int .i64 0)]) 32 rfl Try.underlying31 info68 rfl (by decide) (by omega) u9 x9_2 (⟨t321,wrap64 ((wrap64 (Int.tdiv x5_1 ((rd_T62 l0 (rd t298 x39_2)).f0))) * ((rd_T62 l0 (rd t298 x39_2)).f1))⟩:S68) [.slice Ao53 t321.length co53,.int .i64 (wrap64 ((wrap64 (Int.tdiv x5_1 ((rd_T62 l0 (rd t298 x39_2)).f0))) * ((rd_T62 l0 (rd t298 x39_2)).f1)))] (fun k_=>some k_≠(.slice (some ad301) t298.length co17:Value).ownBlock∧some k_≠(.slice (some ad301) t298.length co17:Value).ownBlock) (fun k_=>some k_=(.slice Ao53 t321.length co53:Value).ownBlock) rfl rfl ?aP (fun k_ hk_=>((Kd.R_mono (ok':=fun k_=>((fun k_=>some k_≠(.slice (some ad301) t298.length co17:Value).ownBlock∧some k_≠(.slice (some ad301) t298.length co17:Value).ownBlock)) k_∧some k_≠(u9:Value).ownBlock) (Kd.R_apart' (HO323.out) (Kd.S_typed HO_9.out) (by decide)) (fun k_ hk=>⟨⟨hk.1.1.2,hk.1.2⟩,hk.2⟩))).1 k_ hk_.symm) ?aF ?aO ?aB ?aS ?aL ?_;(case aP=>exact k68_mkM _ _ _ (⟨t321,wrap64 ((wrap64 (Int.tdiv x5_1 ((rd_T62 l0 (rd t298 x39_2)).f0))) * ((rd_T62 l0 (rd t298 x39_2)).f1))⟩:S68) (Kd.R_mono (Kd.R_tight rfl (Kd.R_mono (ok':=fun k_=>((fun k_=>some k_≠(.slice (some ad301) t298.length co17:Value).ownBlock∧some k_≠(.slice (some ad301) t298.length co17:Value).ownBlock)) k_∧some k_≠(u9:Value).ownBlock) (Kd.R_apart' (HO323.out) (Kd.S_typed HO_9.out) (by decide)) (fun k_ hk=>⟨⟨hk.1.1.2,hk.1.2⟩,hk.2⟩))) (fun _ h_=>h_)));(case aB=>exact (by repeat (first|(with_reducible first|exact HB.out|apply below_alloc|apply pw_below_drewN|apply below_drew1)|exact HB.out)));(case aF=>exact (fun k_ hk=>⟨Kd.fresh' (Kd.R_lt (by (with_reducible repeat (first|apply Kd.R_alloc|apply Kd.R_drewN|apply Kd.R_drew));exact HO_8.out)) k_ hk,Kd.fresh' (Kd.R_lt (by (with_reducible repeat (first|apply Kd.R_alloc|apply Kd.R_drewN|apply Kd.R_drew));exact HO_37.out)) k_ hk⟩));(case aO=>exact (by (with_reducible repeat (first|apply Kd.S_alloc|apply Kd.S_drewN|apply Kd.S_drew));exact Kd.S_mono HO_9.out (fun k_ hk=>⟨⟨hk.1.1,hk.1.2⟩,fun e_=>hk.2 e_⟩)));(case aS=>exact (below_size (by repeat (first|(with_reducible first|exact HB.out|apply below_alloc|apply pw_below_drewN|apply below_drew1)|exact HB.out))));(case aL=>have:=LMc50.out;omega);intro v325 w54 ho hb hg hat;rw [←Ny324.out] at ho;have n0_:=Aside0.mk (Kd.R_over' (by (with_reducible repeat (first|apply Kd.R_alloc|apply Kd.R_drewN|apply Kd.R_drew));exact HO_8.out) (Kd.S_typed (by (with_reducible repeat (first|apply Kd.S_alloc|apply Kd.S_drewN|apply Kd.S_drew));exact HO_9.out)) (by decide) hg);have n1_:=Aside0.mk (Kd.R_over' (by (with_reducible repeat (first|apply Kd.R_alloc|apply Kd.R_drewN|apply Kd.R_drew));exact HO_37.out) (Kd.S_typed (by (with_reducible repeat (first|apply Kd.S_alloc|apply Kd.S_drewN|apply Kd.S_drew));exact HO_9.out)) (by decide) hg);have n2_:=Aside0.mk (hb);have n3_:=Aside0.mk ((show Kd.C (Kd.int .i64) w54 (some ad301) y317.length y317 from by rw [Ny317.out];exact Kd.C_take (m:=((ji46):Int).toNat) ((Kd.R_reads' (Kd.R_over' (by (with_reducible repeat (first|apply Kd.R_alloc|apply Kd.R_drewN|apply Kd.R_drew));exact HO_8.out) (Kd.S_typed (by (with_reducible repeat (first|apply Kd.S_alloc|apply Kd.S_drewN|apply Kd.S_drew));exact HO_9.out)) (by decide) hg)).2.2) KL51.out));have n4_:=Aside0.mk (ho);clear HO_8;clear HO_37;clear HB;clear HR320;clear HO_9;clear HO323;have HO_8:=n0_;have HO_37:=n1_;have HB:=n2_;have HR320:=n3_;have HO326:=n4_;clear n0_ n1_ n2_ n3_ n4_;clear ho hb hg hat));try go_wp2_with (first|(go_at_call 54;(with_reducible refine (impl_ascending.calls k2 _ _ y317 t321 _ ?side1 ?side2 A49.out).mono ?_);(case side1=>repeat (first|exact (by repeat (first|(with_reducible exact HR320.out)|(with_reducible refine Kd.C_alloc ?_ _)|(with_reducible refine Kd.C_drewN ?_ _)|(with_reducible refine Kd.C_drew ?_)|exact HR320.out))|(with_reducible refine Kd.C_alloc ?_ _)|(with_reducible refine Kd.C_drewN ?_ _)|(with_reducible refine Kd.C_drew ?_)));(case side2=>exact HC320.out);rintro e w52 ⟨v322,rfl,ho0,hb⟩;have n0_:=Aside0.mk (Kd.R_elder' (by (with_reducible repeat (first|apply Kd.R_alloc|apply Kd.R_drewN|apply Kd.R_drew));exact HO_8.out) (Kd.R_base ho0) hb);have n1_:=Aside0.mk (Kd.S_elder' (by (with_reducible repeat (first|apply Kd.S_alloc|apply Kd.S_drewN|apply Kd.S_drew));exact HO_9.out) (Kd.R_base ho0) hb);have n2_:=Aside0.mk (Kd.R_elder' (by (with_reducible repeat (first|apply Kd.R_alloc|apply Kd.R_drewN|apply Kd.R_drew));exact HO_37.out) (Kd.R_base ho0) hb);have n3_:=Aside0.mk (Kd.R_lower (Kd.R_new' (Kd.R_new' ho0 (Kd.R_lt (by (with_reducible repeat (first|apply Kd.R_alloc|apply Kd.R_drewN|apply Kd.R_drew));exact HO_8.out))) (Kd.R_lt (by (with_reducible repeat (first|apply Kd.R_alloc|apply Kd.R_drewN|apply Kd.R_drew));exact HO_37.out))) (below_size (by repeat (first|(with_reducible first|exact HB.out|apply below_alloc|apply pw_below_drewN|apply below_drew1)|exact HB.out))));have n4_:=Aside0.mk (Kd.C_below (by repeat (first|(with_reducible exact HR320.out)|(with_reducible refine Kd.C_alloc ?_ _)|(with_reducible refine Kd.C_drewN ?_ _)|(with_reducible refine Kd.C_drew ?_)|exact HR320.out)) hb);have n5_:=Aside0.mk (below_step (by repeat (first|(with_reducible first|exact HB.out|apply below_alloc|apply pw_below_drewN|apply below_drew1)|exact HB.out)) hb);clear HO_8;clear HO_9;clear HO_37;clear HR320;clear HB;have HO_8:=n0_;have HO_9:=n1_;have HO_37:=n2_;have HO323:=n3_;have HR320:=n4_;have HB:=n5_;clear n0_ n1_ n2_ n3_ n4_ n5_;(try clear hb);(try clear hb2);(try clear hk);(try clear hi);(try clear ho0);obtain ⟨Ao53,co53,eo53⟩:=Kd.R_slice HO323.out;subst eo53)|((with_reducible refine gate_builtin (b:=.append) (xs:=#[.tmp 81,.tmp 89]) rfl ?_);at_builtin;refine Kd.S_append k68 (w0:=w) w.heap.size rfl (.tmp 81) (.tmp 89) 31 68 (.agg #[(.slice none 0 0),(.int .i64 0)]) 32 rfl Try.underlying31 info68 rfl (by decide) (by omega) u9 x9_2 (⟨t321,wrap64 ((wrap64 (Int.tdiv x5_1 ((rd_T62 l0 (rd t298 x39_2)).f0))) * ((rd_T62 l0 (rd t298 x39_2)).f1))⟩:S68) [.slice Ao53 t321.length co53,.int .i64 (wrap64 ((wrap64 (Int.tdiv x5_1 ((rd_T62 l0 (rd t298 x39_2)).f0))) * ((rd_T62 l0 (rd t298 x39_2)).f1)))] (fun k_=>some k_≠(.slice (some ad301) t298.length co17:Value).ownBlock∧some k_≠(.slice (some ad301) t298.length co17:Value).ownBlock) (fun k_=>some k_=(.slice Ao53 t321.length co53:Value).ownBlock) rfl rfl ?aP (fun k_ hk_=>((Kd.R_mono (ok':=fun k_=>((fun k_=>some k_≠(.slice (some ad301) t298.length co17:Value).ownBlock∧some k_≠(.slice (some ad301) t298.length co17:Value).ownBlock)) k_∧some k_≠(u9:Value).ownBlock) (Kd.R_apart' (HO323.out) (Kd.S_typed HO_9.out) (by decide)) (fun k_ hk=>⟨⟨hk.1.1.2,hk.1.2⟩,hk.2⟩))).1 k_ hk_.symm) ?aF ?aO ?aB ?aS ?aL ?_;(case aP=>exact k68_mkM _ _ _ (⟨t321,wrap64 ((wrap64 (Int.tdiv x5_1 ((rd_T62 l0 (rd t298 x39_2)).f0))) * ((rd_T62 l0 (rd t298 x39_2)).f1))⟩:S68) (Kd.R_mono (Kd.R_tight rfl (Kd.R_mono (ok':=fun k_=>((fun k_=>some k_≠(.slice (some ad301) t298.length co17:Value).ownBlock∧some k_≠(.slice (some ad301) t298.length co17:Value).ownBlock)) k_∧some k_≠(u9:Value).ownBlock) (Kd.R_apart' (HO323.out) (Kd.S_typed HO_9.out) (by decide)) (fun k_ hk=>⟨⟨hk.1.1.2,hk.1.2⟩,hk.2⟩))) (fun _ h_=>h_)));(case aB=>exact (by repeat (first|(with_reducible first|exact HB.out|apply below_alloc|apply pw_below_drewN|apply below_drew1)|exact HB.out)));(case aF=>exact (fun k_ hk=>⟨Kd.fresh' (Kd.R_lt (by (with_reducible repeat (first|apply Kd.R_alloc|apply Kd.R_drewN|apply Kd.R_drew));exact HO_8.out)) k_ hk,Kd.fresh' (Kd.R_lt (by (with_reducible repeat (first|apply Kd.R_alloc|apply Kd.R_drewN|apply Kd.R_drew));exact HO_37.out)) k_ hk⟩));(case aO=>exact (by (with_reducible repeat (first|apply Kd.S_alloc|apply Kd.S_drewN|apply Kd.S_drew));exact Kd.S_mono HO_9.out (fun k_ hk=>⟨⟨hk.1.1,hk.1.2⟩,fun e_=>hk.2 e_⟩)));(case aS=>exact (below_size (by repeat (first|(with_reducible first|exact HB.out|apply below_alloc|apply pw_below_drewN|apply below_drew1)|exact HB.out))));(case aL=>have:=LMc50.out;omega);intro v325 w54 ho hb hg hat;rw [←Ny324.out] at ho;have n0_:=Aside0.mk (Kd.R_over' (by (with_reducible repeat (first|apply Kd.R_alloc|apply Kd.R_drewN|apply Kd.R_drew));exact HO_8.out) (Kd.S_typed (by (with_reducible repeat (first|apply Kd.S_alloc|apply Kd.S_drewN|apply Kd.S_drew));exact HO_9.out)) (by decide) hg);have n1_:=Aside0.mk (Kd.R_over' (by (with_reducible repeat (first|apply Kd.R_alloc|apply Kd.R_drewN|apply Kd.R_drew));exact HO_37.out) (Kd.S_typed (by (with_reducible repeat (first|apply Kd.S_alloc|apply Kd.S_drewN|apply Kd.S_drew));exact HO_9.out)) (by decide) hg);have n2_:=Aside0.mk (hb);have n3_:=Aside0.mk ((show Kd.C (Kd.int .i64) w54 (some ad301) y317.length y317 from by rw [Ny317.out];exact Kd.C_take (m:=((ji46):Int).toNat) ((Kd.R_reads' (Kd.R_over' (by (with_reducible repeat (first|apply Kd.R_alloc|apply Kd.R_drewN|apply Kd.R_drew));exact HO_8.out) (Kd.S_typed (by (with_reducible repeat (first|apply Kd.S_alloc|apply Kd.S_drewN|apply Kd.S_drew));exact HO_9.out)) (by decide) hg)).2.2) KL51.out));have n4_:=Aside0.mk (ho);clear HO_8;clear HO_37;clear HB;clear HR320;clear HO_9;clear HO323;have HO_8:=n0_;have HO_37:=n1_;have HB:=n2_;have HR320:=n3_;have HO326:=n4_;clear n0_ n1_ n2_ n3_ n4_;clear ho hb hg hat)))
                  go_roundg k2
                  case measure=>have:=HK1.out;have:=HK2.out;omega
                  case rel=>exact ⟨(y324),(ji46),(by first|rfl|(simp;done)|(simp only [←hji46] <;> (first|rfl|simp))|(simp [*];done)),H',⟨by have:=HK1.out;have:=HK2.out;omega⟩,⟨by (with_reducible repeat (first|apply Kd.R_alloc|apply Kd.R_drewN|apply Kd.R_drew));exact Kd.R_mono HO_8.out (fun _ hk=>trivial)⟩,⟨by (with_reducible repeat (first|apply Kd.S_alloc|apply Kd.S_drewN|apply Kd.S_drew));exact HO326.out⟩,⟨by (with_reducible repeat (first|apply Kd.R_alloc|apply Kd.R_drewN|apply Kd.R_drew));exact Kd.R_mono HO_37.out (fun _ hk=>trivial)⟩,⟨by repeat (first|(with_reducible first|exact HB.out|apply below_alloc|apply pw_below_drewN|apply below_drew1)|exact HB.out)⟩⟩
                 ·rw [if_neg c50] at H
                  exact absurd H (by simp)
                ·rw [if_neg c48] at H
                 exact absurd H (by simp)
               ·rw [if_neg c47] at H
                exact absurd H (by simp)
           ·rw [if_neg c22] at H
            exact absurd H (by simp)
          ·rw [if_neg c21] at H
           exact absurd H (by simp)
         ·rw [if_neg c20] at H
          exact absurd H (by simp)
        ·rw [if_neg c19] at H
         exact absurd H (by simp)
       ·rw [if_neg c18] at H
        have c18b0:decide (x39_2<(t298.length:Int))=false:=decide_eq_false c18
        clear c18
        simp only [Option.some.injEq,Prod.mk.injEq] at H
        obtain ⟨rfl,rfl,rfl⟩:=H
        go_wp2
        repeat (go_quiet (fail);try go_wp2)
        go_ret3
        exact ⟨_,by first|rfl|(simp [errW_none,errW_some] <;> rfl)|(simp [*,errW_none,errW_some] <;> rfl),by (with_reducible repeat (first|apply Kd.S_alloc|apply Kd.S_drewN|apply Kd.S_drew));exact Kd.S_mono HO_9.out (fun _ hk=>trivial),by repeat (first|(with_reducible first|exact HB.out|apply below_alloc|apply pw_below_drewN|apply below_drew1)|exact HB.out)⟩
 ·replace c3:=Bool.eq_false_iff.mpr c3
  subst c3
  have H1:(some (([]:List (S68)),0,false))=some (r1,r2,r3):=by rw [if_neg (show ¬ (false=true) by decide)] at H;exact H
  clear H
  have H:=H1
  clear H1
  simp only [Option.some.injEq,Prod.mk.injEq] at H
  obtain ⟨rfl,rfl,rfl⟩:=H
  go_enter Try.func19,Try.ntmps19
  go_wp2_with (first|(go_at_call 51;(with_reducible refine (impl_IsPlain.calls k _ _ l0 false _ ?side1 ?side2 A2.out).mono ?_);(case side1=>repeat (first|exact HR0.out|(with_reducible refine Kd.C_alloc ?_ _)|(with_reducible refine Kd.C_drewN ?_ _)|(with_reducible refine Kd.C_drew ?_)));(case side2=>exact HC0.out);rintro e w55 ⟨rfl,hb⟩;have n0_:=Aside0.mk (below_step (by repeat (first|(with_reducible first|exact HB.out|apply below_alloc|apply pw_below_drewN|apply below_drew1)|exact HB.out)) hb);clear HB;have HB:=n0_;clear n0_;(try clear hb);(try clear hb2);(try clear hk);(try clear hi)))
  repeat (go_quiet (first|(go_at_call 51;(with_reducible refine (impl_IsPlain.calls k _ _ l0 false _ ?side1 ?side2 A2.out).mono ?_);(case side1=>repeat (first|exact HR0.out|(with_reducible refine Kd.C_alloc ?_ _)|(with_reducible refine Kd.C_drewN ?_ _)|(with_reducible refine Kd.C_drew ?_)));(case side2=>exact HC0.out);rintro e w55 ⟨rfl,hb⟩;have n0_:=Aside0.mk (below_step (by repeat (first|(with_reducible first|exact HB.out|apply below_alloc|apply pw_below_drewN|apply below_drew1)|exact HB.out)) hb);clear HB;have HB:=n0_;clear n0_;(try clear hb);(try clear hb2);(try clear hk);(try clear hi)));try go_wp2_with (first|(go_at_call 51;(with_reducible refine (impl_IsPlain.calls k _ _ l0 false _ ?side1 ?side2 A2.out).mono ?_);(case side1=>repeat (first|exact HR0.out|(with_reducible refine Kd.C_alloc ?_ _)|(with_reducible refine Kd.C_drewN ?_ _)|(with_reducible refine Kd.C_drew ?_)));(case side2=>exact HC0.out);rintro e w55 ⟨rfl,hb⟩;have n0_:=Aside0.mk (below_step (by repeat (first|(with_reducible first|exact HB.out|apply below_alloc|apply pw_below_drewN|apply below_drew1)|exact HB.out)) hb);clear HB;have HB:=n0_;clear n0_;(try clear hb);(try clear hb2);(try clear hk);(try clear hi))))
  go_ret3
  exact ⟨_,by first|rfl|(simp [errW_none,errW_some] <;> rfl)|(simp [*,errW_none,errW_some] <;> rfl),by first|exact Kd.S_nil _ _ _ _ _|exact Kd.N_nil _ _ _ _ _|exact Kd.V_nil _ _ _ _ _|exact Kd.Q_nil _ _ _ _ _|exact Kd.R_nil _ _ _ _ _,by repeat (first|(with_reducible first|exact HB.out|apply below_alloc|apply pw_below_drewN|apply below_drew1)|exact HB.out)⟩

/-! ### laws_eqIntS: function 27 -/
def laws_eqIntS.l0:Nat→List Int→List Int→Int→Option (Bool)
 | 0,_,_,_=>none
 | k + 1,x0,x1,x5=>if x5<(x0.length:Int) then (if 0≤x5 then (if x5<(x1.length:Int) then (if (rd x0 x5)=(rd x1 x5) then (laws_eqIntS.l0 k x0 x1 (wrap64 (x5 + 1))) else (some false)) else (none)) else (none)) else (some true)
def laws_eqIntS.f (k:Nat) (l0:List Int) (l1:List Int):Option (Bool):=if (l0.length:Int)=(l1.length:Int) then (laws_eqIntS.l0 k l0 l1 0) else (some false)
theorem laws_eqIntS.mono_l:∀ k,(∀ y0 y1 y2,LeO (laws_eqIntS.l0 k y0 y1 y2) (laws_eqIntS.l0 (k + 1) y0 y1 y2))
 | 0=>fun _ _ _ r h=>by simp [laws_eqIntS.l0] at h
 | k + 1=>by
  have ih0:=laws_eqIntS.mono_l k
  ·intro y0 y1 y2
   unfold laws_eqIntS.l0
   repeat' first
   | (with_reducible exact ih0 _ _ _)
   | (with_reducible exact LeO.refl _)
   | (with_reducible exact LeO.none _)
   | (with_reducible refine LeO.ite ?_ ?_)
   | (with_reducible refine LeO.bind ?_ (fun _=>?_))
   | exact ih0 _ _ _
   | exact LeO.none _
   | refine LeO.ite ?_ ?_
   | refine LeO.bind ?_ (fun _=>?_)
theorem laws_eqIntS.mono:∀ a0 a1 k,LeO (laws_eqIntS.f k a0 a1) (laws_eqIntS.f (k + 1) a0 a1):=by
 intro a0 a1 k
 have ih0:=laws_eqIntS.mono_l k
 unfold laws_eqIntS.f
 repeat' first
   | (with_reducible exact ih0 _ _ _)
   | (with_reducible exact LeO.refl _)
   | (with_reducible exact LeO.none _)
   | (with_reducible refine LeO.ite ?_ ?_)
   | (with_reducible refine LeO.bind ?_ (fun _=>?_))
   | exact ih0 _ _ _
   | exact LeO.none _
   | refine LeO.ite ?_ ?_
   | refine LeO.bind ?_ (fun _=>?_)
set_option maxHeartbeats 8000000 in
set_option maxRecDepth 100000 in
theorem laws_eqIntS.calls (k:Nat) (A0:Option Addr) (c0:Nat) (l0:List Int) (A1:Option Addr) (c1:Nat) (l1:List Int) (r:Bool) (w:World) (hr0:Kd.C (Kd.int .i64) w A0 l0.length l0) (hc0:l0.length≤c0) (hr1:Kd.C (Kd.int .i64) w A1 l1.length l1) (hc1:l1.length≤c1) (h:laws_eqIntS.f k l0 l1=some r) :
  Calls Try.prog 27 #[.slice A0 l0.length c0,.slice A1 l1.length c1] w fun e w'=>e=.returned (.bool r)∧Drawn0 w w':=by
 have HR0:=Aside0.mk hr0
 have HC0:=Aside0.mk hc0
 clear hr0 hc0
 have HR1:=Aside0.mk hr1
 have HC1:=Aside0.mk hc1
 clear hr1 hc1
 have H:(if (l0.length:Int)=(l1.length:Int) then (laws_eqIntS.l0 k l0 l1 0) else (some false))=some r:=h
 clear h
 by_cases c3:(l0.length:Int)=(l1.length:Int)
 ·rw [if_pos c3] at H
  have c3b0:((l0.length:Int) == (l1.length:Int))=true:=beq_iff_eq.mpr c3
  have c3b1:((l0.length:Int) != (l1.length:Int))=false:=bne_eq_false_iff_eq.mpr c3
  have c3b2:(l0.length == l1.length)=true:=by first|simpa using c3|(simp at c3 ⊢;omega)
  clear c3
  have H':=Aside0.mk H
  clear H
  go_enter Try.func27,Try.ntmps27
  go_wp2
  repeat (go_quiet (fail);try go_wp2)
  go_loopg [5] k (fun kq v5 w'=>∃ (x5_1:Int),v5=.int .i64 x5_1∧Aside0 (laws_eqIntS.l0 kq l0 l1 x5_1=some r)∧Aside0 (kq≤k)∧Drawn0 w w')
  case atStart=>exact ⟨(0),(by first|rfl|(simp;done)|(simp [*];done)),H',⟨Nat.le_refl _⟩,by repeat (first|exact Drawn0.refl _|apply Drawn0.step)⟩
  case round=>
   clear H'
   try clear c1
   try clear c2
   try clear p2
   try clear c3
   try clear c3b0
   try clear c3b1
   try clear c3b2
   obtain ⟨x5_1,rfl,HA,HK1,⟨m1,rfl⟩⟩:=hrel
   cases gk with
   | zero=>exact absurd HA.out (by simp [laws_eqIntS.l0])
   | succ k1=>
    have H:=HA.out
    clear HA
    simp only [laws_eqIntS.l0] at H
    by_cases c4:x5_1<(l0.length:Int)
    ·rw [if_pos c4] at H
     have c4b0:decide (x5_1<(l0.length:Int))=true:=decide_eq_true c4
     clear c4
     by_cases c5:0≤x5_1
     ·rw [if_pos c5] at H
      have c5b0:decide (0≤x5_1)=true:=decide_eq_true c5
      clear c5
      by_cases c6:x5_1<(l1.length:Int)
      ·rw [if_pos c6] at H
       have c6b0:decide (x5_1<(l1.length:Int))=true:=decide_eq_true c6
       clear c6
       by_cases c7:(rd l0 x5_1)=(rd l1 x5_1)
       ·rw [if_pos c7] at H
        have c7b0:((rd l0 x5_1) == (rd l1 x5_1))=true:=beq_iff_eq.mpr c7
        have c7b1:((rd l0 x5_1) != (rd l1 x5_1))=false:=bne_eq_false_iff_eq.mpr c7
        clear c7
        have H':=Aside0.mk H
        clear H
        have p327:0≤(x5_1:Int):=of_decide_eq_true (by first|(with_reducible assumption)|assumption)
        have q327:x5_1<(l0.length:Int):=of_decide_eq_true (by first|(with_reducible assumption)|assumption)
        obtain ⟨ad327,e327,hx327_0⟩:=Kd.at_int HR0.out x5_1 p327 q327
        cases e327
        replace p327:=eq_true p327
        replace q327:=eq_true q327
        have p328:0≤(x5_1:Int):=of_decide_eq_true (by first|(with_reducible assumption)|assumption)
        have q328:x5_1<(l1.length:Int):=of_decide_eq_true (by first|(with_reducible assumption)|assumption)
        obtain ⟨ad328,e328,hx328_0⟩:=Kd.at_int HR1.out x5_1 p328 q328
        cases e328
        replace p328:=eq_true p328
        replace q328:=eq_true q328
        go_wp2
        repeat (go_quiet (fail);try go_wp2)
        go_roundg k1
        case measure=>have:=HK1.out;omega
        case rel=>exact ⟨(wrap64 (x5_1 + 1)),(by first|rfl|(simp;done)|(simp [*];done)),H',⟨by have:=HK1.out;omega⟩,by repeat (first|exact Drawn0.refl _|apply Drawn0.step)⟩
       ·rw [if_neg c7] at H
        have c7b0:((rd l0 x5_1) == (rd l1 x5_1))=false:=beq_eq_false_iff_ne.mpr c7
        have c7b1:((rd l0 x5_1) != (rd l1 x5_1))=true:=bne_iff_ne.mpr c7
        obtain rfl:=Option.some.inj H
        have p327:0≤(x5_1:Int):=of_decide_eq_true (by first|(with_reducible assumption)|assumption)
        have q327:x5_1<(l0.length:Int):=of_decide_eq_true (by first|(with_reducible assumption)|assumption)
        obtain ⟨ad327,e327,hx327_0⟩:=Kd.at_int HR0.out x5_1 p327 q327
        cases e327
        replace p327:=eq_true p327
        replace q327:=eq_true q327
        have p328:0≤(x5_1:Int):=of_decide_eq_true (by first|(with_reducible assumption)|assumption)
        have q328:x5_1<(l1.length:Int):=of_decide_eq_true (by first|(with_reducible assumption)|assumption)
        obtain ⟨ad328,e328,hx328_0⟩:=Kd.at_int HR1.out x5_1 p328 q328
        cases e328
        replace p328:=eq_true p328
        replace q328:=eq_true q328
        go_wp2
        repeat (go_quiet (fail);try go_wp2)
        go_ret
        exact ⟨by first|rfl|(simp;done)|(simp [*];done),by repeat (first|exact Drawn0.refl _|apply Drawn0.step)⟩
      ·rw [if_neg c6] at H
       exact absurd H (by simp)
     ·rw [if_neg c5] at H
      exact absurd H (by simp)
    ·rw [if_neg c4] at H
     have c4b0:decide (x5_1<(l0.length:Int))=false:=decide_eq_false c4
     clear c4
     obtain rfl:=Option.some.inj H
     go_wp2
     repeat (go_quiet (fail);try go_wp2)
     go_ret
     exact ⟨by first|rfl|(simp;done)|(simp [*];done),by repeat (first|exact Drawn0.refl _|apply Drawn0.step)⟩
 ·rw [if_neg c3] at H
  have c3b0:((l0.length:Int) == (l1.length:Int))=false:=beq_eq_false_iff_ne.mpr c3
  have c3b1:((l0.length:Int) != (l1.length:Int))=true:=bne_iff_ne.mpr c3
  have c3b2:(l0.length == l1.length)=false:=by first|simpa using c3|(simp at c3 ⊢;omega)
  obtain rfl:=Option.some.inj H
  go_enter Try.func27,Try.ntmps27
  go_wp2
  repeat (go_quiet (fail);try go_wp2)
  go_ret
  exact ⟨by first|rfl|(simp;done)|(simp [*];done),by repeat (first|exact Drawn0.refl _|apply Drawn0.step)⟩

/-! ### laws_eqSetPrice: function 55 -/
def laws_eqSetPrice.f (k:Nat) (l0_0:List Int) (a0_1:Int) (l1_0:List Int) (a1_1:Int):Option (Bool):=(laws_eqIntS.f k l0_0 l1_0).bind fun t331=>(if t331=true then (if a0_1=a1_1 then (some true) else (some false)) else (some false))
theorem laws_eqSetPrice.mono:∀ a0 a1 a2 a3 k,LeO (laws_eqSetPrice.f k a0 a1 a2 a3) (laws_eqSetPrice.f (k + 1) a0 a1 a2 a3):=by
 intro a0 a1 a2 a3 k
 unfold laws_eqSetPrice.f
 repeat' first
   | (with_reducible exact laws_eqIntS.mono _ _ _)
   | (with_reducible exact LeO.refl _)
   | (with_reducible exact LeO.none _)
   | (with_reducible refine LeO.ite ?_ ?_)
   | (with_reducible refine LeO.bind ?_ (fun _=>?_))
   | exact laws_eqIntS.mono _ _ _
   | exact LeO.none _
   | refine LeO.ite ?_ ?_
   | refine LeO.bind ?_ (fun _=>?_)
set_option maxHeartbeats 8000000 in
set_option maxRecDepth 100000 in
theorem laws_eqSetPrice.calls (k:Nat) (A0_0:Option Addr) (c0_0:Nat) (l0_0:List Int) (a0_1:Int) (A1_0:Option Addr) (c1_0:Nat) (l1_0:List Int) (a1_1:Int) (r:Bool) (w:World) (hr0_0:Kd.C (Kd.int .i64) w A0_0 l0_0.length l0_0) (hc0_0:l0_0.length≤c0_0) (hr1_0:Kd.C (Kd.int .i64) w A1_0 l1_0.length l1_0) (hc1_0:l1_0.length≤c1_0) (h:laws_eqSetPrice.f k l0_0 a0_1 l1_0 a1_1=some r) :
  Calls Try.prog 55 #[.agg #[.slice A0_0 l0_0.length c0_0,.int .i64 a0_1],.agg #[.slice A1_0 l1_0.length c1_0,.int .i64 a1_1]] w fun e w'=>e=.returned (.bool r)∧Below w.heap.size w w':=by
 have hu68:=Try.underlying68
 have HR0_0:=Aside0.mk hr0_0
 have HC0_0:=Aside0.mk hc0_0
 clear hr0_0 hc0_0
 have HR1_0:=Aside0.mk hr1_0
 have HC1_0:=Aside0.mk hc1_0
 clear hr1_0 hc1_0
 have HB:=Aside0.mk (Below.refl w.heap.size w)
 have H:((laws_eqIntS.f k l0_0 l1_0).bind fun t331=>(if t331=true then (if a0_1=a1_1 then (some true) else (some false)) else (some false)))=some r:=h
 clear h
 replace H:=Option.bind_eq_some_iff.mp H
 obtain ⟨t331,A30,H⟩:=H
 replace H:(if t331=true then (if a0_1=a1_1 then (some true) else (some false)) else (some false))=some r:=H
 have A3:=Aside0.mk A30
 clear A30
 by_cases c4:t331=true
 ·subst c4
  have H1:(if a0_1=a1_1 then (some true) else (some false))=some r:=by rw [if_pos rfl] at H;exact H
  clear H
  have H:=H1
  clear H1
  by_cases c5:a0_1=a1_1
  ·rw [if_pos c5] at H
   have c5b0:(a0_1 == a1_1)=true:=beq_iff_eq.mpr c5
   have c5b1:(a0_1 != a1_1)=false:=bne_eq_false_iff_eq.mpr c5
   clear c5
   obtain rfl:=Option.some.inj H
   go_enter Try.func55,Try.ntmps55
   go_wp2_with (first|((with_reducible refine gate_dst (N:=2) rfl ?_);refine box_event ?hg (N:=2) ?hd (cs:=#[.slice A0_0 l0_0.length c0_0,.int .i64 a0_1]) (t:=68) ?hr ?_;(case hd=>rfl);(case hg=>rfl);(case hr=>first|(go_simp;done)|(go_simp;rfl));intro gb329 hg w6 hbox hb;have n0_:=Aside0.mk (below_step (by repeat (first|(with_reducible first|exact HB.out|apply below_alloc|apply pw_below_drewN|apply below_drew1)|exact HB.out)) hb);have n1_:=Aside0.mk (hbox);have n2_:=Aside0.mk ((by rw [hg];exact (below_size (by repeat (first|(with_reducible first|exact HB.out|apply below_alloc|apply pw_below_drewN|apply below_drew1)|exact HB.out))):w.heap.size≤gb329));have n3_:=Aside0.mk ((by rw [hg];exact (below_size (by repeat (first|(with_reducible first|exact HB.out|apply below_alloc|apply pw_below_drewN|apply below_drew1)|exact HB.out))):w.heap.size≤gb329));clear HB;have HB:=n0_;have BK329:=n1_;have GW329:=n2_;have GE329:=n3_;clear n0_ n1_ n2_ n3_;clear hb hbox hg)|((with_reducible refine gate_dst (N:=3) rfl ?_);refine box_event ?hg (N:=3) ?hd (cs:=#[.slice A1_0 l1_0.length c1_0,.int .i64 a1_1]) (t:=68) ?hr ?_;(case hd=>rfl);(case hg=>rfl);(case hr=>first|(go_simp;done)|(go_simp;rfl));intro gb330 hg w7 hbox hb;have n0_:=Aside0.mk (blk_below (g:=gb329) (o:=.cells #[.slice A0_0 l0_0.length c0_0,.int .i64 a0_1] 68 (0,0)) (by (with_reducible repeat (first|refine blk_drewN ?_ _|refine blk_drew ?_|refine blk_alloc ?_ _));exact BK329.out) hb);have n1_:=Aside0.mk (below_step (by repeat (first|(with_reducible first|exact HB.out|apply below_alloc|apply pw_below_drewN|apply below_drew1|refine below_set ?_ GE329.out)|exact HB.out)) hb);have n2_:=Aside0.mk (hbox);have n3_:=Aside0.mk ((by rw [hg];exact (below_size (by repeat (first|(with_reducible first|exact HB.out|apply below_alloc|apply pw_below_drewN|apply below_drew1|refine below_set ?_ GE329.out)|exact HB.out))):w.heap.size≤gb330));have n4_:=Aside0.mk ((by rw [hg];exact (below_size (by repeat (first|(with_reducible first|exact HB.out|apply below_alloc|apply pw_below_drewN|apply below_drew1|refine below_set ?_ GE329.out)|exact HB.out))):w.heap.size≤gb330));have n5_:=Aside0.mk ((by rw [hg];exact Nat.ne_of_lt (blk_lt (g:=gb329) (o:=.cells #[.slice A0_0 l0_0.length c0_0,.int .i64 a0_1] 68 (0,0)) (by (with_reducible repeat (first|refine blk_drewN ?_ _|refine blk_drew ?_|refine blk_alloc ?_ _));exact BK329.out)):gb329≠gb330));have n6_:=Aside0.mk ((by rw [hg];exact Nat.ne_of_gt (blk_lt (g:=gb329) (o:=.cells #[.slice A0_0 l0_0.length c0_0,.int .i64 a0_1] 68 (0,0)) (by (with_reducible repeat (first|refine blk_drewN ?_ _|refine blk_drew ?_|refine blk_alloc ?_ _));exact BK329.out)):gb330≠gb329));clear BK329;clear HB;have BK329:=n0_;have HB:=n1_;have BK330:=n2_;have GW330:=n3_;have GE330:=n4_;have NB329_330:=n5_;have NB330_329:=n6_;clear n0_ n1_ n2_ n3_ n4_ n5_ n6_;clear hb hbox hg;have hnb8:=NB329_330.out;have hnc8:=NB330_329.out;have hcz9_0:w7.cell? ⟨gb329,0,none⟩=some (.slice A0_0 l0_0.length c0_0):=(blk_cell BK329.out 0).trans rfl;have hcz9_1:w7.cell? ⟨gb329,1,none⟩=some (.int .i64 a0_1):=(blk_cell BK329.out 1).trans rfl;have hfz9_0:=blk_frozen BK329.out 0;have hfz9_1:=blk_frozen BK329.out 1;have hcz10_0:w7.cell? ⟨gb330,0,none⟩=some (.slice A1_0 l1_0.length c1_0):=(blk_cell BK330.out 0).trans rfl;have hcz10_1:w7.cell? ⟨gb330,1,none⟩=some (.int .i64 a1_1):=(blk_cell BK330.out 1).trans rfl;have hfz10_0:=blk_frozen BK330.out 0;have hfz10_1:=blk_frozen BK330.out 1)|((with_reducible refine gate_callee (f:=27) rfl ?_);refine goesL_ (some 9) rfl rfl Try.func27 (by kernel_rfl) rfl #[.slice A0_0 l0_0.length c0_0,.slice A1_0 l1_0.length c1_0] rfl (by (try simp only [List.map_toArray,List.map_cons,List.map_nil]);first|done|rfl|(simp only [List.length_drop,List.length_take];rfl)) ?_;(with_reducible refine (laws_eqIntS.calls k _ _ l0_0 _ _ l1_0 true _ ?side1 ?side2 ?side3 ?side4 A3.out).mono ?_);(case side1=>repeat (first|exact (Kd.C_below HR0_0.out HB.out)|(with_reducible refine Kd.C_alloc ?_ _)|(with_reducible refine Kd.C_drewN ?_ _)|(with_reducible refine Kd.C_drew ?_)));(case side2=>exact HC0_0.out);(case side3=>repeat (first|exact (Kd.C_below HR1_0.out HB.out)|(with_reducible refine Kd.C_alloc ?_ _)|(with_reducible refine Kd.C_drewN ?_ _)|(with_reducible refine Kd.C_drew ?_)));(case side4=>exact HC1_0.out);rintro e w' ⟨rfl,⟨nd,rfl⟩⟩;refine ⟨_,rfl,?_⟩))
   go_ret
   exact ⟨by first|rfl|(simp [errW_none,errW_some] <;> rfl)|(simp [*,errW_none,errW_some] <;> rfl),by repeat (first|(with_reducible first|exact HB.out|apply below_alloc|apply pw_below_drewN|apply below_drew1|refine below_set ?_ GE329.out|refine below_set ?_ GE330.out)|exact HB.out)⟩
  ·rw [if_neg c5] at H
   have c5b0:(a0_1 == a1_1)=false:=beq_eq_false_iff_ne.mpr c5
   have c5b1:(a0_1 != a1_1)=true:=bne_iff_ne.mpr c5
   obtain rfl:=Option.some.inj H
   go_enter Try.func55,Try.ntmps55
   go_wp2_with (first|((with_reducible refine gate_dst (N:=2) rfl ?_);refine box_event ?hg (N:=2) ?hd (cs:=#[.slice A0_0 l0_0.length c0_0,.int .i64 a0_1]) (t:=68) ?hr ?_;(case hd=>rfl);(case hg=>rfl);(case hr=>first|(go_simp;done)|(go_simp;rfl));intro gb329 hg w11 hbox hb;have n0_:=Aside0.mk (below_step (by repeat (first|(with_reducible first|exact HB.out|apply below_alloc|apply pw_below_drewN|apply below_drew1)|exact HB.out)) hb);have n1_:=Aside0.mk (hbox);have n2_:=Aside0.mk ((by rw [hg];exact (below_size (by repeat (first|(with_reducible first|exact HB.out|apply below_alloc|apply pw_below_drewN|apply below_drew1)|exact HB.out))):w.heap.size≤gb329));have n3_:=Aside0.mk ((by rw [hg];exact (below_size (by repeat (first|(with_reducible first|exact HB.out|apply below_alloc|apply pw_below_drewN|apply below_drew1)|exact HB.out))):w.heap.size≤gb329));clear HB;have HB:=n0_;have BK329:=n1_;have GW329:=n2_;have GE329:=n3_;clear n0_ n1_ n2_ n3_;clear hb hbox hg)|((with_reducible refine gate_dst (N:=3) rfl ?_);refine box_event ?hg (N:=3) ?hd (cs:=#[.slice A1_0 l1_0.length c1_0,.int .i64 a1_1]) (t:=68) ?hr ?_;(case hd=>rfl);(case hg=>rfl);(case hr=>first|(go_simp;done)|(go_simp;rfl));intro gb330 hg w12 hbox hb;have n0_:=Aside0.mk (blk_below (g:=gb329) (o:=.cells #[.slice A0_0 l0_0.length c0_0,.int .i64 a0_1] 68 (0,0)) (by (with_reducible repeat (first|refine blk_drewN ?_ _|refine blk_drew ?_|refine blk_alloc ?_ _));exact BK329.out) hb);have n1_:=Aside0.mk (below_step (by repeat (first|(with_reducible first|exact HB.out|apply below_alloc|apply pw_below_drewN|apply below_drew1|refine below_set ?_ GE329.out)|exact HB.out)) hb);have n2_:=Aside0.mk (hbox);have n3_:=Aside0.mk ((by rw [hg];exact (below_size (by repeat (first|(with_reducible first|exact HB.out|apply below_alloc|apply pw_below_drewN|apply below_drew1|refine below_set ?_ GE329.out)|exact HB.out))):w.heap.size≤gb330));have n4_:=Aside0.mk ((by rw [hg];exact (below_size (by repeat (first|(with_reducible first|exact HB.out|apply below_alloc|apply pw_below_drewN|apply below_drew1|refine below_set ?_ GE329.out)|exact HB.out))):w.heap.size≤gb330));have n5_:=Aside0.mk ((by rw [hg];exact Nat.ne_of_lt (blk_lt (g:=gb329) (o:=.cells #[.slice A0_0 l0_0.length c0_0,.int .i64 a0_1] 68 (0,0)) (by (with_reducible repeat (first|refine blk_drewN ?_ _|refine blk_drew ?_|refine blk_alloc ?_ _));exact BK329.out)):gb329≠gb330));have n6_:=Aside0.mk ((by rw [hg];exact Nat.ne_of_gt (blk_lt (g:=gb329) (o:=.cells #[.slice A0_0 l0_0.length c0_0,.int .i64 a0_1] 68 (0,0)) (by (with_reducible repeat (first|refine blk_drewN ?_ _|refine blk_drew ?_|refine blk_alloc ?_ _));exact BK329.out)):gb330≠gb329));clear BK329;clear HB;have BK329:=n0_;have HB:=n1_;have BK330:=n2_;have GW330:=n3_;have GE330:=n4_;have NB329_330:=n5_;have NB330_329:=n6_;clear n0_ n1_ n2_ n3_ n4_ n5_ n6_;clear hb hbox hg;have hnb13:=NB329_330.out;have hnc13:=NB330_329.out;have hcz14_0:w12.cell? ⟨gb329,0,none⟩=some (.slice A0_0 l0_0.length c0_0):=(blk_cell BK329.out 0).trans rfl;have hcz14_1:w12.cell? ⟨gb329,1,none⟩=some (.int .i64 a0_1):=(blk_cell BK329.out 1).trans rfl;have hfz14_0:=blk_frozen BK329.out 0;have hfz14_1:=blk_frozen BK329.out 1;have hcz15_0:w12.cell? ⟨gb330,0,none⟩=some (.slice A1_0 l1_0.length c1_0):=(blk_cell BK330.out 0).trans rfl;have hcz15_1:w12.cell? ⟨gb330,1,none⟩=some (.int .i64 a1_1):=(blk_cell BK330.out 1).trans rfl;have hfz15_0:=blk_frozen BK330.out 0;have hfz15_1:=blk_frozen BK330.out 1)|((with_reducible refine gate_callee (f:=27) rfl ?_);refine goesL_ (some 9) rfl rfl Try.func27 (by kernel_rfl) rfl #[.slice A0_0 l0_0.length c0_0,.slice A1_0 l1_0.length c1_0] rfl (by (try simp only [List.map_toArray,List.map_cons,List.map_nil]);first|done|rfl|(simp only [List.length_drop,List.length_take];rfl)) ?_;(with_reducible refine (laws_eqIntS.calls k _ _ l0_0 _ _ l1_0 true _ ?side1 ?side2 ?side3 ?side4 A3.out).mono ?_);(case side1=>repeat (first|exact (Kd.C_below HR0_0.out HB.out)|(with_reducible refine Kd.C_alloc ?_ _)|(with_reducible refine Kd.C_drewN ?_ _)|(with_reducible refine Kd.C_drew ?_)));(case side2=>exact HC0_0.out);(case side3=>repeat (first|exact (Kd.C_below HR1_0.out HB.out)|(with_reducible refine Kd.C_alloc ?_ _)|(with_reducible refine Kd.C_drewN ?_ _)|(with_reducible refine Kd.C_drew ?_)));(case side4=>exact HC1_0.out);rintro e w' ⟨rfl,⟨nd,rfl⟩⟩;refine ⟨_,rfl,?_⟩))
   go_ret
   exact ⟨by first|rfl|(simp [errW_none,errW_some] <;> rfl)|(simp [*,errW_none,errW_some] <;> rfl),by repeat (first|(with_reducible first|exact HB.out|apply below_alloc|apply pw_below_drewN|apply below_drew1|refine below_set ?_ GE329.out|refine below_set ?_ GE330.out)|exact HB.out)⟩
 ·replace c4:=Bool.eq_false_iff.mpr c4
  subst c4
  have H1:(some false)=some r:=by rw [if_neg (show ¬ (false=true) by decide)] at H;exact H
  clear H
  have H:=H1
  clear H1
  obtain rfl:=Option.some.inj H
  go_enter Try.func55,Try.ntmps55
  go_wp2_with (first|((with_reducible refine gate_dst (N:=2) rfl ?_);refine box_event ?hg (N:=2) ?hd (cs:=#[.slice A0_0 l0_0.length c0_0,.int .i64 a0_1]) (t:=68) ?hr ?_;(case hd=>rfl);(case hg=>rfl);(case hr=>first|(go_simp;done)|(go_simp;rfl));intro gb329 hg w16 hbox hb;have n0_:=Aside0.mk (below_step (by repeat (first|(with_reducible first|exact HB.out|apply below_alloc|apply pw_below_drewN|apply below_drew1)|exact HB.out)) hb);have n1_:=Aside0.mk (hbox);have n2_:=Aside0.mk ((by rw [hg];exact (below_size (by repeat (first|(with_reducible first|exact HB.out|apply below_alloc|apply pw_below_drewN|apply below_drew1)|exact HB.out))):w.heap.size≤gb329));have n3_:=Aside0.mk ((by rw [hg];exact (below_size (by repeat (first|(with_reducible first|exact HB.out|apply below_alloc|apply pw_below_drewN|apply below_drew1)|exact HB.out))):w.heap.size≤gb329));clear HB;have HB:=n0_;have BK329:=n1_;have GW329:=n2_;have GE329:=n3_;clear n0_ n1_ n2_ n3_;clear hb hbox hg)|((with_reducible refine gate_dst (N:=3) rfl ?_);refine box_event ?hg (N:=3) ?hd (cs:=#[.slice A1_0 l1_0.length c1_0,.int .i64 a1_1]) (t:=68) ?hr ?_;(case hd=>rfl);(case hg=>rfl);(case hr=>first|(go_simp;done)|(go_simp;rfl));intro gb330 hg w17 hbox hb;have n0_:=Aside0.mk (blk_below (g:=gb329) (o:=.cells #[.slice A0_0 l0_0.length c0_0,.int .i64 a0_1] 68 (0,0)) (by (with_reducible repeat (first|refine blk_drewN ?_ _|refine blk_drew ?_|refine blk_alloc ?_ _));exact BK329.out) hb);have n1_:=Aside0.mk (below_step (by repeat (first|(with_reducible first|exact HB.out|apply below_alloc|apply pw_below_drewN|apply below_drew1|refine below_set ?_ GE329.out)|exact HB.out)) hb);have n2_:=Aside0.mk (hbox);have n3_:=Aside0.mk ((by rw [hg];exact (below_size (by repeat (first|(with_reducible first|exact HB.out|apply below_alloc|apply pw_below_drewN|apply below_drew1|refine below_set ?_ GE329.out)|exact HB.out))):w.heap.size≤gb330));have n4_:=Aside0.mk ((by rw [hg];exact (below_size (by repeat (first|(with_reducible first|exact HB.out|apply below_alloc|apply pw_below_drewN|apply below_drew1|refine below_set ?_ GE329.out)|exact HB.out))):w.heap.size≤gb330));have n5_:=Aside0.mk ((by rw [hg];exact Nat.ne_of_lt (blk_lt (g:=gb329) (o:=.cells #[.slice A0_0 l0_0.length c0_0,.int .i64 a0_1] 68 (0,0)) (by (with_reducible repeat (first|refine blk_drewN ?_ _|refine blk_drew ?_|refine blk_alloc ?_ _));exact BK329.out)):gb329≠gb330));have n6_:=Aside0.mk ((by rw [hg];exact Nat.ne_of_gt (blk_lt (g:=gb329) (o:=.cells #[.slice A0_0 l0_0.length c0_0,.int .i64 a0_1] 68 (0,0)) (by (with_reducible repeat (first|refine blk_drewN ?_ _|refine blk_drew ?_|refine blk_alloc ?_ _));exact BK329.out)):gb330≠gb329));clear BK329;clear HB;have BK329:=n0_;have HB:=n1_;have BK330:=n2_;have GW330:=n3_;have GE330:=n4_;have NB329_330:=n5_;have NB330_329:=n6_;clear n0_ n1_ n2_ n3_ n4_ n5_ n6_;clear hb hbox hg;have hnb18:=NB329_330.out;have hnc18:=NB330_329.out;have hcz19_0:w17.cell? ⟨gb329,0,none⟩=some (.slice A0_0 l0_0.length c0_0):=(blk_cell BK329.out 0).trans rfl;have hcz19_1:w17.cell? ⟨gb329,1,none⟩=some (.int .i64 a0_1):=(blk_cell BK329.out 1).trans rfl;have hfz19_0:=blk_frozen BK329.out 0;have hfz19_1:=blk_frozen BK329.out 1;have hcz20_0:w17.cell? ⟨gb330,0,none⟩=some (.slice A1_0 l1_0.length c1_0):=(blk_cell BK330.out 0).trans rfl;have hcz20_1:w17.cell? ⟨gb330,1,none⟩=some (.int .i64 a1_1):=(blk_cell BK330.out 1).trans rfl;have hfz20_0:=blk_frozen BK330.out 0;have hfz20_1:=blk_frozen BK330.out 1)|((with_reducible refine gate_callee (f:=27) rfl ?_);refine goesL_ (some 9) rfl rfl Try.func27 (by kernel_rfl) rfl #[.slice A0_0 l0_0.length c0_0,.slice A1_0 l1_0.length c1_0] rfl (by (try simp only [List.map_toArray,List.map_cons,List.map_nil]);first|done|rfl|(simp only [List.length_drop,List.length_take];rfl)) ?_;(with_reducible refine (laws_eqIntS.calls k _ _ l0_0 _ _ l1_0 false _ ?side1 ?side2 ?side3 ?side4 A3.out).mono ?_);(case side1=>repeat (first|exact (Kd.C_below HR0_0.out HB.out)|(with_reducible refine Kd.C_alloc ?_ _)|(with_reducible refine Kd.C_drewN ?_ _)|(with_reducible refine Kd.C_drew ?_)));(case side2=>exact HC0_0.out);(case side3=>repeat (first|exact (Kd.C_below HR1_0.out HB.out)|(with_reducible refine Kd.C_alloc ?_ _)|(with_reducible refine Kd.C_drewN ?_ _)|(with_reducible refine Kd.C_drew ?_)));(case side4=>exact HC1_0.out);rintro e w' ⟨rfl,⟨nd,rfl⟩⟩;refine ⟨_,rfl,?_⟩))
  go_ret
  exact ⟨by first|rfl|(simp [errW_none,errW_some] <;> rfl)|(simp [*,errW_none,errW_some] <;> rfl),by repeat (first|(with_reducible first|exact HB.out|apply below_alloc|apply pw_below_drewN|apply below_drew1|refine below_set ?_ GE329.out|refine below_set ?_ GE330.out)|exact HB.out)⟩

end Go.Proofs.Ytbblhmpcpmamfaa.XFnExactSmithPrices
-- minified
