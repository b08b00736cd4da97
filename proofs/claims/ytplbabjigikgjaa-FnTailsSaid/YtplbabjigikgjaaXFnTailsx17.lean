-- Written by a program of this session (the kit's print, widened). Proved here: what each function answers, for the arguments that its contract names.
import Derived.Test.YtplbabjigikgjaaXFnTailsx0
import Derived.Test.YtplbabjigikgjaaXFnTailsx6
import Derived.Test.YtplbabjigikgjaaXFnTailsx7
import Derived.Test.YtplbabjigikgjaaXFnTailsx16
namespace Go.Proofs.Ytplbabjigikgjaa.XFnTails
open Go.RowKit Go.Proofs.YtplbabjigikgjaaW.PrintWords Go.Proofs.YtplbabjigikgjaaW.PrintLast Go.Proofs.YtplbabjigikgjaaW.PrintMore
attribute [local go_sem] max2_int min2_int max_two min_two max_three min_three max_four min_four   -- for this text's walks alone
attribute [local go_sem] idxA_45_0 idxA_45_1 fldS_94_0 fldS_94_1 fldS_94_2 fldS_125_0 fldS_125_1 fldS_125_2
set_option linter.unusedVariables false
set_option linter.unusedSimpArgs false

/-! ### impl_reduction: function 76 -/
mutual
def impl_reduction.l0:Nat→List (List Bool)→List (S45)→List (S45)→Int→Int→Option ((List (S45)))
 | 0,_,_,_,_,_=>none
 | k + 1,x0,x3,x9,x10,x11=>if x11<x10 then (if 0≤x11 then (if x11<(x9.length:Int) then (impl_reduction.l1 k x0 x3 true x9 x10 x11 (x0.length:Int) 0 ((rd_T45 x9 x11).f0) ((rd_T45 x9 x11).f1)) else (none)) else (none)) else (some x3)
def impl_reduction.l1:Nat→List (List Bool)→List (S45)→Bool→List (S45)→Int→Int→Int→Int→Int→Int→Option ((List (S45)))
 | 0,_,_,_,_,_,_,_,_,_,_=>none
 | k + 1,x0,x3,x6,x9,x10,x11,x16,x17,x523000,x523001=>if x17<x16 then (if x6=true then (if 0≤x523000 then (if x523000<(x0.length:Int) then (if 0≤x17 then (if x17<((rd_L5 x0 x523000).length:Int) then (if rdOf false (rd_L5 x0 x523000) x17=true then (if x17<(x0.length:Int) then (if 0≤x523001 then (if x523001<((rd_L5 x0 x17).length:Int) then (impl_reduction.l1 k x0 x3 (!(rdOf false (rd_L5 x0 x17) x523001)) x9 x10 x11 x16 (wrap64 (x17 + 1)) x523000 x523001) else (none)) else (none)) else (none)) else (impl_reduction.l1 k x0 x3 (!false) x9 x10 x11 x16 (wrap64 (x17 + 1)) x523000 x523001)) else (none)) else (none)) else (none)) else (none)) else (impl_reduction.l1 k x0 x3 false x9 x10 x11 x16 (wrap64 (x17 + 1)) x523000 x523001)) else (if x6=true then (if x3.length<8796093022208 then (impl_reduction.l0 k x0 (x3++[(⟨x523000,x523001⟩:S45)]) x9 x10 (wrap64 (x11 + 1))) else (none)) else (impl_reduction.l0 k x0 x3 x9 x10 (wrap64 (x11 + 1))))
end
def impl_reduction.f (k:Nat) (l0:List (List Bool)):Option ((List (S45))):=(impl_pairsOf.f k l0).bind fun t518=>(impl_reduction.l0 k l0 ([]:List (S45)) t518 (t518.length:Int) 0)
theorem impl_reduction.mono_l:∀ k,(∀ y0 y1 y2 y3 y4,LeO (impl_reduction.l0 k y0 y1 y2 y3 y4) (impl_reduction.l0 (k + 1) y0 y1 y2 y3 y4))∧(∀ y0 y1 y2 y3 y4 y5 y6 y7 y8 y9,LeO (impl_reduction.l1 k y0 y1 y2 y3 y4 y5 y6 y7 y8 y9) (impl_reduction.l1 (k + 1) y0 y1 y2 y3 y4 y5 y6 y7 y8 y9))
 | 0=>⟨fun _ _ _ _ _ r h=>by simp [impl_reduction.l0] at h,fun _ _ _ _ _ _ _ _ _ _ r h=>by simp [impl_reduction.l1] at h⟩
 | k + 1=>by
  obtain ⟨ih0,ih1⟩:=impl_reduction.mono_l k
  refine ⟨?_,?_⟩
  ·intro y0 y1 y2 y3 y4
   unfold impl_reduction.l0
   repeat' first
   | (with_reducible exact ih0 _ _ _ _ _)
   | (with_reducible exact ih1 _ _ _ _ _ _ _ _ _ _)
   | (with_reducible exact impl_pairsOf.mono _ _)
   | (with_reducible exact LeO.refl _)
   | (with_reducible exact LeO.none _)
   | (with_reducible refine LeO.ite ?_ ?_)
   | (with_reducible refine LeO.bind ?_ (fun _=>?_))
   | exact ih0 _ _ _ _ _
   | exact ih1 _ _ _ _ _ _ _ _ _ _
   | exact impl_pairsOf.mono _ _
   | exact LeO.none _
   | refine LeO.ite ?_ ?_
   | refine LeO.bind ?_ (fun _=>?_)
  ·intro y0 y1 y2 y3 y4 y5 y6 y7 y8 y9
   unfold impl_reduction.l1
   repeat' first
   | (with_reducible exact ih0 _ _ _ _ _)
   | (with_reducible exact ih1 _ _ _ _ _ _ _ _ _ _)
   | (with_reducible exact impl_pairsOf.mono _ _)
   | (with_reducible exact LeO.refl _)
   | (with_reducible exact LeO.none _)
   | (with_reducible refine LeO.ite ?_ ?_)
   | (with_reducible refine LeO.bind ?_ (fun _=>?_))
   | exact ih0 _ _ _ _ _
   | exact ih1 _ _ _ _ _ _ _ _ _ _
   | exact impl_pairsOf.mono _ _
   | exact LeO.none _
   | refine LeO.ite ?_ ?_
   | refine LeO.bind ?_ (fun _=>?_)
theorem impl_reduction.mono:∀ a0 k,LeO (impl_reduction.f k a0) (impl_reduction.f (k + 1) a0):=by
 intro a0 k
 obtain ⟨ih0,ih1⟩:=impl_reduction.mono_l k
 unfold impl_reduction.f
 repeat' first
   | (with_reducible exact ih0 _ _ _ _ _)
   | (with_reducible exact ih1 _ _ _ _ _ _ _ _ _ _)
   | (with_reducible exact impl_pairsOf.mono _ _)
   | (with_reducible exact LeO.refl _)
   | (with_reducible exact LeO.none _)
   | (with_reducible refine LeO.ite ?_ ?_)
   | (with_reducible refine LeO.bind ?_ (fun _=>?_))
   | exact ih0 _ _ _ _ _
   | exact ih1 _ _ _ _ _ _ _ _ _ _
   | exact impl_pairsOf.mono _ _
   | exact LeO.none _
   | refine LeO.ite ?_ ?_
   | refine LeO.bind ?_ (fun _=>?_)
set_option maxHeartbeats 8000000 in
set_option maxRecDepth 100000 in
theorem impl_reduction.calls (k:Nat) (A0:Option Addr) (c0:Nat) (l0:List (List Bool)) (r:List (S45)) (w:World) (hr0:Kd.C (Kd.slice 4 Kd.bool) w A0 l0.length l0) (hc0:l0.length≤c0) (h:impl_reduction.f k l0=some r) :
  Calls Try.prog 76 #[.slice A0 l0.length c0] w fun e w'=>∃ v0_:Value,e=.returned (v0_)∧Kd.R k45 45 w' w.heap.size (fun _=>True) v0_ r∧Below w.heap.size w w':=by
 have hu45:=Try.underlying45
 have HR0:=Aside0.mk hr0
 have HC0:=Aside0.mk hc0
 clear hr0 hc0
 have HB:=Aside0.mk (Below.refl w.heap.size w)
 have H:((impl_pairsOf.f k l0).bind fun t518=>(impl_reduction.l0 k l0 ([]:List (S45)) t518 (t518.length:Int) 0))=some r:=h
 clear h
 replace H:=Option.bind_eq_some_iff.mp H
 obtain ⟨t518,A20,H⟩:=H
 try dsimp only at H
 have A2:=Aside0.mk A20
 clear A20
 have H':=Aside0.mk H
 clear H
 go_enter Try.func76,Try.ntmps76
 go_wp2_with (first|(go_at_call 121;(with_reducible refine (impl_pairsOf.calls k _ _ l0 t518 _ ?side1 ?side2 A2.out).mono ?_);(case side1=>exact zC HR0.out);(case side2=>exact HC0.out);rintro e w3 ⟨v519,rfl,ho0,hb⟩;have HO520:=Aside0.mk (Kd.R_lower ho0 (below_size zb));replace HB:=Aside0.mk (below_step zb hb);(try clear hb);(try clear ho0);obtain ⟨Ao4,co4,eo4⟩:=Kd.R_slice HO520.out;subst eo4))
 repeat (go_quiet (first|(go_at_call 121;(with_reducible refine (impl_pairsOf.calls k _ _ l0 t518 _ ?side1 ?side2 A2.out).mono ?_);(case side1=>exact zC HR0.out);(case side2=>exact HC0.out);rintro e w3 ⟨v519,rfl,ho0,hb⟩;have HO520:=Aside0.mk (Kd.R_lower ho0 (below_size zb));replace HB:=Aside0.mk (below_step zb hb);(try clear hb);(try clear ho0);obtain ⟨Ao4,co4,eo4⟩:=Kd.R_slice HO520.out;subst eo4));try go_wp2_with (fail))
 go_loopg [3,11] k (fun kq v3 v11 w'=>∃ (x3_1:List (S45)) (x11_1:Int),v11=.int .i64 x11_1∧Aside0 (impl_reduction.l0 kq l0 x3_1 t518 (t518.length:Int) x11_1=some r)∧Aside0 (kq≤k)∧Aside0 (Kd.R k45 45 w' w.heap.size (fun k_=>some k_≠((.slice Ao4 t518.length co4):Value).ownBlock) v3 x3_1)∧Aside0 (Kd.R k45 45 w' w.heap.size (fun k_=>some k_≠(v3:Value).ownBlock) (.slice Ao4 t518.length co4) t518)∧Aside0 (Below w.heap.size w w'))
 case atStart=>exact ⟨(([]:List (S45))),(0),zo,H',⟨Nat.le_refl _⟩,⟨by first|exact Kd.R_nil _ _ _ _ _|exact Kd.N_nil _ _ _ _ _|exact Kd.V_nil _ _ _ _ _|exact Kd.Q_nil _ _ _ _ _|exact Kd.S_nil _ _ _ _ _⟩,⟨zR (Kd.R_mono HO520.out (fun _ hk=>(by simp [Value.ownBlock])))⟩,⟨zb⟩⟩
 case round=>
  clear H'
  try clear p2
  obtain ⟨x3_1,x11_1,rfl,HA,HK1,HO_3,HO_9,HB⟩:=hrel
  cases gk with
  | zero=>exact absurd HA.out (by simp [impl_reduction.l0])
  | succ k1=>
   have H:=HA.out
   clear HA
   simp only [impl_reduction.l0] at H
   by_cases c5:x11_1<(t518.length:Int)
   ·rw [if_pos c5] at H
    have c5b0:decide (x11_1<(t518.length:Int))=true:=decide_eq_true c5
    clear c5
    by_cases c6:0≤x11_1
    ·rw [if_pos c6] at H
     have c6b0:decide (0≤x11_1)=true:=decide_eq_true c6
     clear c6
     by_cases c7:x11_1<(t518.length:Int)
     ·rw [if_pos c7] at H
      have c7b0:decide (x11_1<(t518.length:Int))=true:=decide_eq_true c7
      clear c7
      have H':=Aside0.mk H
      clear H
      have p521:0≤(x11_1:Int):=of_decide_eq_true za
      have q521:x11_1<(t518.length:Int):=of_decide_eq_true za
      obtain ⟨ad521,e521,hx521_0,hx521_1⟩:=at_T45 (Kd.R_reads' HO_9.out).2.2 x11_1 p521 q521
      cases e521
      replace p521:=eq_true p521
      replace q521:=eq_true q521
      go_wp2_with (first|((with_reducible refine gate_dst (N:=5) rfl ?_);refine box_event ?hg (N:=5) ?hd (cs:=#[.int .i64 0,.int .i64 0]) (t:=45) ?hr ?_;(case hd=>rfl);(case hg=>rfl);(case hr=>first|(go_simp;done)|(go_simp;rfl));intro gb522 hg w8 hbox hb;have n0_:=Aside0.mk (Kd.R_below (Kd.R_elderB (zR HO_3.out) gb522 (Nat.le_of_eq hg.symm)) hb);have n1_:=Aside0.mk (Kd.R_below (Kd.R_elderB (zR HO_9.out) gb522 (Nat.le_of_eq hg.symm)) hb);have n2_:=Aside0.mk (below_step zb hb);have n3_:=Aside0.mk (hbox);have n4_:=Aside0.mk ((by rw [hg];exact (below_size zb):w.heap.size≤gb522));have n5_:=Aside0.mk ((by rw [hg];exact (below_size zb):w.heap.size≤gb522));clear HO_3;clear HO_9;clear HB;have HO_3:=n0_;have HO_9:=n1_;have HB:=n2_;have BK522:=n3_;have GW522:=n4_;have GE522:=n5_;clear n0_ n1_ n2_ n3_ n4_ n5_;clear hb hbox hg;have hcz9_0:w8.cell? ⟨gb522,0,none⟩=some (.int .i64 0):=(blk_cell BK522.out 0).trans rfl;have hcz9_1:w8.cell? ⟨gb522,1,none⟩=some (.int .i64 0):=(blk_cell BK522.out 1).trans rfl;have hfz9_0:=blk_frozen BK522.out 0;have hfz9_1:=blk_frozen BK522.out 1))
      repeat (go_quiet (first|((with_reducible refine gate_dst (N:=5) rfl ?_);refine box_event ?hg (N:=5) ?hd (cs:=#[.int .i64 0,.int .i64 0]) (t:=45) ?hr ?_;(case hd=>rfl);(case hg=>rfl);(case hr=>first|(go_simp;done)|(go_simp;rfl));intro gb522 hg w8 hbox hb;have n0_:=Aside0.mk (Kd.R_below (Kd.R_elderB (zR HO_3.out) gb522 (Nat.le_of_eq hg.symm)) hb);have n1_:=Aside0.mk (Kd.R_below (Kd.R_elderB (zR HO_9.out) gb522 (Nat.le_of_eq hg.symm)) hb);have n2_:=Aside0.mk (below_step zb hb);have n3_:=Aside0.mk (hbox);have n4_:=Aside0.mk ((by rw [hg];exact (below_size zb):w.heap.size≤gb522));have n5_:=Aside0.mk ((by rw [hg];exact (below_size zb):w.heap.size≤gb522));clear HO_3;clear HO_9;clear HB;have HO_3:=n0_;have HO_9:=n1_;have HB:=n2_;have BK522:=n3_;have GW522:=n4_;have GE522:=n5_;clear n0_ n1_ n2_ n3_ n4_ n5_;clear hb hbox hg;have hcz9_0:w8.cell? ⟨gb522,0,none⟩=some (.int .i64 0):=(blk_cell BK522.out 0).trans rfl;have hcz9_1:w8.cell? ⟨gb522,1,none⟩=some (.int .i64 0):=(blk_cell BK522.out 1).trans rfl;have hfz9_0:=blk_frozen BK522.out 0;have hfz9_1:=blk_frozen BK522.out 1));try go_wp2_with (fail))
      go_loopg [6,17] k1 (fun kq v6 v17 w'=>∃ (x6_2:Bool) (x17_2:Int),v6=.bool x6_2∧v17=.int .i64 x17_2∧Aside0 (impl_reduction.l1 kq l0 x3_1 x6_2 t518 (t518.length:Int) x11_1 (l0.length:Int) x17_2 ((rd_T45 t518 x11_1).f0) ((rd_T45 t518 x11_1).f1)=some r)∧Aside0 (kq≤k1)∧Aside0 (Kd.R k45 45 w' w.heap.size (fun k_=>some k_≠((.slice (some ad521) t518.length co4):Value).ownBlock∧k_≠gb522) u3 x3_1)∧Aside0 (Kd.R k45 45 w' w.heap.size (fun k_=>some k_≠(u3:Value).ownBlock∧k_≠gb522) (.slice (some ad521) t518.length co4) t518)∧Aside0 (w'.heap[gb522]?=some (.cells #[.int .i64 ((rd_T45 t518 x11_1).f0),.int .i64 ((rd_T45 t518 x11_1).f1)] 45 (0,0)))∧Aside0 (Below w.heap.size w w'))
      case atStart=>exact ⟨(true),(0),zo,zo,H',⟨Nat.le_refl _⟩,⟨zR (Kd.R_mono (Kd.R_far (p:=⟨gb522,1,none⟩) (Kd.R_far (p:=⟨gb522,0,none⟩) (Kd.R_mono HO_3.out (fun k_ hk=>(⟨hk,hk.2⟩:_∧k_≠gb522))) (fun _ hk=>hk.2) (.int .i64 ((rd_T45 t518 x11_1).f0))) (fun _ hk=>hk.2) (.int .i64 ((rd_T45 t518 x11_1).f1))) (fun _ hk=>⟨hk.1.1,hk.1.2⟩))⟩,⟨zR (Kd.R_mono (Kd.R_far (p:=⟨gb522,1,none⟩) (Kd.R_far (p:=⟨gb522,0,none⟩) (Kd.R_mono HO_9.out (fun k_ hk=>(⟨hk,hk.2⟩:_∧k_≠gb522))) (fun _ hk=>hk.2) (.int .i64 ((rd_T45 t518 x11_1).f0))) (fun _ hk=>hk.2) (.int .i64 ((rd_T45 t518 x11_1).f1))) (fun _ hk=>⟨hk.1.1,hk.1.2⟩))⟩,⟨by (with_reducible repeat (first|refine blk_drewN ?_ _|refine blk_drew ?_|refine blk_alloc ?_ _));refine blk_put (cs:=#[.int .i64 ((rd_T45 t518 x11_1).f0),.int .i64 0]) ?_ 1 _ rfl;(with_reducible repeat (first|refine blk_drewN ?_ _|refine blk_drew ?_|refine blk_alloc ?_ _));refine blk_put (cs:=#[.int .i64 0,.int .i64 0]) ?_ 0 _ rfl;(with_reducible repeat (first|refine blk_drewN ?_ _|refine blk_drew ?_|refine blk_alloc ?_ _));exact BK522.out⟩,⟨by repeat (first|(with_reducible first|exact HB.out|apply below_alloc|apply pw_below_drewN|apply below_drew1|refine below_set ?_ GE522.out)|exact HB.out)⟩⟩
      case round=>
       clear H'
       (try clear p2);(try clear c5);(try clear c5b0);(try clear p5);(try clear q5);(try clear hx5);(try clear c6);(try clear c6b0);(try clear c7);(try clear c7b0);(try clear hcz9_0);(try clear hcz9_1);(try clear hfz9_0);(try clear hfz9_1);(try clear hx521_0);(try clear hx521_1);(try clear p521);(try clear q521)
       obtain ⟨x6_2,x17_2,rfl,rfl,HA,HK2,HO_3,HO_9,BK522,HB⟩:=hrel
       cases gk with
       | zero=>exact absurd HA.out (by simp [impl_reduction.l1])
       | succ k2=>
        have H:=HA.out
        clear HA
        simp only [impl_reduction.l1] at H
        by_cases c10:x17_2<(l0.length:Int)
        ·rw [if_pos c10] at H
         have c10b0:decide (x17_2<(l0.length:Int))=true:=decide_eq_true c10
         clear c10
         by_cases c11:x6_2=true
         ·subst c11
          rw [if_pos rfl] at H
          by_cases c12:0≤((rd_T45 t518 x11_1).f0)
          ·rw [if_pos c12] at H
           have c12b0:decide (0≤((rd_T45 t518 x11_1).f0))=true:=decide_eq_true c12
           clear c12
           by_cases c13:((rd_T45 t518 x11_1).f0)<(l0.length:Int)
           ·rw [if_pos c13] at H
            have c13b0:decide (((rd_T45 t518 x11_1).f0)<(l0.length:Int))=true:=decide_eq_true c13
            clear c13
            by_cases c14:0≤x17_2
            ·rw [if_pos c14] at H
             have c14b0:decide (0≤x17_2)=true:=decide_eq_true c14
             clear c14
             by_cases c15:x17_2<((rd_L5 l0 ((rd_T45 t518 x11_1).f0)).length:Int)
             ·rw [if_pos c15] at H
              have c15b0:decide (x17_2<((rd_L5 l0 ((rd_T45 t518 x11_1).f0)).length:Int))=true:=decide_eq_true c15
              clear c15
              obtain ⟨bq16,hbq16⟩:∃ b_:Bool,b_=(rdOf false (rd_L5 l0 ((rd_T45 t518 x11_1).f0)) x17_2):=⟨_,rfl⟩
              replace H:(if bq16=true then (if x17_2<(l0.length:Int) then (if 0≤((rd_T45 t518 x11_1).f1) then (if ((rd_T45 t518 x11_1).f1)<((rd_L5 l0 x17_2).length:Int) then (impl_reduction.l1 k2 l0 x3_1 (!(rdOf false (rd_L5 l0 x17_2) ((rd_T45 t518 x11_1).f1))) t518 (t518.length:Int) x11_1 (l0.length:Int) (wrap64 (x17_2 + 1)) ((rd_T45 t518 x11_1).f0) ((rd_T45 t518 x11_1).f1)) else (none)) else (none)) else (none)) else (impl_reduction.l1 k2 l0 x3_1 (!false) t518 (t518.length:Int) x11_1 (l0.length:Int) (wrap64 (x17_2 + 1)) ((rd_T45 t518 x11_1).f0) ((rd_T45 t518 x11_1).f1)))=some r:=by rw [←hbq16] at H;exact H
              have Nbq16:=Aside0.mk hbq16
              clear hbq16
              by_cases c17:bq16=true
              ·subst c17
               rw [if_pos rfl] at H
               by_cases c18:x17_2<(l0.length:Int)
               ·rw [if_pos c18] at H
                have c18b0:decide (x17_2<(l0.length:Int))=true:=decide_eq_true c18
                clear c18
                by_cases c19:0≤((rd_T45 t518 x11_1).f1)
                ·rw [if_pos c19] at H
                 have c19b0:decide (0≤((rd_T45 t518 x11_1).f1))=true:=decide_eq_true c19
                 clear c19
                 by_cases c20:((rd_T45 t518 x11_1).f1)<((rd_L5 l0 x17_2).length:Int)
                 ·rw [if_pos c20] at H
                  have c20b0:decide (((rd_T45 t518 x11_1).f1)<((rd_L5 l0 x17_2).length:Int))=true:=decide_eq_true c20
                  clear c20
                  have H':=Aside0.mk H
                  clear H
                  have hcz21_0:wr.cell? ⟨gb522,0,none⟩=some (.int .i64 ((rd_T45 t518 x11_1).f0)):=(blk_cell BK522.out 0).trans rfl
                  have hcz21_1:wr.cell? ⟨gb522,1,none⟩=some (.int .i64 ((rd_T45 t518 x11_1).f1)):=(blk_cell BK522.out 1).trans rfl
                  have hfz21_0:=blk_frozen BK522.out 0
                  have hfz21_1:=blk_frozen BK522.out 1
                  have p523:0≤(((rd_T45 t518 x11_1).f0):Int):=of_decide_eq_true za
                  have q523:((rd_T45 t518 x11_1).f0)<(l0.length:Int):=of_decide_eq_true za
                  obtain ⟨ad523,A523_0,c523_0,e523,hx523_0,hl523_0,hi523_0⟩:=at_L5 HR0.out ((rd_T45 t518 x11_1).f0) p523 q523
                  cases e523
                  replace hx523_0:=(HB.out.cell (World.block_lt_of_cell? w _ hx523_0)).trans hx523_0
                  have HR523_0:=Aside0.mk hi523_0
                  have HC523_0:=Aside0.mk hl523_0
                  clear hi523_0 hl523_0
                  replace p523:=eq_true p523
                  replace q523:=eq_true q523
                  have p524:0≤(x17_2:Int):=of_decide_eq_true za
                  have q524:x17_2<((rd_L5 l0 ((rd_T45 t518 x11_1).f0)).length:Int):=of_decide_eq_true za
                  obtain ⟨ad524,e524,hx524_0⟩:=Kd.at_bool HR523_0.out x17_2 p524 q524
                  (try rw [←Nbq16.out] at hx524_0)
                  cases e524
                  replace hx524_0:=(HB.out.cell (World.block_lt_of_cell? w _ hx524_0)).trans hx524_0
                  replace p524:=eq_true p524
                  replace q524:=eq_true q524
                  have p525:0≤(x17_2:Int):=of_decide_eq_true za
                  have q525:x17_2<(l0.length:Int):=of_decide_eq_true za
                  obtain ⟨ad525,A525_0,c525_0,e525,hx525_0,hl525_0,hi525_0⟩:=at_L5 HR0.out x17_2 p525 q525
                  obtain rfl:ad523=ad525:=(by injection e525)
                  replace hx525_0:=(HB.out.cell (World.block_lt_of_cell? w _ hx525_0)).trans hx525_0
                  have HR525_0:=Aside0.mk hi525_0
                  have HC525_0:=Aside0.mk hl525_0
                  clear hi525_0 hl525_0
                  replace p525:=eq_true p525
                  replace q525:=eq_true q525
                  have p526:0≤(((rd_T45 t518 x11_1).f1):Int):=of_decide_eq_true za
                  have q526:((rd_T45 t518 x11_1).f1)<((rd_L5 l0 x17_2).length:Int):=of_decide_eq_true za
                  obtain ⟨ad526,e526,hx526_0⟩:=Kd.at_bool HR525_0.out ((rd_T45 t518 x11_1).f1) p526 q526
                  (try rw [←Nbq16.out] at hx526_0)
                  cases e526
                  replace hx526_0:=(HB.out.cell (World.block_lt_of_cell? w _ hx526_0)).trans hx526_0
                  replace p526:=eq_true p526
                  replace q526:=eq_true q526
                  go_wp2
                  repeat (go_quiet (fail);try go_wp2)
                  go_roundg k2
                  case measure=>have:=HK1.out;have:=HK2.out;omega
                  case rel=>exact ⟨(!(rdOf false (rd_L5 l0 x17_2) ((rd_T45 t518 x11_1).f1))),(wrap64 (x17_2 + 1)),zo,zo,H',⟨by have:=HK1.out;have:=HK2.out;omega⟩,⟨zR HO_3.out⟩,⟨zR HO_9.out⟩,⟨by (with_reducible repeat (first|refine blk_drewN ?_ _|refine blk_drew ?_|refine blk_alloc ?_ _));exact BK522.out⟩,⟨by repeat (first|(with_reducible first|exact HB.out|apply below_alloc|apply pw_below_drewN|apply below_drew1|refine below_set ?_ GE522.out)|exact HB.out)⟩⟩
                 ·rw [if_neg c20] at H
                  exact absurd H (by simp)
                ·rw [if_neg c19] at H
                 exact absurd H (by simp)
               ·rw [if_neg c18] at H
                exact absurd H (by simp)
              ·replace c17:=Bool.eq_false_iff.mpr c17
               subst c17
               rw [if_neg (show ¬ (false=true) by decide)] at H
               have H':=Aside0.mk H
               clear H
               have hcz22_0:wr.cell? ⟨gb522,0,none⟩=some (.int .i64 ((rd_T45 t518 x11_1).f0)):=(blk_cell BK522.out 0).trans rfl
               have hcz22_1:wr.cell? ⟨gb522,1,none⟩=some (.int .i64 ((rd_T45 t518 x11_1).f1)):=(blk_cell BK522.out 1).trans rfl
               have hfz22_0:=blk_frozen BK522.out 0
               have hfz22_1:=blk_frozen BK522.out 1
               have p523:0≤(((rd_T45 t518 x11_1).f0):Int):=of_decide_eq_true za
               have q523:((rd_T45 t518 x11_1).f0)<(l0.length:Int):=of_decide_eq_true za
               obtain ⟨ad523,A523_0,c523_0,e523,hx523_0,hl523_0,hi523_0⟩:=at_L5 HR0.out ((rd_T45 t518 x11_1).f0) p523 q523
               cases e523
               replace hx523_0:=(HB.out.cell (World.block_lt_of_cell? w _ hx523_0)).trans hx523_0
               have HR523_0:=Aside0.mk hi523_0
               have HC523_0:=Aside0.mk hl523_0
               clear hi523_0 hl523_0
               replace p523:=eq_true p523
               replace q523:=eq_true q523
               have p524:0≤(x17_2:Int):=of_decide_eq_true za
               have q524:x17_2<((rd_L5 l0 ((rd_T45 t518 x11_1).f0)).length:Int):=of_decide_eq_true za
               obtain ⟨ad524,e524,hx524_0⟩:=Kd.at_bool HR523_0.out x17_2 p524 q524
               (try rw [←Nbq16.out] at hx524_0)
               cases e524
               replace hx524_0:=(HB.out.cell (World.block_lt_of_cell? w _ hx524_0)).trans hx524_0
               replace p524:=eq_true p524
               replace q524:=eq_true q524
               go_wp2
               repeat (go_quiet (fail);try go_wp2)
               go_roundg k2
               case measure=>have:=HK1.out;have:=HK2.out;omega
               case rel=>exact ⟨(!false),(wrap64 (x17_2 + 1)),zo,zo,H',⟨by have:=HK1.out;have:=HK2.out;omega⟩,⟨zR HO_3.out⟩,⟨zR HO_9.out⟩,⟨by (with_reducible repeat (first|refine blk_drewN ?_ _|refine blk_drew ?_|refine blk_alloc ?_ _));exact BK522.out⟩,⟨by repeat (first|(with_reducible first|exact HB.out|apply below_alloc|apply pw_below_drewN|apply below_drew1|refine below_set ?_ GE522.out)|exact HB.out)⟩⟩
             ·rw [if_neg c15] at H
              exact absurd H (by simp)
            ·rw [if_neg c14] at H
             exact absurd H (by simp)
           ·rw [if_neg c13] at H
            exact absurd H (by simp)
          ·rw [if_neg c12] at H
           exact absurd H (by simp)
         ·replace c11:=Bool.eq_false_iff.mpr c11
          subst c11
          rw [if_neg (show ¬ (false=true) by decide)] at H
          have H':=Aside0.mk H
          clear H
          go_wp2
          repeat (go_quiet (fail);try go_wp2)
          go_roundg k2
          case measure=>have:=HK1.out;have:=HK2.out;omega
          case rel=>exact ⟨(false),(wrap64 (x17_2 + 1)),zo,zo,H',⟨by have:=HK1.out;have:=HK2.out;omega⟩,⟨zR HO_3.out⟩,⟨zR HO_9.out⟩,⟨by (with_reducible repeat (first|refine blk_drewN ?_ _|refine blk_drew ?_|refine blk_alloc ?_ _));exact BK522.out⟩,⟨by repeat (first|(with_reducible first|exact HB.out|apply below_alloc|apply pw_below_drewN|apply below_drew1|refine below_set ?_ GE522.out)|exact HB.out)⟩⟩
        ·rw [if_neg c10] at H
         have c10b0:decide (x17_2<(l0.length:Int))=false:=decide_eq_false c10
         clear c10
         by_cases c23:x6_2=true
         ·subst c23
          rw [if_pos rfl] at H
          by_cases c24:x3_1.length<8796093022208
          ·rw [if_pos c24] at H
           have LMc24:=Aside0.mk c24
           clear c24
           obtain ⟨y527,hy527⟩:∃ y_:List (S45),y_=(x3_1++[(⟨((rd_T45 t518 x11_1).f0),((rd_T45 t518 x11_1).f1)⟩:S45)]):=⟨_,rfl⟩
           replace H:(impl_reduction.l0 k2 l0 y527 t518 (t518.length:Int) (wrap64 (x11_1 + 1)))=some r:=by first|(rw [hy527];with_reducible exact H)|(have H2_:=(Option.bind_some _ _).symm.trans H;rw [hy527];with_reducible exact H2_)|(have H2_:=(Option.bind_some _ _).symm.trans H;with_reducible exact H2_)|with_reducible exact H|(rw [hy527];exact H)|exact H
           have Ny527:=Aside0.mk hy527
           clear hy527
           have H':=Aside0.mk H
           clear H
           have hcz25_0:wr.cell? ⟨gb522,0,none⟩=some (.int .i64 ((rd_T45 t518 x11_1).f0)):=(blk_cell BK522.out 0).trans rfl
           have hcz25_1:wr.cell? ⟨gb522,1,none⟩=some (.int .i64 ((rd_T45 t518 x11_1).f1)):=(blk_cell BK522.out 1).trans rfl
           have hfz25_0:=blk_frozen BK522.out 0
           have hfz25_1:=blk_frozen BK522.out 1
           go_wp2_with (first|((with_reducible refine gate_builtin (b:=.append) (xs:=#[.tmp 44,.tmp 46]) rfl ?_);at_builtin;refine Kd.R_append k45 (w0:=w) w.heap.size rfl (.tmp 44) (.tmp 46) 36 45 (.agg #[(.int .i64 0),(.int .i64 0)]) 16 rfl Try.underlying36 info45 rfl (by decide) (by omega) u3 x3_1 (⟨((rd_T45 t518 x11_1).f0),((rd_T45 t518 x11_1).f1)⟩:S45) [.int .i64 ((rd_T45 t518 x11_1).f0),.int .i64 ((rd_T45 t518 x11_1).f1)] (fun k_=>some k_≠(.slice (some ad521) t518.length co4:Value).ownBlock∧k_≠gb522) (fun _=>False) rfl rfl ?aP (fun _ hk=>hk.elim) ?aF ?aO ?aB ?aS ?aL ?_;(case aP=>exact k45_mkM _ _ _ (⟨((rd_T45 t518 x11_1).f0),((rd_T45 t518 x11_1).f1)⟩:S45));(case aB=>exact (by repeat (first|(with_reducible first|exact HB.out|apply below_alloc|apply pw_below_drewN|apply below_drew1|refine below_set ?_ GE522.out)|exact HB.out)));(case aF=>exact (fun k_ hk=>⟨Kd.fresh' (Kd.R_lt (zR HO_9.out)) k_ hk,Kd.freshB (g:=gb522) (o:=.cells #[.int .i64 ((rd_T45 t518 x11_1).f0),.int .i64 ((rd_T45 t518 x11_1).f1)] 45 (0,0)) (by (with_reducible repeat (first|refine blk_drewN ?_ _|refine blk_drew ?_|refine blk_alloc ?_ _));exact BK522.out) k_ hk⟩));(case aO=>exact (zR HO_3.out));(case aS=>exact (below_size (by repeat (first|(with_reducible first|exact HB.out|apply below_alloc|apply pw_below_drewN|apply below_drew1|refine below_set ?_ GE522.out)|exact HB.out))));(case aL=>have:=LMc24.out;omega);intro v528 w26 ho hb hg hat;rw [←Ny527.out] at ho;replace HO_9:=Aside0.mk (Kd.R_after (ok:=(fun k_=>k_≠gb522)) (zR (Kd.R_mono HO_9.out (fun _ hk=>⟨hk.2,hk.1⟩))) hg hat);replace BK522:=Aside0.mk (blk_grown (g:=gb522) (o:=.cells #[.int .i64 ((rd_T45 t518 x11_1).f0),.int .i64 ((rd_T45 t518 x11_1).f1)] 45 (0,0)) (by (with_reducible repeat (first|refine blk_drewN ?_ _|refine blk_drew ?_|refine blk_alloc ?_ _));exact BK522.out) hg (Kd.R_away HO_3.out (fun _ hk=>hk.2)));replace HB:=Aside0.mk (hb);have HO529:=Aside0.mk (ho);clear HO_3;clear ho hb hg hat))
           repeat (go_quiet (first|((with_reducible refine gate_builtin (b:=.append) (xs:=#[.tmp 44,.tmp 46]) rfl ?_);at_builtin;refine Kd.R_append k45 (w0:=w) w.heap.size rfl (.tmp 44) (.tmp 46) 36 45 (.agg #[(.int .i64 0),(.int .i64 0)]) 16 rfl Try.underlying36 info45 rfl (by decide) (by omega) u3 x3_1 (⟨((rd_T45 t518 x11_1).f0),((rd_T45 t518 x11_1).f1)⟩:S45) [.int .i64 ((rd_T45 t518 x11_1).f0),.int .i64 ((rd_T45 t518 x11_1).f1)] (fun k_=>some k_≠(.slice (some ad521) t518.length co4:Value).ownBlock∧k_≠gb522) (fun _=>False) rfl rfl ?aP (fun _ hk=>hk.elim) ?aF ?aO ?aB ?aS ?aL ?_;(case aP=>exact k45_mkM _ _ _ (⟨((rd_T45 t518 x11_1).f0),((rd_T45 t518 x11_1).f1)⟩:S45));(case aB=>exact (by repeat (first|(with_reducible first|exact HB.out|apply below_alloc|apply pw_below_drewN|apply below_drew1|refine below_set ?_ GE522.out)|exact HB.out)));(case aF=>exact (fun k_ hk=>⟨Kd.fresh' (Kd.R_lt (zR HO_9.out)) k_ hk,Kd.freshB (g:=gb522) (o:=.cells #[.int .i64 ((rd_T45 t518 x11_1).f0),.int .i64 ((rd_T45 t518 x11_1).f1)] 45 (0,0)) (by (with_reducible repeat (first|refine blk_drewN ?_ _|refine blk_drew ?_|refine blk_alloc ?_ _));exact BK522.out) k_ hk⟩));(case aO=>exact (zR HO_3.out));(case aS=>exact (below_size (by repeat (first|(with_reducible first|exact HB.out|apply below_alloc|apply pw_below_drewN|apply below_drew1|refine below_set ?_ GE522.out)|exact HB.out))));(case aL=>have:=LMc24.out;omega);intro v528 w26 ho hb hg hat;rw [←Ny527.out] at ho;replace HO_9:=Aside0.mk (Kd.R_after (ok:=(fun k_=>k_≠gb522)) (zR (Kd.R_mono HO_9.out (fun _ hk=>⟨hk.2,hk.1⟩))) hg hat);replace BK522:=Aside0.mk (blk_grown (g:=gb522) (o:=.cells #[.int .i64 ((rd_T45 t518 x11_1).f0),.int .i64 ((rd_T45 t518 x11_1).f1)] 45 (0,0)) (by (with_reducible repeat (first|refine blk_drewN ?_ _|refine blk_drew ?_|refine blk_alloc ?_ _));exact BK522.out) hg (Kd.R_away HO_3.out (fun _ hk=>hk.2)));replace HB:=Aside0.mk (hb);have HO529:=Aside0.mk (ho);clear HO_3;clear ho hb hg hat));try go_wp2_with (fail))
           go_roundg k2
           case measure=>have:=HK1.out;have:=HK2.out;omega
           case rel=>exact ⟨(y527),(wrap64 (x11_1 + 1)),zo,H',⟨by have:=HK1.out;have:=HK2.out;omega⟩,⟨zR (Kd.R_mono HO529.out (fun _ hk=>hk.1))⟩,⟨zR (Kd.R_mono HO_9.out (fun _ hk=>hk.2))⟩,⟨by repeat (first|(with_reducible first|exact HB.out|apply below_alloc|apply pw_below_drewN|apply below_drew1|refine below_set ?_ GE522.out)|exact HB.out)⟩⟩
          ·rw [if_neg c24] at H
           exact absurd H (by simp)
         ·replace c23:=Bool.eq_false_iff.mpr c23
          subst c23
          rw [if_neg (show ¬ (false=true) by decide)] at H
          have H':=Aside0.mk H
          clear H
          go_wp2
          repeat (go_quiet (fail);try go_wp2)
          go_roundg k2
          case measure=>have:=HK1.out;have:=HK2.out;omega
          case rel=>exact ⟨(x3_1),(wrap64 (x11_1 + 1)),zo,H',⟨by have:=HK1.out;have:=HK2.out;omega⟩,⟨zR (Kd.R_mono HO_3.out (fun _ hk=>hk.1))⟩,⟨zR (Kd.R_mono HO_9.out (fun _ hk=>hk.1))⟩,⟨by repeat (first|(with_reducible first|exact HB.out|apply below_alloc|apply pw_below_drewN|apply below_drew1|refine below_set ?_ GE522.out)|exact HB.out)⟩⟩
     ·rw [if_neg c7] at H
      exact absurd H (by simp)
    ·rw [if_neg c6] at H
     exact absurd H (by simp)
   ·rw [if_neg c5] at H
    have c5b0:decide (x11_1<(t518.length:Int))=false:=decide_eq_false c5
    clear c5
    obtain rfl:=Option.some.inj H
    go_wp2
    repeat (go_quiet (fail);try go_wp2)
    go_ret
    exact ⟨_,by first|rfl|(simp [errW_none,errW_some] <;> rfl)|(simp [*,errW_none,errW_some] <;> rfl),zR (Kd.R_mono HO_3.out (fun _ hk=>trivial)),zb⟩

/-! ### impl_PrecedenceReduction: function 25 -/
def impl_PrecedenceReduction.f (k:Nat) (a0:Int) (l1:List (S45)):Option ((List (S45)) × Bool):=(impl_IsPrecedence.f k a0 l1).bind fun t530=>(if t530=true then ((impl_closure.f k a0 l1).bind fun t531=>((impl_reduction.f k t531).bind fun t534=>(some (t534,true)))) else (some (([]:List (S45)),false)))
theorem impl_PrecedenceReduction.mono:∀ a0 a1 k,LeO (impl_PrecedenceReduction.f k a0 a1) (impl_PrecedenceReduction.f (k + 1) a0 a1):=by
 intro a0 a1 k
 unfold impl_PrecedenceReduction.f
 repeat' first
   | (with_reducible exact impl_IsPrecedence.mono _ _ _)
   | (with_reducible exact impl_closure.mono _ _ _)
   | (with_reducible exact impl_reduction.mono _ _)
   | (with_reducible exact LeO.refl _)
   | (with_reducible exact LeO.none _)
   | (with_reducible refine LeO.ite ?_ ?_)
   | (with_reducible refine LeO.bind ?_ (fun _=>?_))
   | exact impl_IsPrecedence.mono _ _ _
   | exact impl_closure.mono _ _ _
   | exact impl_reduction.mono _ _
   | exact LeO.none _
   | refine LeO.ite ?_ ?_
   | refine LeO.bind ?_ (fun _=>?_)
set_option maxHeartbeats 8000000 in
set_option maxRecDepth 100000 in
theorem impl_PrecedenceReduction.calls (k:Nat) (a0:Int) (A1:Option Addr) (c1:Nat) (l1:List (S45)) (r1:List (S45)) (r2:Bool) (w:World) (hr1:Kd.C k45 w A1 l1.length l1) (hc1:l1.length≤c1) (h:impl_PrecedenceReduction.f k a0 l1=some (r1,r2)) :
  Calls Try.prog 25 #[.int .i64 a0,.slice A1 l1.length c1] w fun e w'=>∃ v0_:Value,e=.returned (.tuple #[v0_,.bool r2])∧Kd.R k45 45 w' w.heap.size (fun _=>True) v0_ r1∧Below w.heap.size w w':=by
 have HR1:=Aside0.mk hr1
 have HC1:=Aside0.mk hc1
 clear hr1 hc1
 have HB:=Aside0.mk (Below.refl w.heap.size w)
 have H:((impl_IsPrecedence.f k a0 l1).bind fun t530=>(if t530=true then ((impl_closure.f k a0 l1).bind fun t531=>((impl_reduction.f k t531).bind fun t534=>(some (t534,true)))) else (some (([]:List (S45)),false))))=some (r1,r2):=h
 clear h
 replace H:=Option.bind_eq_some_iff.mp H
 obtain ⟨t530,A30,H⟩:=H
 try dsimp only at H
 have A3:=Aside0.mk A30
 clear A30
 by_cases c4:t530=true
 ·subst c4
  rw [if_pos rfl] at H
  replace H:=Option.bind_eq_some_iff.mp H
  obtain ⟨t531,A50,H⟩:=H
  try dsimp only at H
  have A5:=Aside0.mk A50
  clear A50
  replace H:=Option.bind_eq_some_iff.mp H
  obtain ⟨t534,A60,H⟩:=H
  try dsimp only at H
  have A6:=Aside0.mk A60
  clear A60
  simp only [Option.some.injEq,Prod.mk.injEq] at H
  obtain ⟨rfl,rfl⟩:=H
  go_enter Try.func25,Try.ntmps25
  go_wp2_with (first|((with_reducible refine gate_callee (f:=75) rfl ?_);refine goesL_ (some 8) rfl rfl Try.func75 (by kernel_rfl) rfl #[.int .i64 a0,.slice A1 l1.length c1] rfl zl ?_;(with_reducible refine (impl_IsPrecedence.calls k a0 _ _ l1 true _ ?side1 ?side2 A3.out).mono ?_);(case side1=>exact zC HR1.out);(case side2=>exact HC1.out);rintro e w7 ⟨rfl,hb⟩;refine ⟨_,rfl,?_⟩;replace HB:=Aside0.mk (below_step zb hb);(try clear hb))|((with_reducible refine gate_callee (f:=71) rfl ?_);refine goesL_ (some 12) rfl rfl Try.func71 (by kernel_rfl) rfl #[.int .i64 a0,.slice A1 l1.length c1] rfl zl ?_;(with_reducible refine (impl_closure.calls k a0 _ _ l1 t531 _ ?side1 ?side2 A5.out).mono ?_);(case side1=>exact zC (Kd.C_below HR1.out HB.out));(case side2=>exact HC1.out);rintro e w8 ⟨v532,rfl,ho0,hb⟩;refine ⟨_,rfl,?_⟩;have HO533:=Aside0.mk (Kd.S_lower ho0 (below_size zb));replace HB:=Aside0.mk (below_step zb hb);(try clear hb);(try clear ho0);obtain ⟨Ao9,co9,eo9⟩:=Kd.S_slice HO533.out;subst eo9)|((with_reducible refine gate_callee (f:=76) rfl ?_);refine goesL_ (some 13) rfl rfl Try.func76 (by kernel_rfl) rfl #[.slice Ao9 t531.length co9] rfl zl ?_;(with_reducible refine (impl_reduction.calls k _ _ t531 t534 _ ?side1 ?side2 A6.out).mono ?_);(case side1=>exact zC ((Kd.S_reads' HO533.out).2.2));(case side2=>exact (Kd.S_reads' HO533.out).2.1);rintro e w10 ⟨v535,rfl,ho0,hb⟩;refine ⟨_,rfl,?_⟩;replace HO533:=Aside0.mk (Kd.S_below (zS HO533.out) hb);have HO536:=Aside0.mk (Kd.R_lower ho0 (below_size zb));replace HB:=Aside0.mk (below_step zb hb);(try clear hb);(try clear ho0)))
  go_ret2
  exact ⟨_,by first|rfl|(simp [errW_none,errW_some] <;> rfl)|(simp [*,errW_none,errW_some] <;> rfl),zR HO536.out,zb⟩
 ·replace c4:=Bool.eq_false_iff.mpr c4
  subst c4
  rw [if_neg (show ¬ (false=true) by decide)] at H
  simp only [Option.some.injEq,Prod.mk.injEq] at H
  obtain ⟨rfl,rfl⟩:=H
  go_enter Try.func25,Try.ntmps25
  go_wp2_with (first|((with_reducible refine gate_callee (f:=75) rfl ?_);refine goesL_ (some 8) rfl rfl Try.func75 (by kernel_rfl) rfl #[.int .i64 a0,.slice A1 l1.length c1] rfl zl ?_;(with_reducible refine (impl_IsPrecedence.calls k a0 _ _ l1 false _ ?side1 ?side2 A3.out).mono ?_);(case side1=>exact zC HR1.out);(case side2=>exact HC1.out);rintro e w11 ⟨rfl,hb⟩;refine ⟨_,rfl,?_⟩;replace HB:=Aside0.mk (below_step zb hb);(try clear hb)))
  go_ret2
  exact ⟨_,by first|rfl|(simp [errW_none,errW_some] <;> rfl)|(simp [*,errW_none,errW_some] <;> rfl),by first|exact Kd.R_nil _ _ _ _ _|exact Kd.N_nil _ _ _ _ _|exact Kd.V_nil _ _ _ _ _|exact Kd.Q_nil _ _ _ _ _|exact Kd.S_nil _ _ _ _ _,zb⟩

/-! ### laws_vTimes: function 26 -/
def laws_vTimes.l0:Nat→List (S47)→List Int→Int→Int→Option (Int)
 | 0,_,_,_,_=>none
 | k + 1,x0,x1,x5,x6=>if x6<(x1.length:Int) then (if 0≤x6 then (if 0≤(rd x1 x6) then (if (rd x1 x6)<(x0.length:Int) then (laws_vTimes.l0 k x0 x1 (wrap64 (x5 + ((rd_T47 x0 (rd x1 x6)).f0))) (wrap64 (x6 + 1))) else (none)) else (none)) else (none)) else (some x5)
def laws_vTimes.f (k:Nat) (l0:List (S47)) (l1:List Int):Option (Int):=laws_vTimes.l0 k l0 l1 0 0
theorem laws_vTimes.mono_l:∀ k,(∀ y0 y1 y2 y3,LeO (laws_vTimes.l0 k y0 y1 y2 y3) (laws_vTimes.l0 (k + 1) y0 y1 y2 y3))
 | 0=>fun _ _ _ _ r h=>by simp [laws_vTimes.l0] at h
 | k + 1=>by
  have ih0:=laws_vTimes.mono_l k
  ·intro y0 y1 y2 y3
   unfold laws_vTimes.l0
   repeat' first
   | (with_reducible exact ih0 _ _ _ _)
   | (with_reducible exact LeO.refl _)
   | (with_reducible exact LeO.none _)
   | (with_reducible refine LeO.ite ?_ ?_)
   | (with_reducible refine LeO.bind ?_ (fun _=>?_))
   | exact ih0 _ _ _ _
   | exact LeO.none _
   | refine LeO.ite ?_ ?_
   | refine LeO.bind ?_ (fun _=>?_)
theorem laws_vTimes.mono:∀ a0 a1 k,LeO (laws_vTimes.f k a0 a1) (laws_vTimes.f (k + 1) a0 a1):=by
 intro a0 a1 k
 have ih0:=laws_vTimes.mono_l k
 unfold laws_vTimes.f
 repeat' first
   | (with_reducible exact ih0 _ _ _ _)
   | (with_reducible exact LeO.refl _)
   | (with_reducible exact LeO.none _)
   | (with_reducible refine LeO.ite ?_ ?_)
   | (with_reducible refine LeO.bind ?_ (fun _=>?_))
   | exact ih0 _ _ _ _
   | exact LeO.none _
   | refine LeO.ite ?_ ?_
   | refine LeO.bind ?_ (fun _=>?_)
set_option maxHeartbeats 8000000 in
set_option maxRecDepth 100000 in
theorem laws_vTimes.calls (k:Nat) (A0:Option Addr) (c0:Nat) (l0:List (S47)) (A1:Option Addr) (c1:Nat) (l1:List Int) (r:Int) (w:World) (hr0:Kd.C k47 w A0 l0.length l0) (hc0:l0.length≤c0) (hr1:Kd.C (Kd.int .i64) w A1 l1.length l1) (hc1:l1.length≤c1) (h:laws_vTimes.f k l0 l1=some r) :
  Calls Try.prog 26 #[.slice A0 l0.length c0,.slice A1 l1.length c1] w fun e w'=>e=.returned (.int .i64 r)∧Drawn0 w w':=by
 have HR0:=Aside0.mk hr0
 have HC0:=Aside0.mk hc0
 clear hr0 hc0
 have HR1:=Aside0.mk hr1
 have HC1:=Aside0.mk hc1
 clear hr1 hc1
 have H:(laws_vTimes.l0 k l0 l1 0 0)=some r:=h
 clear h
 have H':=Aside0.mk H
 clear H
 go_enter Try.func26,Try.ntmps26
 go_wp2
 go_loopg [5,6] k (fun kq v5 v6 w'=>∃ (x5_1:Int) (x6_1:Int),v5=.int .i64 x5_1∧v6=.int .i64 x6_1∧Aside0 (laws_vTimes.l0 kq l0 l1 x5_1 x6_1=some r)∧Aside0 (kq≤k)∧Drawn0 w w')
 case atStart=>exact ⟨(0),(0),zo,zo,H',⟨Nat.le_refl _⟩,by repeat (first|exact Drawn0.refl _|apply Drawn0.step)⟩
 case round=>
  clear H'
  (try clear c1);(try clear c2);(try clear p2)
  obtain ⟨x5_1,x6_1,rfl,rfl,HA,HK1,⟨m1,rfl⟩⟩:=hrel
  cases gk with
  | zero=>exact absurd HA.out (by simp [laws_vTimes.l0])
  | succ k1=>
   have H:=HA.out
   clear HA
   simp only [laws_vTimes.l0] at H
   by_cases c3:x6_1<(l1.length:Int)
   ·rw [if_pos c3] at H
    have c3b0:decide (x6_1<(l1.length:Int))=true:=decide_eq_true c3
    clear c3
    by_cases c4:0≤x6_1
    ·rw [if_pos c4] at H
     have c4b0:decide (0≤x6_1)=true:=decide_eq_true c4
     clear c4
     by_cases c5:0≤(rd l1 x6_1)
     ·rw [if_pos c5] at H
      have c5b0:decide (0≤(rd l1 x6_1))=true:=decide_eq_true c5
      clear c5
      by_cases c6:(rd l1 x6_1)<(l0.length:Int)
      ·rw [if_pos c6] at H
       have c6b0:decide ((rd l1 x6_1)<(l0.length:Int))=true:=decide_eq_true c6
       clear c6
       have H':=Aside0.mk H
       clear H
       have p537:0≤(x6_1:Int):=of_decide_eq_true za
       have q537:x6_1<(l1.length:Int):=of_decide_eq_true za
       obtain ⟨ad537,e537,hx537_0⟩:=Kd.at_int HR1.out x6_1 p537 q537
       cases e537
       replace p537:=eq_true p537
       replace q537:=eq_true q537
       have p538:0≤((rd l1 x6_1):Int):=of_decide_eq_true za
       have q538:(rd l1 x6_1)<(l0.length:Int):=of_decide_eq_true za
       obtain ⟨ad538,e538,hx538_0,hx538_1,hx538_2,hx538_3⟩:=at_T47 HR0.out (rd l1 x6_1) p538 q538
       cases e538
       replace p538:=eq_true p538
       replace q538:=eq_true q538
       go_wp2
       go_roundg k1
       case measure=>have:=HK1.out;omega
       case rel=>exact ⟨(wrap64 (x5_1 + ((rd_T47 l0 (rd l1 x6_1)).f0))),(wrap64 (x6_1 + 1)),zo,zo,H',⟨by have:=HK1.out;omega⟩,by repeat (first|exact Drawn0.refl _|apply Drawn0.step)⟩
      ·rw [if_neg c6] at H
       exact absurd H (by simp)
     ·rw [if_neg c5] at H
      exact absurd H (by simp)
    ·rw [if_neg c4] at H
     exact absurd H (by simp)
   ·rw [if_neg c3] at H
    have c3b0:decide (x6_1<(l1.length:Int))=false:=decide_eq_false c3
    clear c3
    obtain rfl:=Option.some.inj H
    go_wp2
    go_ret
    exact ⟨by first|rfl|(simp;done)|(simp [*];done),by repeat (first|exact Drawn0.refl _|apply Drawn0.step)⟩

end Go.Proofs.Ytplbabjigikgjaa.XFnTails
-- minified
