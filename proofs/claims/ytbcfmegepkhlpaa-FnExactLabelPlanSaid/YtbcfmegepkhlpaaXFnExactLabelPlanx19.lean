-- Written by a program of this session (the kit's print, widened). Proved here: what each function answers, for the arguments that its contract names.
import Derived.Test.YtbcfmegepkhlpaaXFnExactLabelPlanx0
namespace Go.Proofs.Ytbcfmegepkhlpaa.XFnExactLabelPlan
open Go.RowKit Go.Proofs.YtbcfmegepkhlpaaW.PrintWords Go.Proofs.YtbcfmegepkhlpaaW.PrintLast Go.Proofs.YtbcfmegepkhlpaaW.PrintMore
attribute [local go_sem] max2_int min2_int max_two min_two max_three min_three max_four min_four   -- for this text's walks alone
attribute [local go_sem] idxA_72_0 idxA_72_1 fldS_96_0 fldS_96_1 fldS_96_2 fldS_111_0 fldS_111_1 fldS_111_2
set_option linter.unusedVariables false
set_option linter.unusedSimpArgs false

/-! ### impl_pairsOf: function 158 -/
mutual
def impl_pairsOf.l0:Nat→List (S72)→List (List Bool)→Int→Int→Option ((List (S72)))
 | 0,_,_,_,_=>none
 | k + 1,x3,x8,x9,x10=>if x10<x9 then (if 0≤x10 then (if x10<(x8.length:Int) then (impl_pairsOf.l1 k x3 x10 x8 x9 x10 (rd_L3 x8 x10) ((rd_L3 x8 x10).length:Int) 0) else (none)) else (none)) else (some x3)
def impl_pairsOf.l1:Nat→List (S72)→Int→List (List Bool)→Int→Int→List Bool→Int→Int→Option ((List (S72)))
 | 0,_,_,_,_,_,_,_,_=>none
 | k + 1,x3,x4,x8,x9,x10,x15,x16,x17=>if x17<x16 then (if 0≤x17 then (if x17<(x15.length:Int) then (if rdOf false x15 x17=true then (if x3.length<8796093022208 then (impl_pairsOf.l1 k (x3++[(⟨x4,x17⟩:S72)]) x4 x8 x9 x10 x15 x16 (wrap64 (x17 + 1))) else (none)) else (impl_pairsOf.l1 k x3 x4 x8 x9 x10 x15 x16 (wrap64 (x17 + 1)))) else (none)) else (none)) else (impl_pairsOf.l0 k x3 x8 x9 (wrap64 (x10 + 1)))
end
def impl_pairsOf.f (k:Nat) (l0:List (List Bool)):Option ((List (S72))):=impl_pairsOf.l0 k ([]:List (S72)) l0 (l0.length:Int) 0
theorem impl_pairsOf.mono_l:∀ k,(∀ y0 y1 y2 y3,LeO (impl_pairsOf.l0 k y0 y1 y2 y3) (impl_pairsOf.l0 (k + 1) y0 y1 y2 y3))∧(∀ y0 y1 y2 y3 y4 y5 y6 y7,LeO (impl_pairsOf.l1 k y0 y1 y2 y3 y4 y5 y6 y7) (impl_pairsOf.l1 (k + 1) y0 y1 y2 y3 y4 y5 y6 y7))
 | 0=>⟨fun _ _ _ _ r h=>by simp [impl_pairsOf.l0] at h,fun _ _ _ _ _ _ _ _ r h=>by simp [impl_pairsOf.l1] at h⟩
 | k + 1=>by
  obtain ⟨ih0,ih1⟩:=impl_pairsOf.mono_l k
  refine ⟨?_,?_⟩
  ·intro y0 y1 y2 y3
   unfold impl_pairsOf.l0
   repeat' first
   | (with_reducible exact ih0 _ _ _ _)
   | (with_reducible exact ih1 _ _ _ _ _ _ _ _)
   | (with_reducible exact LeO.refl _)
   | (with_reducible exact LeO.none _)
   | (with_reducible refine LeO.ite ?_ ?_)
   | (with_reducible refine LeO.bind ?_ (fun _=>?_))
   | exact ih0 _ _ _ _
   | exact ih1 _ _ _ _ _ _ _ _
   | exact LeO.none _
   | refine LeO.ite ?_ ?_
   | refine LeO.bind ?_ (fun _=>?_)
  ·intro y0 y1 y2 y3 y4 y5 y6 y7
   unfold impl_pairsOf.l1
   repeat' first
   | (with_reducible exact ih0 _ _ _ _)
   | (with_reducible exact ih1 _ _ _ _ _ _ _ _)
   | (with_reducible exact LeO.refl _)
   | (with_reducible exact LeO.none _)
   | (with_reducible refine LeO.ite ?_ ?_)
   | (with_reducible refine LeO.bind ?_ (fun _=>?_))
   | exact ih0 _ _ _ _
   | exact ih1 _ _ _ _ _ _ _ _
   | exact LeO.none _
   | refine LeO.ite ?_ ?_
   | refine LeO.bind ?_ (fun _=>?_)
theorem impl_pairsOf.mono:∀ a0 k,LeO (impl_pairsOf.f k a0) (impl_pairsOf.f (k + 1) a0):=by
 intro a0 k
 obtain ⟨ih0,ih1⟩:=impl_pairsOf.mono_l k
 unfold impl_pairsOf.f
 repeat' first
   | (with_reducible exact ih0 _ _ _ _)
   | (with_reducible exact ih1 _ _ _ _ _ _ _ _)
   | (with_reducible exact LeO.refl _)
   | (with_reducible exact LeO.none _)
   | (with_reducible refine LeO.ite ?_ ?_)
   | (with_reducible refine LeO.bind ?_ (fun _=>?_))
   | exact ih0 _ _ _ _
   | exact ih1 _ _ _ _ _ _ _ _
   | exact LeO.none _
   | refine LeO.ite ?_ ?_
   | refine LeO.bind ?_ (fun _=>?_)
set_option maxHeartbeats 8000000 in
set_option maxRecDepth 100000 in
theorem impl_pairsOf.calls (k:Nat) (A0:Option Addr) (c0:Nat) (l0:List (List Bool)) (r:List (S72)) (w:World) (hr0:Kd.C (Kd.slice 4 Kd.bool) w A0 l0.length l0) (hc0:l0.length≤c0) (h:impl_pairsOf.f k l0=some r) :
  Calls Try.prog 158 #[.slice A0 l0.length c0] w fun e w'=>∃ v0_:Value,e=.returned (v0_)∧Kd.R k72 72 w' w.heap.size (fun _=>True) v0_ r∧Below w.heap.size w w':=by
 have hu72:=Try.underlying72
 have HR0:=Aside0.mk hr0
 have HC0:=Aside0.mk hc0
 clear hr0 hc0
 have HB:=Aside0.mk (Below.refl w.heap.size w)
 have H:(impl_pairsOf.l0 k ([]:List (S72)) l0 (l0.length:Int) 0)=some r:=h
 clear h
 have H':=Aside0.mk H
 clear H
 go_enter Try.func158,Try.ntmps158
 go_wp2
 go_loopg [3,10] k (fun kq v3 v10 w'=>∃ (x3_1:List (S72)) (x10_1:Int),v10=.int .i64 x10_1∧Aside0 (impl_pairsOf.l0 kq x3_1 l0 (l0.length:Int) x10_1=some r)∧Aside0 (kq≤k)∧Aside0 (Kd.R k72 72 w' w.heap.size (fun _=>True) v3 x3_1)∧Aside0 (Below w.heap.size w w'))
 case atStart=>exact ⟨(([]:List (S72))),(0),zo,H',⟨Nat.le_refl _⟩,⟨by first|exact Kd.R_nil _ _ _ _ _|exact Kd.N_nil _ _ _ _ _|exact Kd.V_nil _ _ _ _ _|exact Kd.Q_nil _ _ _ _ _|exact Kd.S_nil _ _ _ _ _⟩,⟨zb⟩⟩
 case round=>
  clear H'
  try clear c1
  obtain ⟨x3_1,x10_1,rfl,HA,HK1,HO_3,HB⟩:=hrel
  cases gk with
  | zero=>exact absurd HA.out (by simp [impl_pairsOf.l0])
  | succ k1=>
   have H:=HA.out
   clear HA
   simp only [impl_pairsOf.l0] at H
   by_cases c2:x10_1<(l0.length:Int)
   ·rw [if_pos c2] at H
    have c2b0:decide (x10_1<(l0.length:Int))=true:=decide_eq_true c2
    clear c2
    by_cases c3:0≤x10_1
    ·rw [if_pos c3] at H
     have c3b0:decide (0≤x10_1)=true:=decide_eq_true c3
     clear c3
     by_cases c4:x10_1<(l0.length:Int)
     ·rw [if_pos c4] at H
      have c4b0:decide (x10_1<(l0.length:Int))=true:=decide_eq_true c4
      clear c4
      have H':=Aside0.mk H
      clear H
      have p352:0≤(x10_1:Int):=of_decide_eq_true za
      have q352:x10_1<(l0.length:Int):=of_decide_eq_true za
      obtain ⟨ad352,A352_0,c352_0,e352,hx352_0,hl352_0,hi352_0⟩:=at_L3 HR0.out x10_1 p352 q352
      cases e352
      replace hx352_0:=(HB.out.cell (World.block_lt_of_cell? w _ hx352_0)).trans hx352_0
      have HR352_0:=Aside0.mk hi352_0
      have HC352_0:=Aside0.mk hl352_0
      clear hi352_0 hl352_0
      replace p352:=eq_true p352
      replace q352:=eq_true q352
      go_wp2
      go_loopg [3,17] k1 (fun kq v3 v17 w'=>∃ (x3_2:List (S72)) (x17_2:Int),v17=.int .i64 x17_2∧Aside0 (impl_pairsOf.l1 kq x3_2 x10_1 l0 (l0.length:Int) x10_1 (rd_L3 l0 x10_1) ((rd_L3 l0 x10_1).length:Int) x17_2=some r)∧Aside0 (kq≤k1)∧Aside0 (Kd.R k72 72 w' w.heap.size (fun _=>True) v3 x3_2)∧Aside0 (Below w.heap.size w w'))
      case atStart=>exact ⟨(x3_1),(0),zo,H',⟨Nat.le_refl _⟩,⟨zR HO_3.out⟩,⟨zb⟩⟩
      case round=>
       clear H'
       (try clear c1);(try clear c2);(try clear c2b0);(try clear p2);(try clear c3);(try clear c3b0);(try clear p3);(try clear q3);(try clear hx3);(try clear c4);(try clear c4b0);(try clear hx352_0);(try clear p352);(try clear q352)
       obtain ⟨x3_2,x17_2,rfl,HA,HK2,HO_3,HB⟩:=hrel
       cases gk with
       | zero=>exact absurd HA.out (by simp [impl_pairsOf.l1])
       | succ k2=>
        have H:=HA.out
        clear HA
        simp only [impl_pairsOf.l1] at H
        by_cases c5:x17_2<((rd_L3 l0 x10_1).length:Int)
        ·rw [if_pos c5] at H
         have c5b0:decide (x17_2<((rd_L3 l0 x10_1).length:Int))=true:=decide_eq_true c5
         clear c5
         by_cases c6:0≤x17_2
         ·rw [if_pos c6] at H
          have c6b0:decide (0≤x17_2)=true:=decide_eq_true c6
          clear c6
          by_cases c7:x17_2<((rd_L3 l0 x10_1).length:Int)
          ·rw [if_pos c7] at H
           have c7b0:decide (x17_2<((rd_L3 l0 x10_1).length:Int))=true:=decide_eq_true c7
           clear c7
           obtain ⟨bq8,hbq8⟩:∃ b_:Bool,b_=(rdOf false (rd_L3 l0 x10_1) x17_2):=⟨_,rfl⟩
           replace H:(if bq8=true then (if x3_2.length<8796093022208 then (impl_pairsOf.l1 k2 (x3_2++[(⟨x10_1,x17_2⟩:S72)]) x10_1 l0 (l0.length:Int) x10_1 (rd_L3 l0 x10_1) ((rd_L3 l0 x10_1).length:Int) (wrap64 (x17_2 + 1))) else (none)) else (impl_pairsOf.l1 k2 x3_2 x10_1 l0 (l0.length:Int) x10_1 (rd_L3 l0 x10_1) ((rd_L3 l0 x10_1).length:Int) (wrap64 (x17_2 + 1))))=some r:=by rw [←hbq8] at H;exact H
           have Nbq8:=Aside0.mk hbq8
           clear hbq8
           by_cases c9:bq8=true
           ·subst c9
            have H1:(if x3_2.length<8796093022208 then (impl_pairsOf.l1 k2 (x3_2++[(⟨x10_1,x17_2⟩:S72)]) x10_1 l0 (l0.length:Int) x10_1 (rd_L3 l0 x10_1) ((rd_L3 l0 x10_1).length:Int) (wrap64 (x17_2 + 1))) else (none))=some r:=by rw [if_pos rfl] at H;exact H
            clear H
            have H:=H1
            clear H1
            by_cases c10:x3_2.length<8796093022208
            ·rw [if_pos c10] at H
             have LMc10:=Aside0.mk c10
             clear c10
             obtain ⟨y354,hy354⟩:∃ y_:List (S72),y_=(x3_2++[(⟨x10_1,x17_2⟩:S72)]):=⟨_,rfl⟩
             replace H:(impl_pairsOf.l1 k2 y354 x10_1 l0 (l0.length:Int) x10_1 (rd_L3 l0 x10_1) ((rd_L3 l0 x10_1).length:Int) (wrap64 (x17_2 + 1)))=some r:=by first|(rw [hy354];with_reducible exact H)|(have H2_:=(Option.bind_some _ _).symm.trans H;rw [hy354];with_reducible exact H2_)|(have H2_:=(Option.bind_some _ _).symm.trans H;with_reducible exact H2_)|with_reducible exact H|(rw [hy354];exact H)|exact H
             have Ny354:=Aside0.mk hy354
             clear hy354
             have H':=Aside0.mk H
             clear H
             have p353:0≤(x17_2:Int):=of_decide_eq_true za
             have q353:x17_2<((rd_L3 l0 x10_1).length:Int):=of_decide_eq_true za
             obtain ⟨ad353,e353,hx353_0⟩:=Kd.at_bool HR352_0.out x17_2 p353 q353
             (try rw [←Nbq8.out] at hx353_0)
             cases e353
             replace hx353_0:=(HB.out.cell (World.block_lt_of_cell? w _ hx353_0)).trans hx353_0
             replace p353:=eq_true p353
             replace q353:=eq_true q353
             go_wp2_with (first|((with_reducible refine gate_builtin (b:=.append) (xs:=#[.tmp 23,.tmp 27]) rfl ?_);at_builtin;refine Kd.R_append k72 (w0:=w) w.heap.size rfl (.tmp 23) (.tmp 27) 24 72 (.agg #[(.int .i64 0),(.int .i64 0)]) 16 rfl Try.underlying24 info72 rfl (by decide) (by omega) u3 x3_2 (⟨x10_1,x17_2⟩:S72) [.int .i64 x10_1,.int .i64 x17_2] (fun _=>True) (fun _=>False) rfl rfl ?aP (fun _ hk=>hk.elim) ?aF ?aO ?aB ?aS ?aL ?_;(case aP=>exact k72_mkM _ _ _ (⟨x10_1,x17_2⟩:S72));(case aB=>exact zb);(case aF=>exact (fun _ _=>trivial));(case aO=>exact (zR HO_3.out));(case aS=>exact (below_size zb));(case aL=>have:=LMc10.out;omega);intro v355 w11 ho hb hg hat;rw [←Ny354.out] at ho;replace HB:=Aside0.mk (hb);have HO356:=Aside0.mk (ho);clear HO_3;clear ho hb hg hat))
             go_roundg k2
             case measure=>have:=HK1.out;have:=HK2.out;omega
             case rel=>exact ⟨(y354),(wrap64 (x17_2 + 1)),zo,H',⟨by have:=HK1.out;have:=HK2.out;omega⟩,⟨zR HO356.out⟩,⟨zb⟩⟩
            ·rw [if_neg c10] at H
             exact absurd H (by simp)
           ·replace c9:=Bool.eq_false_iff.mpr c9
            subst c9
            have H1:(impl_pairsOf.l1 k2 x3_2 x10_1 l0 (l0.length:Int) x10_1 (rd_L3 l0 x10_1) ((rd_L3 l0 x10_1).length:Int) (wrap64 (x17_2 + 1)))=some r:=by rw [if_neg (show ¬ (false=true) by decide)] at H;exact H
            clear H
            have H:=H1
            clear H1
            have H':=Aside0.mk H
            clear H
            have p353:0≤(x17_2:Int):=of_decide_eq_true za
            have q353:x17_2<((rd_L3 l0 x10_1).length:Int):=of_decide_eq_true za
            obtain ⟨ad353,e353,hx353_0⟩:=Kd.at_bool HR352_0.out x17_2 p353 q353
            (try rw [←Nbq8.out] at hx353_0)
            cases e353
            replace hx353_0:=(HB.out.cell (World.block_lt_of_cell? w _ hx353_0)).trans hx353_0
            replace p353:=eq_true p353
            replace q353:=eq_true q353
            go_wp2
            go_roundg k2
            case measure=>have:=HK1.out;have:=HK2.out;omega
            case rel=>exact ⟨(x3_2),(wrap64 (x17_2 + 1)),zo,H',⟨by have:=HK1.out;have:=HK2.out;omega⟩,⟨zR HO_3.out⟩,⟨zb⟩⟩
          ·rw [if_neg c7] at H
           exact absurd H (by simp)
         ·rw [if_neg c6] at H
          exact absurd H (by simp)
        ·rw [if_neg c5] at H
         have c5b0:decide (x17_2<((rd_L3 l0 x10_1).length:Int))=false:=decide_eq_false c5
         clear c5
         have H':=Aside0.mk H
         clear H
         go_wp2
         go_roundg k2
         case measure=>have:=HK1.out;have:=HK2.out;omega
         case rel=>exact ⟨(x3_2),(wrap64 (x10_1 + 1)),zo,H',⟨by have:=HK1.out;have:=HK2.out;omega⟩,⟨zR HO_3.out⟩,⟨zb⟩⟩
     ·rw [if_neg c4] at H
      exact absurd H (by simp)
    ·rw [if_neg c3] at H
     exact absurd H (by simp)
   ·rw [if_neg c2] at H
    have c2b0:decide (x10_1<(l0.length:Int))=false:=decide_eq_false c2
    clear c2
    obtain rfl:=Option.some.inj H
    go_wp2
    go_ret
    exact ⟨_,by first|rfl|(simp [errW_none,errW_some] <;> rfl)|(simp [*,errW_none,errW_some] <;> rfl),zR HO_3.out,zb⟩

/-! ### impl_reduction: function 116 -/
mutual
def impl_reduction.l0:Nat→List (List Bool)→List (S72)→List (S72)→Int→Int→Option ((List (S72)))
 | 0,_,_,_,_,_=>none
 | k + 1,x0,x3,x9,x10,x11=>if x11<x10 then (if 0≤x11 then (if x11<(x9.length:Int) then (impl_reduction.l1 k x0 x3 true x9 x10 x11 (x0.length:Int) 0 ((rd_T72 x9 x11).f0) ((rd_T72 x9 x11).f1)) else (none)) else (none)) else (some x3)
def impl_reduction.l1:Nat→List (List Bool)→List (S72)→Bool→List (S72)→Int→Int→Int→Int→Int→Int→Option ((List (S72)))
 | 0,_,_,_,_,_,_,_,_,_,_=>none
 | k + 1,x0,x3,x6,x9,x10,x11,x16,x17,x362000,x362001=>if x17<x16 then (if x6=true then (if 0≤x362000 then (if x362000<(x0.length:Int) then (if 0≤x17 then (if x17<((rd_L3 x0 x362000).length:Int) then (if rdOf false (rd_L3 x0 x362000) x17=true then (if x17<(x0.length:Int) then (if 0≤x362001 then (if x362001<((rd_L3 x0 x17).length:Int) then (impl_reduction.l1 k x0 x3 (!(rdOf false (rd_L3 x0 x17) x362001)) x9 x10 x11 x16 (wrap64 (x17 + 1)) x362000 x362001) else (none)) else (none)) else (none)) else (impl_reduction.l1 k x0 x3 (!false) x9 x10 x11 x16 (wrap64 (x17 + 1)) x362000 x362001)) else (none)) else (none)) else (none)) else (none)) else (impl_reduction.l1 k x0 x3 false x9 x10 x11 x16 (wrap64 (x17 + 1)) x362000 x362001)) else (if x6=true then (if x3.length<8796093022208 then (impl_reduction.l0 k x0 (x3++[(⟨x362000,x362001⟩:S72)]) x9 x10 (wrap64 (x11 + 1))) else (none)) else (impl_reduction.l0 k x0 x3 x9 x10 (wrap64 (x11 + 1))))
end
def impl_reduction.f (k:Nat) (l0:List (List Bool)):Option ((List (S72))):=(impl_pairsOf.f k l0).bind fun t357=>(impl_reduction.l0 k l0 ([]:List (S72)) t357 (t357.length:Int) 0)
theorem impl_reduction.mono_l:∀ k,(∀ y0 y1 y2 y3 y4,LeO (impl_reduction.l0 k y0 y1 y2 y3 y4) (impl_reduction.l0 (k + 1) y0 y1 y2 y3 y4))∧(∀ y0 y1 y2 y3 y4 y5 y6 y7 y8 y9,LeO (impl_reduction.l1 k y0 y1 y2 y3 y4 y5 y6 y7 y8 y9) (impl_reduction.l1 (k + 1) y0 y1 y2 y3 y4 y5 y6 y7 y8 y9))
 | 0=>⟨fun _ _ _ _ _ r h=>by simp [impl_reduction.l0] at h,fun _ _ _ _ _ _ _ _ _ _ r h=>by simp [impl_reduction.l1] at h⟩
 | k + 1=>by
  obtain ⟨ih0,ih1⟩:=impl_reduction.mono_l k
  refine ⟨?_,?_⟩
  ·intro y0 y1 y2 y3 y4
   unfold impl_reduction.l0
   repeat' first
   | (with_reducible exact ih0 _ _ _ _ _)
   | (with_reducible exact ih1 _ _ _ _ _ _ _ _ _ _)
   | (with_reducible exact impl_pairsOf.mono _ _)
   | (with_reducible exact LeO.refl _)
   | (with_reducible exact LeO.none _)
   | (with_reducible refine LeO.ite ?_ ?_)
   | (with_reducible refine LeO.bind ?_ (fun _=>?_))
   | exact ih0 _ _ _ _ _
   | exact ih1 _ _ _ _ _ _ _ _ _ _
   | exact impl_pairsOf.mono _ _
   | exact LeO.none _
   | refine LeO.ite ?_ ?_
   | refine LeO.bind ?_ (fun _=>?_)
  ·intro y0 y1 y2 y3 y4 y5 y6 y7 y8 y9
   unfold impl_reduction.l1
   repeat' first
   | (with_reducible exact ih0 _ _ _ _ _)
   | (with_reducible exact ih1 _ _ _ _ _ _ _ _ _ _)
   | (with_reducible exact impl_pairsOf.mono _ _)
   | (with_reducible exact LeO.refl _)
   | (with_reducible exact LeO.none _)
   | (with_reducible refine LeO.ite ?_ ?_)
   | (with_reducible refine LeO.bind ?_ (fun _=>?_))
   | exact ih0 _ _ _ _ _
   | exact ih1 _ _ _ _ _ _ _ _ _ _
   | exact impl_pairsOf.mono _ _
   | exact LeO.none _
   | refine LeO.ite ?_ ?_
   | refine LeO.bind ?_ (fun _=>?_)
theorem impl_reduction.mono:∀ a0 k,LeO (impl_reduction.f k a0) (impl_reduction.f (k + 1) a0):=by
 intro a0 k
 obtain ⟨ih0,ih1⟩:=impl_reduction.mono_l k
 unfold impl_reduction.f
 repeat' first
   | (with_reducible exact ih0 _ _ _ _ _)
   | (with_reducible exact ih1 _ _ _ _ _ _ _ _ _ _)
   | (with_reducible exact impl_pairsOf.mono _ _)
   | (with_reducible exact LeO.refl _)
   | (with_reducible exact LeO.none _)
   | (with_reducible refine LeO.ite ?_ ?_)
   | (with_reducible refine LeO.bind ?_ (fun _=>?_))
   | exact ih0 _ _ _ _ _
   | exact ih1 _ _ _ _ _ _ _ _ _ _
   | exact impl_pairsOf.mono _ _
   | exact LeO.none _
   | refine LeO.ite ?_ ?_
   | refine LeO.bind ?_ (fun _=>?_)
set_option maxHeartbeats 8000000 in
set_option maxRecDepth 100000 in
theorem impl_reduction.calls (k:Nat) (A0:Option Addr) (c0:Nat) (l0:List (List Bool)) (r:List (S72)) (w:World) (hr0:Kd.C (Kd.slice 4 Kd.bool) w A0 l0.length l0) (hc0:l0.length≤c0) (h:impl_reduction.f k l0=some r) :
  Calls Try.prog 116 #[.slice A0 l0.length c0] w fun e w'=>∃ v0_:Value,e=.returned (v0_)∧Kd.R k72 72 w' w.heap.size (fun _=>True) v0_ r∧Below w.heap.size w w':=by
 have hu72:=Try.underlying72
 have HR0:=Aside0.mk hr0
 have HC0:=Aside0.mk hc0
 clear hr0 hc0
 have HB:=Aside0.mk (Below.refl w.heap.size w)
 have H:((impl_pairsOf.f k l0).bind fun t357=>(impl_reduction.l0 k l0 ([]:List (S72)) t357 (t357.length:Int) 0))=some r:=h
 clear h
 replace H:=Option.bind_eq_some_iff.mp H
 obtain ⟨t357,A20,H⟩:=H
 replace H:(impl_reduction.l0 k l0 ([]:List (S72)) t357 (t357.length:Int) 0)=some r:=H
 have A2:=Aside0.mk A20
 clear A20
 have H':=Aside0.mk H
 clear H
 go_enter Try.func116,Try.ntmps116
 go_wp2_with (first|(go_at_call 158;(with_reducible refine (impl_pairsOf.calls k _ _ l0 t357 _ ?side1 ?side2 A2.out).mono ?_);(case side1=>exact zC HR0.out);(case side2=>exact HC0.out);rintro e w3 ⟨v358,rfl,ho0,hb⟩;have HO359:=Aside0.mk (Kd.R_lower ho0 (below_size zb));replace HB:=Aside0.mk (below_step zb hb);(try clear hb);(try clear ho0);obtain ⟨Ao4,co4,eo4⟩:=Kd.R_slice HO359.out;subst eo4))
 repeat (go_quiet (first|(go_at_call 158;(with_reducible refine (impl_pairsOf.calls k _ _ l0 t357 _ ?side1 ?side2 A2.out).mono ?_);(case side1=>exact zC HR0.out);(case side2=>exact HC0.out);rintro e w3 ⟨v358,rfl,ho0,hb⟩;have HO359:=Aside0.mk (Kd.R_lower ho0 (below_size zb));replace HB:=Aside0.mk (below_step zb hb);(try clear hb);(try clear ho0);obtain ⟨Ao4,co4,eo4⟩:=Kd.R_slice HO359.out;subst eo4));try go_wp2_with (first|(go_at_call 158;(with_reducible refine (impl_pairsOf.calls k _ _ l0 t357 _ ?side1 ?side2 A2.out).mono ?_);(case side1=>exact zC HR0.out);(case side2=>exact HC0.out);rintro e w3 ⟨v358,rfl,ho0,hb⟩;have HO359:=Aside0.mk (Kd.R_lower ho0 (below_size zb));replace HB:=Aside0.mk (below_step zb hb);(try clear hb);(try clear ho0);obtain ⟨Ao4,co4,eo4⟩:=Kd.R_slice HO359.out;subst eo4)))
 go_loopg [3,11] k (fun kq v3 v11 w'=>∃ (x3_1:List (S72)) (x11_1:Int),v11=.int .i64 x11_1∧Aside0 (impl_reduction.l0 kq l0 x3_1 t357 (t357.length:Int) x11_1=some r)∧Aside0 (kq≤k)∧Aside0 (Kd.R k72 72 w' w.heap.size (fun k_=>some k_≠((.slice Ao4 t357.length co4):Value).ownBlock) v3 x3_1)∧Aside0 (Kd.R k72 72 w' w.heap.size (fun k_=>some k_≠(v3:Value).ownBlock) (.slice Ao4 t357.length co4) t357)∧Aside0 (Below w.heap.size w w'))
 case atStart=>exact ⟨(([]:List (S72))),(0),zo,H',⟨Nat.le_refl _⟩,⟨by first|exact Kd.R_nil _ _ _ _ _|exact Kd.N_nil _ _ _ _ _|exact Kd.V_nil _ _ _ _ _|exact Kd.Q_nil _ _ _ _ _|exact Kd.S_nil _ _ _ _ _⟩,⟨zR (Kd.R_mono HO359.out (fun _ hk=>(by simp [Value.ownBlock])))⟩,⟨zb⟩⟩
 case round=>
  clear H'
  (try clear c1);(try clear p2)
  obtain ⟨x3_1,x11_1,rfl,HA,HK1,HO_3,HO_9,HB⟩:=hrel
  cases gk with
  | zero=>exact absurd HA.out (by simp [impl_reduction.l0])
  | succ k1=>
   have H:=HA.out
   clear HA
   simp only [impl_reduction.l0] at H
   by_cases c5:x11_1<(t357.length:Int)
   ·rw [if_pos c5] at H
    have c5b0:decide (x11_1<(t357.length:Int))=true:=decide_eq_true c5
    clear c5
    by_cases c6:0≤x11_1
    ·rw [if_pos c6] at H
     have c6b0:decide (0≤x11_1)=true:=decide_eq_true c6
     clear c6
     by_cases c7:x11_1<(t357.length:Int)
     ·rw [if_pos c7] at H
      have c7b0:decide (x11_1<(t357.length:Int))=true:=decide_eq_true c7
      clear c7
      have H':=Aside0.mk H
      clear H
      have p360:0≤(x11_1:Int):=of_decide_eq_true za
      have q360:x11_1<(t357.length:Int):=of_decide_eq_true za
      obtain ⟨ad360,e360,hx360_0,hx360_1⟩:=at_T72 (Kd.R_reads' HO_9.out).2.2 x11_1 p360 q360
      cases e360
      replace p360:=eq_true p360
      replace q360:=eq_true q360
      go_wp2_with (first|((with_reducible refine gate_dst (N:=5) rfl ?_);refine box_event ?hg (N:=5) ?hd (cs:=#[.int .i64 0,.int .i64 0]) (t:=72) ?hr ?_;(case hd=>rfl);(case hg=>rfl);(case hr=>first|(go_simp;done)|(go_simp;rfl));intro gb361 hg w8 hbox hb;have n0_:=Aside0.mk (Kd.R_below (Kd.R_elderB (zR HO_3.out) gb361 (Nat.le_of_eq hg.symm)) hb);have n1_:=Aside0.mk (Kd.R_below (Kd.R_elderB (zR HO_9.out) gb361 (Nat.le_of_eq hg.symm)) hb);have n2_:=Aside0.mk (below_step zb hb);have n3_:=Aside0.mk (hbox);have n4_:=Aside0.mk ((by rw [hg];exact (below_size zb):w.heap.size≤gb361));have n5_:=Aside0.mk ((by rw [hg];exact (below_size zb):w.heap.size≤gb361));clear HO_3;clear HO_9;clear HB;have HO_3:=n0_;have HO_9:=n1_;have HB:=n2_;have BK361:=n3_;have GW361:=n4_;have GE361:=n5_;clear n0_ n1_ n2_ n3_ n4_ n5_;clear hb hbox hg;have hcz9_0:w8.cell? ⟨gb361,0,none⟩=some (.int .i64 0):=(blk_cell BK361.out 0).trans rfl;have hcz9_1:w8.cell? ⟨gb361,1,none⟩=some (.int .i64 0):=(blk_cell BK361.out 1).trans rfl;have hfz9_0:=blk_frozen BK361.out 0;have hfz9_1:=blk_frozen BK361.out 1))
      repeat (go_quiet (first|((with_reducible refine gate_dst (N:=5) rfl ?_);refine box_event ?hg (N:=5) ?hd (cs:=#[.int .i64 0,.int .i64 0]) (t:=72) ?hr ?_;(case hd=>rfl);(case hg=>rfl);(case hr=>first|(go_simp;done)|(go_simp;rfl));intro gb361 hg w8 hbox hb;have n0_:=Aside0.mk (Kd.R_below (Kd.R_elderB (zR HO_3.out) gb361 (Nat.le_of_eq hg.symm)) hb);have n1_:=Aside0.mk (Kd.R_below (Kd.R_elderB (zR HO_9.out) gb361 (Nat.le_of_eq hg.symm)) hb);have n2_:=Aside0.mk (below_step zb hb);have n3_:=Aside0.mk (hbox);have n4_:=Aside0.mk ((by rw [hg];exact (below_size zb):w.heap.size≤gb361));have n5_:=Aside0.mk ((by rw [hg];exact (below_size zb):w.heap.size≤gb361));clear HO_3;clear HO_9;clear HB;have HO_3:=n0_;have HO_9:=n1_;have HB:=n2_;have BK361:=n3_;have GW361:=n4_;have GE361:=n5_;clear n0_ n1_ n2_ n3_ n4_ n5_;clear hb hbox hg;have hcz9_0:w8.cell? ⟨gb361,0,none⟩=some (.int .i64 0):=(blk_cell BK361.out 0).trans rfl;have hcz9_1:w8.cell? ⟨gb361,1,none⟩=some (.int .i64 0):=(blk_cell BK361.out 1).trans rfl;have hfz9_0:=blk_frozen BK361.out 0;have hfz9_1:=blk_frozen BK361.out 1));try go_wp2_with (first|((with_reducible refine gate_dst (N:=5) rfl ?_);refine box_event ?hg (N:=5) ?hd (cs:=#[.int .i64 0,.int .i64 0]) (t:=72) ?hr ?_;(case hd=>rfl);(case hg=>rfl);(case hr=>first|(go_simp;done)|(go_simp;rfl));intro gb361 hg w8 hbox hb;have n0_:=Aside0.mk (Kd.R_below (Kd.R_elderB (zR HO_3.out) gb361 (Nat.le_of_eq hg.symm)) hb);have n1_:=Aside0.mk (Kd.R_below (Kd.R_elderB (zR HO_9.out) gb361 (Nat.le_of_eq hg.symm)) hb);have n2_:=Aside0.mk (below_step zb hb);have n3_:=Aside0.mk (hbox);have n4_:=Aside0.mk ((by rw [hg];exact (below_size zb):w.heap.size≤gb361));have n5_:=Aside0.mk ((by rw [hg];exact (below_size zb):w.heap.size≤gb361));clear HO_3;clear HO_9;clear HB;have HO_3:=n0_;have HO_9:=n1_;have HB:=n2_;have BK361:=n3_;have GW361:=n4_;have GE361:=n5_;clear n0_ n1_ n2_ n3_ n4_ n5_;clear hb hbox hg;have hcz9_0:w8.cell? ⟨gb361,0,none⟩=some (.int .i64 0):=(blk_cell BK361.out 0).trans rfl;have hcz9_1:w8.cell? ⟨gb361,1,none⟩=some (.int .i64 0):=(blk_cell BK361.out 1).trans rfl;have hfz9_0:=blk_frozen BK361.out 0;have hfz9_1:=blk_frozen BK361.out 1)))
      go_loopg [6,17] k1 (fun kq v6 v17 w'=>∃ (x6_2:Bool) (x17_2:Int),v6=.bool x6_2∧v17=.int .i64 x17_2∧Aside0 (impl_reduction.l1 kq l0 x3_1 x6_2 t357 (t357.length:Int) x11_1 (l0.length:Int) x17_2 ((rd_T72 t357 x11_1).f0) ((rd_T72 t357 x11_1).f1)=some r)∧Aside0 (kq≤k1)∧Aside0 (Kd.R k72 72 w' w.heap.size (fun k_=>some k_≠((.slice (some ad360) t357.length co4):Value).ownBlock∧k_≠gb361) u3 x3_1)∧Aside0 (Kd.R k72 72 w' w.heap.size (fun k_=>some k_≠(u3:Value).ownBlock∧k_≠gb361) (.slice (some ad360) t357.length co4) t357)∧Aside0 (w'.heap[gb361]?=some (.cells #[.int .i64 ((rd_T72 t357 x11_1).f0),.int .i64 ((rd_T72 t357 x11_1).f1)] 72 (0,0)))∧Aside0 (Below w.heap.size w w'))
      case atStart=>exact ⟨(true),(0),zo,zo,H',⟨Nat.le_refl _⟩,⟨by (with_reducible repeat (first|apply Kd.R_alloc|apply Kd.R_drewN|apply Kd.R_drew));exact Kd.R_mono (Kd.R_far (p:=⟨gb361,1,none⟩) (Kd.R_far (p:=⟨gb361,0,none⟩) (Kd.R_mono HO_3.out (fun k_ hk=>(⟨hk,hk.2⟩:_∧k_≠gb361))) (fun _ hk=>hk.2) (.int .i64 ((rd_T72 t357 x11_1).f0))) (fun _ hk=>hk.2) (.int .i64 ((rd_T72 t357 x11_1).f1))) (fun _ hk=>⟨hk.1.1,hk.1.2⟩)⟩,⟨by (with_reducible repeat (first|apply Kd.R_alloc|apply Kd.R_drewN|apply Kd.R_drew));exact Kd.R_mono (Kd.R_far (p:=⟨gb361,1,none⟩) (Kd.R_far (p:=⟨gb361,0,none⟩) (Kd.R_mono HO_9.out (fun k_ hk=>(⟨hk,hk.2⟩:_∧k_≠gb361))) (fun _ hk=>hk.2) (.int .i64 ((rd_T72 t357 x11_1).f0))) (fun _ hk=>hk.2) (.int .i64 ((rd_T72 t357 x11_1).f1))) (fun _ hk=>⟨hk.1.1,hk.1.2⟩)⟩,⟨by (with_reducible repeat (first|refine blk_drewN ?_ _|refine blk_drew ?_|refine blk_alloc ?_ _));refine blk_put (cs:=#[.int .i64 ((rd_T72 t357 x11_1).f0),.int .i64 0]) ?_ 1 _ rfl;(with_reducible repeat (first|refine blk_drewN ?_ _|refine blk_drew ?_|refine blk_alloc ?_ _));refine blk_put (cs:=#[.int .i64 0,.int .i64 0]) ?_ 0 _ rfl;(with_reducible repeat (first|refine blk_drewN ?_ _|refine blk_drew ?_|refine blk_alloc ?_ _));exact BK361.out⟩,⟨by repeat (first|(with_reducible first|exact HB.out|apply below_alloc|apply pw_below_drewN|apply below_drew1|refine below_set ?_ GE361.out)|exact HB.out)⟩⟩
      case round=>
       clear H'
       (try clear c1);(try clear p2);(try clear p3);(try clear q3);(try clear hx3);(try clear c5);(try clear c5b0);(try clear c6);(try clear c6b0);(try clear c7);(try clear c7b0);(try clear hcz9_0);(try clear hcz9_1);(try clear hfz9_0);(try clear hfz9_1);(try clear hx360_0);(try clear hx360_1);(try clear p360);(try clear q360)
       obtain ⟨x6_2,x17_2,rfl,rfl,HA,HK2,HO_3,HO_9,BK361,HB⟩:=hrel
       cases gk with
       | zero=>exact absurd HA.out (by simp [impl_reduction.l1])
       | succ k2=>
        have H:=HA.out
        clear HA
        simp only [impl_reduction.l1] at H
        by_cases c10:x17_2<(l0.length:Int)
        ·rw [if_pos c10] at H
         have c10b0:decide (x17_2<(l0.length:Int))=true:=decide_eq_true c10
         clear c10
         by_cases c11:x6_2=true
         ·subst c11
          have H1:(if 0≤((rd_T72 t357 x11_1).f0) then (if ((rd_T72 t357 x11_1).f0)<(l0.length:Int) then (if 0≤x17_2 then (if x17_2<((rd_L3 l0 ((rd_T72 t357 x11_1).f0)).length:Int) then (if rdOf false (rd_L3 l0 ((rd_T72 t357 x11_1).f0)) x17_2=true then (if x17_2<(l0.length:Int) then (if 0≤((rd_T72 t357 x11_1).f1) then (if ((rd_T72 t357 x11_1).f1)<((rd_L3 l0 x17_2).length:Int) then (impl_reduction.l1 k2 l0 x3_1 (!(rdOf false (rd_L3 l0 x17_2) ((rd_T72 t357 x11_1).f1))) t357 (t357.length:Int) x11_1 (l0.length:Int) (wrap64 (x17_2 + 1)) ((rd_T72 t357 x11_1).f0) ((rd_T72 t357 x11_1).f1)) else (none)) else (none)) else (none)) else (impl_reduction.l1 k2 l0 x3_1 (!false) t357 (t357.length:Int) x11_1 (l0.length:Int) (wrap64 (x17_2 + 1)) ((rd_T72 t357 x11_1).f0) ((rd_T72 t357 x11_1).f1))) else (none)) else (none)) else (none)) else (none))=some r:=by rw [if_pos rfl] at H;exact H
          clear H
          have H:=H1
          clear H1
          by_cases c12:0≤((rd_T72 t357 x11_1).f0)
          ·rw [if_pos c12] at H
           have c12b0:decide (0≤((rd_T72 t357 x11_1).f0))=true:=decide_eq_true c12
           clear c12
           by_cases c13:((rd_T72 t357 x11_1).f0)<(l0.length:Int)
           ·rw [if_pos c13] at H
            have c13b0:decide (((rd_T72 t357 x11_1).f0)<(l0.length:Int))=true:=decide_eq_true c13
            clear c13
            by_cases c14:0≤x17_2
            ·rw [if_pos c14] at H
             have c14b0:decide (0≤x17_2)=true:=decide_eq_true c14
             clear c14
             by_cases c15:x17_2<((rd_L3 l0 ((rd_T72 t357 x11_1).f0)).length:Int)
             ·rw [if_pos c15] at H
              have c15b0:decide (x17_2<((rd_L3 l0 ((rd_T72 t357 x11_1).f0)).length:Int))=true:=decide_eq_true c15
              clear c15
              obtain ⟨bq16,hbq16⟩:∃ b_:Bool,b_=(rdOf false (rd_L3 l0 ((rd_T72 t357 x11_1).f0)) x17_2):=⟨_,rfl⟩
              replace H:(if bq16=true then (if x17_2<(l0.length:Int) then (if 0≤((rd_T72 t357 x11_1).f1) then (if ((rd_T72 t357 x11_1).f1)<((rd_L3 l0 x17_2).length:Int) then (impl_reduction.l1 k2 l0 x3_1 (!(rdOf false (rd_L3 l0 x17_2) ((rd_T72 t357 x11_1).f1))) t357 (t357.length:Int) x11_1 (l0.length:Int) (wrap64 (x17_2 + 1)) ((rd_T72 t357 x11_1).f0) ((rd_T72 t357 x11_1).f1)) else (none)) else (none)) else (none)) else (impl_reduction.l1 k2 l0 x3_1 (!false) t357 (t357.length:Int) x11_1 (l0.length:Int) (wrap64 (x17_2 + 1)) ((rd_T72 t357 x11_1).f0) ((rd_T72 t357 x11_1).f1)))=some r:=by rw [←hbq16] at H;exact H
              have Nbq16:=Aside0.mk hbq16
              clear hbq16
              by_cases c17:bq16=true
              ·subst c17
               have H1:(if x17_2<(l0.length:Int) then (if 0≤((rd_T72 t357 x11_1).f1) then (if ((rd_T72 t357 x11_1).f1)<((rd_L3 l0 x17_2).length:Int) then (impl_reduction.l1 k2 l0 x3_1 (!(rdOf false (rd_L3 l0 x17_2) ((rd_T72 t357 x11_1).f1))) t357 (t357.length:Int) x11_1 (l0.length:Int) (wrap64 (x17_2 + 1)) ((rd_T72 t357 x11_1).f0) ((rd_T72 t357 x11_1).f1)) else (none)) else (none)) else (none))=some r:=by rw [if_pos rfl] at H;exact H
               clear H
               have H:=H1
               clear H1
               by_cases c18:x17_2<(l0.length:Int)
               ·rw [if_pos c18] at H
                have c18b0:decide (x17_2<(l0.length:Int))=true:=decide_eq_true c18
                clear c18
                by_cases c19:0≤((rd_T72 t357 x11_1).f1)
                ·rw [if_pos c19] at H
                 have c19b0:decide (0≤((rd_T72 t357 x11_1).f1))=true:=decide_eq_true c19
                 clear c19
                 by_cases c20:((rd_T72 t357 x11_1).f1)<((rd_L3 l0 x17_2).length:Int)
                 ·rw [if_pos c20] at H
                  have c20b0:decide (((rd_T72 t357 x11_1).f1)<((rd_L3 l0 x17_2).length:Int))=true:=decide_eq_true c20
                  clear c20
                  have H':=Aside0.mk H
                  clear H
                  have hcz21_0:wr.cell? ⟨gb361,0,none⟩=some (.int .i64 ((rd_T72 t357 x11_1).f0)):=(blk_cell BK361.out 0).trans rfl
                  have hcz21_1:wr.cell? ⟨gb361,1,none⟩=some (.int .i64 ((rd_T72 t357 x11_1).f1)):=(blk_cell BK361.out 1).trans rfl
                  have hfz21_0:=blk_frozen BK361.out 0
                  have hfz21_1:=blk_frozen BK361.out 1
                  have p362:0≤(((rd_T72 t357 x11_1).f0):Int):=of_decide_eq_true za
                  have q362:((rd_T72 t357 x11_1).f0)<(l0.length:Int):=of_decide_eq_true za
                  obtain ⟨ad362,A362_0,c362_0,e362,hx362_0,hl362_0,hi362_0⟩:=at_L3 HR0.out ((rd_T72 t357 x11_1).f0) p362 q362
                  cases e362
                  replace hx362_0:=(HB.out.cell (World.block_lt_of_cell? w _ hx362_0)).trans hx362_0
                  have HR362_0:=Aside0.mk hi362_0
                  have HC362_0:=Aside0.mk hl362_0
                  clear hi362_0 hl362_0
                  replace p362:=eq_true p362
                  replace q362:=eq_true q362
                  have p363:0≤(x17_2:Int):=of_decide_eq_true za
                  have q363:x17_2<((rd_L3 l0 ((rd_T72 t357 x11_1).f0)).length:Int):=of_decide_eq_true za
                  obtain ⟨ad363,e363,hx363_0⟩:=Kd.at_bool HR362_0.out x17_2 p363 q363
                  (try rw [←Nbq16.out] at hx363_0)
                  cases e363
                  replace hx363_0:=(HB.out.cell (World.block_lt_of_cell? w _ hx363_0)).trans hx363_0
                  replace p363:=eq_true p363
                  replace q363:=eq_true q363
                  have p364:0≤(x17_2:Int):=of_decide_eq_true za
                  have q364:x17_2<(l0.length:Int):=of_decide_eq_true za
                  obtain ⟨ad364,A364_0,c364_0,e364,hx364_0,hl364_0,hi364_0⟩:=at_L3 HR0.out x17_2 p364 q364
                  obtain rfl:ad362=ad364:=(by injection e364)
                  replace hx364_0:=(HB.out.cell (World.block_lt_of_cell? w _ hx364_0)).trans hx364_0
                  have HR364_0:=Aside0.mk hi364_0
                  have HC364_0:=Aside0.mk hl364_0
                  clear hi364_0 hl364_0
                  replace p364:=eq_true p364
                  replace q364:=eq_true q364
                  have p365:0≤(((rd_T72 t357 x11_1).f1):Int):=of_decide_eq_true za
                  have q365:((rd_T72 t357 x11_1).f1)<((rd_L3 l0 x17_2).length:Int):=of_decide_eq_true za
                  obtain ⟨ad365,e365,hx365_0⟩:=Kd.at_bool HR364_0.out ((rd_T72 t357 x11_1).f1) p365 q365
                  (try rw [←Nbq16.out] at hx365_0)
                  cases e365
                  replace hx365_0:=(HB.out.cell (World.block_lt_of_cell? w _ hx365_0)).trans hx365_0
                  replace p365:=eq_true p365
                  replace q365:=eq_true q365
                  go_wp2
                  repeat (go_quiet (fail);try go_wp2)
                  go_roundg k2
                  case measure=>have:=HK1.out;have:=HK2.out;omega
                  case rel=>exact ⟨(!(rdOf false (rd_L3 l0 x17_2) ((rd_T72 t357 x11_1).f1))),(wrap64 (x17_2 + 1)),zo,zo,H',⟨by have:=HK1.out;have:=HK2.out;omega⟩,⟨zR HO_3.out⟩,⟨zR HO_9.out⟩,⟨by (with_reducible repeat (first|refine blk_drewN ?_ _|refine blk_drew ?_|refine blk_alloc ?_ _));exact BK361.out⟩,⟨by repeat (first|(with_reducible first|exact HB.out|apply below_alloc|apply pw_below_drewN|apply below_drew1|refine below_set ?_ GE361.out)|exact HB.out)⟩⟩
                 ·rw [if_neg c20] at H
                  exact absurd H (by simp)
                ·rw [if_neg c19] at H
                 exact absurd H (by simp)
               ·rw [if_neg c18] at H
                exact absurd H (by simp)
              ·replace c17:=Bool.eq_false_iff.mpr c17
               subst c17
               have H1:(impl_reduction.l1 k2 l0 x3_1 (!false) t357 (t357.length:Int) x11_1 (l0.length:Int) (wrap64 (x17_2 + 1)) ((rd_T72 t357 x11_1).f0) ((rd_T72 t357 x11_1).f1))=some r:=by rw [if_neg (show ¬ (false=true) by decide)] at H;exact H
               clear H
               have H:=H1
               clear H1
               have H':=Aside0.mk H
               clear H
               have hcz22_0:wr.cell? ⟨gb361,0,none⟩=some (.int .i64 ((rd_T72 t357 x11_1).f0)):=(blk_cell BK361.out 0).trans rfl
               have hcz22_1:wr.cell? ⟨gb361,1,none⟩=some (.int .i64 ((rd_T72 t357 x11_1).f1)):=(blk_cell BK361.out 1).trans rfl
               have hfz22_0:=blk_frozen BK361.out 0
               have hfz22_1:=blk_frozen BK361.out 1
               have p362:0≤(((rd_T72 t357 x11_1).f0):Int):=of_decide_eq_true za
               have q362:((rd_T72 t357 x11_1).f0)<(l0.length:Int):=of_decide_eq_true za
               obtain ⟨ad362,A362_0,c362_0,e362,hx362_0,hl362_0,hi362_0⟩:=at_L3 HR0.out ((rd_T72 t357 x11_1).f0) p362 q362
               cases e362
               replace hx362_0:=(HB.out.cell (World.block_lt_of_cell? w _ hx362_0)).trans hx362_0
               have HR362_0:=Aside0.mk hi362_0
               have HC362_0:=Aside0.mk hl362_0
               clear hi362_0 hl362_0
               replace p362:=eq_true p362
               replace q362:=eq_true q362
               have p363:0≤(x17_2:Int):=of_decide_eq_true za
               have q363:x17_2<((rd_L3 l0 ((rd_T72 t357 x11_1).f0)).length:Int):=of_decide_eq_true za
               obtain ⟨ad363,e363,hx363_0⟩:=Kd.at_bool HR362_0.out x17_2 p363 q363
               (try rw [←Nbq16.out] at hx363_0)
               cases e363
               replace hx363_0:=(HB.out.cell (World.block_lt_of_cell? w _ hx363_0)).trans hx363_0
               replace p363:=eq_true p363
               replace q363:=eq_true q363
               go_wp2
               repeat (go_quiet (fail);try go_wp2)
               go_roundg k2
               case measure=>have:=HK1.out;have:=HK2.out;omega
               case rel=>exact ⟨(!false),(wrap64 (x17_2 + 1)),zo,zo,H',⟨by have:=HK1.out;have:=HK2.out;omega⟩,⟨zR HO_3.out⟩,⟨zR HO_9.out⟩,⟨by (with_reducible repeat (first|refine blk_drewN ?_ _|refine blk_drew ?_|refine blk_alloc ?_ _));exact BK361.out⟩,⟨by repeat (first|(with_reducible first|exact HB.out|apply below_alloc|apply pw_below_drewN|apply below_drew1|refine below_set ?_ GE361.out)|exact HB.out)⟩⟩
             ·rw [if_neg c15] at H
              exact absurd H (by simp)
            ·rw [if_neg c14] at H
             exact absurd H (by simp)
           ·rw [if_neg c13] at H
            exact absurd H (by simp)
          ·rw [if_neg c12] at H
           exact absurd H (by simp)
         ·replace c11:=Bool.eq_false_iff.mpr c11
          subst c11
          have H1:(impl_reduction.l1 k2 l0 x3_1 false t357 (t357.length:Int) x11_1 (l0.length:Int) (wrap64 (x17_2 + 1)) ((rd_T72 t357 x11_1).f0) ((rd_T72 t357 x11_1).f1))=some r:=by rw [if_neg (show ¬ (false=true) by decide)] at H;exact H
          clear H
          have H:=H1
          clear H1
          have H':=Aside0.mk H
          clear H
          go_wp2
          repeat (go_quiet (fail);try go_wp2)
          go_roundg k2
          case measure=>have:=HK1.out;have:=HK2.out;omega
          case rel=>exact ⟨(false),(wrap64 (x17_2 + 1)),zo,zo,H',⟨by have:=HK1.out;have:=HK2.out;omega⟩,⟨zR HO_3.out⟩,⟨zR HO_9.out⟩,⟨by (with_reducible repeat (first|refine blk_drewN ?_ _|refine blk_drew ?_|refine blk_alloc ?_ _));exact BK361.out⟩,⟨by repeat (first|(with_reducible first|exact HB.out|apply below_alloc|apply pw_below_drewN|apply below_drew1|refine below_set ?_ GE361.out)|exact HB.out)⟩⟩
        ·rw [if_neg c10] at H
         have c10b0:decide (x17_2<(l0.length:Int))=false:=decide_eq_false c10
         clear c10
         by_cases c23:x6_2=true
         ·subst c23
          have H1:(if x3_1.length<8796093022208 then (impl_reduction.l0 k2 l0 (x3_1++[(⟨((rd_T72 t357 x11_1).f0),((rd_T72 t357 x11_1).f1)⟩:S72)]) t357 (t357.length:Int) (wrap64 (x11_1 + 1))) else (none))=some r:=by rw [if_pos rfl] at H;exact H
          clear H
          have H:=H1
          clear H1
          by_cases c24:x3_1.length<8796093022208
          ·rw [if_pos c24] at H
           have LMc24:=Aside0.mk c24
           clear c24
           obtain ⟨y366,hy366⟩:∃ y_:List (S72),y_=(x3_1++[(⟨((rd_T72 t357 x11_1).f0),((rd_T72 t357 x11_1).f1)⟩:S72)]):=⟨_,rfl⟩
           replace H:(impl_reduction.l0 k2 l0 y366 t357 (t357.length:Int) (wrap64 (x11_1 + 1)))=some r:=by first|(rw [hy366];with_reducible exact H)|(have H2_:=(Option.bind_some _ _).symm.trans H;rw [hy366];with_reducible exact H2_)|(have H2_:=(Option.bind_some _ _).symm.trans H;with_reducible exact H2_)|with_reducible exact H|(rw [hy366];exact H)|exact H
           have Ny366:=Aside0.mk hy366
           clear hy366
           have H':=Aside0.mk H
           clear H
           have hcz25_0:wr.cell? ⟨gb361,0,none⟩=some (.int .i64 ((rd_T72 t357 x11_1).f0)):=(blk_cell BK361.out 0).trans rfl
           have hcz25_1:wr.cell? ⟨gb361,1,none⟩=some (.int .i64 ((rd_T72 t357 x11_1).f1)):=(blk_cell BK361.out 1).trans rfl
           have hfz25_0:=blk_frozen BK361.out 0
           have hfz25_1:=blk_frozen BK361.out 1
           go_wp2_with (first|((with_reducible refine gate_builtin (b:=.append) (xs:=#[.tmp 44,.tmp 46]) rfl ?_);at_builtin;refine Kd.R_append k72 (w0:=w) w.heap.size rfl (.tmp 44) (.tmp 46) 24 72 (.agg #[(.int .i64 0),(.int .i64 0)]) 16 rfl Try.underlying24 info72 rfl (by decide) (by omega) u3 x3_1 (⟨((rd_T72 t357 x11_1).f0),((rd_T72 t357 x11_1).f1)⟩:S72) [.int .i64 ((rd_T72 t357 x11_1).f0),.int .i64 ((rd_T72 t357 x11_1).f1)] (fun k_=>some k_≠(.slice (some ad360) t357.length co4:Value).ownBlock∧k_≠gb361) (fun _=>False) rfl rfl ?aP (fun _ hk=>hk.elim) ?aF ?aO ?aB ?aS ?aL ?_;(case aP=>exact k72_mkM _ _ _ (⟨((rd_T72 t357 x11_1).f0),((rd_T72 t357 x11_1).f1)⟩:S72));(case aB=>exact (by repeat (first|(with_reducible first|exact HB.out|apply below_alloc|apply pw_below_drewN|apply below_drew1|refine below_set ?_ GE361.out)|exact HB.out)));(case aF=>exact (fun k_ hk=>⟨Kd.fresh' (Kd.R_lt (zR HO_9.out)) k_ hk,Kd.freshB (g:=gb361) (o:=.cells #[.int .i64 ((rd_T72 t357 x11_1).f0),.int .i64 ((rd_T72 t357 x11_1).f1)] 72 (0,0)) (by (with_reducible repeat (first|refine blk_drewN ?_ _|refine blk_drew ?_|refine blk_alloc ?_ _));exact BK361.out) k_ hk⟩));(case aO=>exact (zR HO_3.out));(case aS=>exact (below_size (by repeat (first|(with_reducible first|exact HB.out|apply below_alloc|apply pw_below_drewN|apply below_drew1|refine below_set ?_ GE361.out)|exact HB.out))));(case aL=>have:=LMc24.out;omega);intro v367 w26 ho hb hg hat;rw [←Ny366.out] at ho;replace HO_9:=Aside0.mk (Kd.R_after (ok:=(fun k_=>k_≠gb361)) (zR (Kd.R_mono HO_9.out (fun _ hk=>⟨hk.2,hk.1⟩))) hg hat);replace BK361:=Aside0.mk (blk_grown (g:=gb361) (o:=.cells #[.int .i64 ((rd_T72 t357 x11_1).f0),.int .i64 ((rd_T72 t357 x11_1).f1)] 72 (0,0)) (by (with_reducible repeat (first|refine blk_drewN ?_ _|refine blk_drew ?_|refine blk_alloc ?_ _));exact BK361.out) hg (Kd.R_away HO_3.out (fun _ hk=>hk.2)));replace HB:=Aside0.mk (hb);have HO368:=Aside0.mk (ho);clear HO_3;clear ho hb hg hat))
           repeat (go_quiet (first|((with_reducible refine gate_builtin (b:=.append) (xs:=#[.tmp 44,.tmp 46]) rfl ?_);at_builtin;refine Kd.R_append k72 (w0:=w) w.heap.size rfl (.tmp 44) (.tmp 46) 24 72 (.agg #[(.int .i64 0),(.int .i64 0)]) 16 rfl Try.underlying24 info72 rfl (by decide) (by omega) u3 x3_1 (⟨((rd_T72 t357 x11_1).f0),((rd_T72 t357 x11_1).f1)⟩:S72) [.int .i64 ((rd_T72 t357 x11_1).f0),.int .i64 ((rd_T72 t357 x11_1).f1)] (fun k_=>some k_≠(.slice (some ad360) t357.length co4:Value).ownBlock∧k_≠gb361) (fun _=>False) rfl rfl ?aP (fun _ hk=>hk.elim) ?aF ?aO ?aB ?aS ?aL ?_;(case aP=>exact k72_mkM _ _ _ (⟨((rd_T72 t357 x11_1).f0),((rd_T72 t357 x11_1).f1)⟩:S72));(case aB=>exact (by repeat (first|(with_reducible first|exact HB.out|apply below_alloc|apply pw_below_drewN|apply below_drew1|refine below_set ?_ GE361.out)|exact HB.out)));(case aF=>exact (fun k_ hk=>⟨Kd.fresh' (Kd.R_lt (zR HO_9.out)) k_ hk,Kd.freshB (g:=gb361) (o:=.cells #[.int .i64 ((rd_T72 t357 x11_1).f0),.int .i64 ((rd_T72 t357 x11_1).f1)] 72 (0,0)) (by (with_reducible repeat (first|refine blk_drewN ?_ _|refine blk_drew ?_|refine blk_alloc ?_ _));exact BK361.out) k_ hk⟩));(case aO=>exact (zR HO_3.out));(case aS=>exact (below_size (by repeat (first|(with_reducible first|exact HB.out|apply below_alloc|apply pw_below_drewN|apply below_drew1|refine below_set ?_ GE361.out)|exact HB.out))));(case aL=>have:=LMc24.out;omega);intro v367 w26 ho hb hg hat;rw [←Ny366.out] at ho;replace HO_9:=Aside0.mk (Kd.R_after (ok:=(fun k_=>k_≠gb361)) (zR (Kd.R_mono HO_9.out (fun _ hk=>⟨hk.2,hk.1⟩))) hg hat);replace BK361:=Aside0.mk (blk_grown (g:=gb361) (o:=.cells #[.int .i64 ((rd_T72 t357 x11_1).f0),.int .i64 ((rd_T72 t357 x11_1).f1)] 72 (0,0)) (by (with_reducible repeat (first|refine blk_drewN ?_ _|refine blk_drew ?_|refine blk_alloc ?_ _));exact BK361.out) hg (Kd.R_away HO_3.out (fun _ hk=>hk.2)));replace HB:=Aside0.mk (hb);have HO368:=Aside0.mk (ho);clear HO_3;clear ho hb hg hat));try go_wp2_with (first|((with_reducible refine gate_builtin (b:=.append) (xs:=#[.tmp 44,.tmp 46]) rfl ?_);at_builtin;refine Kd.R_append k72 (w0:=w) w.heap.size rfl (.tmp 44) (.tmp 46) 24 72 (.agg #[(.int .i64 0),(.int .i64 0)]) 16 rfl Try.underlying24 info72 rfl (by decide) (by omega) u3 x3_1 (⟨((rd_T72 t357 x11_1).f0),((rd_T72 t357 x11_1).f1)⟩:S72) [.int .i64 ((rd_T72 t357 x11_1).f0),.int .i64 ((rd_T72 t357 x11_1).f1)] (fun k_=>some k_≠(.slice (some ad360) t357.length co4:Value).ownBlock∧k_≠gb361) (fun _=>False) rfl rfl ?aP (fun _ hk=>hk.elim) ?aF ?aO ?aB ?aS ?aL ?_;(case aP=>exact k72_mkM _ _ _ (⟨((rd_T72 t357 x11_1).f0),((rd_T72 t357 x11_1).f1)⟩:S72));(case aB=>exact (by repeat (first|(with_reducible first|exact HB.out|apply below_alloc|apply pw_below_drewN|apply below_drew1|refine below_set ?_ GE361.out)|exact HB.out)));(case aF=>exact (fun k_ hk=>⟨Kd.fresh' (Kd.R_lt (zR HO_9.out)) k_ hk,Kd.freshB (g:=gb361) (o:=.cells #[.int .i64 ((rd_T72 t357 x11_1).f0),.int .i64 ((rd_T72 t357 x11_1).f1)] 72 (0,0)) (by (with_reducible repeat (first|refine blk_drewN ?_ _|refine blk_drew ?_|refine blk_alloc ?_ _));exact BK361.out) k_ hk⟩));(case aO=>exact (zR HO_3.out));(case aS=>exact (below_size (by repeat (first|(with_reducible first|exact HB.out|apply below_alloc|apply pw_below_drewN|apply below_drew1|refine below_set ?_ GE361.out)|exact HB.out))));(case aL=>have:=LMc24.out;omega);intro v367 w26 ho hb hg hat;rw [←Ny366.out] at ho;replace HO_9:=Aside0.mk (Kd.R_after (ok:=(fun k_=>k_≠gb361)) (zR (Kd.R_mono HO_9.out (fun _ hk=>⟨hk.2,hk.1⟩))) hg hat);replace BK361:=Aside0.mk (blk_grown (g:=gb361) (o:=.cells #[.int .i64 ((rd_T72 t357 x11_1).f0),.int .i64 ((rd_T72 t357 x11_1).f1)] 72 (0,0)) (by (with_reducible repeat (first|refine blk_drewN ?_ _|refine blk_drew ?_|refine blk_alloc ?_ _));exact BK361.out) hg (Kd.R_away HO_3.out (fun _ hk=>hk.2)));replace HB:=Aside0.mk (hb);have HO368:=Aside0.mk (ho);clear HO_3;clear ho hb hg hat)))
           go_roundg k2
           case measure=>have:=HK1.out;have:=HK2.out;omega
           case rel=>exact ⟨(y366),(wrap64 (x11_1 + 1)),zo,H',⟨by have:=HK1.out;have:=HK2.out;omega⟩,⟨zR (Kd.R_mono HO368.out (fun _ hk=>hk.1))⟩,⟨zR (Kd.R_mono HO_9.out (fun _ hk=>hk.2))⟩,⟨by repeat (first|(with_reducible first|exact HB.out|apply below_alloc|apply pw_below_drewN|apply below_drew1|refine below_set ?_ GE361.out)|exact HB.out)⟩⟩
          ·rw [if_neg c24] at H
           exact absurd H (by simp)
         ·replace c23:=Bool.eq_false_iff.mpr c23
          subst c23
          have H1:(impl_reduction.l0 k2 l0 x3_1 t357 (t357.length:Int) (wrap64 (x11_1 + 1)))=some r:=by rw [if_neg (show ¬ (false=true) by decide)] at H;exact H
          clear H
          have H:=H1
          clear H1
          have H':=Aside0.mk H
          clear H
          go_wp2
          repeat (go_quiet (fail);try go_wp2)
          go_roundg k2
          case measure=>have:=HK1.out;have:=HK2.out;omega
          case rel=>exact ⟨(x3_1),(wrap64 (x11_1 + 1)),zo,H',⟨by have:=HK1.out;have:=HK2.out;omega⟩,⟨zR (Kd.R_mono HO_3.out (fun _ hk=>hk.1))⟩,⟨zR (Kd.R_mono HO_9.out (fun _ hk=>hk.1))⟩,⟨by repeat (first|(with_reducible first|exact HB.out|apply below_alloc|apply pw_below_drewN|apply below_drew1|refine below_set ?_ GE361.out)|exact HB.out)⟩⟩
     ·rw [if_neg c7] at H
      exact absurd H (by simp)
    ·rw [if_neg c6] at H
     exact absurd H (by simp)
   ·rw [if_neg c5] at H
    have c5b0:decide (x11_1<(t357.length:Int))=false:=decide_eq_false c5
    clear c5
    obtain rfl:=Option.some.inj H
    go_wp2
    repeat (go_quiet (fail);try go_wp2)
    go_ret
    exact ⟨_,by first|rfl|(simp [errW_none,errW_some] <;> rfl)|(simp [*,errW_none,errW_some] <;> rfl),zR (Kd.R_mono HO_3.out (fun _ hk=>trivial)),zb⟩

-- NOT PRINTED: function 117 (impl_labelsOf_1)

/-! ### impl_compareLists: function 118 -/
mutual
def impl_compareLists.l0:Nat→List Int→List Int→Int→Option (Int)
 | 0,_,_,_=>none
 | k + 1,x0,x1,x5=>if x5<(x0.length:Int) then (impl_compareLists.j1 k x0 x1 x5 (decide (x5<(x1.length:Int)))) else (impl_compareLists.j1 k x0 x1 x5 false)
def impl_compareLists.j1:Nat→List Int→List Int→Int→Bool→Option (Int)
 | 0,_,_,_,_=>none
 | k + 1,x0,x1,x5,x15=>if x15=true then (if 0≤x5 then (if x5<(x0.length:Int) then (if x5<(x1.length:Int) then (if (rd x0 x5)=(rd x1 x5) then (impl_compareLists.l0 k x0 x1 (wrap64 (x5 + 1))) else (some (wrap64 ((rd x0 x5) - (rd x1 x5))))) else (none)) else (none)) else (none)) else (some (wrap64 ((x0.length:Int) - (x1.length:Int))))
end
def impl_compareLists.f (k:Nat) (l0:List Int) (l1:List Int):Option (Int):=impl_compareLists.l0 k l0 l1 0
theorem impl_compareLists.mono_l:∀ k,(∀ y0 y1 y2,LeO (impl_compareLists.l0 k y0 y1 y2) (impl_compareLists.l0 (k + 1) y0 y1 y2))∧(∀ y0 y1 y2 y3,LeO (impl_compareLists.j1 k y0 y1 y2 y3) (impl_compareLists.j1 (k + 1) y0 y1 y2 y3))
 | 0=>⟨fun _ _ _ r h=>by simp [impl_compareLists.l0] at h,fun _ _ _ _ r h=>by simp [impl_compareLists.j1] at h⟩
 | k + 1=>by
  obtain ⟨ih0,ih1⟩:=impl_compareLists.mono_l k
  refine ⟨?_,?_⟩
  ·intro y0 y1 y2
   unfold impl_compareLists.l0
   repeat' first
   | (with_reducible exact ih0 _ _ _)
   | (with_reducible exact ih1 _ _ _ _)
   | (with_reducible exact LeO.refl _)
   | (with_reducible exact LeO.none _)
   | (with_reducible refine LeO.ite ?_ ?_)
   | (with_reducible refine LeO.bind ?_ (fun _=>?_))
   | exact ih0 _ _ _
   | exact ih1 _ _ _ _
   | exact LeO.none _
   | refine LeO.ite ?_ ?_
   | refine LeO.bind ?_ (fun _=>?_)
  ·intro y0 y1 y2 y3
   unfold impl_compareLists.j1
   repeat' first
   | (with_reducible exact ih0 _ _ _)
   | (with_reducible exact ih1 _ _ _ _)
   | (with_reducible exact LeO.refl _)
   | (with_reducible exact LeO.none _)
   | (with_reducible refine LeO.ite ?_ ?_)
   | (with_reducible refine LeO.bind ?_ (fun _=>?_))
   | exact ih0 _ _ _
   | exact ih1 _ _ _ _
   | exact LeO.none _
   | refine LeO.ite ?_ ?_
   | refine LeO.bind ?_ (fun _=>?_)
theorem impl_compareLists.mono:∀ a0 a1 k,LeO (impl_compareLists.f k a0 a1) (impl_compareLists.f (k + 1) a0 a1):=by
 intro a0 a1 k
 obtain ⟨ih0,ih1⟩:=impl_compareLists.mono_l k
 unfold impl_compareLists.f
 repeat' first
   | (with_reducible exact ih0 _ _ _)
   | (with_reducible exact ih1 _ _ _ _)
   | (with_reducible exact LeO.refl _)
   | (with_reducible exact LeO.none _)
   | (with_reducible refine LeO.ite ?_ ?_)
   | (with_reducible refine LeO.bind ?_ (fun _=>?_))
   | exact ih0 _ _ _
   | exact ih1 _ _ _ _
   | exact LeO.none _
   | refine LeO.ite ?_ ?_
   | refine LeO.bind ?_ (fun _=>?_)
set_option maxHeartbeats 8000000 in
set_option maxRecDepth 100000 in
theorem impl_compareLists.calls (k:Nat) (A0:Option Addr) (c0:Nat) (l0:List Int) (A1:Option Addr) (c1:Nat) (l1:List Int) (r:Int) (w:World) (hr0:Kd.C (Kd.int .i64) w A0 l0.length l0) (hc0:l0.length≤c0) (hr1:Kd.C (Kd.int .i64) w A1 l1.length l1) (hc1:l1.length≤c1) (h:impl_compareLists.f k l0 l1=some r) :
  Calls Try.prog 118 #[.slice A0 l0.length c0,.slice A1 l1.length c1] w fun e w'=>e=.returned (.int .i64 r)∧Drawn0 w w':=by
 have HR0:=Aside0.mk hr0
 have HC0:=Aside0.mk hc0
 clear hr0 hc0
 have HR1:=Aside0.mk hr1
 have HC1:=Aside0.mk hc1
 clear hr1 hc1
 have H:(impl_compareLists.l0 k l0 l1 0)=some r:=h
 clear h
 have H':=Aside0.mk H
 clear H
 go_enter Try.func118,Try.ntmps118
 go_wp2
 repeat (go_quiet (fail);try go_wp2)
 go_loopg [5] k (fun kq v5 w'=>∃ (x5_1:Int),v5=.int .i64 x5_1∧Aside0 (impl_compareLists.l0 kq l0 l1 x5_1=some r)∧Aside0 (kq≤k)∧Drawn0 w w')
 case atStart=>exact ⟨(0),zo,H',⟨Nat.le_refl _⟩,by repeat (first|exact Drawn0.refl _|apply Drawn0.step)⟩
 case round=>
  clear H'
  (try clear c1);(try clear p2)
  obtain ⟨x5_1,rfl,HA,HK1,⟨m1,rfl⟩⟩:=hrel
  cases gk with
  | zero=>exact absurd HA.out (by simp [impl_compareLists.l0])
  | succ k1=>
   have H:=HA.out
   clear HA
   simp only [impl_compareLists.l0] at H
   have HC3:=Aside0.mk H
   clear H
   go_upto_region 2 with (fail)
   repeat (go_quiet (fail);go_upto_region 2 with (fail))
   go_cut [15] (fun v15 wc=>∃ (kq:Nat) (x15_2:Bool),v15=.bool x15_2∧Aside0 (impl_compareLists.j1 kq l0 l1 x5_1 x15_2=some r)∧Aside0 (kq≤k1)∧Drawn0 w wc)
   case first=>
    have H:=HC3.out
    clear HC3
    by_cases c4:x5_1<(l0.length:Int)
    ·rw [if_pos c4] at H
     have c4b0:decide (x5_1<(l0.length:Int))=true:=decide_eq_true c4
     clear c4
     (first|rw [c4b0]|(simp only [i64_w,i32_w];rw [c4b0])|skip)
     have H':=Aside0.mk H
     clear H
     go_wp2
     repeat (go_quiet (fail);try go_wp2)
     go_meet
     case rel=>exact ⟨_,(decide (x5_1<(l1.length:Int))),zo,H',⟨by have:=HK1.out;first|omega|exact Nat.le_refl _⟩,by repeat (first|exact Drawn0.refl _|apply Drawn0.step)⟩
    ·rw [if_neg c4] at H
     have c4b0:decide (x5_1<(l0.length:Int))=false:=decide_eq_false c4
     clear c4
     (first|rw [c4b0]|(simp only [i64_w,i32_w];rw [c4b0])|skip)
     have H':=Aside0.mk H
     clear H
     go_wp2
     repeat (go_quiet (fail);try go_wp2)
     go_meet
     case rel=>exact ⟨_,(false),zo,H',⟨by have:=HK1.out;first|omega|exact Nat.le_refl _⟩,by repeat (first|exact Drawn0.refl _|apply Drawn0.step)⟩
   case rest=>
    clear HC3
    (try clear c1);(try clear p2);(try clear c4);(try clear c4b0)
    obtain ⟨kq,x15_2,rfl,HA,HJ2,⟨mc2,rfl⟩⟩:=hcut
    cases kq with
    | zero=>exact absurd HA.out (by simp [impl_compareLists.j1])
    | succ kj2=>
     have H:=HA.out
     clear HA
     simp only [impl_compareLists.j1] at H
     by_cases c5:x15_2=true
     ·subst c5
      have H1:(if 0≤x5_1 then (if x5_1<(l0.length:Int) then (if x5_1<(l1.length:Int) then (if (rd l0 x5_1)=(rd l1 x5_1) then (impl_compareLists.l0 kj2 l0 l1 (wrap64 (x5_1 + 1))) else (some (wrap64 ((rd l0 x5_1) - (rd l1 x5_1))))) else (none)) else (none)) else (none))=some r:=by rw [if_pos rfl] at H;exact H
      clear H
      have H:=H1
      clear H1
      by_cases c6:0≤x5_1
      ·rw [if_pos c6] at H
       have c6b0:decide (0≤x5_1)=true:=decide_eq_true c6
       clear c6
       by_cases c7:x5_1<(l0.length:Int)
       ·rw [if_pos c7] at H
        have c7b0:decide (x5_1<(l0.length:Int))=true:=decide_eq_true c7
        clear c7
        by_cases c8:x5_1<(l1.length:Int)
        ·rw [if_pos c8] at H
         have c8b0:decide (x5_1<(l1.length:Int))=true:=decide_eq_true c8
         clear c8
         by_cases c9:(rd l0 x5_1)=(rd l1 x5_1)
         ·rw [if_pos c9] at H
          have c9b0:((rd l0 x5_1) == (rd l1 x5_1))=true:=beq_iff_eq.mpr c9
          have c9b1:((rd l0 x5_1) != (rd l1 x5_1))=false:=bne_eq_false_iff_eq.mpr c9
          clear c9
          have H':=Aside0.mk H
          clear H
          have p369:0≤(x5_1:Int):=of_decide_eq_true za
          have q369:x5_1<(l0.length:Int):=of_decide_eq_true za
          obtain ⟨ad369,e369,hx369_0⟩:=Kd.at_int HR0.out x5_1 p369 q369
          cases e369
          replace p369:=eq_true p369
          replace q369:=eq_true q369
          have p370:0≤(x5_1:Int):=of_decide_eq_true za
          have q370:x5_1<(l1.length:Int):=of_decide_eq_true za
          obtain ⟨ad370,e370,hx370_0⟩:=Kd.at_int HR1.out x5_1 p370 q370
          cases e370
          replace p370:=eq_true p370
          replace q370:=eq_true q370
          go_wp2
          repeat (go_quiet (fail);try go_wp2)
          go_roundg kj2
          case measure=>have:=HK1.out;have:=HJ2.out;omega
          case rel=>exact ⟨(wrap64 (x5_1 + 1)),zo,H',⟨by have:=HK1.out;have:=HJ2.out;omega⟩,by repeat (first|exact Drawn0.refl _|apply Drawn0.step)⟩
         ·rw [if_neg c9] at H
          have c9b0:((rd l0 x5_1) == (rd l1 x5_1))=false:=beq_eq_false_iff_ne.mpr c9
          have c9b1:((rd l0 x5_1) != (rd l1 x5_1))=true:=bne_iff_ne.mpr c9
          obtain rfl:=Option.some.inj H
          have p369:0≤(x5_1:Int):=of_decide_eq_true za
          have q369:x5_1<(l0.length:Int):=of_decide_eq_true za
          obtain ⟨ad369,e369,hx369_0⟩:=Kd.at_int HR0.out x5_1 p369 q369
          cases e369
          replace p369:=eq_true p369
          replace q369:=eq_true q369
          have p370:0≤(x5_1:Int):=of_decide_eq_true za
          have q370:x5_1<(l1.length:Int):=of_decide_eq_true za
          obtain ⟨ad370,e370,hx370_0⟩:=Kd.at_int HR1.out x5_1 p370 q370
          cases e370
          replace p370:=eq_true p370
          replace q370:=eq_true q370
          have p371:0≤(x5_1:Int):=of_decide_eq_true za
          have q371:x5_1<(l0.length:Int):=of_decide_eq_true za
          obtain ⟨ad371,e371,hx371_0⟩:=Kd.at_int HR0.out x5_1 p371 q371
          obtain rfl:ad369=ad371:=(by injection e371)
          replace p371:=eq_true p371
          replace q371:=eq_true q371
          have p372:0≤(x5_1:Int):=of_decide_eq_true za
          have q372:x5_1<(l1.length:Int):=of_decide_eq_true za
          obtain ⟨ad372,e372,hx372_0⟩:=Kd.at_int HR1.out x5_1 p372 q372
          obtain rfl:ad370=ad372:=(by injection e372)
          replace p372:=eq_true p372
          replace q372:=eq_true q372
          go_wp2
          repeat (go_quiet (fail);try go_wp2)
          go_ret
          exact ⟨by first|rfl|(simp;done)|(simp [*];done),by repeat (first|exact Drawn0.refl _|apply Drawn0.step)⟩
        ·rw [if_neg c8] at H
         exact absurd H (by simp)
       ·rw [if_neg c7] at H
        exact absurd H (by simp)
      ·rw [if_neg c6] at H
       exact absurd H (by simp)
     ·replace c5:=Bool.eq_false_iff.mpr c5
      subst c5
      have H1:(some (wrap64 ((l0.length:Int) - (l1.length:Int))))=some r:=by rw [if_neg (show ¬ (false=true) by decide)] at H;exact H
      clear H
      have H:=H1
      clear H1
      obtain rfl:=Option.some.inj H
      go_wp2
      repeat (go_quiet (fail);try go_wp2)
      go_ret
      exact ⟨by first|rfl|(simp;done)|(simp [*];done),by repeat (first|exact Drawn0.refl _|apply Drawn0.step)⟩

end Go.Proofs.Ytbcfmegepkhlpaa.XFnExactLabelPlan
-- minified
