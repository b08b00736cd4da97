-- Written by a program of this session (the kit's print, widened). Proved here: what each function answers, for the arguments that its contract names.
import Derived.Test.YtbcfmegepkhlpaaXFnExactTailsFirstx0
import Derived.Test.YtbcfmegepkhlpaaXFnExactTailsFirstx10
import Derived.Test.YtbcfmegepkhlpaaXFnExactTailsFirstx14
import Derived.Test.YtbcfmegepkhlpaaXFnExactTailsFirstx15
namespace Go.Proofs.Ytbcfmegepkhlpaa.XFnExactTailsFirst
open Go.RowKit Go.Proofs.YtbcfmegepkhlpaaW.PrintWords Go.Proofs.YtbcfmegepkhlpaaW.PrintLast Go.Proofs.YtbcfmegepkhlpaaW.PrintMore
attribute [local go_sem] max2_int min2_int max_two min_two max_three min_three max_four min_four   -- for this text's walks alone
attribute [local go_sem] idxA_72_0 idxA_72_1 fldS_96_0 fldS_96_1 fldS_96_2 fldS_111_0 fldS_111_1 fldS_111_2
set_option linter.unusedVariables false
set_option linter.unusedSimpArgs false

/-! ### spec_l4Good: function 56 -/
def spec_l4Good.l0:Nat→Int→List (List Bool)→Int→Option (Bool)
 | 0,_,_,_=>none
 | k + 1,x0,x5,x6=>if x6<x0 then (if 0≤x6 then (if x6<(x5.length:Int) then (if x6<((rd_L6 x5 x6).length:Int) then (if rdOf false (rd_L6 x5 x6) x6=true then (some false) else (spec_l4Good.l0 k x0 x5 (wrap64 (x6 + 1)))) else (none)) else (none)) else (none)) else (some true)
def spec_l4Good.f (k:Nat) (a0:Int) (l1:List (S72)):Option (Bool):=(spec_l4Pairs.f k a0 l1).bind fun t269=>(if t269=true then ((spec_l4Table.f k a0 l1).bind fun t270=>(spec_l4Good.l0 k a0 t270 0)) else (some false))
theorem spec_l4Good.mono_l:∀ k,(∀ y0 y1 y2,LeO (spec_l4Good.l0 k y0 y1 y2) (spec_l4Good.l0 (k + 1) y0 y1 y2))
 | 0=>fun _ _ _ r h=>by simp [spec_l4Good.l0] at h
 | k + 1=>by
  have ih0:=spec_l4Good.mono_l k
  ·intro y0 y1 y2
   unfold spec_l4Good.l0
   repeat' first
   | (with_reducible exact ih0 _ _ _)
   | (with_reducible exact spec_l4Pairs.mono _ _ _)
   | (with_reducible exact spec_l4Table.mono _ _ _)
   | (with_reducible exact LeO.refl _)
   | (with_reducible exact LeO.none _)
   | (with_reducible refine LeO.ite ?_ ?_)
   | (with_reducible refine LeO.bind ?_ (fun _=>?_))
   | exact ih0 _ _ _
   | exact spec_l4Pairs.mono _ _ _
   | exact spec_l4Table.mono _ _ _
   | exact LeO.none _
   | refine LeO.ite ?_ ?_
   | refine LeO.bind ?_ (fun _=>?_)
theorem spec_l4Good.mono:∀ a0 a1 k,LeO (spec_l4Good.f k a0 a1) (spec_l4Good.f (k + 1) a0 a1):=by
 intro a0 a1 k
 have ih0:=spec_l4Good.mono_l k
 unfold spec_l4Good.f
 repeat' first
   | (with_reducible exact ih0 _ _ _)
   | (with_reducible exact spec_l4Pairs.mono _ _ _)
   | (with_reducible exact spec_l4Table.mono _ _ _)
   | (with_reducible exact LeO.refl _)
   | (with_reducible exact LeO.none _)
   | (with_reducible refine LeO.ite ?_ ?_)
   | (with_reducible refine LeO.bind ?_ (fun _=>?_))
   | exact ih0 _ _ _
   | exact spec_l4Pairs.mono _ _ _
   | exact spec_l4Table.mono _ _ _
   | exact LeO.none _
   | refine LeO.ite ?_ ?_
   | refine LeO.bind ?_ (fun _=>?_)
set_option maxHeartbeats 8000000 in
set_option maxRecDepth 100000 in
theorem spec_l4Good.calls (k:Nat) (a0:Int) (A1:Option Addr) (c1:Nat) (l1:List (S72)) (r:Bool) (w:World) (hr1:Kd.C k72 w A1 l1.length l1) (hc1:l1.length≤c1) (h:spec_l4Good.f k a0 l1=some r) :
  Calls Try.prog 56 #[.int .i64 a0,.slice A1 l1.length c1] w fun e w'=>e=.returned (.bool r)∧Below w.heap.size w w':=by
 have HR1:=Aside0.mk hr1
 have HC1:=Aside0.mk hc1
 clear hr1 hc1
 have HB:=Aside0.mk (Below.refl w.heap.size w)
 have H:((spec_l4Pairs.f k a0 l1).bind fun t269=>(if t269=true then ((spec_l4Table.f k a0 l1).bind fun t270=>(spec_l4Good.l0 k a0 t270 0)) else (some false)))=some r:=h
 clear h
 replace H:=Option.bind_eq_some_iff.mp H
 obtain ⟨t269,A30,H⟩:=H
 replace H:(if t269=true then ((spec_l4Table.f k a0 l1).bind fun t270=>(spec_l4Good.l0 k a0 t270 0)) else (some false))=some r:=H
 have A3:=Aside0.mk A30
 clear A30
 by_cases c4:t269=true
 ·subst c4
  have H1:((spec_l4Table.f k a0 l1).bind fun t270=>(spec_l4Good.l0 k a0 t270 0))=some r:=by rw [if_pos rfl] at H;exact H
  clear H
  have H:=H1
  clear H1
  replace H:=Option.bind_eq_some_iff.mp H
  obtain ⟨t270,A50,H⟩:=H
  replace H:(spec_l4Good.l0 k a0 t270 0)=some r:=H
  have A5:=Aside0.mk A50
  clear A50
  have H':=Aside0.mk H
  clear H
  go_enter Try.func56,Try.ntmps56
  go_wp2_with (first|((with_reducible refine gate_callee (f:=106) rfl ?_);refine goesL_ (some 9) rfl rfl Try.func106 (by kernel_rfl) rfl #[.int .i64 a0,.slice A1 l1.length c1] rfl zl ?_;(with_reducible refine (spec_l4Pairs.calls k a0 _ _ l1 true _ ?side1 ?side2 A3.out).mono ?_);(case side1=>exact zC HR1.out);(case side2=>exact HC1.out);rintro e w6 ⟨rfl,hb⟩;refine ⟨_,rfl,?_⟩;have n0_:=Aside0.mk (below_step zb hb);clear HB;have HB:=n0_;clear n0_;(try clear hb);(try clear hb2);(try clear hk);(try clear hi))|((with_reducible refine gate_callee (f:=107) rfl ?_);refine goesL_ (some 13) rfl rfl Try.func107 (by kernel_rfl) rfl #[.int .i64 a0,.slice A1 l1.length c1] rfl zl ?_;(with_reducible refine (spec_l4Table.calls k a0 _ _ l1 t270 _ ?side1 ?side2 A5.out).mono ?_);(case side1=>exact zC (Kd.C_below HR1.out HB.out));(case side2=>exact HC1.out);rintro e w7 ⟨v271,rfl,ho0,hb⟩;refine ⟨_,rfl,?_⟩;have n0_:=Aside0.mk (Kd.S_lower ho0 (below_size zb));have n1_:=Aside0.mk (below_step zb hb);clear HB;have HO272:=n0_;have HB:=n1_;clear n0_ n1_;(try clear hb);(try clear hb2);(try clear hk);(try clear hi);(try clear ho0)))
  go_loopg [6] k (fun kq v6 w'=>∃ (x6_1:Int),v6=.int .i64 x6_1∧Aside0 (spec_l4Good.l0 kq a0 t270 x6_1=some r)∧Aside0 (kq≤k)∧Aside0 (Kd.S (Kd.slice 4 Kd.bool) 127 w' w.heap.size (fun _=>True) v271 t270)∧Aside0 (Below w.heap.size w w'))
  case atStart=>exact ⟨(0),zo,H',⟨Nat.le_refl _⟩,⟨zS HO272.out⟩,⟨zb⟩⟩
  case round=>
   clear H'
   (try clear c1);(try clear p2);(try clear c4);(try clear c5)
   obtain ⟨x6_1,rfl,HA,HK1,HO_5,HB⟩:=hrel
   cases gk with
   | zero=>exact absurd HA.out (by simp [spec_l4Good.l0])
   | succ k1=>
    have H:=HA.out
    clear HA
    simp only [spec_l4Good.l0] at H
    by_cases c8:x6_1<a0
    ·rw [if_pos c8] at H
     have c8b0:decide (x6_1<a0)=true:=decide_eq_true c8
     clear c8
     by_cases c9:0≤x6_1
     ·rw [if_pos c9] at H
      have c9b0:decide (0≤x6_1)=true:=decide_eq_true c9
      clear c9
      by_cases c10:x6_1<(t270.length:Int)
      ·rw [if_pos c10] at H
       have c10b0:decide (x6_1<(t270.length:Int))=true:=decide_eq_true c10
       clear c10
       by_cases c11:x6_1<((rd_L6 t270 x6_1).length:Int)
       ·rw [if_pos c11] at H
        have c11b0:decide (x6_1<((rd_L6 t270 x6_1).length:Int))=true:=decide_eq_true c11
        clear c11
        obtain ⟨bq12,hbq12⟩:∃ b_:Bool,b_=(rdOf false (rd_L6 t270 x6_1) x6_1):=⟨_,rfl⟩
        replace H:(if bq12=true then (some false) else (spec_l4Good.l0 k1 a0 t270 (wrap64 (x6_1 + 1))))=some r:=by rw [←hbq12] at H;exact H
        have Nbq12:=Aside0.mk hbq12
        clear hbq12
        by_cases c13:bq12=true
        ·subst c13
         have H1:(some false)=some r:=by rw [if_pos rfl] at H;exact H
         clear H
         have H:=H1
         clear H1
         obtain rfl:=Option.some.inj H
         obtain ⟨Ao14,co14,eo14⟩:=Kd.S_slice HO_5.out
         subst eo14
         have p273:0≤(x6_1:Int):=of_decide_eq_true za
         have q273:x6_1<(t270.length:Int):=of_decide_eq_true za
         obtain ⟨ad273,A273_0,c273_0,e273,hx273_0,hl273_0,hi273_0⟩:=at_L6 (Kd.S_reads' HO_5.out).2.2 x6_1 p273 q273
         cases e273
         obtain ⟨ce273,hce273,hMe273,hcc273⟩:=Kd.S_get HO_5.out [] x6_1 p273 (by first|exact q273|exact of_decide_eq_true za|(have e_:=(Kd.S_reads' HO_5.out).1;omega))
         obtain ⟨ve273_0,rfl,ge273_0⟩:=hMe273
         have hv273_0:=hcc273 0 _ rfl
         rw [Nat.add_zero,show ((Kd.slice 4 Kd.bool)).sz=1 from rfl,Nat.mul_one] at hv273_0
         replace hv273_0:=Option.some.inj (hv273_0.symm.trans hx273_0)
         rw [hv273_0] at ge273_0
         have HL273_0:=Aside0.mk (show Kd.R Kd.bool 4 _ _ _ _ (rd_L6 t270 x6_1) from ge273_0)
         clear hv273_0 ge273_0
         clear hcc273 hce273
         have HR273_0:=Aside0.mk hi273_0
         have HC273_0:=Aside0.mk hl273_0
         clear hi273_0 hl273_0
         replace p273:=eq_true p273
         replace q273:=eq_true q273
         have p274:0≤(x6_1:Int):=of_decide_eq_true za
         have q274:x6_1<((rd_L6 t270 x6_1).length:Int):=of_decide_eq_true za
         obtain ⟨ad274,e274,hx274_0⟩:=Kd.at_bool (by repeat (first|(with_reducible exact HR273_0.out)|(with_reducible refine Kd.C_alloc ?_ _)|(with_reducible refine Kd.C_drewN ?_ _)|(with_reducible refine Kd.C_drew ?_)|exact HR273_0.out)) x6_1 p274 q274
         (try rw [←Nbq12.out] at hx274_0)
         cases e274
         replace p274:=eq_true p274
         replace q274:=eq_true q274
         go_wp2
         go_ret
         exact ⟨by first|rfl|(simp [errW_none,errW_some] <;> rfl)|(simp [*,errW_none,errW_some] <;> rfl),zb⟩
        ·replace c13:=Bool.eq_false_iff.mpr c13
         subst c13
         have H1:(spec_l4Good.l0 k1 a0 t270 (wrap64 (x6_1 + 1)))=some r:=by rw [if_neg (show ¬ (false=true) by decide)] at H;exact H
         clear H
         have H:=H1
         clear H1
         have H':=Aside0.mk H
         clear H
         obtain ⟨Ao15,co15,eo15⟩:=Kd.S_slice HO_5.out
         subst eo15
         have p273:0≤(x6_1:Int):=of_decide_eq_true za
         have q273:x6_1<(t270.length:Int):=of_decide_eq_true za
         obtain ⟨ad273,A273_0,c273_0,e273,hx273_0,hl273_0,hi273_0⟩:=at_L6 (Kd.S_reads' HO_5.out).2.2 x6_1 p273 q273
         cases e273
         obtain ⟨ce273,hce273,hMe273,hcc273⟩:=Kd.S_get HO_5.out [] x6_1 p273 (by first|exact q273|exact of_decide_eq_true za|(have e_:=(Kd.S_reads' HO_5.out).1;omega))
         obtain ⟨ve273_0,rfl,ge273_0⟩:=hMe273
         have hv273_0:=hcc273 0 _ rfl
         rw [Nat.add_zero,show ((Kd.slice 4 Kd.bool)).sz=1 from rfl,Nat.mul_one] at hv273_0
         replace hv273_0:=Option.some.inj (hv273_0.symm.trans hx273_0)
         rw [hv273_0] at ge273_0
         have HL273_0:=Aside0.mk (show Kd.R Kd.bool 4 _ _ _ _ (rd_L6 t270 x6_1) from ge273_0)
         clear hv273_0 ge273_0
         clear hcc273 hce273
         have HR273_0:=Aside0.mk hi273_0
         have HC273_0:=Aside0.mk hl273_0
         clear hi273_0 hl273_0
         replace p273:=eq_true p273
         replace q273:=eq_true q273
         have p274:0≤(x6_1:Int):=of_decide_eq_true za
         have q274:x6_1<((rd_L6 t270 x6_1).length:Int):=of_decide_eq_true za
         obtain ⟨ad274,e274,hx274_0⟩:=Kd.at_bool (by repeat (first|(with_reducible exact HR273_0.out)|(with_reducible refine Kd.C_alloc ?_ _)|(with_reducible refine Kd.C_drewN ?_ _)|(with_reducible refine Kd.C_drew ?_)|exact HR273_0.out)) x6_1 p274 q274
         (try rw [←Nbq12.out] at hx274_0)
         cases e274
         replace p274:=eq_true p274
         replace q274:=eq_true q274
         go_wp2
         go_roundg k1
         case measure=>have:=HK1.out;omega
         case rel=>exact ⟨(wrap64 (x6_1 + 1)),zo,H',⟨by have:=HK1.out;omega⟩,⟨zS HO_5.out⟩,⟨zb⟩⟩
       ·rw [if_neg c11] at H
        exact absurd H (by simp)
      ·rw [if_neg c10] at H
       exact absurd H (by simp)
     ·rw [if_neg c9] at H
      exact absurd H (by simp)
    ·rw [if_neg c8] at H
     have c8b0:decide (x6_1<a0)=false:=decide_eq_false c8
     clear c8
     obtain rfl:=Option.some.inj H
     go_wp2
     go_ret
     exact ⟨by first|rfl|(simp [errW_none,errW_some] <;> rfl)|(simp [*,errW_none,errW_some] <;> rfl),zb⟩
 ·replace c4:=Bool.eq_false_iff.mpr c4
  subst c4
  have H1:(some false)=some r:=by rw [if_neg (show ¬ (false=true) by decide)] at H;exact H
  clear H
  have H:=H1
  clear H1
  obtain rfl:=Option.some.inj H
  go_enter Try.func56,Try.ntmps56
  go_wp2_with (first|((with_reducible refine gate_callee (f:=106) rfl ?_);refine goesL_ (some 9) rfl rfl Try.func106 (by kernel_rfl) rfl #[.int .i64 a0,.slice A1 l1.length c1] rfl zl ?_;(with_reducible refine (spec_l4Pairs.calls k a0 _ _ l1 false _ ?side1 ?side2 A3.out).mono ?_);(case side1=>exact zC HR1.out);(case side2=>exact HC1.out);rintro e w16 ⟨rfl,hb⟩;refine ⟨_,rfl,?_⟩;have n0_:=Aside0.mk (below_step zb hb);clear HB;have HB:=n0_;clear n0_;(try clear hb);(try clear hb2);(try clear hk);(try clear hi)))
  go_ret
  exact ⟨by first|rfl|(simp [errW_none,errW_some] <;> rfl)|(simp [*,errW_none,errW_some] <;> rfl),zb⟩

/-! ### spec_l2Job: function 148 -/
def spec_l2Job.f (a0_0:Int) (a0_1:Int) (a0_2:Int) (a0_3:Int):Option (Bool):=(spec_l1In.f a0_0 1 50).bind fun t276=>(if t276=true then ((spec_l1In.f a0_1 0 50).bind fun t277=>(if t277=true then ((spec_l1In.f a0_2 0 500).bind fun t278=>(if t278=true then ((spec_l1In.f a0_3 0 500).bind fun t279=>(some t279)) else (some false))) else (some false))) else (some false))
set_option maxHeartbeats 8000000 in
set_option maxRecDepth 100000 in
theorem spec_l2Job.calls (a0_0:Int) (a0_1:Int) (a0_2:Int) (a0_3:Int) (r:Bool) (w:World) (h:spec_l2Job.f a0_0 a0_1 a0_2 a0_3=some r) :
  Calls Try.prog 148 #[.agg #[.int .i64 a0_0,.int .i64 a0_1,.int .i64 a0_2,.int .i64 a0_3]] w fun e w'=>e=.returned (.bool r)∧Below w.heap.size w w':=by
 have hu76:=Try.underlying76
 have HB:=Aside0.mk (Below.refl w.heap.size w)
 have H:((spec_l1In.f a0_0 1 50).bind fun t276=>(if t276=true then ((spec_l1In.f a0_1 0 50).bind fun t277=>(if t277=true then ((spec_l1In.f a0_2 0 500).bind fun t278=>(if t278=true then ((spec_l1In.f a0_3 0 500).bind fun t279=>(some t279)) else (some false))) else (some false))) else (some false)))=some r:=h
 clear h
 replace H:=Option.bind_eq_some_iff.mp H
 obtain ⟨t276,A20,H⟩:=H
 replace H:(if t276=true then ((spec_l1In.f a0_1 0 50).bind fun t277=>(if t277=true then ((spec_l1In.f a0_2 0 500).bind fun t278=>(if t278=true then ((spec_l1In.f a0_3 0 500).bind fun t279=>(some t279)) else (some false))) else (some false))) else (some false))=some r:=H
 have A2:=Aside0.mk A20
 clear A20
 by_cases c3:t276=true
 ·subst c3
  have H1:((spec_l1In.f a0_1 0 50).bind fun t277=>(if t277=true then ((spec_l1In.f a0_2 0 500).bind fun t278=>(if t278=true then ((spec_l1In.f a0_3 0 500).bind fun t279=>(some t279)) else (some false))) else (some false)))=some r:=by rw [if_pos rfl] at H;exact H
  clear H
  have H:=H1
  clear H1
  replace H:=Option.bind_eq_some_iff.mp H
  obtain ⟨t277,A40,H⟩:=H
  replace H:(if t277=true then ((spec_l1In.f a0_2 0 500).bind fun t278=>(if t278=true then ((spec_l1In.f a0_3 0 500).bind fun t279=>(some t279)) else (some false))) else (some false))=some r:=H
  have A4:=Aside0.mk A40
  clear A40
  by_cases c5:t277=true
  ·subst c5
   have H1:((spec_l1In.f a0_2 0 500).bind fun t278=>(if t278=true then ((spec_l1In.f a0_3 0 500).bind fun t279=>(some t279)) else (some false)))=some r:=by rw [if_pos rfl] at H;exact H
   clear H
   have H:=H1
   clear H1
   replace H:=Option.bind_eq_some_iff.mp H
   obtain ⟨t278,A60,H⟩:=H
   replace H:(if t278=true then ((spec_l1In.f a0_3 0 500).bind fun t279=>(some t279)) else (some false))=some r:=H
   have A6:=Aside0.mk A60
   clear A60
   by_cases c7:t278=true
   ·subst c7
    have H1:((spec_l1In.f a0_3 0 500).bind fun t279=>(some t279))=some r:=by rw [if_pos rfl] at H;exact H
    clear H
    have H:=H1
    clear H1
    replace H:=Option.bind_eq_some_iff.mp H
    obtain ⟨t279,A80,H⟩:=H
    replace H:(some t279)=some r:=H
    have A8:=Aside0.mk A80
    clear A80
    obtain rfl:=Option.some.inj H
    go_enter Try.func148,Try.ntmps148
    go_wp2_with (first|((with_reducible refine gate_dst (N:=1) rfl ?_);refine box_event ?hg (N:=1) ?hd (cs:=#[.int .i64 a0_0,.int .i64 a0_1,.int .i64 a0_2,.int .i64 a0_3]) (t:=76) ?hr ?_;(case hd=>rfl);(case hg=>rfl);(case hr=>first|(go_simp;done)|(go_simp;rfl));intro gb275 hg w9 hbox hb;have n0_:=Aside0.mk (below_step zb hb);have n1_:=Aside0.mk (hbox);have n2_:=Aside0.mk ((by rw [hg];exact (below_size zb):w.heap.size≤gb275));have n3_:=Aside0.mk ((by rw [hg];exact (below_size zb):w.heap.size≤gb275));clear HB;have HB:=n0_;have BK275:=n1_;have GW275:=n2_;have GE275:=n3_;clear n0_ n1_ n2_ n3_;clear hb hbox hg;have hcz10_0:w9.cell? ⟨gb275,0,none⟩=some (.int .i64 a0_0):=(blk_cell BK275.out 0).trans rfl;have hcz10_1:w9.cell? ⟨gb275,1,none⟩=some (.int .i64 a0_1):=(blk_cell BK275.out 1).trans rfl;have hcz10_2:w9.cell? ⟨gb275,2,none⟩=some (.int .i64 a0_2):=(blk_cell BK275.out 2).trans rfl;have hcz10_3:w9.cell? ⟨gb275,3,none⟩=some (.int .i64 a0_3):=(blk_cell BK275.out 3).trans rfl;have hfz10_0:=blk_frozen BK275.out 0;have hfz10_1:=blk_frozen BK275.out 1;have hfz10_2:=blk_frozen BK275.out 2;have hfz10_3:=blk_frozen BK275.out 3)|((with_reducible refine gate_callee (f:=120) rfl ?_);refine goesL_ (some 5) rfl rfl Try.func120 (by kernel_rfl) rfl #[.int .i64 a0_0,.int .i64 1,.int .i64 50] rfl zl ?_;(with_reducible refine (spec_l1In.calls a0_0 1 50 true _ A2.out).mono ?_);rintro e w' ⟨rfl,⟨nd,rfl⟩⟩;refine ⟨_,rfl,?_⟩)|(go_at_call 120;(with_reducible refine (spec_l1In.calls a0_1 0 50 true _ A4.out).mono ?_);rintro e w' ⟨rfl,⟨nd,rfl⟩⟩)|(go_at_call 120;(with_reducible refine (spec_l1In.calls a0_2 0 500 true _ A6.out).mono ?_);rintro e w' ⟨rfl,⟨nd,rfl⟩⟩)|(go_at_call 120;(with_reducible refine (spec_l1In.calls a0_3 0 500 t279 _ A8.out).mono ?_);rintro e w' ⟨rfl,⟨nd,rfl⟩⟩))
    go_ret
    exact ⟨by first|rfl|(simp [errW_none,errW_some] <;> rfl)|(simp [*,errW_none,errW_some] <;> rfl),by repeat (first|(with_reducible first|exact HB.out|apply below_alloc|apply pw_below_drewN|apply below_drew1|refine below_set ?_ GE275.out)|exact HB.out)⟩
   ·replace c7:=Bool.eq_false_iff.mpr c7
    subst c7
    have H1:(some false)=some r:=by rw [if_neg (show ¬ (false=true) by decide)] at H;exact H
    clear H
    have H:=H1
    clear H1
    obtain rfl:=Option.some.inj H
    go_enter Try.func148,Try.ntmps148
    go_wp2_with (first|((with_reducible refine gate_dst (N:=1) rfl ?_);refine box_event ?hg (N:=1) ?hd (cs:=#[.int .i64 a0_0,.int .i64 a0_1,.int .i64 a0_2,.int .i64 a0_3]) (t:=76) ?hr ?_;(case hd=>rfl);(case hg=>rfl);(case hr=>first|(go_simp;done)|(go_simp;rfl));intro gb275 hg w11 hbox hb;have n0_:=Aside0.mk (below_step zb hb);have n1_:=Aside0.mk (hbox);have n2_:=Aside0.mk ((by rw [hg];exact (below_size zb):w.heap.size≤gb275));have n3_:=Aside0.mk ((by rw [hg];exact (below_size zb):w.heap.size≤gb275));clear HB;have HB:=n0_;have BK275:=n1_;have GW275:=n2_;have GE275:=n3_;clear n0_ n1_ n2_ n3_;clear hb hbox hg;have hcz12_0:w11.cell? ⟨gb275,0,none⟩=some (.int .i64 a0_0):=(blk_cell BK275.out 0).trans rfl;have hcz12_1:w11.cell? ⟨gb275,1,none⟩=some (.int .i64 a0_1):=(blk_cell BK275.out 1).trans rfl;have hcz12_2:w11.cell? ⟨gb275,2,none⟩=some (.int .i64 a0_2):=(blk_cell BK275.out 2).trans rfl;have hcz12_3:w11.cell? ⟨gb275,3,none⟩=some (.int .i64 a0_3):=(blk_cell BK275.out 3).trans rfl;have hfz12_0:=blk_frozen BK275.out 0;have hfz12_1:=blk_frozen BK275.out 1;have hfz12_2:=blk_frozen BK275.out 2;have hfz12_3:=blk_frozen BK275.out 3)|((with_reducible refine gate_callee (f:=120) rfl ?_);refine goesL_ (some 5) rfl rfl Try.func120 (by kernel_rfl) rfl #[.int .i64 a0_0,.int .i64 1,.int .i64 50] rfl zl ?_;(with_reducible refine (spec_l1In.calls a0_0 1 50 true _ A2.out).mono ?_);rintro e w' ⟨rfl,⟨nd,rfl⟩⟩;refine ⟨_,rfl,?_⟩)|(go_at_call 120;(with_reducible refine (spec_l1In.calls a0_1 0 50 true _ A4.out).mono ?_);rintro e w' ⟨rfl,⟨nd,rfl⟩⟩)|(go_at_call 120;(with_reducible refine (spec_l1In.calls a0_2 0 500 false _ A6.out).mono ?_);rintro e w' ⟨rfl,⟨nd,rfl⟩⟩))
    go_ret
    exact ⟨by first|rfl|(simp [errW_none,errW_some] <;> rfl)|(simp [*,errW_none,errW_some] <;> rfl),by repeat (first|(with_reducible first|exact HB.out|apply below_alloc|apply pw_below_drewN|apply below_drew1|refine below_set ?_ GE275.out)|exact HB.out)⟩
  ·replace c5:=Bool.eq_false_iff.mpr c5
   subst c5
   have H1:(some false)=some r:=by rw [if_neg (show ¬ (false=true) by decide)] at H;exact H
   clear H
   have H:=H1
   clear H1
   obtain rfl:=Option.some.inj H
   go_enter Try.func148,Try.ntmps148
   go_wp2_with (first|((with_reducible refine gate_dst (N:=1) rfl ?_);refine box_event ?hg (N:=1) ?hd (cs:=#[.int .i64 a0_0,.int .i64 a0_1,.int .i64 a0_2,.int .i64 a0_3]) (t:=76) ?hr ?_;(case hd=>rfl);(case hg=>rfl);(case hr=>first|(go_simp;done)|(go_simp;rfl));intro gb275 hg w13 hbox hb;have n0_:=Aside0.mk (below_step zb hb);have n1_:=Aside0.mk (hbox);have n2_:=Aside0.mk ((by rw [hg];exact (below_size zb):w.heap.size≤gb275));have n3_:=Aside0.mk ((by rw [hg];exact (below_size zb):w.heap.size≤gb275));clear HB;have HB:=n0_;have BK275:=n1_;have GW275:=n2_;have GE275:=n3_;clear n0_ n1_ n2_ n3_;clear hb hbox hg;have hcz14_0:w13.cell? ⟨gb275,0,none⟩=some (.int .i64 a0_0):=(blk_cell BK275.out 0).trans rfl;have hcz14_1:w13.cell? ⟨gb275,1,none⟩=some (.int .i64 a0_1):=(blk_cell BK275.out 1).trans rfl;have hcz14_2:w13.cell? ⟨gb275,2,none⟩=some (.int .i64 a0_2):=(blk_cell BK275.out 2).trans rfl;have hcz14_3:w13.cell? ⟨gb275,3,none⟩=some (.int .i64 a0_3):=(blk_cell BK275.out 3).trans rfl;have hfz14_0:=blk_frozen BK275.out 0;have hfz14_1:=blk_frozen BK275.out 1;have hfz14_2:=blk_frozen BK275.out 2;have hfz14_3:=blk_frozen BK275.out 3)|((with_reducible refine gate_callee (f:=120) rfl ?_);refine goesL_ (some 5) rfl rfl Try.func120 (by kernel_rfl) rfl #[.int .i64 a0_0,.int .i64 1,.int .i64 50] rfl zl ?_;(with_reducible refine (spec_l1In.calls a0_0 1 50 true _ A2.out).mono ?_);rintro e w' ⟨rfl,⟨nd,rfl⟩⟩;refine ⟨_,rfl,?_⟩)|(go_at_call 120;(with_reducible refine (spec_l1In.calls a0_1 0 50 false _ A4.out).mono ?_);rintro e w' ⟨rfl,⟨nd,rfl⟩⟩))
   go_ret
   exact ⟨by first|rfl|(simp [errW_none,errW_some] <;> rfl)|(simp [*,errW_none,errW_some] <;> rfl),by repeat (first|(with_reducible first|exact HB.out|apply below_alloc|apply pw_below_drewN|apply below_drew1|refine below_set ?_ GE275.out)|exact HB.out)⟩
 ·replace c3:=Bool.eq_false_iff.mpr c3
  subst c3
  have H1:(some false)=some r:=by rw [if_neg (show ¬ (false=true) by decide)] at H;exact H
  clear H
  have H:=H1
  clear H1
  obtain rfl:=Option.some.inj H
  go_enter Try.func148,Try.ntmps148
  go_wp2_with (first|((with_reducible refine gate_dst (N:=1) rfl ?_);refine box_event ?hg (N:=1) ?hd (cs:=#[.int .i64 a0_0,.int .i64 a0_1,.int .i64 a0_2,.int .i64 a0_3]) (t:=76) ?hr ?_;(case hd=>rfl);(case hg=>rfl);(case hr=>first|(go_simp;done)|(go_simp;rfl));intro gb275 hg w15 hbox hb;have n0_:=Aside0.mk (below_step zb hb);have n1_:=Aside0.mk (hbox);have n2_:=Aside0.mk ((by rw [hg];exact (below_size zb):w.heap.size≤gb275));have n3_:=Aside0.mk ((by rw [hg];exact (below_size zb):w.heap.size≤gb275));clear HB;have HB:=n0_;have BK275:=n1_;have GW275:=n2_;have GE275:=n3_;clear n0_ n1_ n2_ n3_;clear hb hbox hg;have hcz16_0:w15.cell? ⟨gb275,0,none⟩=some (.int .i64 a0_0):=(blk_cell BK275.out 0).trans rfl;have hcz16_1:w15.cell? ⟨gb275,1,none⟩=some (.int .i64 a0_1):=(blk_cell BK275.out 1).trans rfl;have hcz16_2:w15.cell? ⟨gb275,2,none⟩=some (.int .i64 a0_2):=(blk_cell BK275.out 2).trans rfl;have hcz16_3:w15.cell? ⟨gb275,3,none⟩=some (.int .i64 a0_3):=(blk_cell BK275.out 3).trans rfl;have hfz16_0:=blk_frozen BK275.out 0;have hfz16_1:=blk_frozen BK275.out 1;have hfz16_2:=blk_frozen BK275.out 2;have hfz16_3:=blk_frozen BK275.out 3)|((with_reducible refine gate_callee (f:=120) rfl ?_);refine goesL_ (some 5) rfl rfl Try.func120 (by kernel_rfl) rfl #[.int .i64 a0_0,.int .i64 1,.int .i64 50] rfl zl ?_;(with_reducible refine (spec_l1In.calls a0_0 1 50 false _ A2.out).mono ?_);rintro e w' ⟨rfl,⟨nd,rfl⟩⟩;refine ⟨_,rfl,?_⟩))
  go_ret
  exact ⟨by first|rfl|(simp [errW_none,errW_some] <;> rfl)|(simp [*,errW_none,errW_some] <;> rfl),by repeat (first|(with_reducible first|exact HB.out|apply below_alloc|apply pw_below_drewN|apply below_drew1|refine below_set ?_ GE275.out)|exact HB.out)⟩

/-! ### spec_l2Good: function 93 -/
def spec_l2Good.l0:Nat→List (S76)→Int→Option (Bool)
 | 0,_,_=>none
 | k + 1,x0,x3=>if x3<(x0.length:Int) then (if 0≤x3 then ((spec_l2Job.f ((rd_T76 x0 x3).f0) ((rd_T76 x0 x3).f1) ((rd_T76 x0 x3).f2) ((rd_T76 x0 x3).f3)).bind fun t281=>(if t281=true then (spec_l2Good.l0 k x0 (wrap64 (x3 + 1))) else (some false))) else (none)) else (some (decide ((x0.length:Int)≤8)))
def spec_l2Good.f (k:Nat) (l0:List (S76)):Option (Bool):=spec_l2Good.l0 k l0 0
theorem spec_l2Good.mono_l:∀ k,(∀ y0 y1,LeO (spec_l2Good.l0 k y0 y1) (spec_l2Good.l0 (k + 1) y0 y1))
 | 0=>fun _ _ r h=>by simp [spec_l2Good.l0] at h
 | k + 1=>by
  have ih0:=spec_l2Good.mono_l k
  ·intro y0 y1
   unfold spec_l2Good.l0
   repeat' first
   | (with_reducible exact ih0 _ _)
   | (with_reducible exact LeO.refl _)
   | (with_reducible exact LeO.none _)
   | (with_reducible refine LeO.ite ?_ ?_)
   | (with_reducible refine LeO.bind ?_ (fun _=>?_))
   | exact ih0 _ _
   | exact LeO.none _
   | refine LeO.ite ?_ ?_
   | refine LeO.bind ?_ (fun _=>?_)
theorem spec_l2Good.mono:∀ a0 k,LeO (spec_l2Good.f k a0) (spec_l2Good.f (k + 1) a0):=by
 intro a0 k
 have ih0:=spec_l2Good.mono_l k
 unfold spec_l2Good.f
 repeat' first
   | (with_reducible exact ih0 _ _)
   | (with_reducible exact LeO.refl _)
   | (with_reducible exact LeO.none _)
   | (with_reducible refine LeO.ite ?_ ?_)
   | (with_reducible refine LeO.bind ?_ (fun _=>?_))
   | exact ih0 _ _
   | exact LeO.none _
   | refine LeO.ite ?_ ?_
   | refine LeO.bind ?_ (fun _=>?_)
set_option maxHeartbeats 8000000 in
set_option maxRecDepth 100000 in
theorem spec_l2Good.calls (k:Nat) (A0:Option Addr) (c0:Nat) (l0:List (S76)) (r:Bool) (w:World) (hr0:Kd.C k76 w A0 l0.length l0) (hc0:l0.length≤c0) (h:spec_l2Good.f k l0=some r) :
  Calls Try.prog 93 #[.slice A0 l0.length c0] w fun e w'=>e=.returned (.bool r)∧Below w.heap.size w w':=by
 have hu76:=Try.underlying76
 have HR0:=Aside0.mk hr0
 have HC0:=Aside0.mk hc0
 clear hr0 hc0
 have HB:=Aside0.mk (Below.refl w.heap.size w)
 have H:(spec_l2Good.l0 k l0 0)=some r:=h
 clear h
 have H':=Aside0.mk H
 clear H
 go_enter Try.func93,Try.ntmps93
 go_wp2
 go_loopg [3] k (fun kq v3 w'=>∃ (x3_1:Int),v3=.int .i64 x3_1∧Aside0 (spec_l2Good.l0 kq l0 x3_1=some r)∧Aside0 (kq≤k)∧Aside0 (Below w.heap.size w w'))
 case atStart=>exact ⟨(0),zo,H',⟨Nat.le_refl _⟩,⟨zb⟩⟩
 case round=>
  clear H'
  obtain ⟨x3_1,rfl,HA,HK1,HB⟩:=hrel
  cases gk with
  | zero=>exact absurd HA.out (by simp [spec_l2Good.l0])
  | succ k1=>
   have H:=HA.out
   clear HA
   simp only [spec_l2Good.l0] at H
   by_cases c2:x3_1<(l0.length:Int)
   ·rw [if_pos c2] at H
    have c2b0:decide (x3_1<(l0.length:Int))=true:=decide_eq_true c2
    clear c2
    by_cases c3:0≤x3_1
    ·rw [if_pos c3] at H
     have c3b0:decide (0≤x3_1)=true:=decide_eq_true c3
     clear c3
     replace H:=Option.bind_eq_some_iff.mp H
     obtain ⟨t281,A40,H⟩:=H
     replace H:(if t281=true then (spec_l2Good.l0 k1 l0 (wrap64 (x3_1 + 1))) else (some false))=some r:=H
     have A4:=Aside0.mk A40
     clear A40
     by_cases c5:t281=true
     ·subst c5
      have H1:(spec_l2Good.l0 k1 l0 (wrap64 (x3_1 + 1)))=some r:=by rw [if_pos rfl] at H;exact H
      clear H
      have H:=H1
      clear H1
      have H':=Aside0.mk H
      clear H
      have p280:0≤(x3_1:Int):=of_decide_eq_true za
      have q280:x3_1<(l0.length:Int):=of_decide_eq_true za
      obtain ⟨ad280,e280,hx280_0,hx280_1,hx280_2,hx280_3⟩:=at_T76 HR0.out x3_1 p280 q280
      cases e280
      replace hx280_0:=(HB.out.cell (World.block_lt_of_cell? w _ hx280_0)).trans hx280_0
      replace hx280_1:=(HB.out.cell (World.block_lt_of_cell? w _ hx280_1)).trans hx280_1
      replace hx280_2:=(HB.out.cell (World.block_lt_of_cell? w _ hx280_2)).trans hx280_2
      replace hx280_3:=(HB.out.cell (World.block_lt_of_cell? w _ hx280_3)).trans hx280_3
      replace p280:=eq_true p280
      replace q280:=eq_true q280
      go_wp2_with (first|((with_reducible refine gate_callee (f:=148) rfl ?_);refine goesL_ (some 14) rfl rfl Try.func148 (by kernel_rfl) rfl #[.agg #[.int .i64 ((rd_T76 l0 x3_1).f0),.int .i64 ((rd_T76 l0 x3_1).f1),.int .i64 ((rd_T76 l0 x3_1).f2),.int .i64 ((rd_T76 l0 x3_1).f3)]] rfl zl ?_;(with_reducible refine (spec_l2Job.calls ((rd_T76 l0 x3_1).f0) ((rd_T76 l0 x3_1).f1) ((rd_T76 l0 x3_1).f2) ((rd_T76 l0 x3_1).f3) true _ A4.out).mono ?_);rintro e w6 ⟨rfl,hb⟩;refine ⟨_,rfl,?_⟩;have n0_:=Aside0.mk (below_step zb hb);clear HB;have HB:=n0_;clear n0_;(try clear hb);(try clear hb2);(try clear hk);(try clear hi)))
      go_roundg k1
      case measure=>have:=HK1.out;omega
      case rel=>exact ⟨(wrap64 (x3_1 + 1)),zo,H',⟨by have:=HK1.out;omega⟩,⟨zb⟩⟩
     ·replace c5:=Bool.eq_false_iff.mpr c5
      subst c5
      have H1:(some false)=some r:=by rw [if_neg (show ¬ (false=true) by decide)] at H;exact H
      clear H
      have H:=H1
      clear H1
      obtain rfl:=Option.some.inj H
      have p280:0≤(x3_1:Int):=of_decide_eq_true za
      have q280:x3_1<(l0.length:Int):=of_decide_eq_true za
      obtain ⟨ad280,e280,hx280_0,hx280_1,hx280_2,hx280_3⟩:=at_T76 HR0.out x3_1 p280 q280
      cases e280
      replace hx280_0:=(HB.out.cell (World.block_lt_of_cell? w _ hx280_0)).trans hx280_0
      replace hx280_1:=(HB.out.cell (World.block_lt_of_cell? w _ hx280_1)).trans hx280_1
      replace hx280_2:=(HB.out.cell (World.block_lt_of_cell? w _ hx280_2)).trans hx280_2
      replace hx280_3:=(HB.out.cell (World.block_lt_of_cell? w _ hx280_3)).trans hx280_3
      replace p280:=eq_true p280
      replace q280:=eq_true q280
      go_wp2_with (first|((with_reducible refine gate_callee (f:=148) rfl ?_);refine goesL_ (some 14) rfl rfl Try.func148 (by kernel_rfl) rfl #[.agg #[.int .i64 ((rd_T76 l0 x3_1).f0),.int .i64 ((rd_T76 l0 x3_1).f1),.int .i64 ((rd_T76 l0 x3_1).f2),.int .i64 ((rd_T76 l0 x3_1).f3)]] rfl zl ?_;(with_reducible refine (spec_l2Job.calls ((rd_T76 l0 x3_1).f0) ((rd_T76 l0 x3_1).f1) ((rd_T76 l0 x3_1).f2) ((rd_T76 l0 x3_1).f3) false _ A4.out).mono ?_);rintro e w7 ⟨rfl,hb⟩;refine ⟨_,rfl,?_⟩;have n0_:=Aside0.mk (below_step zb hb);clear HB;have HB:=n0_;clear n0_;(try clear hb);(try clear hb2);(try clear hk);(try clear hi)))
      go_ret
      exact ⟨by first|rfl|(simp [errW_none,errW_some] <;> rfl)|(simp [*,errW_none,errW_some] <;> rfl),zb⟩
    ·rw [if_neg c3] at H
     exact absurd H (by simp)
   ·rw [if_neg c2] at H
    have c2b0:decide (x3_1<(l0.length:Int))=false:=decide_eq_false c2
    clear c2
    obtain rfl:=Option.some.inj H
    go_wp2
    go_ret
    exact ⟨by first|rfl|(simp [errW_none,errW_some] <;> rfl)|(simp [*,errW_none,errW_some] <;> rfl),zb⟩

/-! ### spec_l3Plain: function 132 -/
def spec_l3Plain.l0:Nat→List (S76)→Int→Option (Bool)
 | 0,_,_=>none
 | k + 1,x0,x3=>if x3<(x0.length:Int) then (if 0≤x3 then (if ((rd_T76 x0 x3).f2)=0 then (spec_l3Plain.l0 k x0 (wrap64 (x3 + 1))) else (some false)) else (none)) else (some true)
def spec_l3Plain.f (k:Nat) (l0:List (S76)):Option (Bool):=spec_l3Plain.l0 k l0 0
theorem spec_l3Plain.mono_l:∀ k,(∀ y0 y1,LeO (spec_l3Plain.l0 k y0 y1) (spec_l3Plain.l0 (k + 1) y0 y1))
 | 0=>fun _ _ r h=>by simp [spec_l3Plain.l0] at h
 | k + 1=>by
  have ih0:=spec_l3Plain.mono_l k
  ·intro y0 y1
   unfold spec_l3Plain.l0
   repeat' first
   | (with_reducible exact ih0 _ _)
   | (with_reducible exact LeO.refl _)
   | (with_reducible exact LeO.none _)
   | (with_reducible refine LeO.ite ?_ ?_)
   | (with_reducible refine LeO.bind ?_ (fun _=>?_))
   | exact ih0 _ _
   | exact LeO.none _
   | refine LeO.ite ?_ ?_
   | refine LeO.bind ?_ (fun _=>?_)
theorem spec_l3Plain.mono:∀ a0 k,LeO (spec_l3Plain.f k a0) (spec_l3Plain.f (k + 1) a0):=by
 intro a0 k
 have ih0:=spec_l3Plain.mono_l k
 unfold spec_l3Plain.f
 repeat' first
   | (with_reducible exact ih0 _ _)
   | (with_reducible exact LeO.refl _)
   | (with_reducible exact LeO.none _)
   | (with_reducible refine LeO.ite ?_ ?_)
   | (with_reducible refine LeO.bind ?_ (fun _=>?_))
   | exact ih0 _ _
   | exact LeO.none _
   | refine LeO.ite ?_ ?_
   | refine LeO.bind ?_ (fun _=>?_)
set_option maxHeartbeats 8000000 in
set_option maxRecDepth 100000 in
theorem spec_l3Plain.calls (k:Nat) (A0:Option Addr) (c0:Nat) (l0:List (S76)) (r:Bool) (w:World) (hr0:Kd.C k76 w A0 l0.length l0) (hc0:l0.length≤c0) (h:spec_l3Plain.f k l0=some r) :
  Calls Try.prog 132 #[.slice A0 l0.length c0] w fun e w'=>e=.returned (.bool r)∧Drawn0 w w':=by
 have HR0:=Aside0.mk hr0
 have HC0:=Aside0.mk hc0
 clear hr0 hc0
 have H:(spec_l3Plain.l0 k l0 0)=some r:=h
 clear h
 have H':=Aside0.mk H
 clear H
 go_enter Try.func132,Try.ntmps132
 go_wp2
 go_loopg [3] k (fun kq v3 w'=>∃ (x3_1:Int),v3=.int .i64 x3_1∧Aside0 (spec_l3Plain.l0 kq l0 x3_1=some r)∧Aside0 (kq≤k)∧Drawn0 w w')
 case atStart=>exact ⟨(0),zo,H',⟨Nat.le_refl _⟩,by repeat (first|exact Drawn0.refl _|apply Drawn0.step)⟩
 case round=>
  clear H'
  try clear c1
  obtain ⟨x3_1,rfl,HA,HK1,⟨m1,rfl⟩⟩:=hrel
  cases gk with
  | zero=>exact absurd HA.out (by simp [spec_l3Plain.l0])
  | succ k1=>
   have H:=HA.out
   clear HA
   simp only [spec_l3Plain.l0] at H
   by_cases c2:x3_1<(l0.length:Int)
   ·rw [if_pos c2] at H
    have c2b0:decide (x3_1<(l0.length:Int))=true:=decide_eq_true c2
    clear c2
    by_cases c3:0≤x3_1
    ·rw [if_pos c3] at H
     have c3b0:decide (0≤x3_1)=true:=decide_eq_true c3
     clear c3
     by_cases c4:((rd_T76 l0 x3_1).f2)=0
     ·rw [if_pos c4] at H
      have c4b0:(((rd_T76 l0 x3_1).f2) == 0)=true:=beq_iff_eq.mpr c4
      have c4b1:(((rd_T76 l0 x3_1).f2) != 0)=false:=bne_eq_false_iff_eq.mpr c4
      clear c4
      have H':=Aside0.mk H
      clear H
      have p282:0≤(x3_1:Int):=of_decide_eq_true za
      have q282:x3_1<(l0.length:Int):=of_decide_eq_true za
      obtain ⟨ad282,e282,hx282_0,hx282_1,hx282_2,hx282_3⟩:=at_T76 HR0.out x3_1 p282 q282
      cases e282
      replace p282:=eq_true p282
      replace q282:=eq_true q282
      go_wp2
      go_roundg k1
      case measure=>have:=HK1.out;omega
      case rel=>exact ⟨(wrap64 (x3_1 + 1)),zo,H',⟨by have:=HK1.out;omega⟩,by repeat (first|exact Drawn0.refl _|apply Drawn0.step)⟩
     ·rw [if_neg c4] at H
      have c4b0:(((rd_T76 l0 x3_1).f2) == 0)=false:=beq_eq_false_iff_ne.mpr c4
      have c4b1:(((rd_T76 l0 x3_1).f2) != 0)=true:=bne_iff_ne.mpr c4
      obtain rfl:=Option.some.inj H
      have p282:0≤(x3_1:Int):=of_decide_eq_true za
      have q282:x3_1<(l0.length:Int):=of_decide_eq_true za
      obtain ⟨ad282,e282,hx282_0,hx282_1,hx282_2,hx282_3⟩:=at_T76 HR0.out x3_1 p282 q282
      cases e282
      replace p282:=eq_true p282
      replace q282:=eq_true q282
      go_wp2
      go_ret
      exact ⟨by first|rfl|(simp;done)|(simp [*];done),by repeat (first|exact Drawn0.refl _|apply Drawn0.step)⟩
    ·rw [if_neg c3] at H
     exact absurd H (by simp)
   ·rw [if_neg c2] at H
    have c2b0:decide (x3_1<(l0.length:Int))=false:=decide_eq_false c2
    clear c2
    obtain rfl:=Option.some.inj H
    go_wp2
    go_ret
    exact ⟨by first|rfl|(simp;done)|(simp [*];done),by repeat (first|exact Drawn0.refl _|apply Drawn0.step)⟩

/-! ### spec_l7Good: function 76 -/
def spec_l7Good.f (k:Nat) (l0:List (S76)) (a1:Int) (l2:List (S72)):Option (Bool):=(spec_l2Good.f k l0).bind fun t283=>(if t283=true then ((spec_l3Plain.f k l0).bind fun t284=>(if t284=true then ((spec_l1In.f a1 1 4).bind fun t285=>(if t285=true then ((spec_l4Good.f k (l0.length:Int) l2).bind fun t286=>(some t286)) else (some false))) else (some false))) else (some false))
theorem spec_l7Good.mono:∀ a0 a1 a2 k,LeO (spec_l7Good.f k a0 a1 a2) (spec_l7Good.f (k + 1) a0 a1 a2):=by
 intro a0 a1 a2 k
 unfold spec_l7Good.f
 repeat' first
   | (with_reducible exact spec_l2Good.mono _ _)
   | (with_reducible exact spec_l3Plain.mono _ _)
   | (with_reducible exact spec_l4Good.mono _ _ _)
   | (with_reducible exact LeO.refl _)
   | (with_reducible exact LeO.none _)
   | (with_reducible refine LeO.ite ?_ ?_)
   | (with_reducible refine LeO.bind ?_ (fun _=>?_))
   | exact spec_l2Good.mono _ _
   | exact spec_l3Plain.mono _ _
   | exact spec_l4Good.mono _ _ _
   | exact LeO.none _
   | refine LeO.ite ?_ ?_
   | refine LeO.bind ?_ (fun _=>?_)
set_option maxHeartbeats 8000000 in
set_option maxRecDepth 100000 in
theorem spec_l7Good.calls (k:Nat) (A0:Option Addr) (c0:Nat) (l0:List (S76)) (a1:Int) (A2:Option Addr) (c2:Nat) (l2:List (S72)) (r:Bool) (w:World) (hr0:Kd.C k76 w A0 l0.length l0) (hc0:l0.length≤c0) (hr2:Kd.C k72 w A2 l2.length l2) (hc2:l2.length≤c2) (h:spec_l7Good.f k l0 a1 l2=some r) :
  Calls Try.prog 76 #[.slice A0 l0.length c0,.int .i64 a1,.slice A2 l2.length c2] w fun e w'=>e=.returned (.bool r)∧Below w.heap.size w w':=by
 have HR0:=Aside0.mk hr0
 have HC0:=Aside0.mk hc0
 clear hr0 hc0
 have HR2:=Aside0.mk hr2
 have HC2:=Aside0.mk hc2
 clear hr2 hc2
 have HB:=Aside0.mk (Below.refl w.heap.size w)
 have H:((spec_l2Good.f k l0).bind fun t283=>(if t283=true then ((spec_l3Plain.f k l0).bind fun t284=>(if t284=true then ((spec_l1In.f a1 1 4).bind fun t285=>(if t285=true then ((spec_l4Good.f k (l0.length:Int) l2).bind fun t286=>(some t286)) else (some false))) else (some false))) else (some false)))=some r:=h
 clear h
 replace H:=Option.bind_eq_some_iff.mp H
 obtain ⟨t283,A40,H⟩:=H
 replace H:(if t283=true then ((spec_l3Plain.f k l0).bind fun t284=>(if t284=true then ((spec_l1In.f a1 1 4).bind fun t285=>(if t285=true then ((spec_l4Good.f k (l0.length:Int) l2).bind fun t286=>(some t286)) else (some false))) else (some false))) else (some false))=some r:=H
 have A4:=Aside0.mk A40
 clear A40
 by_cases c5:t283=true
 ·subst c5
  have H1:((spec_l3Plain.f k l0).bind fun t284=>(if t284=true then ((spec_l1In.f a1 1 4).bind fun t285=>(if t285=true then ((spec_l4Good.f k (l0.length:Int) l2).bind fun t286=>(some t286)) else (some false))) else (some false)))=some r:=by rw [if_pos rfl] at H;exact H
  clear H
  have H:=H1
  clear H1
  replace H:=Option.bind_eq_some_iff.mp H
  obtain ⟨t284,A60,H⟩:=H
  replace H:(if t284=true then ((spec_l1In.f a1 1 4).bind fun t285=>(if t285=true then ((spec_l4Good.f k (l0.length:Int) l2).bind fun t286=>(some t286)) else (some false))) else (some false))=some r:=H
  have A6:=Aside0.mk A60
  clear A60
  by_cases c7:t284=true
  ·subst c7
   have H1:((spec_l1In.f a1 1 4).bind fun t285=>(if t285=true then ((spec_l4Good.f k (l0.length:Int) l2).bind fun t286=>(some t286)) else (some false)))=some r:=by rw [if_pos rfl] at H;exact H
   clear H
   have H:=H1
   clear H1
   replace H:=Option.bind_eq_some_iff.mp H
   obtain ⟨t285,A80,H⟩:=H
   replace H:(if t285=true then ((spec_l4Good.f k (l0.length:Int) l2).bind fun t286=>(some t286)) else (some false))=some r:=H
   have A8:=Aside0.mk A80
   clear A80
   by_cases c9:t285=true
   ·subst c9
    have H1:((spec_l4Good.f k (l0.length:Int) l2).bind fun t286=>(some t286))=some r:=by rw [if_pos rfl] at H;exact H
    clear H
    have H:=H1
    clear H1
    replace H:=Option.bind_eq_some_iff.mp H
    obtain ⟨t286,A100,H⟩:=H
    replace H:(some t286)=some r:=H
    have A10:=Aside0.mk A100
    clear A100
    obtain rfl:=Option.some.inj H
    go_enter Try.func76,Try.ntmps76
    go_wp2_with (first|((with_reducible refine gate_callee (f:=93) rfl ?_);refine goesL_ (some 8) rfl rfl Try.func93 (by kernel_rfl) rfl #[.slice A0 l0.length c0] rfl zl ?_;(with_reducible refine (spec_l2Good.calls k _ _ l0 true _ ?side1 ?side2 A4.out).mono ?_);(case side1=>exact zC HR0.out);(case side2=>exact HC0.out);rintro e w11 ⟨rfl,hb⟩;refine ⟨_,rfl,?_⟩;have n0_:=Aside0.mk (below_step zb hb);clear HB;have HB:=n0_;clear n0_;(try clear hb);(try clear hb2);(try clear hk);(try clear hi))|(go_at_call 132;(with_reducible refine (spec_l3Plain.calls k _ _ l0 true _ ?side1 ?side2 A6.out).mono ?_);(case side1=>exact zC (Kd.C_below HR0.out HB.out));(case side2=>exact HC0.out);rintro e w' ⟨rfl,⟨nd,rfl⟩⟩)|(go_at_call 120;(with_reducible refine (spec_l1In.calls a1 1 4 true _ A8.out).mono ?_);rintro e w' ⟨rfl,⟨nd,rfl⟩⟩)|(go_at_call 56;(with_reducible refine (spec_l4Good.calls k (l0.length:Int) _ _ l2 t286 _ ?side1 ?side2 A10.out).mono ?_);(case side1=>exact zC (Kd.C_below HR2.out zb));(case side2=>exact HC2.out);rintro e w12 ⟨rfl,hb⟩;have n0_:=Aside0.mk (below_step zb hb);clear HB;have HB:=n0_;clear n0_;(try clear hb);(try clear hb2);(try clear hk);(try clear hi)))
    go_ret
    exact ⟨by first|rfl|(simp [errW_none,errW_some] <;> rfl)|(simp [*,errW_none,errW_some] <;> rfl),zb⟩
   ·replace c9:=Bool.eq_false_iff.mpr c9
    subst c9
    have H1:(some false)=some r:=by rw [if_neg (show ¬ (false=true) by decide)] at H;exact H
    clear H
    have H:=H1
    clear H1
    obtain rfl:=Option.some.inj H
    go_enter Try.func76,Try.ntmps76
    go_wp2_with (first|((with_reducible refine gate_callee (f:=93) rfl ?_);refine goesL_ (some 8) rfl rfl Try.func93 (by kernel_rfl) rfl #[.slice A0 l0.length c0] rfl zl ?_;(with_reducible refine (spec_l2Good.calls k _ _ l0 true _ ?side1 ?side2 A4.out).mono ?_);(case side1=>exact zC HR0.out);(case side2=>exact HC0.out);rintro e w13 ⟨rfl,hb⟩;refine ⟨_,rfl,?_⟩;have n0_:=Aside0.mk (below_step zb hb);clear HB;have HB:=n0_;clear n0_;(try clear hb);(try clear hb2);(try clear hk);(try clear hi))|(go_at_call 132;(with_reducible refine (spec_l3Plain.calls k _ _ l0 true _ ?side1 ?side2 A6.out).mono ?_);(case side1=>exact zC (Kd.C_below HR0.out HB.out));(case side2=>exact HC0.out);rintro e w' ⟨rfl,⟨nd,rfl⟩⟩)|(go_at_call 120;(with_reducible refine (spec_l1In.calls a1 1 4 false _ A8.out).mono ?_);rintro e w' ⟨rfl,⟨nd,rfl⟩⟩))
    go_ret
    exact ⟨by first|rfl|(simp [errW_none,errW_some] <;> rfl)|(simp [*,errW_none,errW_some] <;> rfl),zb⟩
  ·replace c7:=Bool.eq_false_iff.mpr c7
   subst c7
   have H1:(some false)=some r:=by rw [if_neg (show ¬ (false=true) by decide)] at H;exact H
   clear H
   have H:=H1
   clear H1
   obtain rfl:=Option.some.inj H
   go_enter Try.func76,Try.ntmps76
   go_wp2_with (first|((with_reducible refine gate_callee (f:=93) rfl ?_);refine goesL_ (some 8) rfl rfl Try.func93 (by kernel_rfl) rfl #[.slice A0 l0.length c0] rfl zl ?_;(with_reducible refine (spec_l2Good.calls k _ _ l0 true _ ?side1 ?side2 A4.out).mono ?_);(case side1=>exact zC HR0.out);(case side2=>exact HC0.out);rintro e w14 ⟨rfl,hb⟩;refine ⟨_,rfl,?_⟩;have n0_:=Aside0.mk (below_step zb hb);clear HB;have HB:=n0_;clear n0_;(try clear hb);(try clear hb2);(try clear hk);(try clear hi))|(go_at_call 132;(with_reducible refine (spec_l3Plain.calls k _ _ l0 false _ ?side1 ?side2 A6.out).mono ?_);(case side1=>exact zC (Kd.C_below HR0.out HB.out));(case side2=>exact HC0.out);rintro e w' ⟨rfl,⟨nd,rfl⟩⟩))
   go_ret
   exact ⟨by first|rfl|(simp [errW_none,errW_some] <;> rfl)|(simp [*,errW_none,errW_some] <;> rfl),zb⟩
 ·replace c5:=Bool.eq_false_iff.mpr c5
  subst c5
  have H1:(some false)=some r:=by rw [if_neg (show ¬ (false=true) by decide)] at H;exact H
  clear H
  have H:=H1
  clear H1
  obtain rfl:=Option.some.inj H
  go_enter Try.func76,Try.ntmps76
  go_wp2_with (first|((with_reducible refine gate_callee (f:=93) rfl ?_);refine goesL_ (some 8) rfl rfl Try.func93 (by kernel_rfl) rfl #[.slice A0 l0.length c0] rfl zl ?_;(with_reducible refine (spec_l2Good.calls k _ _ l0 false _ ?side1 ?side2 A4.out).mono ?_);(case side1=>exact zC HR0.out);(case side2=>exact HC0.out);rintro e w15 ⟨rfl,hb⟩;refine ⟨_,rfl,?_⟩;have n0_:=Aside0.mk (below_step zb hb);clear HB;have HB:=n0_;clear n0_;(try clear hb);(try clear hb2);(try clear hk);(try clear hi)))
  go_ret
  exact ⟨by first|rfl|(simp [errW_none,errW_some] <;> rfl)|(simp [*,errW_none,errW_some] <;> rfl),zb⟩

/-! ### spec_l1Most: function 145 -/
def spec_l1Most.f (a0:Int) (a1:Int):Option (Int):=if a0>a1 then (some a0) else (some a1)
set_option maxHeartbeats 8000000 in
set_option maxRecDepth 100000 in
theorem spec_l1Most.calls (a0:Int) (a1:Int) (r:Int) (w:World) (h:spec_l1Most.f a0 a1=some r) :
  Calls Try.prog 145 #[.int .i64 a0,.int .i64 a1] w fun e w'=>e=.returned (.int .i64 r)∧Drawn0 w w':=by
 have H:(if a0>a1 then (some a0) else (some a1))=some r:=h
 clear h
 by_cases c3:a0>a1
 ·rw [if_pos c3] at H
  have c3b0:decide (a1<a0)=true:=decide_eq_true c3
  clear c3
  obtain rfl:=Option.some.inj H
  go_enter Try.func145,Try.ntmps145
  go_wp2
  go_ret
  exact ⟨by first|rfl|(simp;done)|(simp [*];done),by repeat (first|exact Drawn0.refl _|apply Drawn0.step)⟩
 ·rw [if_neg c3] at H
  have c3b0:decide (a1<a0)=false:=decide_eq_false c3
  clear c3
  obtain rfl:=Option.some.inj H
  go_enter Try.func145,Try.ntmps145
  go_wp2
  go_ret
  exact ⟨by first|rfl|(simp;done)|(simp [*];done),by repeat (first|exact Drawn0.refl _|apply Drawn0.step)⟩

/-! ### spec_l7Tail: function 133 -/
mutual
def spec_l7Tail.l0:Nat→List (S76)→List (List Bool)→Int→Int→Int→Option (Int)
 | 0,_,_,_,_,_=>none
 | k + 1,x0,x1,x2,x7,x8=>if x8<(x0.length:Int) then (if 0≤x2 then (if x2<(x1.length:Int) then (if 0≤x8 then (if x8<((rd_L6 x1 x2).length:Int) then (if rdOf false (rd_L6 x1 x2) x8=true then ((spec_l7Tail.f k x0 x1 x8).bind fun t290=>((spec_l1Most.f x7 t290).bind fun t291=>(spec_l7Tail.l0 k x0 x1 x2 t291 (wrap64 (x8 + 1))))) else (spec_l7Tail.l0 k x0 x1 x2 x7 (wrap64 (x8 + 1)))) else (none)) else (none)) else (none)) else (none)) else (if 0≤x2 then (if x2<(x0.length:Int) then (some (wrap64 (((rd_T76 x0 x2).f0) + x7))) else (none)) else (none))
def spec_l7Tail.f:Nat→List (S76)→List (List Bool)→Int→Option (Int)
 | 0,_,_,_=>none
 | k + 1,l0,l1,a2=>spec_l7Tail.l0 k l0 l1 a2 0 0
end
theorem spec_l7Tail.mono_l:∀ k,(∀ y0 y1 y2,LeO (spec_l7Tail.f k y0 y1 y2) (spec_l7Tail.f (k + 1) y0 y1 y2))∧(∀ y0 y1 y2 y3 y4,LeO (spec_l7Tail.l0 k y0 y1 y2 y3 y4) (spec_l7Tail.l0 (k + 1) y0 y1 y2 y3 y4))
 | 0=>⟨fun _ _ _ r h=>by simp [spec_l7Tail.f] at h,fun _ _ _ _ _ r h=>by simp [spec_l7Tail.l0] at h⟩
 | k + 1=>by
  obtain ⟨ih0,ih1⟩:=spec_l7Tail.mono_l k
  refine ⟨?_,?_⟩
  ·intro y0 y1 y2
   unfold spec_l7Tail.f
   repeat' first
   | (with_reducible exact ih0 _ _ _)
   | (with_reducible exact ih1 _ _ _ _ _)
   | (with_reducible exact LeO.refl _)
   | (with_reducible exact LeO.none _)
   | (with_reducible refine LeO.ite ?_ ?_)
   | (with_reducible refine LeO.bind ?_ (fun _=>?_))
   | exact ih0 _ _ _
   | exact ih1 _ _ _ _ _
   | exact LeO.none _
   | refine LeO.ite ?_ ?_
   | refine LeO.bind ?_ (fun _=>?_)
  ·intro y0 y1 y2 y3 y4
   unfold spec_l7Tail.l0
   repeat' first
   | (with_reducible exact ih0 _ _ _)
   | (with_reducible exact ih1 _ _ _ _ _)
   | (with_reducible exact LeO.refl _)
   | (with_reducible exact LeO.none _)
   | (with_reducible refine LeO.ite ?_ ?_)
   | (with_reducible refine LeO.bind ?_ (fun _=>?_))
   | exact ih0 _ _ _
   | exact ih1 _ _ _ _ _
   | exact LeO.none _
   | refine LeO.ite ?_ ?_
   | refine LeO.bind ?_ (fun _=>?_)
theorem spec_l7Tail.mono:∀ a0 a1 a2 k,LeO (spec_l7Tail.f k a0 a1 a2) (spec_l7Tail.f (k + 1) a0 a1 a2):=by
 intro a0 a1 a2 k
 obtain ⟨ih0,ih1⟩:=spec_l7Tail.mono_l k
 exact ih0 a0 a1 a2
set_option maxHeartbeats 8000000 in
set_option maxRecDepth 100000 in
theorem spec_l7Tail.calls (k:Nat):∀ (A0:Option Addr) (c0:Nat) (l0:List (S76)) (A1:Option Addr) (c1:Nat) (l1:List (List Bool)) (a2:Int) (r:Int) (w:World) (hr0:Kd.C k76 w A0 l0.length l0) (hc0:l0.length≤c0) (hr1:Kd.C (Kd.slice 4 Kd.bool) w A1 l1.length l1) (hc1:l1.length≤c1) (h:spec_l7Tail.f k l0 l1 a2=some r),
  Calls Try.prog 133 #[.slice A0 l0.length c0,.slice A1 l1.length c1,.int .i64 a2] w fun e w'=>e=.returned (.int .i64 r)∧Drawn0 w w':=by
 induction k using Nat.strongRecOn with
 | _ k ih=>
 intro A0 c0 l0 A1 c1 l1 a2 r w hr0 hc0 hr1 hc1 h
 cases k with
 | zero=>exact absurd h (by simp [spec_l7Tail.f])
 | succ k=>
 simp only [spec_l7Tail.f] at h
 have HR0:=Aside0.mk hr0
 have HC0:=Aside0.mk hc0
 clear hr0 hc0
 have HR1:=Aside0.mk hr1
 have HC1:=Aside0.mk hc1
 clear hr1 hc1
 have H:(spec_l7Tail.l0 k l0 l1 a2 0 0)=some r:=h
 clear h
 have H':=Aside0.mk H
 clear H
 go_enter Try.func133,Try.ntmps133
 go_wp2
 go_loopg [7,8] k (fun kq v7 v8 w'=>∃ (x7_1:Int) (x8_1:Int),v7=.int .i64 x7_1∧v8=.int .i64 x8_1∧Aside0 (spec_l7Tail.l0 kq l0 l1 a2 x7_1 x8_1=some r)∧Aside0 (kq≤k)∧Drawn0 w w')
 case atStart=>exact ⟨(0),(0),zo,zo,H',⟨Nat.le_refl _⟩,by repeat (first|exact Drawn0.refl _|apply Drawn0.step)⟩
 case round=>
  clear H'
  (try clear c1);(try clear p2)
  obtain ⟨x7_1,x8_1,rfl,rfl,HA,HK1,⟨m1,rfl⟩⟩:=hrel
  cases gk with
  | zero=>exact absurd HA.out (by simp [spec_l7Tail.l0])
  | succ k1=>
   have H:=HA.out
   clear HA
   simp only [spec_l7Tail.l0] at H
   by_cases c4:x8_1<(l0.length:Int)
   ·rw [if_pos c4] at H
    have c4b0:decide (x8_1<(l0.length:Int))=true:=decide_eq_true c4
    clear c4
    by_cases c5:0≤a2
    ·rw [if_pos c5] at H
     have c5b0:decide (0≤a2)=true:=decide_eq_true c5
     clear c5
     by_cases c6:a2<(l1.length:Int)
     ·rw [if_pos c6] at H
      have c6b0:decide (a2<(l1.length:Int))=true:=decide_eq_true c6
      clear c6
      by_cases c7:0≤x8_1
      ·rw [if_pos c7] at H
       have c7b0:decide (0≤x8_1)=true:=decide_eq_true c7
       clear c7
       by_cases c8:x8_1<((rd_L6 l1 a2).length:Int)
       ·rw [if_pos c8] at H
        have c8b0:decide (x8_1<((rd_L6 l1 a2).length:Int))=true:=decide_eq_true c8
        clear c8
        obtain ⟨bq9,hbq9⟩:∃ b_:Bool,b_=(rdOf false (rd_L6 l1 a2) x8_1):=⟨_,rfl⟩
        replace H:(if bq9=true then ((spec_l7Tail.f k1 l0 l1 x8_1).bind fun t290=>((spec_l1Most.f x7_1 t290).bind fun t291=>(spec_l7Tail.l0 k1 l0 l1 a2 t291 (wrap64 (x8_1 + 1))))) else (spec_l7Tail.l0 k1 l0 l1 a2 x7_1 (wrap64 (x8_1 + 1))))=some r:=by rw [←hbq9] at H;exact H
        have Nbq9:=Aside0.mk hbq9
        clear hbq9
        by_cases c10:bq9=true
        ·subst c10
         have H1:((spec_l7Tail.f k1 l0 l1 x8_1).bind fun t290=>((spec_l1Most.f x7_1 t290).bind fun t291=>(spec_l7Tail.l0 k1 l0 l1 a2 t291 (wrap64 (x8_1 + 1)))))=some r:=by rw [if_pos rfl] at H;exact H
         clear H
         have H:=H1
         clear H1
         replace H:=Option.bind_eq_some_iff.mp H
         obtain ⟨t290,A110,H⟩:=H
         replace H:((spec_l1Most.f x7_1 t290).bind fun t291=>(spec_l7Tail.l0 k1 l0 l1 a2 t291 (wrap64 (x8_1 + 1))))=some r:=H
         have A11:=Aside0.mk A110
         clear A110
         replace H:=Option.bind_eq_some_iff.mp H
         obtain ⟨t291,A120,H⟩:=H
         replace H:(spec_l7Tail.l0 k1 l0 l1 a2 t291 (wrap64 (x8_1 + 1)))=some r:=H
         have A12:=Aside0.mk A120
         clear A120
         have H':=Aside0.mk H
         clear H
         have p288:0≤(a2:Int):=of_decide_eq_true za
         have q288:a2<(l1.length:Int):=of_decide_eq_true za
         obtain ⟨ad288,A288_0,c288_0,e288,hx288_0,hl288_0,hi288_0⟩:=at_L6 HR1.out a2 p288 q288
         cases e288
         have HR288_0:=Aside0.mk hi288_0
         have HC288_0:=Aside0.mk hl288_0
         clear hi288_0 hl288_0
         replace p288:=eq_true p288
         replace q288:=eq_true q288
         have p289:0≤(x8_1:Int):=of_decide_eq_true za
         have q289:x8_1<((rd_L6 l1 a2).length:Int):=of_decide_eq_true za
         obtain ⟨ad289,e289,hx289_0⟩:=Kd.at_bool HR288_0.out x8_1 p289 q289
         (try rw [←Nbq9.out] at hx289_0)
         cases e289
         replace p289:=eq_true p289
         replace q289:=eq_true q289
         go_wp2_with (first|((with_reducible refine gate_callee (f:=133) rfl ?_);refine goesL_ (some 26) rfl rfl Try.func133 (by kernel_rfl) rfl #[.slice A0 l0.length c0,.slice (some ad288) l1.length c1,.int .i64 x8_1] rfl zl ?_;(with_reducible refine (ih k1 (by have:=HK1.out;omega) _ _ l0 _ _ l1 x8_1 t290 _ ?side1 ?side2 ?side3 ?side4 A11.out).mono ?_);(case side1=>exact zC HR0.out);(case side2=>exact HC0.out);(case side3=>exact zC HR1.out);(case side4=>exact HC1.out);rintro e w' ⟨rfl,⟨nd,rfl⟩⟩;refine ⟨_,rfl,?_⟩)|((with_reducible refine gate_callee (f:=145) rfl ?_);refine goesL_ (some 27) rfl rfl Try.func145 (by kernel_rfl) rfl #[.int .i64 x7_1,.int .i64 t290] rfl zl ?_;(with_reducible refine (spec_l1Most.calls x7_1 t290 t291 _ A12.out).mono ?_);rintro e w' ⟨rfl,⟨nd,rfl⟩⟩;refine ⟨_,rfl,?_⟩))
         go_roundg k1
         case measure=>have:=HK1.out;omega
         case rel=>exact ⟨(t291),(wrap64 (x8_1 + 1)),zo,zo,H',⟨by have:=HK1.out;omega⟩,by repeat (first|exact Drawn0.refl _|apply Drawn0.step)⟩
        ·replace c10:=Bool.eq_false_iff.mpr c10
         subst c10
         have H1:(spec_l7Tail.l0 k1 l0 l1 a2 x7_1 (wrap64 (x8_1 + 1)))=some r:=by rw [if_neg (show ¬ (false=true) by decide)] at H;exact H
         clear H
         have H:=H1
         clear H1
         have H':=Aside0.mk H
         clear H
         have p288:0≤(a2:Int):=of_decide_eq_true za
         have q288:a2<(l1.length:Int):=of_decide_eq_true za
         obtain ⟨ad288,A288_0,c288_0,e288,hx288_0,hl288_0,hi288_0⟩:=at_L6 HR1.out a2 p288 q288
         cases e288
         have HR288_0:=Aside0.mk hi288_0
         have HC288_0:=Aside0.mk hl288_0
         clear hi288_0 hl288_0
         replace p288:=eq_true p288
         replace q288:=eq_true q288
         have p289:0≤(x8_1:Int):=of_decide_eq_true za
         have q289:x8_1<((rd_L6 l1 a2).length:Int):=of_decide_eq_true za
         obtain ⟨ad289,e289,hx289_0⟩:=Kd.at_bool HR288_0.out x8_1 p289 q289
         (try rw [←Nbq9.out] at hx289_0)
         cases e289
         replace p289:=eq_true p289
         replace q289:=eq_true q289
         go_wp2
         go_roundg k1
         case measure=>have:=HK1.out;omega
         case rel=>exact ⟨(x7_1),(wrap64 (x8_1 + 1)),zo,zo,H',⟨by have:=HK1.out;omega⟩,by repeat (first|exact Drawn0.refl _|apply Drawn0.step)⟩
       ·rw [if_neg c8] at H
        exact absurd H (by simp)
      ·rw [if_neg c7] at H
       exact absurd H (by simp)
     ·rw [if_neg c6] at H
      exact absurd H (by simp)
    ·rw [if_neg c5] at H
     exact absurd H (by simp)
   ·rw [if_neg c4] at H
    have c4b0:decide (x8_1<(l0.length:Int))=false:=decide_eq_false c4
    clear c4
    by_cases c13:0≤a2
    ·rw [if_pos c13] at H
     have c13b0:decide (0≤a2)=true:=decide_eq_true c13
     clear c13
     by_cases c14:a2<(l0.length:Int)
     ·rw [if_pos c14] at H
      have c14b0:decide (a2<(l0.length:Int))=true:=decide_eq_true c14
      clear c14
      obtain rfl:=Option.some.inj H
      have p287:0≤(a2:Int):=of_decide_eq_true za
      have q287:a2<(l0.length:Int):=of_decide_eq_true za
      obtain ⟨ad287,e287,hx287_0,hx287_1,hx287_2,hx287_3⟩:=at_T76 HR0.out a2 p287 q287
      cases e287
      replace p287:=eq_true p287
      replace q287:=eq_true q287
      go_wp2
      go_ret
      exact ⟨by first|rfl|(simp;done)|(simp [*];done),by repeat (first|exact Drawn0.refl _|apply Drawn0.step)⟩
     ·rw [if_neg c14] at H
      exact absurd H (by simp)
    ·rw [if_neg c13] at H
     exact absurd H (by simp)

end Go.Proofs.Ytbcfmegepkhlpaa.XFnExactTailsFirst
-- minified
