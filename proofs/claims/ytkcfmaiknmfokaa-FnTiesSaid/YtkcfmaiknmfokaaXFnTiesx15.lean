-- Written by a program of this session (the kit's print, widened). Proved here: what each function answers, for the arguments that its contract names.
import Derived.Test.YtkcfmaiknmfokaaXFnTiesx0
import Derived.Test.YtkcfmaiknmfokaaXFnTiesx4
import Derived.Test.YtkcfmaiknmfokaaXFnTiesx9
import Derived.Test.YtkcfmaiknmfokaaXFnTiesx10
import Derived.Test.YtkcfmaiknmfokaaXFnTiesx14
namespace Go.Proofs.Ytkcfmaiknmfokaa.XFnTies
open Go.RowKit Go.Proofs.YtkcfmaiknmfokaaW.PrintWords Go.Proofs.YtkcfmaiknmfokaaW.PrintLast Go.Proofs.YtkcfmaiknmfokaaW.PrintMore
attribute [local go_sem] max2_int min2_int max_two min_two max_three min_three max_four min_four   -- for this text's walks alone
attribute [local go_sem] fldS_52_0 fldS_52_1 fldS_52_2
set_option linter.unusedVariables false
set_option linter.unusedSimpArgs false

/-! ### spec_TieGroups: function 7 -/
def spec_TieGroups.f (k:Nat) (l0:List (S44)) (a1:Int):Option ((List (List Int)) × Bool):=(spec_l3Ruled.f k l0 a1).bind fun t417=>(if t417=true then ((spec_l3Groups.f k l0 a1).bind fun t418=>(some (t418,true))) else (some ((([]:List (List Int))),false)))
theorem spec_TieGroups.mono:∀ a0 a1 k,LeO (spec_TieGroups.f k a0 a1) (spec_TieGroups.f (k + 1) a0 a1):=by
 intro a0 a1 k
 unfold spec_TieGroups.f
 repeat' first|(with_reducible first|exact spec_l3Groups.mono _ _ _|exact spec_l3Ruled.mono _ _ _|exact LeO.refl _|exact LeO.none _|refine LeO.ite ?_ ?_|refine LeO.bind ?_ (fun _=>?_))|exact spec_l3Groups.mono _ _ _|exact spec_l3Ruled.mono _ _ _|exact LeO.none _|refine LeO.ite ?_ ?_|refine LeO.bind ?_ (fun _=>?_)
set_option maxHeartbeats 8000000 in
set_option maxRecDepth 100000 in
theorem spec_TieGroups.calls (k:Nat) (A0:Option Addr) (c0:Nat) (l0:List (S44)) (a1:Int) (r1:List (List Int)) (r2:Bool) (w:World) (hr0:Kd.C k44 w A0 l0.length l0) (hc0:l0.length≤c0) (h:spec_TieGroups.f k l0 a1=some (r1,r2)) :
  Calls Try.prog 7 #[.slice A0 l0.length c0,.int .i64 a1] w fun e w'=>∃ v0_:Value,e=.returned (.tuple #[v0_,.bool r2])∧Kd.S (Kd.slice 3 (Kd.int .i64)) 33 w' w.heap.size (fun _=>True) v0_ r1∧Below w.heap.size w w':=by
 have HR0:=Aside0.mk hr0
 have HC0:=Aside0.mk hc0
 clear hr0 hc0
 have HB:=Aside0.mk (Below.refl w.heap.size w)
 have H:((spec_l3Ruled.f k l0 a1).bind fun t417=>(if t417=true then ((spec_l3Groups.f k l0 a1).bind fun t418=>(some (t418,true))) else (some ((([]:List (List Int))),false))))=some (r1,r2):=h
 clear h
 replace H:=Option.bind_eq_some_iff.mp H
 obtain ⟨t417,A30,H⟩:=H
 try dsimp only at H
 have A3:=Aside0.mk A30
 clear A30
 by_cases c4:t417=true
 ·subst c4
  rw [if_pos rfl] at H
  replace H:=Option.bind_eq_some_iff.mp H
  obtain ⟨t418,A50,H⟩:=H
  try dsimp only at H
  have A5:=Aside0.mk A50
  clear A50
  simp only [Option.some.injEq,Prod.mk.injEq] at H
  obtain ⟨rfl,rfl⟩:=H
  go_enter Try.func7,Try.ntmps7
  go_wp2_with (first|((with_reducible refine gate_callee (f:=18) rfl ?_);refine zgo 8 Try.func18 #[.slice A0 l0.length c0,.int .i64 a1] ?_;(with_reducible refine (spec_l3Ruled.calls k _ _ l0 a1 true _ ?side1 ?side2 A3.out).mono ?_);(case side1=>exact zC HR0.out);(case side2=>exact HC0.out);rintro e w6 ⟨rfl,hb⟩;refine ⟨_,rfl,?_⟩;replace HB:=zb1 hb;(try clear hb))|((with_reducible refine gate_callee (f:=19) rfl ?_);refine zgo 13 Try.func19 #[.slice A0 l0.length c0,.int .i64 a1] ?_;(with_reducible refine (spec_l3Groups.calls k _ _ l0 a1 t418 _ ?side1 ?side2 A5.out).mono ?_);(case side1=>exact zC (Kd.C_below HR0.out HB.out));(case side2=>exact HC0.out);rintro e w7 ⟨v419,rfl,ho0,hb⟩;refine ⟨_,rfl,?_⟩;have HO420:=Aside0.mk (Kd.S_lower ho0 (below_size zb));replace HB:=zb1 hb;(try clear hb);(try clear ho0)))
  go_ret2
  exact ⟨_,zz1,zS HO420.out,zb⟩
 replace c4:=Bool.eq_false_iff.mpr c4
 subst c4
 rw [if_neg (show ¬ (false=true) by decide)] at H
 obtain ⟨y421,hy421⟩:∃ y_:List (List Int),y_=(([]:List (List Int))):=⟨_,rfl⟩
 replace H:(some (y421,false))=some (r1,r2):=by first|(rw [hy421];with_reducible exact H)|(have H2_:=(Option.bind_some _ _).symm.trans H;rw [hy421];with_reducible exact H2_)|(have H2_:=(Option.bind_some _ _).symm.trans H;with_reducible exact H2_)|with_reducible exact H|(rw [hy421];exact H)|exact H
 have Ny421:=Aside0.mk hy421
 clear hy421
 simp only [Option.some.injEq,Prod.mk.injEq] at H
 obtain ⟨rfl,rfl⟩:=H
 go_enter Try.func7,Try.ntmps7
 go_wp2_with (first|((with_reducible refine gate_callee (f:=18) rfl ?_);refine zgo 8 Try.func18 #[.slice A0 l0.length c0,.int .i64 a1] ?_;(with_reducible refine (spec_l3Ruled.calls k _ _ l0 a1 false _ ?side1 ?side2 A3.out).mono ?_);(case side1=>exact zC HR0.out);(case side2=>exact HC0.out);rintro e w8 ⟨rfl,hb⟩;refine ⟨_,rfl,?_⟩;replace HB:=zb1 hb;(try clear hb))|((with_reducible refine gate_dst (N:=10) rfl ?_);refine Kd.S_lit (Kd.slice 3 (Kd.int .i64)) _ 33 ?hg (N:=10) ?hd (xs:=([]:List (List Int))) (inner:=[]) (ok:=fun _=>True) (okp:=fun _=>True) ?hr ?hp (fun _ hk=>hk) trivial (Below.refl _ _) (Nat.le_refl _) (by simp) ?_;(case hd=>rfl);(case hg=>rfl);(case hr=>first|(go_simp;done)|(go_simp;rfl));(case hp=>exact (Reps.none _ _));intro v422 w9 ho10 hb hg_ hnew_;clear hg_ hnew_;(first|rw [←Ny421.out] at ho10|(simp only [Int.reduceToNat] at ho10;rw [←Ny421.out] at ho10));have HO423:=Aside0.mk (Kd.S_lower ho10 (below_size zb));replace HB:=zb1 hb;clear hb ho10))
 go_ret2
 exact ⟨_,zz1,zS HO423.out,zb⟩

/-! ### impl_CountRuled: function 8 -/
mutual
def impl_CountRuled.l0:Nat→Int→List (List Int)→Int→Int→Option (Int × Bool)
 | 0,_,_,_,_=>none
 | k + 1,x6,x16,x17,x18=>if x18<x17 then (if 0≤x18 then (if x18<(x16.length:Int) then (impl_CountRuled.l1 k x6 x16 x17 x18 ((rd_L3 x16 x18).length:Int) 0) else (none)) else (none)) else (some (x6,true))
def impl_CountRuled.l1:Nat→Int→List (List Int)→Int→Int→Int→Int→Option (Int × Bool)
 | 0,_,_,_,_,_,_=>none
 | k + 1,x6,x16,x17,x18,x23,x24=>if x24<x23 then (impl_CountRuled.l1 k (wrap64 (x6 * (wrap64 (x24 + 1)))) x16 x17 x18 x23 (wrap64 (x24 + 1))) else (impl_CountRuled.l0 k x6 x16 x17 (wrap64 (x18 + 1)))
end
def impl_CountRuled.f (k:Nat) (l0:List (S44)) (a1:Int):Option (Int × Bool):=(impl_isRuled.f k l0 a1).bind fun t424=>(if t424=true then ((impl_tieGroups.f k l0 a1).bind fun t425=>(impl_CountRuled.l0 k 1 t425 (t425.length:Int) 0)) else (some (0,false)))
theorem impl_CountRuled.mono_l:∀ k,(∀ y0 y1 y2 y3,LeO (impl_CountRuled.l0 k y0 y1 y2 y3) (impl_CountRuled.l0 (k + 1) y0 y1 y2 y3))∧(∀ y0 y1 y2 y3 y4 y5,LeO (impl_CountRuled.l1 k y0 y1 y2 y3 y4 y5) (impl_CountRuled.l1 (k + 1) y0 y1 y2 y3 y4 y5))
 | 0=>⟨fun _ _ _ _ r h=>by simp [impl_CountRuled.l0] at h,fun _ _ _ _ _ _ r h=>by simp [impl_CountRuled.l1] at h⟩
 | k + 1=>by
  obtain ⟨ih0,ih1⟩:=impl_CountRuled.mono_l k
  refine ⟨?_,?_⟩ <;> intros <;> first|unfold impl_CountRuled.l0|unfold impl_CountRuled.l1
  all_goals repeat' first|(with_reducible first|apply ih0|apply ih1|exact impl_isRuled.mono _ _ _|exact impl_tieGroups.mono _ _ _|exact LeO.refl _|exact LeO.none _|refine LeO.ite ?_ ?_|refine LeO.bind ?_ (fun _=>?_))|apply ih0|apply ih1|exact impl_isRuled.mono _ _ _|exact impl_tieGroups.mono _ _ _|exact LeO.none _|refine LeO.ite ?_ ?_|refine LeO.bind ?_ (fun _=>?_)
theorem impl_CountRuled.mono:∀ a0 a1 k,LeO (impl_CountRuled.f k a0 a1) (impl_CountRuled.f (k + 1) a0 a1):=by
 intro a0 a1 k
 obtain ⟨ih0,ih1⟩:=impl_CountRuled.mono_l k
 unfold impl_CountRuled.f
 repeat' first|(with_reducible first|apply ih0|apply ih1|exact impl_isRuled.mono _ _ _|exact impl_tieGroups.mono _ _ _|exact LeO.refl _|exact LeO.none _|refine LeO.ite ?_ ?_|refine LeO.bind ?_ (fun _=>?_))|apply ih0|apply ih1|exact impl_isRuled.mono _ _ _|exact impl_tieGroups.mono _ _ _|exact LeO.none _|refine LeO.ite ?_ ?_|refine LeO.bind ?_ (fun _=>?_)
set_option maxHeartbeats 8000000 in
set_option maxRecDepth 100000 in
theorem impl_CountRuled.calls (k:Nat) (A0:Option Addr) (c0:Nat) (l0:List (S44)) (a1:Int) (r1:Int) (r2:Bool) (w:World) (hr0:Kd.C k44 w A0 l0.length l0) (hc0:l0.length≤c0) (h:impl_CountRuled.f k l0 a1=some (r1,r2)) :
  Calls Try.prog 8 #[.slice A0 l0.length c0,.int .i64 a1] w fun e w'=>e=.returned (.tuple #[.int .i64 r1,.bool r2])∧Below w.heap.size w w':=by
 have HR0:=Aside0.mk hr0
 have HC0:=Aside0.mk hc0
 clear hr0 hc0
 have HB:=Aside0.mk (Below.refl w.heap.size w)
 have H:((impl_isRuled.f k l0 a1).bind fun t424=>(if t424=true then ((impl_tieGroups.f k l0 a1).bind fun t425=>(impl_CountRuled.l0 k 1 t425 (t425.length:Int) 0)) else (some (0,false))))=some (r1,r2):=h
 clear h
 replace H:=Option.bind_eq_some_iff.mp H
 obtain ⟨t424,A30,H⟩:=H
 try dsimp only at H
 have A3:=Aside0.mk A30
 clear A30
 by_cases c4:t424=true
 rotate_left
 ·replace c4:=Bool.eq_false_iff.mpr c4
  subst c4
  rw [if_neg (show ¬ (false=true) by decide)] at H
  simp only [Option.some.injEq,Prod.mk.injEq] at H
  obtain ⟨rfl,rfl⟩:=H
  go_enter Try.func8,Try.ntmps8
  go_wp2_with (first|((with_reducible refine gate_callee (f:=16) rfl ?_);refine zgo 12 Try.func16 #[.slice A0 l0.length c0,.int .i64 a1] ?_;(with_reducible refine (impl_isRuled.calls k _ _ l0 a1 false _ ?side1 ?side2 A3.out).mono ?_);(case side1=>exact zC HR0.out);(case side2=>exact HC0.out);rintro e w13 ⟨rfl,hb⟩;refine ⟨_,rfl,?_⟩;replace HB:=zb1 hb;(try clear hb)))
  go_ret2
  exact ⟨zz1,zb⟩
 subst c4
 rw [if_pos rfl] at H
 replace H:=Option.bind_eq_some_iff.mp H
 obtain ⟨t425,A50,H⟩:=H
 try dsimp only at H
 have A5:=Aside0.mk A50
 clear A50
 have H':=Aside0.mk H
 clear H
 go_enter Try.func8,Try.ntmps8
 go_wp2_with (first|((with_reducible refine gate_callee (f:=16) rfl ?_);refine zgo 12 Try.func16 #[.slice A0 l0.length c0,.int .i64 a1] ?_;(with_reducible refine (impl_isRuled.calls k _ _ l0 a1 true _ ?side1 ?side2 A3.out).mono ?_);(case side1=>exact zC HR0.out);(case side2=>exact HC0.out);rintro e w6 ⟨rfl,hb⟩;refine ⟨_,rfl,?_⟩;replace HB:=zb1 hb;(try clear hb))|((with_reducible refine gate_callee (f:=17) rfl ?_);refine zgo 16 Try.func17 #[.slice A0 l0.length c0,.int .i64 a1] ?_;(with_reducible refine (impl_tieGroups.calls k _ _ l0 a1 t425 _ ?side1 ?side2 A5.out).mono ?_);(case side1=>exact zC (Kd.C_below HR0.out HB.out));(case side2=>exact HC0.out);rintro e w7 ⟨v426,rfl,ho0,hb⟩;refine ⟨_,rfl,?_⟩;have HO427:=Aside0.mk (Kd.S_lower ho0 (below_size zb));replace HB:=zb1 hb;(try clear hb);(try clear ho0);obtain ⟨Ao8,co8,eo8⟩:=Kd.S_slice HO427.out;subst eo8))
 go_loopg [6,18] k (fun kq v6 v18 w'=>∃ (x6_1:Int) (x18_1:Int),v6=.int .i64 x6_1∧v18=.int .i64 x18_1∧Aside0 (impl_CountRuled.l0 kq x6_1 t425 (t425.length:Int) x18_1=some (r1,r2))∧Aside0 (kq≤k)∧Aside0 (Kd.S (Kd.slice 3 (Kd.int .i64)) 33 w' w.heap.size (fun _=>True) (.slice Ao8 t425.length co8) t425)∧Aside0 (Below w.heap.size w w'))
 case atStart=>exact ⟨(1),(0),zo,zo,H',⟨Nat.le_refl _⟩,⟨zS HO427.out⟩,⟨zb⟩⟩
 case round=>
  clear H'
  obtain ⟨x6_1,x18_1,rfl,rfl,HA,HK1,HO_16,HB⟩:=hrel
  cases gk with
  | zero=>exact absurd HA.out (by simp [impl_CountRuled.l0])
  | succ k1=>
   have H:=HA.out
   clear HA
   simp only [impl_CountRuled.l0] at H
   by_cases c9:x18_1<(t425.length:Int)
   rotate_left
   ·rw [if_neg c9] at H
    have c9b0:=decide_eq_false c9
    clear c9
    simp only [Option.some.injEq,Prod.mk.injEq] at H
    obtain ⟨rfl,rfl⟩:=H
    go_wp2
    go_ret2
    exact ⟨zz1,zb⟩
   rw [if_pos c9] at H
   have c9b0:=decide_eq_true c9
   clear c9
   by_cases c10:0≤x18_1
   rotate_left
   ·rw [if_neg c10] at H
    exact absurd H (by simp)
   rw [if_pos c10] at H
   have c10b0:=decide_eq_true c10
   clear c10
   by_cases c11:x18_1<(t425.length:Int)
   rotate_left
   ·rw [if_neg c11] at H
    exact absurd H (by simp)
   rw [if_pos c11] at H
   have c11b0:=decide_eq_true c11
   clear c11
   have H':=Aside0.mk H
   clear H
   have p428:0≤(x18_1:Int):=of_decide_eq_true za
   have q428:x18_1<(t425.length:Int):=of_decide_eq_true za
   obtain ⟨ad428,A428_0,c428_0,e428,hx428_0,hl428_0,hi428_0⟩:=at_L3 (Kd.S_reads' HO_16.out).2.2 x18_1 p428 q428
   cases e428
   obtain ⟨ce428,hce428,hMe428,hcc428⟩:=Kd.S_get HO_16.out [] x18_1 p428 (by first|exact q428|exact of_decide_eq_true za|(have e_:=(Kd.S_reads' HO_16.out).1;omega))
   obtain ⟨ve428_0,rfl,ge428_0⟩:=hMe428
   have hv428_0:=hcc428 0 _ rfl
   rw [Nat.add_zero,show ((Kd.slice 3 (Kd.int .i64))).sz=1 from rfl,Nat.mul_one] at hv428_0
   replace hv428_0:=Option.some.inj (hv428_0.symm.trans hx428_0)
   rw [hv428_0] at ge428_0
   have HL428_0:=Aside0.mk (show Kd.R (Kd.int .i64) 3 _ _ _ _ (rd_L3 t425 x18_1) from ge428_0)
   clear hv428_0 ge428_0
   clear hcc428 hce428
   have HR428_0:=Aside0.mk hi428_0
   have HC428_0:=Aside0.mk hl428_0
   clear hi428_0 hl428_0
   replace p428:=eq_true p428
   replace q428:=eq_true q428
   go_wp2
   go_loopg [6,24] k1 (fun kq v6 v24 w'=>∃ (x6_2:Int) (x24_2:Int),v6=.int .i64 x6_2∧v24=.int .i64 x24_2∧Aside0 (impl_CountRuled.l1 kq x6_2 t425 (t425.length:Int) x18_1 ((rd_L3 t425 x18_1).length:Int) x24_2=some (r1,r2))∧Aside0 (kq≤k1)∧Aside0 (Kd.S (Kd.slice 3 (Kd.int .i64)) 33 w' w.heap.size (fun _=>True) (.slice (some ad428) t425.length co8) t425)∧Aside0 (Kd.C (Kd.int .i64) w' A428_0 (rd_L3 t425 x18_1).length (rd_L3 t425 x18_1))∧Aside0 (Below w.heap.size w w'))
   case atStart=>exact ⟨(x6_1),(0),zo,zo,H',⟨Nat.le_refl _⟩,⟨zS HO_16.out⟩,⟨by repeat (first|(with_reducible exact HR428_0.out)|(with_reducible refine Kd.C_alloc ?_ _)|(with_reducible refine Kd.C_drewN ?_ _)|(with_reducible refine Kd.C_drew ?_)|exact HR428_0.out)⟩,⟨zb⟩⟩
   case round=>
    clear H'
    obtain ⟨x6_2,x24_2,rfl,rfl,HA,HK2,HO_16,HR428_0,HB⟩:=hrel
    cases gk with
    | zero=>exact absurd HA.out (by simp [impl_CountRuled.l1])
    | succ k2=>
     have H:=HA.out
     clear HA
     simp only [impl_CountRuled.l1] at H
     by_cases c12:x24_2<((rd_L3 t425 x18_1).length:Int)
     rotate_left
     ·rw [if_neg c12] at H
      have c12b0:=decide_eq_false c12
      clear c12
      have H':=Aside0.mk H
      clear H
      go_wp2
      go_roundg k2
      case measure=>have:=HK1.out;have:=HK2.out;omega
      case rel=>exact ⟨(x6_2),(wrap64 (x18_1 + 1)),zo,zo,H',⟨zz43⟩,⟨zS HO_16.out⟩,⟨zb⟩⟩
     rw [if_pos c12] at H
     have c12b0:=decide_eq_true c12
     clear c12
     have H':=Aside0.mk H
     clear H
     go_wp2
     go_roundg k2
     case measure=>have:=HK1.out;have:=HK2.out;omega
     case rel=>exact ⟨(wrap64 (x6_2 * (wrap64 (x24_2 + 1)))),(wrap64 (x24_2 + 1)),zo,zo,H',⟨zz43⟩,⟨zS HO_16.out⟩,⟨by repeat (first|(with_reducible exact HR428_0.out)|(with_reducible refine Kd.C_alloc ?_ _)|(with_reducible refine Kd.C_drewN ?_ _)|(with_reducible refine Kd.C_drew ?_)|exact HR428_0.out)⟩,⟨zb⟩⟩

/-! ### spec_CountRuled: function 9 -/
mutual
def spec_CountRuled.l0:Nat→Int→List (List Int)→Int→Option (Int × Bool)
 | 0,_,_,_=>none
 | k + 1,x6,x7,x8=>if x8<(x7.length:Int) then (spec_CountRuled.l1 k x6 x7 x8 2) else (some (x6,true))
def spec_CountRuled.l1:Nat→Int→List (List Int)→Int→Int→Option (Int × Bool)
 | 0,_,_,_,_=>none
 | k + 1,x6,x7,x8,x9=>if 0≤x8 then (if x8<(x7.length:Int) then (if x9≤((rd_L3 x7 x8).length:Int) then (spec_CountRuled.l1 k (wrap64 (x6 * x9)) x7 x8 (wrap64 (x9 + 1))) else (spec_CountRuled.l0 k x6 x7 (wrap64 (x8 + 1)))) else (none)) else (none)
end
def spec_CountRuled.f (k:Nat) (l0:List (S44)) (a1:Int):Option (Int × Bool):=(spec_l3Ruled.f k l0 a1).bind fun t429=>(if t429=true then ((spec_l3Groups.f k l0 a1).bind fun t430=>(spec_CountRuled.l0 k 1 t430 0)) else (some (0,false)))
theorem spec_CountRuled.mono_l:∀ k,(∀ y0 y1 y2,LeO (spec_CountRuled.l0 k y0 y1 y2) (spec_CountRuled.l0 (k + 1) y0 y1 y2))∧(∀ y0 y1 y2 y3,LeO (spec_CountRuled.l1 k y0 y1 y2 y3) (spec_CountRuled.l1 (k + 1) y0 y1 y2 y3))
 | 0=>⟨fun _ _ _ r h=>by simp [spec_CountRuled.l0] at h,fun _ _ _ _ r h=>by simp [spec_CountRuled.l1] at h⟩
 | k + 1=>by
  obtain ⟨ih0,ih1⟩:=spec_CountRuled.mono_l k
  refine ⟨?_,?_⟩ <;> intros <;> first|unfold spec_CountRuled.l0|unfold spec_CountRuled.l1
  all_goals repeat' first|(with_reducible first|apply ih0|apply ih1|exact spec_l3Groups.mono _ _ _|exact spec_l3Ruled.mono _ _ _|exact LeO.refl _|exact LeO.none _|refine LeO.ite ?_ ?_|refine LeO.bind ?_ (fun _=>?_))|apply ih0|apply ih1|exact spec_l3Groups.mono _ _ _|exact spec_l3Ruled.mono _ _ _|exact LeO.none _|refine LeO.ite ?_ ?_|refine LeO.bind ?_ (fun _=>?_)
theorem spec_CountRuled.mono:∀ a0 a1 k,LeO (spec_CountRuled.f k a0 a1) (spec_CountRuled.f (k + 1) a0 a1):=by
 intro a0 a1 k
 obtain ⟨ih0,ih1⟩:=spec_CountRuled.mono_l k
 unfold spec_CountRuled.f
 repeat' first|(with_reducible first|apply ih0|apply ih1|exact spec_l3Groups.mono _ _ _|exact spec_l3Ruled.mono _ _ _|exact LeO.refl _|exact LeO.none _|refine LeO.ite ?_ ?_|refine LeO.bind ?_ (fun _=>?_))|apply ih0|apply ih1|exact spec_l3Groups.mono _ _ _|exact spec_l3Ruled.mono _ _ _|exact LeO.none _|refine LeO.ite ?_ ?_|refine LeO.bind ?_ (fun _=>?_)
set_option maxHeartbeats 8000000 in
set_option maxRecDepth 100000 in
theorem spec_CountRuled.calls (k:Nat) (A0:Option Addr) (c0:Nat) (l0:List (S44)) (a1:Int) (r1:Int) (r2:Bool) (w:World) (hr0:Kd.C k44 w A0 l0.length l0) (hc0:l0.length≤c0) (h:spec_CountRuled.f k l0 a1=some (r1,r2)) :
  Calls Try.prog 9 #[.slice A0 l0.length c0,.int .i64 a1] w fun e w'=>e=.returned (.tuple #[.int .i64 r1,.bool r2])∧Below w.heap.size w w':=by
 have HR0:=Aside0.mk hr0
 have HC0:=Aside0.mk hc0
 clear hr0 hc0
 have HB:=Aside0.mk (Below.refl w.heap.size w)
 have H:((spec_l3Ruled.f k l0 a1).bind fun t429=>(if t429=true then ((spec_l3Groups.f k l0 a1).bind fun t430=>(spec_CountRuled.l0 k 1 t430 0)) else (some (0,false))))=some (r1,r2):=h
 clear h
 replace H:=Option.bind_eq_some_iff.mp H
 obtain ⟨t429,A30,H⟩:=H
 try dsimp only at H
 have A3:=Aside0.mk A30
 clear A30
 by_cases c4:t429=true
 rotate_left
 ·replace c4:=Bool.eq_false_iff.mpr c4
  subst c4
  rw [if_neg (show ¬ (false=true) by decide)] at H
  simp only [Option.some.injEq,Prod.mk.injEq] at H
  obtain ⟨rfl,rfl⟩:=H
  go_enter Try.func9,Try.ntmps9
  go_wp2_with (first|((with_reducible refine gate_callee (f:=18) rfl ?_);refine zgo 12 Try.func18 #[.slice A0 l0.length c0,.int .i64 a1] ?_;(with_reducible refine (spec_l3Ruled.calls k _ _ l0 a1 false _ ?side1 ?side2 A3.out).mono ?_);(case side1=>exact zC HR0.out);(case side2=>exact HC0.out);rintro e w14 ⟨rfl,hb⟩;refine ⟨_,rfl,?_⟩;replace HB:=zb1 hb;(try clear hb)))
  go_ret2
  exact ⟨zz1,zb⟩
 subst c4
 rw [if_pos rfl] at H
 replace H:=Option.bind_eq_some_iff.mp H
 obtain ⟨t430,A50,H⟩:=H
 try dsimp only at H
 have A5:=Aside0.mk A50
 clear A50
 have H':=Aside0.mk H
 clear H
 go_enter Try.func9,Try.ntmps9
 go_wp2_with (first|((with_reducible refine gate_callee (f:=18) rfl ?_);refine zgo 12 Try.func18 #[.slice A0 l0.length c0,.int .i64 a1] ?_;(with_reducible refine (spec_l3Ruled.calls k _ _ l0 a1 true _ ?side1 ?side2 A3.out).mono ?_);(case side1=>exact zC HR0.out);(case side2=>exact HC0.out);rintro e w6 ⟨rfl,hb⟩;refine ⟨_,rfl,?_⟩;replace HB:=zb1 hb;(try clear hb))|((with_reducible refine gate_callee (f:=19) rfl ?_);refine zgo 16 Try.func19 #[.slice A0 l0.length c0,.int .i64 a1] ?_;(with_reducible refine (spec_l3Groups.calls k _ _ l0 a1 t430 _ ?side1 ?side2 A5.out).mono ?_);(case side1=>exact zC (Kd.C_below HR0.out HB.out));(case side2=>exact HC0.out);rintro e w7 ⟨v431,rfl,ho0,hb⟩;refine ⟨_,rfl,?_⟩;have HO432:=Aside0.mk (Kd.S_lower ho0 (below_size zb));replace HB:=zb1 hb;(try clear hb);(try clear ho0)))
 go_loopg [6,8] k (fun kq v6 v8 w'=>∃ (x6_1:Int) (x8_1:Int),v6=.int .i64 x6_1∧v8=.int .i64 x8_1∧Aside0 (spec_CountRuled.l0 kq x6_1 t430 x8_1=some (r1,r2))∧Aside0 (kq≤k)∧Aside0 (Kd.S (Kd.slice 3 (Kd.int .i64)) 33 w' w.heap.size (fun _=>True) v431 t430)∧Aside0 (Below w.heap.size w w'))
 case atStart=>exact ⟨(1),(0),zo,zo,H',⟨Nat.le_refl _⟩,⟨zS HO432.out⟩,⟨zb⟩⟩
 case round=>
  clear H'
  obtain ⟨x6_1,x8_1,rfl,rfl,HA,HK1,HO_7,HB⟩:=hrel
  cases gk with
  | zero=>exact absurd HA.out (by simp [spec_CountRuled.l0])
  | succ k1=>
   have H:=HA.out
   clear HA
   simp only [spec_CountRuled.l0] at H
   by_cases c8:x8_1<(t430.length:Int)
   rotate_left
   ·rw [if_neg c8] at H
    have c8b0:=decide_eq_false c8
    clear c8
    simp only [Option.some.injEq,Prod.mk.injEq] at H
    obtain ⟨rfl,rfl⟩:=H
    obtain ⟨Ao13,co13,eo13⟩:=Kd.S_slice HO_7.out
    subst eo13
    go_wp2
    go_ret2
    exact ⟨zz1,zb⟩
   rw [if_pos c8] at H
   have c8b0:=decide_eq_true c8
   clear c8
   have H':=Aside0.mk H
   clear H
   obtain ⟨Ao9,co9,eo9⟩:=Kd.S_slice HO_7.out
   subst eo9
   go_wp2
   go_loopg [6,9] k1 (fun kq v6 v9 w'=>∃ (x6_2:Int) (x9_2:Int),v6=.int .i64 x6_2∧v9=.int .i64 x9_2∧Aside0 (spec_CountRuled.l1 kq x6_2 t430 x8_1 x9_2=some (r1,r2))∧Aside0 (kq≤k1)∧Aside0 (Kd.S (Kd.slice 3 (Kd.int .i64)) 33 w' w.heap.size (fun _=>True) (.slice Ao9 t430.length co9) t430)∧Aside0 (Below w.heap.size w w'))
   case atStart=>exact ⟨(x6_1),(2),zo,zo,H',⟨Nat.le_refl _⟩,⟨zS HO_7.out⟩,⟨zb⟩⟩
   case round=>
    clear H'
    obtain ⟨x6_2,x9_2,rfl,rfl,HA,HK2,HO_7,HB⟩:=hrel
    cases gk with
    | zero=>exact absurd HA.out (by simp [spec_CountRuled.l1])
    | succ k2=>
     have H:=HA.out
     clear HA
     simp only [spec_CountRuled.l1] at H
     by_cases c10:0≤x8_1
     rotate_left
     ·rw [if_neg c10] at H
      exact absurd H (by simp)
     rw [if_pos c10] at H
     have c10b0:=decide_eq_true c10
     clear c10
     by_cases c11:x8_1<(t430.length:Int)
     rotate_left
     ·rw [if_neg c11] at H
      exact absurd H (by simp)
     rw [if_pos c11] at H
     have c11b0:=decide_eq_true c11
     clear c11
     by_cases c12:x9_2≤((rd_L3 t430 x8_1).length:Int)
     rotate_left
     ·rw [if_neg c12] at H
      have c12b0:=decide_eq_false c12
      clear c12
      have H':=Aside0.mk H
      clear H
      have p433:0≤(x8_1:Int):=of_decide_eq_true za
      have q433:x8_1<(t430.length:Int):=of_decide_eq_true za
      obtain ⟨ad433,A433_0,c433_0,e433,hx433_0,hl433_0,hi433_0⟩:=at_L3 (Kd.S_reads' HO_7.out).2.2 x8_1 p433 q433
      cases e433
      obtain ⟨ce433,hce433,hMe433,hcc433⟩:=Kd.S_get HO_7.out [] x8_1 p433 (by first|exact q433|exact of_decide_eq_true za|(have e_:=(Kd.S_reads' HO_7.out).1;omega))
      obtain ⟨ve433_0,rfl,ge433_0⟩:=hMe433
      have hv433_0:=hcc433 0 _ rfl
      rw [Nat.add_zero,show ((Kd.slice 3 (Kd.int .i64))).sz=1 from rfl,Nat.mul_one] at hv433_0
      replace hv433_0:=Option.some.inj (hv433_0.symm.trans hx433_0)
      rw [hv433_0] at ge433_0
      have HL433_0:=Aside0.mk (show Kd.R (Kd.int .i64) 3 _ _ _ _ (rd_L3 t430 x8_1) from ge433_0)
      clear hv433_0 ge433_0
      clear hcc433 hce433
      have HR433_0:=Aside0.mk hi433_0
      have HC433_0:=Aside0.mk hl433_0
      clear hi433_0 hl433_0
      replace p433:=eq_true p433
      replace q433:=eq_true q433
      go_wp2
      go_roundg k2
      case measure=>have:=HK1.out;have:=HK2.out;omega
      case rel=>exact ⟨(x6_2),(wrap64 (x8_1 + 1)),zo,zo,H',⟨zz43⟩,⟨zS HO_7.out⟩,⟨zb⟩⟩
     rw [if_pos c12] at H
     have c12b0:=decide_eq_true c12
     clear c12
     have H':=Aside0.mk H
     clear H
     have p433:0≤(x8_1:Int):=of_decide_eq_true za
     have q433:x8_1<(t430.length:Int):=of_decide_eq_true za
     obtain ⟨ad433,A433_0,c433_0,e433,hx433_0,hl433_0,hi433_0⟩:=at_L3 (Kd.S_reads' HO_7.out).2.2 x8_1 p433 q433
     cases e433
     obtain ⟨ce433,hce433,hMe433,hcc433⟩:=Kd.S_get HO_7.out [] x8_1 p433 (by first|exact q433|exact of_decide_eq_true za|(have e_:=(Kd.S_reads' HO_7.out).1;omega))
     obtain ⟨ve433_0,rfl,ge433_0⟩:=hMe433
     have hv433_0:=hcc433 0 _ rfl
     rw [Nat.add_zero,show ((Kd.slice 3 (Kd.int .i64))).sz=1 from rfl,Nat.mul_one] at hv433_0
     replace hv433_0:=Option.some.inj (hv433_0.symm.trans hx433_0)
     rw [hv433_0] at ge433_0
     have HL433_0:=Aside0.mk (show Kd.R (Kd.int .i64) 3 _ _ _ _ (rd_L3 t430 x8_1) from ge433_0)
     clear hv433_0 ge433_0
     clear hcc433 hce433
     have HR433_0:=Aside0.mk hi433_0
     have HC433_0:=Aside0.mk hl433_0
     clear hi433_0 hl433_0
     replace p433:=eq_true p433
     replace q433:=eq_true q433
     go_wp2
     go_roundg k2
     case measure=>have:=HK1.out;have:=HK2.out;omega
     case rel=>exact ⟨(wrap64 (x6_2 * x9_2)),(wrap64 (x9_2 + 1)),zo,zo,H',⟨zz43⟩,⟨zS HO_7.out⟩,⟨zb⟩⟩

/-! ### laws_vInts: function 13 -/
def laws_vInts.l0:Nat→List Int→List Int→Int→Option (Bool)
 | 0,_,_,_=>none
 | k + 1,x0,x1,x5=>if x5<(x0.length:Int) then (if 0≤x5 then (if x5<(x1.length:Int) then (if (rd x0 x5)=(rd x1 x5) then (laws_vInts.l0 k x0 x1 (wrap64 (x5 + 1))) else (some false)) else (none)) else (none)) else (some true)
def laws_vInts.f (k:Nat) (l0:List Int) (l1:List Int):Option (Bool):=if (l0.length:Int)=(l1.length:Int) then (laws_vInts.l0 k l0 l1 0) else (some false)
theorem laws_vInts.mono_l:∀ k,(∀ y0 y1 y2,LeO (laws_vInts.l0 k y0 y1 y2) (laws_vInts.l0 (k + 1) y0 y1 y2))
 | 0=>fun _ _ _ r h=>by simp [laws_vInts.l0] at h
 | k + 1=>by
  have ih0:=laws_vInts.mono_l k
  ·intro y0 y1 y2
   unfold laws_vInts.l0
   repeat' first|(with_reducible first|apply ih0|exact LeO.refl _|exact LeO.none _|refine LeO.ite ?_ ?_|refine LeO.bind ?_ (fun _=>?_))|apply ih0|exact LeO.none _|refine LeO.ite ?_ ?_|refine LeO.bind ?_ (fun _=>?_)
theorem laws_vInts.mono:∀ a0 a1 k,LeO (laws_vInts.f k a0 a1) (laws_vInts.f (k + 1) a0 a1):=by
 intro a0 a1 k
 have ih0:=laws_vInts.mono_l k
 unfold laws_vInts.f
 repeat' first|(with_reducible first|apply ih0|exact LeO.refl _|exact LeO.none _|refine LeO.ite ?_ ?_|refine LeO.bind ?_ (fun _=>?_))|apply ih0|exact LeO.none _|refine LeO.ite ?_ ?_|refine LeO.bind ?_ (fun _=>?_)
set_option maxHeartbeats 8000000 in
set_option maxRecDepth 100000 in
theorem laws_vInts.calls (k:Nat) (A0:Option Addr) (c0:Nat) (l0:List Int) (A1:Option Addr) (c1:Nat) (l1:List Int) (r:Bool) (w:World) (hr0:Kd.C (Kd.int .i64) w A0 l0.length l0) (hc0:l0.length≤c0) (hr1:Kd.C (Kd.int .i64) w A1 l1.length l1) (hc1:l1.length≤c1) (h:laws_vInts.f k l0 l1=some r) :
  Calls Try.prog 13 #[.slice A0 l0.length c0,.slice A1 l1.length c1] w fun e w'=>e=.returned (.bool r)∧Drawn0 w w':=by
 have HR0:=Aside0.mk hr0
 have HC0:=Aside0.mk hc0
 clear hr0 hc0
 have HR1:=Aside0.mk hr1
 have HC1:=Aside0.mk hc1
 clear hr1 hc1
 have H:(if (l0.length:Int)=(l1.length:Int) then (laws_vInts.l0 k l0 l1 0) else (some false))=some r:=h
 clear h
 by_cases c3:(l0.length:Int)=(l1.length:Int)
 rotate_left
 ·rw [if_neg c3] at H
  have c3b0:((l0.length:Int) == (l1.length:Int))=false:=beq_eq_false_iff_ne.mpr c3
  have c3b1:((l0.length:Int) != (l1.length:Int))=true:=bne_iff_ne.mpr c3
  have c3b2:(l0.length == l1.length)=false:=by first|simpa using c3|(simp at c3 ⊢;omega)
  obtain rfl:=Option.some.inj H
  go_enter Try.func13,Try.ntmps13
  go_wp2
  repeat (go_quiet (fail);try go_wp2)
  go_ret
  exact ⟨zz10,zz5⟩
 rw [if_pos c3] at H
 have c3b0:((l0.length:Int) == (l1.length:Int))=true:=beq_iff_eq.mpr c3
 have c3b1:((l0.length:Int) != (l1.length:Int))=false:=bne_eq_false_iff_eq.mpr c3
 have c3b2:(l0.length == l1.length)=true:=by first|simpa using c3|(simp at c3 ⊢;omega)
 clear c3
 have H':=Aside0.mk H
 clear H
 go_enter Try.func13,Try.ntmps13
 go_wp2
 repeat (go_quiet (fail);try go_wp2)
 go_loopg [5] k (fun kq v5 w'=>∃ (x5_1:Int),v5=.int .i64 x5_1∧Aside0 (laws_vInts.l0 kq l0 l1 x5_1=some r)∧Aside0 (kq≤k)∧Drawn0 w w')
 case atStart=>exact ⟨(0),zo,H',⟨Nat.le_refl _⟩,zz5⟩
 case round=>
  clear H'
  obtain ⟨x5_1,rfl,HA,HK1,⟨m1,rfl⟩⟩:=hrel
  cases gk with
  | zero=>exact absurd HA.out (by simp [laws_vInts.l0])
  | succ k1=>
   have H:=HA.out
   clear HA
   simp only [laws_vInts.l0] at H
   by_cases c4:x5_1<(l0.length:Int)
   rotate_left
   ·rw [if_neg c4] at H
    have c4b0:=decide_eq_false c4
    clear c4
    obtain rfl:=Option.some.inj H
    go_wp2
    repeat (go_quiet (fail);try go_wp2)
    go_ret
    exact ⟨zz10,zz5⟩
   rw [if_pos c4] at H
   have c4b0:=decide_eq_true c4
   clear c4
   by_cases c5:0≤x5_1
   rotate_left
   ·rw [if_neg c5] at H
    exact absurd H (by simp)
   rw [if_pos c5] at H
   have c5b0:=decide_eq_true c5
   clear c5
   by_cases c6:x5_1<(l1.length:Int)
   rotate_left
   ·rw [if_neg c6] at H
    exact absurd H (by simp)
   rw [if_pos c6] at H
   have c6b0:=decide_eq_true c6
   clear c6
   by_cases c7:(rd l0 x5_1)=(rd l1 x5_1)
   rotate_left
   ·rw [if_neg c7] at H
    have c7b0:((rd l0 x5_1) == (rd l1 x5_1))=false:=beq_eq_false_iff_ne.mpr c7
    have c7b1:((rd l0 x5_1) != (rd l1 x5_1))=true:=bne_iff_ne.mpr c7
    obtain rfl:=Option.some.inj H
    have p434:0≤(x5_1:Int):=of_decide_eq_true za
    have q434:x5_1<(l0.length:Int):=of_decide_eq_true za
    obtain ⟨ad434,e434,hx434_0⟩:=Kd.at_int HR0.out x5_1 p434 q434
    cases e434
    replace p434:=eq_true p434
    replace q434:=eq_true q434
    have p435:0≤(x5_1:Int):=of_decide_eq_true za
    have q435:x5_1<(l1.length:Int):=of_decide_eq_true za
    obtain ⟨ad435,e435,hx435_0⟩:=Kd.at_int HR1.out x5_1 p435 q435
    cases e435
    replace p435:=eq_true p435
    replace q435:=eq_true q435
    go_wp2
    repeat (go_quiet (fail);try go_wp2)
    go_ret
    exact ⟨zz10,zz5⟩
   rw [if_pos c7] at H
   have c7b0:((rd l0 x5_1) == (rd l1 x5_1))=true:=beq_iff_eq.mpr c7
   have c7b1:((rd l0 x5_1) != (rd l1 x5_1))=false:=bne_eq_false_iff_eq.mpr c7
   clear c7
   have H':=Aside0.mk H
   clear H
   have p434:0≤(x5_1:Int):=of_decide_eq_true za
   have q434:x5_1<(l0.length:Int):=of_decide_eq_true za
   obtain ⟨ad434,e434,hx434_0⟩:=Kd.at_int HR0.out x5_1 p434 q434
   cases e434
   replace p434:=eq_true p434
   replace q434:=eq_true q434
   have p435:0≤(x5_1:Int):=of_decide_eq_true za
   have q435:x5_1<(l1.length:Int):=of_decide_eq_true za
   obtain ⟨ad435,e435,hx435_0⟩:=Kd.at_int HR1.out x5_1 p435 q435
   cases e435
   replace p435:=eq_true p435
   replace q435:=eq_true q435
   go_wp2
   repeat (go_quiet (fail);try go_wp2)
   go_roundg k1
   case measure=>have:=HK1.out;omega
   case rel=>exact ⟨(wrap64 (x5_1 + 1)),zo,H',⟨by have:=HK1.out;omega⟩,zz5⟩

/-! ### laws_vTable: function 10 -/
def laws_vTable.l0:Nat→List (List Int)→List (List Int)→Int→Option (Bool)
 | 0,_,_,_=>none
 | k + 1,x0,x1,x5=>if x5<(x0.length:Int) then (if 0≤x5 then (if x5<(x1.length:Int) then ((laws_vInts.f k (rd_L3 x0 x5) (rd_L3 x1 x5)).bind fun t438=>(if t438=true then (laws_vTable.l0 k x0 x1 (wrap64 (x5 + 1))) else (some false))) else (none)) else (none)) else (some true)
def laws_vTable.f (k:Nat) (l0:List (List Int)) (l1:List (List Int)):Option (Bool):=if (l0.length:Int)=(l1.length:Int) then (laws_vTable.l0 k l0 l1 0) else (some false)
theorem laws_vTable.mono_l:∀ k,(∀ y0 y1 y2,LeO (laws_vTable.l0 k y0 y1 y2) (laws_vTable.l0 (k + 1) y0 y1 y2))
 | 0=>fun _ _ _ r h=>by simp [laws_vTable.l0] at h
 | k + 1=>by
  have ih0:=laws_vTable.mono_l k
  ·intro y0 y1 y2
   unfold laws_vTable.l0
   repeat' first|(with_reducible first|apply ih0|exact laws_vInts.mono _ _ _|exact LeO.refl _|exact LeO.none _|refine LeO.ite ?_ ?_|refine LeO.bind ?_ (fun _=>?_))|apply ih0|exact laws_vInts.mono _ _ _|exact LeO.none _|refine LeO.ite ?_ ?_|refine LeO.bind ?_ (fun _=>?_)
theorem laws_vTable.mono:∀ a0 a1 k,LeO (laws_vTable.f k a0 a1) (laws_vTable.f (k + 1) a0 a1):=by
 intro a0 a1 k
 have ih0:=laws_vTable.mono_l k
 unfold laws_vTable.f
 repeat' first|(with_reducible first|apply ih0|exact laws_vInts.mono _ _ _|exact LeO.refl _|exact LeO.none _|refine LeO.ite ?_ ?_|refine LeO.bind ?_ (fun _=>?_))|apply ih0|exact laws_vInts.mono _ _ _|exact LeO.none _|refine LeO.ite ?_ ?_|refine LeO.bind ?_ (fun _=>?_)
set_option maxHeartbeats 8000000 in
set_option maxRecDepth 100000 in
theorem laws_vTable.calls (k:Nat) (A0:Option Addr) (c0:Nat) (l0:List (List Int)) (A1:Option Addr) (c1:Nat) (l1:List (List Int)) (r:Bool) (w:World) (hr0:Kd.C (Kd.slice 3 (Kd.int .i64)) w A0 l0.length l0) (hc0:l0.length≤c0) (hr1:Kd.C (Kd.slice 3 (Kd.int .i64)) w A1 l1.length l1) (hc1:l1.length≤c1) (h:laws_vTable.f k l0 l1=some r) :
  Calls Try.prog 10 #[.slice A0 l0.length c0,.slice A1 l1.length c1] w fun e w'=>e=.returned (.bool r)∧Drawn0 w w':=by
 have HR0:=Aside0.mk hr0
 have HC0:=Aside0.mk hc0
 clear hr0 hc0
 have HR1:=Aside0.mk hr1
 have HC1:=Aside0.mk hc1
 clear hr1 hc1
 have H:(if (l0.length:Int)=(l1.length:Int) then (laws_vTable.l0 k l0 l1 0) else (some false))=some r:=h
 clear h
 by_cases c3:(l0.length:Int)=(l1.length:Int)
 rotate_left
 ·rw [if_neg c3] at H
  have c3b0:((l0.length:Int) == (l1.length:Int))=false:=beq_eq_false_iff_ne.mpr c3
  have c3b1:((l0.length:Int) != (l1.length:Int))=true:=bne_iff_ne.mpr c3
  have c3b2:(l0.length == l1.length)=false:=by first|simpa using c3|(simp at c3 ⊢;omega)
  obtain rfl:=Option.some.inj H
  go_enter Try.func10,Try.ntmps10
  go_wp2
  repeat (go_quiet (fail);try go_wp2)
  go_ret
  exact ⟨zz10,zz5⟩
 rw [if_pos c3] at H
 have c3b0:((l0.length:Int) == (l1.length:Int))=true:=beq_iff_eq.mpr c3
 have c3b1:((l0.length:Int) != (l1.length:Int))=false:=bne_eq_false_iff_eq.mpr c3
 have c3b2:(l0.length == l1.length)=true:=by first|simpa using c3|(simp at c3 ⊢;omega)
 clear c3
 have H':=Aside0.mk H
 clear H
 go_enter Try.func10,Try.ntmps10
 go_wp2
 repeat (go_quiet (fail);try go_wp2)
 go_loopg [5] k (fun kq v5 w'=>∃ (x5_1:Int),v5=.int .i64 x5_1∧Aside0 (laws_vTable.l0 kq l0 l1 x5_1=some r)∧Aside0 (kq≤k)∧Drawn0 w w')
 case atStart=>exact ⟨(0),zo,H',⟨Nat.le_refl _⟩,zz5⟩
 case round=>
  clear H'
  obtain ⟨x5_1,rfl,HA,HK1,⟨m1,rfl⟩⟩:=hrel
  cases gk with
  | zero=>exact absurd HA.out (by simp [laws_vTable.l0])
  | succ k1=>
   have H:=HA.out
   clear HA
   simp only [laws_vTable.l0] at H
   by_cases c4:x5_1<(l0.length:Int)
   rotate_left
   ·rw [if_neg c4] at H
    have c4b0:=decide_eq_false c4
    clear c4
    obtain rfl:=Option.some.inj H
    go_wp2
    repeat (go_quiet (fail);try go_wp2)
    go_ret
    exact ⟨zz10,zz5⟩
   rw [if_pos c4] at H
   have c4b0:=decide_eq_true c4
   clear c4
   by_cases c5:0≤x5_1
   rotate_left
   ·rw [if_neg c5] at H
    exact absurd H (by simp)
   rw [if_pos c5] at H
   have c5b0:=decide_eq_true c5
   clear c5
   by_cases c6:x5_1<(l1.length:Int)
   rotate_left
   ·rw [if_neg c6] at H
    exact absurd H (by simp)
   rw [if_pos c6] at H
   have c6b0:=decide_eq_true c6
   clear c6
   replace H:=Option.bind_eq_some_iff.mp H
   obtain ⟨t438,A70,H⟩:=H
   try dsimp only at H
   have A7:=Aside0.mk A70
   clear A70
   by_cases c8:t438=true
   ·subst c8
    rw [if_pos rfl] at H
    have H':=Aside0.mk H
    clear H
    have p436:0≤(x5_1:Int):=of_decide_eq_true za
    have q436:x5_1<(l0.length:Int):=of_decide_eq_true za
    obtain ⟨ad436,A436_0,c436_0,e436,hx436_0,hl436_0,hi436_0⟩:=at_L3 HR0.out x5_1 p436 q436
    cases e436
    have HR436_0:=Aside0.mk hi436_0
    have HC436_0:=Aside0.mk hl436_0
    clear hi436_0 hl436_0
    replace p436:=eq_true p436
    replace q436:=eq_true q436
    have p437:0≤(x5_1:Int):=of_decide_eq_true za
    have q437:x5_1<(l1.length:Int):=of_decide_eq_true za
    obtain ⟨ad437,A437_0,c437_0,e437,hx437_0,hl437_0,hi437_0⟩:=at_L3 HR1.out x5_1 p437 q437
    cases e437
    have HR437_0:=Aside0.mk hi437_0
    have HC437_0:=Aside0.mk hl437_0
    clear hi437_0 hl437_0
    replace p437:=eq_true p437
    replace q437:=eq_true q437
    go_wp2_with (first|(go_at_call 13;(with_reducible refine (laws_vInts.calls k1 _ _ (rd_L3 l0 x5_1) _ _ (rd_L3 l1 x5_1) true _ ?side1 ?side2 ?side3 ?side4 A7.out).mono ?_);(case side1=>exact zC HR436_0.out);(case side2=>exact HC436_0.out);(case side3=>exact zC HR437_0.out);(case side4=>exact HC437_0.out);rintro e w' ⟨rfl,⟨nd,rfl⟩⟩;(try first|exact ⟨rfl,_,World.drewN_drewN _ _ _⟩|exact ⟨rfl,_,Eq.trans (World.drewN_drewN _ _ _) (congrArg (World.drewN _) (Nat.add_assoc _ _ _))⟩)))
    repeat (go_quiet (first|(go_at_call 13;(with_reducible refine (laws_vInts.calls k1 _ _ (rd_L3 l0 x5_1) _ _ (rd_L3 l1 x5_1) true _ ?side1 ?side2 ?side3 ?side4 A7.out).mono ?_);(case side1=>exact zC HR436_0.out);(case side2=>exact HC436_0.out);(case side3=>exact zC HR437_0.out);(case side4=>exact HC437_0.out);rintro e w' ⟨rfl,⟨nd,rfl⟩⟩;(try first|exact ⟨rfl,_,World.drewN_drewN _ _ _⟩|exact ⟨rfl,_,Eq.trans (World.drewN_drewN _ _ _) (congrArg (World.drewN _) (Nat.add_assoc _ _ _))⟩)));try go_wp2_with (first|(go_at_call 13;(with_reducible refine (laws_vInts.calls k1 _ _ (rd_L3 l0 x5_1) _ _ (rd_L3 l1 x5_1) true _ ?side1 ?side2 ?side3 ?side4 A7.out).mono ?_);(case side1=>exact zC HR436_0.out);(case side2=>exact HC436_0.out);(case side3=>exact zC HR437_0.out);(case side4=>exact HC437_0.out);rintro e w' ⟨rfl,⟨nd,rfl⟩⟩;(try first|exact ⟨rfl,_,World.drewN_drewN _ _ _⟩|exact ⟨rfl,_,Eq.trans (World.drewN_drewN _ _ _) (congrArg (World.drewN _) (Nat.add_assoc _ _ _))⟩))))
    go_roundg k1
    case measure=>have:=HK1.out;omega
    case rel=>exact ⟨(wrap64 (x5_1 + 1)),zo,H',⟨by have:=HK1.out;omega⟩,zz5⟩
   replace c8:=Bool.eq_false_iff.mpr c8
   subst c8
   rw [if_neg (show ¬ (false=true) by decide)] at H
   obtain rfl:=Option.some.inj H
   have p436:0≤(x5_1:Int):=of_decide_eq_true za
   have q436:x5_1<(l0.length:Int):=of_decide_eq_true za
   obtain ⟨ad436,A436_0,c436_0,e436,hx436_0,hl436_0,hi436_0⟩:=at_L3 HR0.out x5_1 p436 q436
   cases e436
   have HR436_0:=Aside0.mk hi436_0
   have HC436_0:=Aside0.mk hl436_0
   clear hi436_0 hl436_0
   replace p436:=eq_true p436
   replace q436:=eq_true q436
   have p437:0≤(x5_1:Int):=of_decide_eq_true za
   have q437:x5_1<(l1.length:Int):=of_decide_eq_true za
   obtain ⟨ad437,A437_0,c437_0,e437,hx437_0,hl437_0,hi437_0⟩:=at_L3 HR1.out x5_1 p437 q437
   cases e437
   have HR437_0:=Aside0.mk hi437_0
   have HC437_0:=Aside0.mk hl437_0
   clear hi437_0 hl437_0
   replace p437:=eq_true p437
   replace q437:=eq_true q437
   go_wp2_with (first|(go_at_call 13;(with_reducible refine (laws_vInts.calls k1 _ _ (rd_L3 l0 x5_1) _ _ (rd_L3 l1 x5_1) false _ ?side1 ?side2 ?side3 ?side4 A7.out).mono ?_);(case side1=>exact zC HR436_0.out);(case side2=>exact HC436_0.out);(case side3=>exact zC HR437_0.out);(case side4=>exact HC437_0.out);rintro e w' ⟨rfl,⟨nd,rfl⟩⟩;(try first|exact ⟨rfl,_,World.drewN_drewN _ _ _⟩|exact ⟨rfl,_,Eq.trans (World.drewN_drewN _ _ _) (congrArg (World.drewN _) (Nat.add_assoc _ _ _))⟩)))
   repeat (go_quiet (first|(go_at_call 13;(with_reducible refine (laws_vInts.calls k1 _ _ (rd_L3 l0 x5_1) _ _ (rd_L3 l1 x5_1) false _ ?side1 ?side2 ?side3 ?side4 A7.out).mono ?_);(case side1=>exact zC HR436_0.out);(case side2=>exact HC436_0.out);(case side3=>exact zC HR437_0.out);(case side4=>exact HC437_0.out);rintro e w' ⟨rfl,⟨nd,rfl⟩⟩;(try first|exact ⟨rfl,_,World.drewN_drewN _ _ _⟩|exact ⟨rfl,_,Eq.trans (World.drewN_drewN _ _ _) (congrArg (World.drewN _) (Nat.add_assoc _ _ _))⟩)));try go_wp2_with (first|(go_at_call 13;(with_reducible refine (laws_vInts.calls k1 _ _ (rd_L3 l0 x5_1) _ _ (rd_L3 l1 x5_1) false _ ?side1 ?side2 ?side3 ?side4 A7.out).mono ?_);(case side1=>exact zC HR436_0.out);(case side2=>exact HC436_0.out);(case side3=>exact zC HR437_0.out);(case side4=>exact HC437_0.out);rintro e w' ⟨rfl,⟨nd,rfl⟩⟩;(try first|exact ⟨rfl,_,World.drewN_drewN _ _ _⟩|exact ⟨rfl,_,Eq.trans (World.drewN_drewN _ _ _) (congrArg (World.drewN _) (Nat.add_assoc _ _ _))⟩))))
   go_ret
   exact ⟨zz10,zz5⟩

end Go.Proofs.Ytkcfmaiknmfokaa.XFnTies
-- minified
