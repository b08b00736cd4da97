-- Written by a program of this session (the kit's print, widened). Proved here: what each function answers, for the arguments that its contract names.
import Derived.Test.YtkolecmpncaooaaXFnLateWeightx0
namespace Go.Proofs.Ytkolecmpncaooaa.XFnLateWeight
open Go.RowKit Go.Proofs.YtkolecmpncaooaaW.PrintWords Go.Proofs.YtkolecmpncaooaaW.PrintLast Go.Proofs.YtkolecmpncaooaaW.PrintMore
attribute [local go_sem] max2_int min2_int max_two min_two max_three min_three max_four min_four   -- for this text's walks alone
attribute [local go_sem] idxA_51_0 idxA_51_1 fldS_45_0 fldS_45_1 fldS_45_2 fldS_96_0 fldS_96_1 fldS_96_2
set_option linter.unusedVariables false
set_option linter.unusedSimpArgs false

/-! ### spec_l4Set: function 100 -/
def spec_l4Set.l0:Nat→Int→Int→List Int→Int→Option (List Int)
 | 0,_,_,_,_=>none
 | k + 1,x0,x1,x5,x6=>if x6<x0 then (if 0≤x6 then (if (Go.bits .and .i64 (shr .i64 x1 x6) 1)=1 then (if x5.length<17592186044416 then (spec_l4Set.l0 k x0 x1 (x5++[x6]) (wrap64 (x6 + 1))) else (none)) else (spec_l4Set.l0 k x0 x1 x5 (wrap64 (x6 + 1)))) else (none)) else (some x5)
def spec_l4Set.f (k:Nat) (a0:Int) (a1:Int):Option (List Int):=spec_l4Set.l0 k a0 a1 (([]:List Int)) 0
theorem spec_l4Set.mono_l:∀ k,(∀ y0 y1 y2 y3,LeO (spec_l4Set.l0 k y0 y1 y2 y3) (spec_l4Set.l0 (k + 1) y0 y1 y2 y3))
 | 0=>fun _ _ _ _ r h=>by simp [spec_l4Set.l0] at h
 | k + 1=>by
  have ih0:=spec_l4Set.mono_l k
  ·intro y0 y1 y2 y3
   unfold spec_l4Set.l0
   repeat' first|(with_reducible first|apply ih0|exact LeO.refl _|exact LeO.none _|refine LeO.ite ?_ ?_|refine LeO.bind ?_ (fun _=>?_))|apply ih0|exact LeO.none _|refine LeO.ite ?_ ?_|refine LeO.bind ?_ (fun _=>?_)
theorem spec_l4Set.mono:∀ a0 a1 k,LeO (spec_l4Set.f k a0 a1) (spec_l4Set.f (k + 1) a0 a1):=by
 intro a0 a1 k
 have ih0:=spec_l4Set.mono_l k
 unfold spec_l4Set.f
 repeat' first|(with_reducible first|apply ih0|exact LeO.refl _|exact LeO.none _|refine LeO.ite ?_ ?_|refine LeO.bind ?_ (fun _=>?_))|apply ih0|exact LeO.none _|refine LeO.ite ?_ ?_|refine LeO.bind ?_ (fun _=>?_)
set_option maxHeartbeats 8000000 in
set_option maxRecDepth 100000 in
theorem spec_l4Set.calls (k:Nat) (a0:Int) (a1:Int) (r:List Int) (w:World) (h:spec_l4Set.f k a0 a1=some r) :
  Calls Try.prog 100 #[.int .i64 a0,.int .i64 a1] w fun e w'=>∃ v0_:Value,e=.returned (v0_)∧Kd.R (Kd.int .i64) 3 w' w.heap.size (fun _=>True) v0_ r∧Below w.heap.size w w':=by
 have HB:=Aside0.mk (Below.refl w.heap.size w)
 have H:(spec_l4Set.l0 k a0 a1 (([]:List Int)) 0)=some r:=h
 clear h
 obtain ⟨y376,hy376⟩:∃ y_:List Int,y_=(([]:List Int)):=⟨_,rfl⟩
 replace H:(spec_l4Set.l0 k a0 a1 y376 0)=some r:=by first|(rw [hy376];with_reducible exact H)|(have H2_:=(Option.bind_some _ _).symm.trans H;rw [hy376];with_reducible exact H2_)|(have H2_:=(Option.bind_some _ _).symm.trans H;with_reducible exact H2_)|with_reducible exact H|(rw [hy376];exact H)|exact H
 have Ny376:=Aside0.mk hy376
 clear hy376
 have H':=Aside0.mk H
 clear H
 go_enter Try.func100,Try.ntmps100
 go_wp2_with (first|((with_reducible refine gate_dst (N:=7) rfl ?_);refine Kd.R_lit (Kd.int .i64) _ 3 ?hg (N:=7) ?hd (xs:=([]:List Int)) (inner:=[]) (ok:=fun _=>True) (okp:=fun _=>True) ?hr ?hp (fun _ hk=>hk) trivial (Below.refl _ _) (Nat.le_refl _) (by simp) ?_;(case hd=>rfl);(case hg=>rfl);(case hr=>first|(go_simp;done)|(go_simp;rfl));(case hp=>exact (Reps.none _ _));intro v377 w3 ho4 hb hg_ hnew_;clear hg_ hnew_;(first|rw [←Ny376.out] at ho4|(simp only [Int.reduceToNat] at ho4;rw [←Ny376.out] at ho4));have HO378:=Aside0.mk (Kd.R_lower ho4 (below_size zb));replace HB:=zb1 hb;clear hb ho4))
 go_loopg [5,6] k (fun kq v5 v6 w'=>∃ (x5_1:List Int) (x6_1:Int),v6=.int .i64 x6_1∧Aside0 (spec_l4Set.l0 kq a0 a1 x5_1 x6_1=some r)∧Aside0 (kq≤k)∧Aside0 (Kd.R (Kd.int .i64) 3 w' w.heap.size (fun _=>True) v5 x5_1)∧Aside0 (Below w.heap.size w w'))
 case atStart=>exact ⟨(y376),(0),zo,H',⟨Nat.le_refl _⟩,⟨zR HO378.out⟩,⟨zb⟩⟩
 case round=>
  clear H'
  obtain ⟨x5_1,x6_1,rfl,HA,HK1,HO_5,HB⟩:=hrel
  cases gk with
  | zero=>exact absurd HA.out (by simp [spec_l4Set.l0])
  | succ k1=>
   have H:=HA.out
   clear HA
   simp only [spec_l4Set.l0] at H
   by_cases c5:x6_1<a0
   rotate_left
   ·rw [if_neg c5] at H
    have c5b0:=decide_eq_false c5
    clear c5
    obtain rfl:=Option.some.inj H
    go_wp2
    go_ret
    exact ⟨_,zz0,zR HO_5.out,zb⟩
   rw [if_pos c5] at H
   have c5b0:=decide_eq_true c5
   clear c5
   by_cases c6:0≤x6_1
   rotate_left
   ·rw [if_neg c6] at H
    exact absurd H (by simp)
   rw [if_pos c6] at H
   have c6b0:=eq_true c6
   have c6b1:=decide_eq_true c6
   clear c6
   obtain ⟨ji7,hji7⟩:∃ j_:Int,(shr .i64 a1 x6_1)=j_:=⟨_,rfl⟩
   replace H:(if (Go.bits .and .i64 (ji7) 1)=1 then (if x5_1.length<17592186044416 then (spec_l4Set.l0 k1 a0 a1 (x5_1++[x6_1]) (wrap64 (x6_1 + 1))) else (none)) else (spec_l4Set.l0 k1 a0 a1 x5_1 (wrap64 (x6_1 + 1))))=some r:=by first|(rw [hji7] at H;exact H)|(simp only [hji7] at H ⊢;exact H)
   have hji7_:(a1 / 2 ^ min x6_1.toNat 64)=ji7:=hji7
   have hji7z:x6_1≤64→(a1 / 2 ^ x6_1.toNat)=ji7:=shr_small hji7
   by_cases c8:(Go.bits .and .i64 (ji7) 1)=1
   rotate_left
   ·rw [if_neg c8] at H
    have c8b0:((Go.bits .and .i64 (ji7) 1) == 1)=false:=beq_eq_false_iff_ne.mpr c8
    have c8b1:((Go.bits .and .i64 (ji7) 1) != 1)=true:=bne_iff_ne.mpr c8
    have H':=Aside0.mk H
    clear H
    go_wp2
    go_roundg k1
    case measure=>have:=HK1.out;omega
    case rel=>exact ⟨(x5_1),(wrap64 (x6_1 + 1)),zo,H',⟨by have:=HK1.out;omega⟩,⟨zR HO_5.out⟩,⟨zb⟩⟩
   rw [if_pos c8] at H
   have c8b0:((Go.bits .and .i64 (ji7) 1) == 1)=true:=beq_iff_eq.mpr c8
   have c8b1:((Go.bits .and .i64 (ji7) 1) != 1)=false:=bne_eq_false_iff_eq.mpr c8
   clear c8
   by_cases c9:x5_1.length<17592186044416
   rotate_left
   ·rw [if_neg c9] at H
    exact absurd H (by simp)
   rw [if_pos c9] at H
   have LMc9:=Aside0.mk c9
   clear c9
   obtain ⟨y379,hy379⟩:∃ y_:List Int,y_=(x5_1++[x6_1]):=⟨_,rfl⟩
   replace H:(spec_l4Set.l0 k1 a0 a1 y379 (wrap64 (x6_1 + 1)))=some r:=by first|(rw [hy379];with_reducible exact H)|(have H2_:=(Option.bind_some _ _).symm.trans H;rw [hy379];with_reducible exact H2_)|(have H2_:=(Option.bind_some _ _).symm.trans H;with_reducible exact H2_)|with_reducible exact H|(rw [hy379];exact H)|exact H
   have Ny379:=Aside0.mk hy379
   clear hy379
   have H':=Aside0.mk H
   clear H
   go_wp2_with (first|((with_reducible refine gate_builtin (b:=.append) (xs:=#[.tmp 18,.tmp 20]) rfl ?_);at_builtin;refine Kd.R_append (Kd.int .i64) (w0:=w) w.heap.size rfl (.tmp 18) (.tmp 20) 49 3 (.int .i64 0) 8 rfl Try.underlying49 info3 rfl (by decide) (by omega) u5 x5_1 x6_1 [.int .i64 x6_1] (fun _=>True) (fun _=>False) rfl rfl ?aP (fun _ hk=>hk.elim) ?aF ?aO ?aB ?aS ?aL ?_;(case aP=>exact rfl);(case aB=>exact zb);(case aF=>exact (fun _ _=>trivial));(case aO=>exact (zR HO_5.out));(case aS=>exact (below_size zb));(case aL=>have:=LMc9.out;omega);intro v380 w10 ho hb hg hat;rw [←Ny379.out] at ho;replace HB:=Aside0.mk (hb);have HO381:=Aside0.mk (ho);clear HO_5;clear ho hb hg hat))
   go_roundg k1
   case measure=>have:=HK1.out;omega
   case rel=>exact ⟨(y379),(wrap64 (x6_1 + 1)),zo,H',⟨by have:=HK1.out;omega⟩,⟨zR HO381.out⟩,⟨zb⟩⟩

/-! ### spec_l6All: function 65 -/
def spec_l6All.f (k:Nat) (l0:List (S31)):Option (List Int):=(spec_l4Set.f k (l0.length:Int) (wrap64 ((shl .i64 1 (l0.length:Int)) - 1))).bind fun t382=>(some t382)
theorem spec_l6All.mono:∀ a0 k,LeO (spec_l6All.f k a0) (spec_l6All.f (k + 1) a0):=by
 intro a0 k
 unfold spec_l6All.f
 repeat' first|(with_reducible first|exact spec_l4Set.mono _ _ _|exact LeO.refl _|exact LeO.none _|refine LeO.ite ?_ ?_|refine LeO.bind ?_ (fun _=>?_))|exact spec_l4Set.mono _ _ _|exact LeO.none _|refine LeO.ite ?_ ?_|refine LeO.bind ?_ (fun _=>?_)
set_option maxHeartbeats 8000000 in
set_option maxRecDepth 100000 in
theorem spec_l6All.calls (k:Nat) (A0:Option Addr) (c0:Nat) (l0:List (S31)) (r:List Int) (w:World) (hr0:Kd.C k31 w A0 l0.length l0) (hc0:l0.length≤c0) (h:spec_l6All.f k l0=some r) :
  Calls Try.prog 65 #[.slice A0 l0.length c0] w fun e w'=>∃ v0_:Value,e=.returned (v0_)∧Kd.R (Kd.int .i64) 3 w' w.heap.size (fun _=>True) v0_ r∧Below w.heap.size w w':=by
 have HR0:=Aside0.mk hr0
 have HC0:=Aside0.mk hc0
 clear hr0 hc0
 have HB:=Aside0.mk (Below.refl w.heap.size w)
 have H:((spec_l4Set.f k (l0.length:Int) (wrap64 ((shl .i64 1 (l0.length:Int)) - 1))).bind fun t382=>(some t382))=some r:=h
 clear h
 obtain ⟨ji2,hji2⟩:∃ j_:Int,(shl .i64 1 (l0.length:Int))=j_:=⟨_,rfl⟩
 replace H:((spec_l4Set.f k (l0.length:Int) (wrap64 ((ji2) - 1))).bind fun t382=>(some t382))=some r:=by first|(rw [hji2] at H;exact H)|(simp only [hji2] at H ⊢;exact H)
 have hji2_:(IntKind.i64.wrap (1 * 2 ^ min (l0.length:Int).toNat 64))=ji2:=hji2
 have hji2z:(l0.length:Int)≤64→(IntKind.i64.wrap (1 * 2 ^ (l0.length:Int).toNat))=ji2:=shl_small hji2
 have hji2p:(IntKind.i64.wrap (1 * 2 ^ min l0.length 64))=ji2:=hji2_
 have hji2q:(l0.length:Int)≤64→(IntKind.i64.wrap (1 * 2 ^ l0.length))=ji2:=hji2z
 have hji2r:(IntKind.i64.wrap (2 ^ min l0.length 64))=ji2:=by have h_:=hji2p;rw [Int.one_mul] at h_;exact h_
 have hji2s:(l0.length:Int)≤64→(IntKind.i64.wrap (2 ^ l0.length))=ji2:=fun hle_=>by have h_:=hji2q hle_;rw [Int.one_mul] at h_;exact h_
 have hji2u:(IntKind.i64.wrap (2 ^ min (l0.length:Int).toNat 64))=ji2:=by have h_:=hji2_;rw [Int.one_mul] at h_;exact h_
 have hji2v:(l0.length:Int)≤64→(IntKind.i64.wrap (2 ^ (l0.length:Int).toNat))=ji2:=fun hle_=>by have h_:=hji2z hle_;rw [Int.one_mul] at h_;exact h_
 have hji2y:(wrap64 (1 * 2 ^ min (l0.length:Int).toNat 64))=ji2:=(i64_w _).symm.trans hji2_
 have hji2x:(l0.length:Int)≤64→(wrap64 (1 * 2 ^ (l0.length:Int).toNat))=ji2:=fun h_=>(i64_w _).symm.trans (hji2z h_)
 replace H:=Option.bind_eq_some_iff.mp H
 obtain ⟨t382,A30,H⟩:=H
 try dsimp only at H
 have A3:=Aside0.mk A30
 clear A30
 obtain rfl:=Option.some.inj H
 go_enter Try.func65,Try.ntmps65
 go_wp2_with (first|((with_reducible refine gate_callee (f:=100) rfl ?_);refine goesL_ (some 9) rfl rfl Try.func100 (by kernel_rfl) rfl #[.int .i64 (l0.length:Int),.int .i64 (wrap64 ((ji2) - 1))] rfl (by (try simp only [List.map_toArray,List.map_cons,List.map_nil]);first|done|(simp only [hji2];rfl)|rfl|(simp only [List.length_drop,List.length_take];rfl)) ?_;(with_reducible refine (spec_l4Set.calls k (l0.length:Int) (wrap64 ((ji2) - 1)) t382 _ A3.out).mono ?_);rintro e w4 ⟨v383,rfl,ho0,hb⟩;refine ⟨_,rfl,?_⟩;have HO384:=Aside0.mk (Kd.R_lower ho0 (below_size zb));replace HB:=zb1 hb;(try clear hb);(try clear ho0)))
 go_ret
 exact ⟨_,by first|rfl|(simp [errW_none,errW_some] <;> rfl)|(simp only [←hji2];first|rfl|(simp [errW_none,errW_some] <;> rfl))|(simp [*,errW_none,errW_some] <;> rfl),zR HO384.out,zb⟩

/-! ### spec_l2Times: function 66 -/
def spec_l2Times.l0:Nat→List (S31)→Int→Int→Option (Int)
 | 0,_,_,_=>none
 | k + 1,x0,x3,x4=>if x4<(x0.length:Int) then (if 0≤x4 then (spec_l2Times.l0 k x0 (wrap64 (x3 + ((rd_T31 x0 x4).f0))) (wrap64 (x4 + 1))) else (none)) else (some x3)
def spec_l2Times.f (k:Nat) (l0:List (S31)):Option (Int):=spec_l2Times.l0 k l0 0 0
theorem spec_l2Times.mono_l:∀ k,(∀ y0 y1 y2,LeO (spec_l2Times.l0 k y0 y1 y2) (spec_l2Times.l0 (k + 1) y0 y1 y2))
 | 0=>fun _ _ _ r h=>by simp [spec_l2Times.l0] at h
 | k + 1=>by
  have ih0:=spec_l2Times.mono_l k
  ·intro y0 y1 y2
   unfold spec_l2Times.l0
   repeat' first|(with_reducible first|apply ih0|exact LeO.refl _|exact LeO.none _|refine LeO.ite ?_ ?_|refine LeO.bind ?_ (fun _=>?_))|apply ih0|exact LeO.none _|refine LeO.ite ?_ ?_|refine LeO.bind ?_ (fun _=>?_)
theorem spec_l2Times.mono:∀ a0 k,LeO (spec_l2Times.f k a0) (spec_l2Times.f (k + 1) a0):=by
 intro a0 k
 have ih0:=spec_l2Times.mono_l k
 unfold spec_l2Times.f
 repeat' first|(with_reducible first|apply ih0|exact LeO.refl _|exact LeO.none _|refine LeO.ite ?_ ?_|refine LeO.bind ?_ (fun _=>?_))|apply ih0|exact LeO.none _|refine LeO.ite ?_ ?_|refine LeO.bind ?_ (fun _=>?_)
set_option maxHeartbeats 8000000 in
set_option maxRecDepth 100000 in
theorem spec_l2Times.calls (k:Nat) (A0:Option Addr) (c0:Nat) (l0:List (S31)) (r:Int) (w:World) (hr0:Kd.C k31 w A0 l0.length l0) (hc0:l0.length≤c0) (h:spec_l2Times.f k l0=some r) :
  Calls Try.prog 66 #[.slice A0 l0.length c0] w fun e w'=>e=.returned (.int .i64 r)∧Drawn0 w w':=by
 have HR0:=Aside0.mk hr0
 have HC0:=Aside0.mk hc0
 clear hr0 hc0
 have H:(spec_l2Times.l0 k l0 0 0)=some r:=h
 clear h
 have H':=Aside0.mk H
 clear H
 go_enter Try.func66,Try.ntmps66
 go_wp2
 go_loopg [3,4] k (fun kq v3 v4 w'=>∃ (x3_1:Int) (x4_1:Int),v3=.int .i64 x3_1∧v4=.int .i64 x4_1∧Aside0 (spec_l2Times.l0 kq l0 x3_1 x4_1=some r)∧Aside0 (kq≤k)∧Drawn0 w w')
 case atStart=>exact ⟨(0),(0),zo,zo,H',⟨Nat.le_refl _⟩,zz5⟩
 case round=>
  clear H'
  obtain ⟨x3_1,x4_1,rfl,rfl,HA,HK1,⟨m1,rfl⟩⟩:=hrel
  cases gk with
  | zero=>exact absurd HA.out (by simp [spec_l2Times.l0])
  | succ k1=>
   have H:=HA.out
   clear HA
   simp only [spec_l2Times.l0] at H
   by_cases c2:x4_1<(l0.length:Int)
   rotate_left
   ·rw [if_neg c2] at H
    have c2b0:=decide_eq_false c2
    clear c2
    obtain rfl:=Option.some.inj H
    go_wp2
    go_ret
    exact ⟨zz7,zz5⟩
   rw [if_pos c2] at H
   have c2b0:=decide_eq_true c2
   clear c2
   by_cases c3:0≤x4_1
   rotate_left
   ·rw [if_neg c3] at H
    exact absurd H (by simp)
   rw [if_pos c3] at H
   have c3b0:=decide_eq_true c3
   clear c3
   have H':=Aside0.mk H
   clear H
   have p385:0≤(x4_1:Int):=of_decide_eq_true za
   have q385:x4_1<(l0.length:Int):=of_decide_eq_true za
   obtain ⟨ad385,e385,hx385_0,hx385_1,hx385_2,hx385_3⟩:=at_T31 HR0.out x4_1 p385 q385
   cases e385
   replace p385:=eq_true p385
   replace q385:=eq_true q385
   go_wp2
   go_roundg k1
   case measure=>have:=HK1.out;omega
   case rel=>exact ⟨(wrap64 (x3_1 + ((rd_T31 l0 x4_1).f0))),(wrap64 (x4_1 + 1)),zo,zo,H',⟨by have:=HK1.out;omega⟩,zz5⟩

/-! ### spec_l1Least: function 67 -/
def spec_l1Least.f (a0:Int) (a1:Int):Option (Int):=if a0<a1 then (some a0) else (some a1)
set_option maxHeartbeats 8000000 in
set_option maxRecDepth 100000 in
theorem spec_l1Least.calls (a0:Int) (a1:Int) (r:Int) (w:World) (h:spec_l1Least.f a0 a1=some r) :
  Calls Try.prog 67 #[.int .i64 a0,.int .i64 a1] w fun e w'=>e=.returned (.int .i64 r)∧Drawn0 w w':=by
 have H:(if a0<a1 then (some a0) else (some a1))=some r:=h
 clear h
 by_cases c3:a0<a1
 ·rw [if_pos c3] at H
  have c3b0:=decide_eq_true c3
  clear c3
  obtain rfl:=Option.some.inj H
  go_enter Try.func67,Try.ntmps67
  go_wp2
  go_ret
  exact ⟨zz7,zz5⟩
 rw [if_neg c3] at H
 have c3b0:=decide_eq_false c3
 clear c3
 obtain rfl:=Option.some.inj H
 go_enter Try.func67,Try.ntmps67
 go_wp2
 go_ret
 exact ⟨zz7,zz5⟩

end Go.Proofs.Ytkolecmpncaooaa.XFnLateWeight
-- minified
