-- Written by a program of this session (the kit's print, widened). Proved here: what each function answers, for the arguments that its contract names.
import Derived.Test.YtkolecmpncaooaaXFnLateWeightx0
import Derived.Test.YtkolecmpncaooaaXFnLateWeightx3
import Derived.Test.YtkolecmpncaooaaXFnLateWeightx4
import Derived.Test.YtkolecmpncaooaaXFnLateWeightx8
namespace Go.Proofs.Ytkolecmpncaooaa.XFnLateWeight
open Go.RowKit Go.Proofs.YtkolecmpncaooaaW.PrintWords Go.Proofs.YtkolecmpncaooaaW.PrintLast Go.Proofs.YtkolecmpncaooaaW.PrintMore
attribute [local go_sem] max2_int min2_int max_two min_two max_three min_three max_four min_four   -- for this text's walks alone
attribute [local go_sem] idxA_51_0 idxA_51_1 fldS_45_0 fldS_45_1 fldS_45_2 fldS_96_0 fldS_96_1 fldS_96_2
set_option linter.unusedVariables false
set_option linter.unusedSimpArgs false

/-! ### impl_weightTable: function 25 -/
mutual
def impl_weightTable.l0:Nat→List (S31)→List Int→Int→Int→Option (List Int)
 | 0,_,_,_,_=>none
 | k + 1,x0,x3,x9,x10=>if x10<x9 then (if x3.length<17592186044416 then (impl_weightTable.l0 k x0 (x3++[(-1)]) x9 (wrap64 (x10 + 1))) else (none)) else (impl_weightTable.l1 k x0 x3 0)
def impl_weightTable.l1:Nat→List (S31)→List Int→Int→Option (List Int)
 | 0,_,_,_=>none
 | k + 1,x0,x3,x4=>if x4<(shl .i64 1 (x0.length:Int)) then ((impl_listOf.f k x4).bind fun t280=>((impl_onTime.f k x0 t280).bind fun t283=>(if t283=true then ((impl_ratioOf.f k x0 t280).bind fun bt284=>(if 0≤bt284.2 then (if bt284.2<(x3.length:Int) then (impl_weightTable.l1 k x0 (x3.set (bt284.2:Int).toNat (mx (rd x3 bt284.2) bt284.1)) (wrap64 (x4 + 1))) else (none)) else (none))) else (impl_weightTable.l1 k x0 x3 (wrap64 (x4 + 1)))))) else (some x3)
end
def impl_weightTable.f (k:Nat) (l0:List (S31)):Option (List Int):=(impl_totalOf.f k l0).bind fun t276=>(impl_weightTable.l0 k l0 ([]:List Int) (wrap64 (t276 + 1)) 0)
theorem impl_weightTable.mono_l:∀ k,(∀ y0 y1 y2 y3,LeO (impl_weightTable.l0 k y0 y1 y2 y3) (impl_weightTable.l0 (k + 1) y0 y1 y2 y3))∧(∀ y0 y1 y2,LeO (impl_weightTable.l1 k y0 y1 y2) (impl_weightTable.l1 (k + 1) y0 y1 y2))
 | 0=>⟨fun _ _ _ _ r h=>by simp [impl_weightTable.l0] at h,fun _ _ _ r h=>by simp [impl_weightTable.l1] at h⟩
 | k + 1=>by
  obtain ⟨ih0,ih1⟩:=impl_weightTable.mono_l k
  refine ⟨?_,?_⟩ <;> intros <;> first|unfold impl_weightTable.l0|unfold impl_weightTable.l1
  all_goals repeat' first|(with_reducible first|apply ih0|apply ih1|exact impl_listOf.mono _ _|exact impl_onTime.mono _ _ _|exact impl_ratioOf.mono _ _ _|exact impl_totalOf.mono _ _|exact LeO.refl _|exact LeO.none _|refine LeO.ite ?_ ?_|refine LeO.bind ?_ (fun _=>?_))|apply ih0|apply ih1|exact impl_listOf.mono _ _|exact impl_onTime.mono _ _ _|exact impl_ratioOf.mono _ _ _|exact impl_totalOf.mono _ _|exact LeO.none _|refine LeO.ite ?_ ?_|refine LeO.bind ?_ (fun _=>?_)
theorem impl_weightTable.mono:∀ a0 k,LeO (impl_weightTable.f k a0) (impl_weightTable.f (k + 1) a0):=by
 intro a0 k
 obtain ⟨ih0,ih1⟩:=impl_weightTable.mono_l k
 unfold impl_weightTable.f
 repeat' first|(with_reducible first|apply ih0|apply ih1|exact impl_listOf.mono _ _|exact impl_onTime.mono _ _ _|exact impl_ratioOf.mono _ _ _|exact impl_totalOf.mono _ _|exact LeO.refl _|exact LeO.none _|refine LeO.ite ?_ ?_|refine LeO.bind ?_ (fun _=>?_))|apply ih0|apply ih1|exact impl_listOf.mono _ _|exact impl_onTime.mono _ _ _|exact impl_ratioOf.mono _ _ _|exact impl_totalOf.mono _ _|exact LeO.none _|refine LeO.ite ?_ ?_|refine LeO.bind ?_ (fun _=>?_)
def impl_weightTable.T12:Bool × List (List Nat × List Nat):=(true,[([],[]),([],[]),([1],[1]),([],[]),([],[]),([4],[4]),([3,5],[3,5]),([6],[6]),([],[]),([8],[8]),([7,9],[7,9]),([0,2,0,1,2,3,4,5,6,7,8,9,10],[0,2]),([11,10,0,1,2,3,4,5,6,7,8,9,10],[10,11])])
def impl_weightTable.B12:List Nat:=[0,0,2,0,0,16,56,120,0,256,1016,2047,4095]
theorem impl_weightTable.tab12:rtab .any (opsOf Try.f25 12)=impl_weightTable.T12:=by kernel_rfl
theorem impl_weightTable.bits12:waitsOk impl_weightTable.T12.2 impl_weightTable.B12=true:=by kernel_rfl
set_option maxHeartbeats 8000000 in
set_option maxRecDepth 100000 in
theorem impl_weightTable.calls (k:Nat) (A0:Option Addr) (c0:Nat) (l0:List (S31)) (r:List Int) (w:World) (hr0:Kd.C k31 w A0 l0.length l0) (hc0:l0.length≤c0) (h:impl_weightTable.f k l0=some r) :
  Calls Try.prog 25 #[.slice A0 l0.length c0] w fun e w'=>∃ v0_:Value,e=.returned (v0_)∧Kd.R (Kd.int .i64) 3 w' w.heap.size (fun _=>True) v0_ r∧Below w.heap.size w w':=by
 have hu51:=Try.underlying51
 have HR0:=Aside0.mk hr0
 have HC0:=Aside0.mk hc0
 clear hr0 hc0
 have HB:=Aside0.mk (Below.refl w.heap.size w)
 have H:((impl_totalOf.f k l0).bind fun t276=>(impl_weightTable.l0 k l0 ([]:List Int) (wrap64 (t276 + 1)) 0))=some r:=h
 clear h
 replace H:=Option.bind_eq_some_iff.mp H
 obtain ⟨t276,A20,H⟩:=H
 try dsimp only at H
 have A2:=Aside0.mk A20
 clear A20
 have H':=Aside0.mk H
 clear H
 go_enter Try.func25,Try.ntmps25
 go_wp2_with (first|((with_reducible refine gate_callee (f:=58) rfl ?_);refine zgo 8 Try.func58 #[.slice A0 l0.length c0] ?_;(with_reducible refine (impl_totalOf.calls k _ _ l0 t276 _ ?side1 ?side2 A2.out).mono ?_);(case side1=>exact zC HR0.out);(case side2=>exact HC0.out);rintro e w3 ⟨rfl,hb⟩;refine ⟨_,rfl,?_⟩;replace HB:=zb1 hb;(try clear hb)))
 go_loopg [3,10] k (fun kq v3 v10 w'=>∃ (x3_1:List Int) (x10_1:Int),v10=.int .i64 x10_1∧Aside0 (impl_weightTable.l0 kq l0 x3_1 (wrap64 (t276 + 1)) x10_1=some r)∧Aside0 (kq≤k)∧Aside0 (Kd.R (Kd.int .i64) 3 w' w.heap.size (fun _=>True) v3 x3_1)∧Aside0 (Below w.heap.size w w'))
 case atStart=>exact ⟨(([]:List Int)),(0),zo,H',⟨Nat.le_refl _⟩,⟨zz47⟩,⟨zb⟩⟩
 case round=>
  clear H'
  obtain ⟨x3_1,x10_1,rfl,HA,HK1,HO_3,HB⟩:=hrel
  cases gk with
  | zero=>exact absurd HA.out (by simp [impl_weightTable.l0])
  | succ k1=>
   have H:=HA.out
   clear HA
   simp only [impl_weightTable.l0] at H
   by_cases c4:x10_1<(wrap64 (t276 + 1))
   ·rw [if_pos c4] at H
    have c4b0:=decide_eq_true c4
    clear c4
    by_cases c5:x3_1.length<17592186044416
    rotate_left
    ·rw [if_neg c5] at H
     exact absurd H (by simp)
    rw [if_pos c5] at H
    have LMc5:=Aside0.mk c5
    clear c5
    obtain ⟨y277,hy277⟩:∃ y_:List Int,y_=(x3_1++[(-1)]):=⟨_,rfl⟩
    replace H:(impl_weightTable.l0 k1 l0 y277 (wrap64 (t276 + 1)) (wrap64 (x10_1 + 1)))=some r:=by first|(rw [hy277];with_reducible exact H)|(have H2_:=(Option.bind_some _ _).symm.trans H;rw [hy277];with_reducible exact H2_)|(have H2_:=(Option.bind_some _ _).symm.trans H;with_reducible exact H2_)|with_reducible exact H|(rw [hy277];exact H)|exact H
    have Ny277:=Aside0.mk hy277
    clear hy277
    have H':=Aside0.mk H
    clear H
    go_wp2_with (first|((with_reducible refine gate_builtin (b:=.append) (xs:=#[.tmp 12,.tmp 13]) rfl ?_);at_builtin;refine Kd.R_append (Kd.int .i64) (w0:=w) w.heap.size rfl (.tmp 12) (.tmp 13) 49 3 (.int .i64 0) 8 rfl Try.underlying49 info3 rfl (by decide) (by omega) u3 x3_1 (-1) [.int .i64 (-1)] (fun _=>True) (fun _=>False) rfl rfl ?aP (fun _ hk=>hk.elim) ?aF ?aO ?aB ?aS ?aL ?_;(case aP=>exact rfl);(case aB=>exact zb);(case aF=>exact (fun _ _=>trivial));(case aO=>exact (zR HO_3.out));(case aS=>exact (below_size zb));(case aL=>have:=LMc5.out;omega);intro v278 w6 ho hb hg hat;rw [←Ny277.out] at ho;replace HB:=Aside0.mk (hb);have HO279:=Aside0.mk (ho);clear HO_3;clear ho hb hg hat))
    go_roundg k1
    case measure=>have:=HK1.out;omega
    case rel=>exact ⟨(y277),(wrap64 (x10_1 + 1)),zo,H',⟨by have:=HK1.out;omega⟩,⟨zR HO279.out⟩,⟨zb⟩⟩
   rw [if_neg c4] at H
   have c4b0:=decide_eq_false c4
   clear c4
   have H':=Aside0.mk H
   clear H
   go_wp2
   go_loopg [4] k1 (fun kq v4 w'=>∃ (x3_2:List Int) (x4_2:Int),v4=.int .i64 x4_2∧Aside0 (impl_weightTable.l1 kq l0 x3_2 x4_2=some r)∧Aside0 (kq≤k1)∧Aside0 (Kd.R (Kd.int .i64) 3 w' w.heap.size (fun _=>True) u3 x3_2)∧Aside0 (Below w.heap.size w w'))
   case atStart=>exact ⟨(x3_1),(0),zo,H',⟨Nat.le_refl _⟩,⟨zR HO_3.out⟩,⟨zb⟩⟩
   case round=>
    clear H'
    obtain ⟨x3_2,x4_2,rfl,HA,HK2,HO_3,HB⟩:=hrel
    cases gk with
    | zero=>exact absurd HA.out (by simp [impl_weightTable.l1])
    | succ k2=>
     have H:=HA.out
     clear HA
     simp only [impl_weightTable.l1] at H
     obtain ⟨ji7,hji7⟩:∃ j_:Int,(shl .i64 1 (l0.length:Int))=j_:=⟨_,rfl⟩
     replace H:(if x4_2<(ji7) then ((impl_listOf.f k2 x4_2).bind fun t280=>((impl_onTime.f k2 l0 t280).bind fun t283=>(if t283=true then ((impl_ratioOf.f k2 l0 t280).bind fun bt284=>(if 0≤bt284.2 then (if bt284.2<(x3_2.length:Int) then (impl_weightTable.l1 k2 l0 (x3_2.set (bt284.2:Int).toNat (mx (rd x3_2 bt284.2) bt284.1)) (wrap64 (x4_2 + 1))) else (none)) else (none))) else (impl_weightTable.l1 k2 l0 x3_2 (wrap64 (x4_2 + 1)))))) else (some x3_2))=some r:=by first|(rw [hji7] at H;exact H)|(simp only [hji7] at H ⊢;exact H)
     have hji7_:(IntKind.i64.wrap (1 * 2 ^ min (l0.length:Int).toNat 64))=ji7:=hji7
     have hji7z:(l0.length:Int)≤64→(IntKind.i64.wrap (1 * 2 ^ (l0.length:Int).toNat))=ji7:=shl_small hji7
     have hji7p:(IntKind.i64.wrap (1 * 2 ^ min l0.length 64))=ji7:=hji7_
     have hji7q:(l0.length:Int)≤64→(IntKind.i64.wrap (1 * 2 ^ l0.length))=ji7:=hji7z
     have hji7r:(IntKind.i64.wrap (2 ^ min l0.length 64))=ji7:=by have h_:=hji7p;rw [Int.one_mul] at h_;exact h_
     have hji7s:(l0.length:Int)≤64→(IntKind.i64.wrap (2 ^ l0.length))=ji7:=fun hle_=>by have h_:=hji7q hle_;rw [Int.one_mul] at h_;exact h_
     have hji7u:(IntKind.i64.wrap (2 ^ min (l0.length:Int).toNat 64))=ji7:=by have h_:=hji7_;rw [Int.one_mul] at h_;exact h_
     have hji7v:(l0.length:Int)≤64→(IntKind.i64.wrap (2 ^ (l0.length:Int).toNat))=ji7:=fun hle_=>by have h_:=hji7z hle_;rw [Int.one_mul] at h_;exact h_
     have hji7y:(wrap64 (1 * 2 ^ min (l0.length:Int).toNat 64))=ji7:=(i64_w _).symm.trans hji7_
     have hji7x:(l0.length:Int)≤64→(wrap64 (1 * 2 ^ (l0.length:Int).toNat))=ji7:=fun h_=>(i64_w _).symm.trans (hji7z h_)
     by_cases c8:x4_2<(ji7)
     rotate_left
     ·rw [if_neg c8] at H
      have c8b0:=decide_eq_false c8
      clear c8
      obtain rfl:=Option.some.inj H
      go_wp2
      go_ret
      exact ⟨_,by first|rfl|(simp [errW_none,errW_some] <;> rfl)|(simp only [←hji7];first|rfl|(simp [errW_none,errW_some] <;> rfl))|(simp [*,errW_none,errW_some] <;> rfl),zR HO_3.out,zb⟩
     rw [if_pos c8] at H
     have c8b0:=decide_eq_true c8
     clear c8
     replace H:=Option.bind_eq_some_iff.mp H
     obtain ⟨t280,A90,H⟩:=H
     try dsimp only at H
     have A9:=Aside0.mk A90
     clear A90
     replace H:=Option.bind_eq_some_iff.mp H
     obtain ⟨t283,A100,H⟩:=H
     try dsimp only at H
     have A10:=Aside0.mk A100
     clear A100
     by_cases c11:t283=true
     rotate_left
     ·replace c11:=Bool.eq_false_iff.mpr c11
      subst c11
      rw [if_neg (show ¬ (false=true) by decide)] at H
      have H':=Aside0.mk H
      clear H
      go_wp2_with (first|((with_reducible refine gate_callee (f:=59) rfl ?_);refine zgo 24 Try.func59 #[.int .i64 x4_2] ?_;(with_reducible refine (impl_listOf.calls k2 x4_2 t280 _ A9.out).mono ?_);rintro e w27 ⟨v281,rfl,ho0,hb⟩;refine ⟨_,rfl,?_⟩;have n0_:=Aside0.mk (Kd.R_elder' (zR HO_3.out) (Kd.R_base ho0) hb);have n1_:=Aside0.mk (Kd.R_lower (Kd.R_new' ho0 (Kd.R_lt (zR HO_3.out))) (below_size zb));have n2_:=zb1 hb;clear HO_3;clear HB;have HO_3:=n0_;have HO282:=n1_;have HB:=n2_;clear n0_ n1_ n2_;(try clear hb);(try clear ho0);obtain ⟨Ao28,co28,eo28⟩:=Kd.R_slice HO282.out;subst eo28)|((with_reducible refine gate_callee (f:=60) rfl ?_);refine zgo 27 Try.func60 #[.slice A0 l0.length c0,.slice Ao28 t280.length co28] ?_;(with_reducible refine (impl_onTime.calls k2 _ _ l0 _ _ t280 false _ ?side1 ?side2 ?side3 ?side4 A10.out).mono ?_);(case side1=>exact zC (Kd.C_below HR0.out HB.out));(case side2=>exact HC0.out);(case side3=>exact zC ((Kd.R_reads' HO282.out).2.2));(case side4=>exact (Kd.R_reads' HO282.out).2.1);rintro e w29 ⟨rfl,hb⟩;refine ⟨_,rfl,?_⟩;replace HO_3:=zRb HO_3 hb;replace HO282:=zRb HO282 hb;replace HB:=zb1 hb;(try clear hb)))
      go_roundg k2
      case measure=>have:=HK1.out;have:=HK2.out;omega
      case rel=>exact ⟨(x3_2),(wrap64 (x4_2 + 1)),zo,H',⟨by have:=HK1.out;have:=HK2.out;omega⟩,⟨zR (Kd.R_mono HO_3.out (fun _ hk=>trivial))⟩,⟨zb⟩⟩
     subst c11
     rw [if_pos rfl] at H
     replace H:=Option.bind_eq_some_iff.mp H
     obtain ⟨⟨t284,t285⟩,A120,H⟩:=H
     try dsimp only at H
     have A12:=Aside0.mk A120
     clear A120
     by_cases c13:0≤t285
     rotate_left
     ·rw [if_neg c13] at H
      exact absurd H (by simp)
     rw [if_pos c13] at H
     have c13b0:=decide_eq_true c13
     clear c13
     by_cases c14:t285<(x3_2.length:Int)
     rotate_left
     ·rw [if_neg c14] at H
      exact absurd H (by simp)
     rw [if_pos c14] at H
     have c14b0:=decide_eq_true c14
     clear c14
     obtain ⟨ji15,hji15⟩:∃ j_:Int,(mx (rd x3_2 t285) t284)=j_:=⟨_,rfl⟩
     replace H:(impl_weightTable.l1 k2 l0 (x3_2.set (t285:Int).toNat (ji15)) (wrap64 (x4_2 + 1)))=some r:=by first|(rw [hji15] at H;exact H)|(simp only [hji15] at H ⊢;exact H)
     (try rw [hji15] at A9)
     (try rw [hji15] at A10)
     (try rw [hji15] at A12)
     have hji15_:(if (rd x3_2 t285)<t284 then t284 else (rd x3_2 t285))=ji15:=hji15
     obtain ⟨y288,hy288⟩:∃ y_:List Int,y_=(x3_2.set (t285:Int).toNat (ji15)):=⟨_,rfl⟩
     replace H:(impl_weightTable.l1 k2 l0 y288 (wrap64 (x4_2 + 1)))=some r:=by first|(rw [hy288];with_reducible exact H)|(have H2_:=(Option.bind_some _ _).symm.trans H;rw [hy288];with_reducible exact H2_)|(have H2_:=(Option.bind_some _ _).symm.trans H;with_reducible exact H2_)|with_reducible exact H|(rw [hy288];exact H)|exact H
     have Ny288:=Aside0.mk hy288
     clear hy288
     have H':=Aside0.mk H
     clear H
     try go_wp2_with (first|((with_reducible refine gate_callee (f:=59) rfl ?_);refine zgo 24 Try.func59 #[.int .i64 x4_2] ?_;(with_reducible refine (impl_listOf.calls k2 x4_2 t280 _ A9.out).mono ?_);rintro e w17 ⟨v281,rfl,ho0,hb⟩;refine ⟨_,rfl,?_⟩;have n0_:=Aside0.mk (Kd.R_elder' (zR HO_3.out) (Kd.R_base ho0) hb);have n1_:=Aside0.mk (Kd.R_lower (Kd.R_new' ho0 (Kd.R_lt (zR HO_3.out))) (below_size zb));have n2_:=zb1 hb;clear HO_3;clear HB;have HO_3:=n0_;have HO282:=n1_;have HB:=n2_;clear n0_ n1_ n2_;(try clear hb);(try clear ho0);obtain ⟨Ao18,co18,eo18⟩:=Kd.R_slice HO282.out;subst eo18)|((with_reducible refine gate_callee (f:=60) rfl ?_);refine zgo 27 Try.func60 #[.slice A0 l0.length c0,.slice Ao18 t280.length co18] ?_;(with_reducible refine (impl_onTime.calls k2 _ _ l0 _ _ t280 true _ ?side1 ?side2 ?side3 ?side4 A10.out).mono ?_);(case side1=>exact zC (Kd.C_below HR0.out HB.out));(case side2=>exact HC0.out);(case side3=>exact zC ((Kd.R_reads' HO282.out).2.2));(case side4=>exact (Kd.R_reads' HO282.out).2.1);rintro e w19 ⟨rfl,hb⟩;refine ⟨_,rfl,?_⟩;replace HO_3:=zRb HO_3 hb;replace HO282:=zRb HO282 hb;replace HB:=zb1 hb;(try clear hb))|((with_reducible refine gate_callee (f:=26) rfl ?_);refine zgo 30 Try.func26 #[.slice A0 l0.length c0,.slice Ao18 t280.length co18] ?_;(with_reducible refine (impl_ratioOf.calls k2 _ _ l0 _ _ t280 t284 t285 _ ?side1 ?side2 ?side3 ?side4 A12.out).mono ?_);(case side1=>exact zC (Kd.C_below HR0.out HB.out));(case side2=>exact HC0.out);(case side3=>exact zC ((Kd.R_reads' HO282.out).2.2));(case side4=>exact (Kd.R_reads' HO282.out).2.1);rintro e w20 ⟨rfl,hb⟩;refine ⟨_,rfl,?_⟩;replace HO_3:=zRb HO_3 hb;replace HO282:=zRb HO282 hb;replace HB:=zb1 hb;(try clear hb))|((with_reducible refine gate_dst (N:=6) rfl ?_);refine box_event ?hg (N:=6) ?hd (cs:=#[.int .i64 0,.int .i64 0]) (t:=51) ?hr ?_;(case hd=>rfl);(case hg=>rfl);(case hr=>first|(go_simp;done)|(go_simp;rfl));intro gb286 hg w21 hbox hb;have n0_:=zRb HO_3 hb;have n1_:=zRb HO282 hb;have n2_:=zb1 hb;have n3_:=Aside0.mk (hbox);have n4_:=Aside0.mk ((by rw [hg];exact (below_size zb):w.heap.size≤gb286));have n5_:=Aside0.mk ((by rw [hg];exact (below_size zb):w.heap.size≤gb286));clear HO_3;clear HO282;clear HB;have HO_3:=n0_;have HO282:=n1_;have HB:=n2_;have BK286:=n3_;have GW286:=n4_;have GE286:=n5_;clear n0_ n1_ n2_ n3_ n4_ n5_;clear hb hbox hg;obtain ⟨hcz22_0,hcz22_1,hfz22_0,hfz22_1⟩:=zk2 BK286.out))
     have n0_:Aside0 (Kd.R (Kd.int .i64) 3 ((w21.setCell ⟨gb286,0,none⟩ (.int .i64 t284)).setCell ⟨gb286,1,none⟩ (.int .i64 t285)) w.heap.size (fun k_=>some k_≠(.slice Ao18 t280.length co18:Value).ownBlock) u3 x3_2):=⟨by (with_reducible repeat (first|apply Kd.R_alloc|apply Kd.R_drewN|apply Kd.R_drew));exact Kd.R_mono (Kd.R_far (p:=⟨gb286,1,none⟩) (Kd.R_far (p:=⟨gb286,0,none⟩) (Kd.R_types HO_3.out BK286.out (by decide)) (fun _ hk=>hk.2) (.int .i64 t284)) (fun _ hk=>hk.2) (.int .i64 t285)) (fun _ hk=>hk.1.2)⟩
     have n1_:Aside0 (Kd.R (Kd.int .i64) 3 ((w21.setCell ⟨gb286,0,none⟩ (.int .i64 t284)).setCell ⟨gb286,1,none⟩ (.int .i64 t285)) w.heap.size (fun k_=>some k_≠(u3:Value).ownBlock) (.slice Ao18 t280.length co18) t280):=⟨by (with_reducible repeat (first|apply Kd.R_alloc|apply Kd.R_drewN|apply Kd.R_drew));exact Kd.R_mono (Kd.R_far (p:=⟨gb286,1,none⟩) (Kd.R_far (p:=⟨gb286,0,none⟩) (Kd.R_types HO282.out BK286.out (by decide)) (fun _ hk=>hk.2) (.int .i64 t284)) (fun _ hk=>hk.2) (.int .i64 t285)) (fun _ hk=>hk.1.2)⟩
     have n2_:Aside0 (((w21.setCell ⟨gb286,0,none⟩ (.int .i64 t284)).setCell ⟨gb286,1,none⟩ (.int .i64 t285)).heap[gb286]?=some (.cells #[.int .i64 t284,.int .i64 t285] 51 (0,0))):=⟨by (with_reducible repeat (first|refine blk_drewN ?_ _|refine blk_drew ?_|refine blk_alloc ?_ _));refine blk_put (cs:=#[.int .i64 t284,.int .i64 0]) ?_ 1 _ rfl;(with_reducible repeat (first|refine blk_drewN ?_ _|refine blk_drew ?_|refine blk_alloc ?_ _));refine blk_put (cs:=#[.int .i64 0,.int .i64 0]) ?_ 0 _ rfl;(with_reducible repeat (first|refine blk_drewN ?_ _|refine blk_drew ?_|refine blk_alloc ?_ _));exact BK286.out⟩
     have n3_:Aside0 (Below w.heap.size w ((w21.setCell ⟨gb286,0,none⟩ (.int .i64 t284)).setCell ⟨gb286,1,none⟩ (.int .i64 t285))):=⟨by repeat (first|(with_reducible first|exact HB.out|apply below_alloc|apply pw_below_drewN|apply below_drew1|refine below_set ?_ GE286.out)|exact HB.out)⟩
     (try simp only [show ∀ (W_:World) (n_:Nat) (a_:Addr) (v_:Value),(W_.drewN n_).setCell a_ v_=(W_.setCell a_ v_).drewN n_ from fun _ _ _ _=>rfl])
     generalize ((w21.setCell ⟨gb286,0,none⟩ (.int .i64 t284)).setCell ⟨gb286,1,none⟩ (.int .i64 t285))=w23 at n0_ n1_ n2_ n3_ ⊢
     have HO_3:=n0_
     have HO282:=n1_
     have BK286:=n2_
     have HB:=n3_
     clear n0_ n1_ n2_ n3_
     replace HO_3:=Aside0.mk (Kd.R_drew HO_3.out)
     replace HO282:=Aside0.mk (Kd.R_drew HO282.out)
     replace BK286:=Aside0.mk (blk_drew BK286.out)
     replace HB:=Aside0.mk (below_drew1 HB.out)
     obtain ⟨Ao25,co25,eo25⟩:=Kd.R_slice HO_3.out
     (first|subst eo25|(injection eo25 with f1_ f2_ f3_;have f4_:=f1_.symm;have f5_:=f3_.symm;clear f1_ f2_ f3_;subst f4_;subst f5_))
     have p287:0≤(t285:Int):=of_decide_eq_true za
     have q287:t285<(x3_2.length:Int):=of_decide_eq_true za
     obtain ⟨ad287,e287,hx287_0⟩:=Kd.at_int (Kd.R_reads' HO_3.out).2.2 t285 p287 q287
     cases e287
     replace p287:=eq_true p287
     replace q287:=eq_true q287
     have p16:0≤(t285:Int):=of_decide_eq_true za
     have q16:(t285:Int)<((x3_2.length:Int):Int):=of_decide_eq_true za
     obtain ⟨go16,co16,eo16,gb16,gl16,cl16,HG16⟩:=Kd.R_form HO_3.out (by omega)
     (first|cases eo16|(injection eo16 with ea_ en_ ec_;(first|subst ea_|(injection ea_ with ea_;subst ea_));subst ec_;clear en_))
     have GB16:=Aside0.mk gb16
     have GG16:=Aside0.mk HG16
     clear gb16 gl16 HG16
     (first|simp only [add_plain] at hx287_0|skip)
     obtain ⟨hx16_0,hf16_0⟩:=Kd.R_celln 0 HO_3.out (t285:Int) p16 q16
     replace p16:=eq_true p16
     replace q16:=eq_true q16
     have HP26:=Kd.R_putn HO_3.out (t285:Int) ji15
     rw [←Ny288.out] at HP26
     have HQ26:=Aside0.mk HP26
     clear HP26
     refine start_ (n:=13) (S:=fun w'=>w'.cell? ⟨gb286,0,none⟩=some (.int .i64 t284)∧w'.cell? ⟨gb286,1,none⟩=some (.int .i64 t285)∧w'.cell? ⟨go16,(t285).toNat,none⟩=some (.int .i64 (rd x3_2 t285))) (ds:=[12]) #[false,false,false,false,false,false,false,false,false,false,false,false,false] (by kernel_rfl) rfl rfl ⟨(blk_cell BK286.out 0).trans rfl,(blk_cell BK286.out 1).trans rfl,hx287_0⟩ (fun hHeld=>?_);refine with_tabW impl_weightTable.tab12 impl_weightTable.bits12 (fun HT_ HW_=>?_)
     generalize w23.drew=w24 at HO_3 HO282 BK286 HB GG16 HQ26 hf16_0 hx16_0 hx287_0 hHeld ⊢
     refine pu_ 0 31 ?_
     refine pu_ 1 32 ?_
     refine pu_ 3 34 ?_
     refine pu_ 4 35 ?_
     refine pu_ 8 39 ?_
     refine tk_ 2 33 hHeld ?_
     refine tk_ 5 36 hHeld ?_
     refine pu_ 6 37 ?_
     refine tk_ 7 38 hHeld ?_
     refine tk_ 9 40 hHeld ?_
     refine pu_ 10 41 ?_
     refine pu_ 11 42 ?_
     refine last_ (i:=12) (N:=none) #[true,true,true,true,true,true,true,true,true,true,true,true,true] rfl rfl (one_of HT_.out (by kernel_rfl)) (by decide) (fun K hK=>?_)
     refine skip_ (w1:=?_) (by rfl) rfl ?_ ?_
     rotate_left
     ·go_simp
      rfl
     refine hK.out _ _ ?_
     clear hK K
     refine done_ (done_of HT_.out (by kernel_rfl)) ?_
     try go_wp2
     go_roundg k2
     case measure=>have:=HK1.out;have:=HK2.out;omega
     case rel=>exact ⟨(y288),(wrap64 (x4_2 + 1)),zo,H',⟨by have:=HK1.out;have:=HK2.out;omega⟩,⟨zR (Kd.R_mono HQ26.out (fun _ hk=>trivial))⟩,⟨by repeat (first|(with_reducible first|exact HB.out|apply below_alloc|apply pw_below_drewN|apply below_drew1|refine below_set ?_ GB16.out|refine below_set ?_ GE286.out)|exact HB.out)⟩⟩

/-! ### impl_numbersTo: function 27 -/
def impl_numbersTo.l0:Nat→Int→List Int→Int→Option (List Int)
 | 0,_,_,_=>none
 | k + 1,x0,x3,x4=>if x4<x0 then (if x3.length<17592186044416 then (impl_numbersTo.l0 k x0 (x3++[x4]) (wrap64 (x4 + 1))) else (none)) else (some x3)
def impl_numbersTo.f (k:Nat) (a0:Int):Option (List Int):=impl_numbersTo.l0 k a0 ([]:List Int) 0
theorem impl_numbersTo.mono_l:∀ k,(∀ y0 y1 y2,LeO (impl_numbersTo.l0 k y0 y1 y2) (impl_numbersTo.l0 (k + 1) y0 y1 y2))
 | 0=>fun _ _ _ r h=>by simp [impl_numbersTo.l0] at h
 | k + 1=>by
  have ih0:=impl_numbersTo.mono_l k
  ·intro y0 y1 y2
   unfold impl_numbersTo.l0
   repeat' first|(with_reducible first|apply ih0|exact LeO.refl _|exact LeO.none _|refine LeO.ite ?_ ?_|refine LeO.bind ?_ (fun _=>?_))|apply ih0|exact LeO.none _|refine LeO.ite ?_ ?_|refine LeO.bind ?_ (fun _=>?_)
theorem impl_numbersTo.mono:∀ a0 k,LeO (impl_numbersTo.f k a0) (impl_numbersTo.f (k + 1) a0):=by
 intro a0 k
 have ih0:=impl_numbersTo.mono_l k
 unfold impl_numbersTo.f
 repeat' first|(with_reducible first|apply ih0|exact LeO.refl _|exact LeO.none _|refine LeO.ite ?_ ?_|refine LeO.bind ?_ (fun _=>?_))|apply ih0|exact LeO.none _|refine LeO.ite ?_ ?_|refine LeO.bind ?_ (fun _=>?_)
set_option maxHeartbeats 8000000 in
set_option maxRecDepth 100000 in
theorem impl_numbersTo.calls (k:Nat) (a0:Int) (r:List Int) (w:World) (h:impl_numbersTo.f k a0=some r) :
  Calls Try.prog 27 #[.int .i64 a0] w fun e w'=>∃ v0_:Value,e=.returned (v0_)∧Kd.R (Kd.int .i64) 3 w' w.heap.size (fun _=>True) v0_ r∧Below w.heap.size w w':=by
 have HB:=Aside0.mk (Below.refl w.heap.size w)
 have H:(impl_numbersTo.l0 k a0 ([]:List Int) 0)=some r:=h
 clear h
 have H':=Aside0.mk H
 clear H
 go_enter Try.func27,Try.ntmps27
 go_wp2
 go_loopg [3,4] k (fun kq v3 v4 w'=>∃ (x3_1:List Int) (x4_1:Int),v4=.int .i64 x4_1∧Aside0 (impl_numbersTo.l0 kq a0 x3_1 x4_1=some r)∧Aside0 (kq≤k)∧Aside0 (Kd.R (Kd.int .i64) 3 w' w.heap.size (fun _=>True) v3 x3_1)∧Aside0 (Below w.heap.size w w'))
 case atStart=>exact ⟨(([]:List Int)),(0),zo,H',⟨Nat.le_refl _⟩,⟨zz47⟩,⟨zb⟩⟩
 case round=>
  clear H'
  obtain ⟨x3_1,x4_1,rfl,HA,HK1,HO_3,HB⟩:=hrel
  cases gk with
  | zero=>exact absurd HA.out (by simp [impl_numbersTo.l0])
  | succ k1=>
   have H:=HA.out
   clear HA
   simp only [impl_numbersTo.l0] at H
   by_cases c2:x4_1<a0
   rotate_left
   ·rw [if_neg c2] at H
    have c2b0:=decide_eq_false c2
    clear c2
    obtain rfl:=Option.some.inj H
    go_wp2
    go_ret
    exact ⟨_,zz0,zR HO_3.out,zb⟩
   rw [if_pos c2] at H
   have c2b0:=decide_eq_true c2
   clear c2
   by_cases c3:x3_1.length<17592186044416
   rotate_left
   ·rw [if_neg c3] at H
    exact absurd H (by simp)
   rw [if_pos c3] at H
   have LMc3:=Aside0.mk c3
   clear c3
   obtain ⟨y289,hy289⟩:∃ y_:List Int,y_=(x3_1++[x4_1]):=⟨_,rfl⟩
   replace H:(impl_numbersTo.l0 k1 a0 y289 (wrap64 (x4_1 + 1)))=some r:=by first|(rw [hy289];with_reducible exact H)|(have H2_:=(Option.bind_some _ _).symm.trans H;rw [hy289];with_reducible exact H2_)|(have H2_:=(Option.bind_some _ _).symm.trans H;with_reducible exact H2_)|with_reducible exact H|(rw [hy289];exact H)|exact H
   have Ny289:=Aside0.mk hy289
   clear hy289
   have H':=Aside0.mk H
   clear H
   go_wp2_with (first|((with_reducible refine gate_builtin (b:=.append) (xs:=#[.tmp 10,.tmp 12]) rfl ?_);at_builtin;refine Kd.R_append (Kd.int .i64) (w0:=w) w.heap.size rfl (.tmp 10) (.tmp 12) 49 3 (.int .i64 0) 8 rfl Try.underlying49 info3 rfl (by decide) (by omega) u3 x3_1 x4_1 [.int .i64 x4_1] (fun _=>True) (fun _=>False) rfl rfl ?aP (fun _ hk=>hk.elim) ?aF ?aO ?aB ?aS ?aL ?_;(case aP=>exact rfl);(case aB=>exact zb);(case aF=>exact (fun _ _=>trivial));(case aO=>exact (zR HO_3.out));(case aS=>exact (below_size zb));(case aL=>have:=LMc3.out;omega);intro v290 w4 ho hb hg hat;rw [←Ny289.out] at ho;replace HB:=Aside0.mk (hb);have HO291:=Aside0.mk (ho);clear HO_3;clear ho hb hg hat))
   go_roundg k1
   case measure=>have:=HK1.out;omega
   case rel=>exact ⟨(y289),(wrap64 (x4_1 + 1)),zo,H',⟨by have:=HK1.out;omega⟩,⟨zR HO291.out⟩,⟨zb⟩⟩

/-! ### impl_LeastLateWeight: function 7 -/
def impl_LeastLateWeight.l0:Nat→List (S31)→Int→List Int→Int→Int→Option (Int × Bool)
 | 0,_,_,_,_,_=>none
 | k + 1,x0,x4,x11,x12,x13=>if x13<x12 then (if 0≤x13 then (if x13<(x11.length:Int) then (impl_LeastLateWeight.l0 k x0 (mx x4 (rd x11 x13)) x11 x12 (wrap64 (x13 + 1))) else (none)) else (none)) else ((impl_numbersTo.f k (x0.length:Int)).bind fun t297=>((impl_ratioOf.f k x0 t297).bind fun bt300=>(some (wrap64 (bt300.1 - x4),true))))
def impl_LeastLateWeight.f (k:Nat) (l0:List (S31)):Option (Int × Bool):=(impl_IsPlain.f k l0).bind fun t292=>(if t292=true then ((impl_weightTable.f k l0).bind fun t293=>(impl_LeastLateWeight.l0 k l0 0 t293 (t293.length:Int) 0)) else (some (0,false)))
theorem impl_LeastLateWeight.mono_l:∀ k,(∀ y0 y1 y2 y3 y4,LeO (impl_LeastLateWeight.l0 k y0 y1 y2 y3 y4) (impl_LeastLateWeight.l0 (k + 1) y0 y1 y2 y3 y4))
 | 0=>fun _ _ _ _ _ r h=>by simp [impl_LeastLateWeight.l0] at h
 | k + 1=>by
  have ih0:=impl_LeastLateWeight.mono_l k
  ·intro y0 y1 y2 y3 y4
   unfold impl_LeastLateWeight.l0
   repeat' first|(with_reducible first|apply ih0|exact impl_IsPlain.mono _ _|exact impl_numbersTo.mono _ _|exact impl_ratioOf.mono _ _ _|exact impl_weightTable.mono _ _|exact LeO.refl _|exact LeO.none _|refine LeO.ite ?_ ?_|refine LeO.bind ?_ (fun _=>?_))|apply ih0|exact impl_IsPlain.mono _ _|exact impl_numbersTo.mono _ _|exact impl_ratioOf.mono _ _ _|exact impl_weightTable.mono _ _|exact LeO.none _|refine LeO.ite ?_ ?_|refine LeO.bind ?_ (fun _=>?_)
theorem impl_LeastLateWeight.mono:∀ a0 k,LeO (impl_LeastLateWeight.f k a0) (impl_LeastLateWeight.f (k + 1) a0):=by
 intro a0 k
 have ih0:=impl_LeastLateWeight.mono_l k
 unfold impl_LeastLateWeight.f
 repeat' first|(with_reducible first|apply ih0|exact impl_IsPlain.mono _ _|exact impl_numbersTo.mono _ _|exact impl_ratioOf.mono _ _ _|exact impl_weightTable.mono _ _|exact LeO.refl _|exact LeO.none _|refine LeO.ite ?_ ?_|refine LeO.bind ?_ (fun _=>?_))|apply ih0|exact impl_IsPlain.mono _ _|exact impl_numbersTo.mono _ _|exact impl_ratioOf.mono _ _ _|exact impl_weightTable.mono _ _|exact LeO.none _|refine LeO.ite ?_ ?_|refine LeO.bind ?_ (fun _=>?_)
set_option maxHeartbeats 8000000 in
set_option maxRecDepth 100000 in
theorem impl_LeastLateWeight.calls (k:Nat) (A0:Option Addr) (c0:Nat) (l0:List (S31)) (r1:Int) (r2:Bool) (w:World) (hr0:Kd.C k31 w A0 l0.length l0) (hc0:l0.length≤c0) (h:impl_LeastLateWeight.f k l0=some (r1,r2)) :
  Calls Try.prog 7 #[.slice A0 l0.length c0] w fun e w'=>e=.returned (.tuple #[.int .i64 r1,.bool r2])∧Below w.heap.size w w':=by
 have HR0:=Aside0.mk hr0
 have HC0:=Aside0.mk hc0
 clear hr0 hc0
 have HB:=Aside0.mk (Below.refl w.heap.size w)
 have H:((impl_IsPlain.f k l0).bind fun t292=>(if t292=true then ((impl_weightTable.f k l0).bind fun t293=>(impl_LeastLateWeight.l0 k l0 0 t293 (t293.length:Int) 0)) else (some (0,false))))=some (r1,r2):=h
 clear h
 replace H:=Option.bind_eq_some_iff.mp H
 obtain ⟨t292,A20,H⟩:=H
 try dsimp only at H
 have A2:=Aside0.mk A20
 clear A20
 by_cases c3:t292=true
 rotate_left
 ·replace c3:=Bool.eq_false_iff.mpr c3
  subst c3
  rw [if_neg (show ¬ (false=true) by decide)] at H
  simp only [Option.some.injEq,Prod.mk.injEq] at H
  obtain ⟨rfl,rfl⟩:=H
  go_enter Try.func7,Try.ntmps7
  go_wp2_with (first|((with_reducible refine gate_callee (f:=24) rfl ?_);refine zgo 8 Try.func24 #[.slice A0 l0.length c0] ?_;(with_reducible refine (impl_IsPlain.calls k _ _ l0 false _ ?side1 ?side2 A2.out).mono ?_);(case side1=>exact zC HR0.out);(case side2=>exact HC0.out);rintro e w17 ⟨rfl,hb⟩;refine ⟨_,rfl,?_⟩;replace HB:=zb1 hb;(try clear hb)))
  go_ret2
  exact ⟨zz0,zb⟩
 subst c3
 rw [if_pos rfl] at H
 replace H:=Option.bind_eq_some_iff.mp H
 obtain ⟨t293,A40,H⟩:=H
 try dsimp only at H
 have A4:=Aside0.mk A40
 clear A40
 have H':=Aside0.mk H
 clear H
 go_enter Try.func7,Try.ntmps7
 go_wp2_with (first|((with_reducible refine gate_callee (f:=24) rfl ?_);refine zgo 8 Try.func24 #[.slice A0 l0.length c0] ?_;(with_reducible refine (impl_IsPlain.calls k _ _ l0 true _ ?side1 ?side2 A2.out).mono ?_);(case side1=>exact zC HR0.out);(case side2=>exact HC0.out);rintro e w5 ⟨rfl,hb⟩;refine ⟨_,rfl,?_⟩;replace HB:=zb1 hb;(try clear hb))|((with_reducible refine gate_callee (f:=25) rfl ?_);refine zgo 11 Try.func25 #[.slice A0 l0.length c0] ?_;(with_reducible refine (impl_weightTable.calls k _ _ l0 t293 _ ?side1 ?side2 A4.out).mono ?_);(case side1=>exact zC (Kd.C_below HR0.out HB.out));(case side2=>exact HC0.out);rintro e w6 ⟨v294,rfl,ho0,hb⟩;refine ⟨_,rfl,?_⟩;have HO295:=Aside0.mk (Kd.R_lower ho0 (below_size zb));replace HB:=zb1 hb;(try clear hb);(try clear ho0);obtain ⟨Ao7,co7,eo7⟩:=Kd.R_slice HO295.out;subst eo7))
 go_loopg [4,13] k (fun kq v4 v13 w'=>∃ (x4_1:Int) (x13_1:Int),v4=.int .i64 x4_1∧v13=.int .i64 x13_1∧Aside0 (impl_LeastLateWeight.l0 kq l0 x4_1 t293 (t293.length:Int) x13_1=some (r1,r2))∧Aside0 (kq≤k)∧Aside0 (Kd.R (Kd.int .i64) 3 w' w.heap.size (fun _=>True) (.slice Ao7 t293.length co7) t293)∧Aside0 (Below w.heap.size w w'))
 case atStart=>exact ⟨(0),(0),zo,zo,H',⟨Nat.le_refl _⟩,⟨zR HO295.out⟩,⟨zb⟩⟩
 case round=>
  clear H'
  obtain ⟨x4_1,x13_1,rfl,rfl,HA,HK1,HO_11,HB⟩:=hrel
  cases gk with
  | zero=>exact absurd HA.out (by simp [impl_LeastLateWeight.l0])
  | succ k1=>
   have H:=HA.out
   clear HA
   simp only [impl_LeastLateWeight.l0] at H
   by_cases c8:x13_1<(t293.length:Int)
   ·rw [if_pos c8] at H
    have c8b0:=decide_eq_true c8
    clear c8
    by_cases c9:0≤x13_1
    rotate_left
    ·rw [if_neg c9] at H
     exact absurd H (by simp)
    rw [if_pos c9] at H
    have c9b0:=decide_eq_true c9
    clear c9
    by_cases c10:x13_1<(t293.length:Int)
    rotate_left
    ·rw [if_neg c10] at H
     exact absurd H (by simp)
    rw [if_pos c10] at H
    have c10b0:=decide_eq_true c10
    clear c10
    obtain ⟨ji11,hji11⟩:∃ j_:Int,(mx x4_1 (rd t293 x13_1))=j_:=⟨_,rfl⟩
    replace H:(impl_LeastLateWeight.l0 k1 l0 ji11 t293 (t293.length:Int) (wrap64 (x13_1 + 1)))=some (r1,r2):=by first|(rw [hji11] at H;exact H)|(simp only [hji11] at H ⊢;exact H)
    have hji11_:(if x4_1<(rd t293 x13_1) then (rd t293 x13_1) else x4_1)=ji11:=hji11
    have H':=Aside0.mk H
    clear H
    have p296:0≤(x13_1:Int):=of_decide_eq_true za
    have q296:x13_1<(t293.length:Int):=of_decide_eq_true za
    obtain ⟨ad296,e296,hx296_0⟩:=Kd.at_int (Kd.R_reads' HO_11.out).2.2 x13_1 p296 q296
    cases e296
    replace p296:=eq_true p296
    replace q296:=eq_true q296
    go_wp2
    go_roundg k1
    case measure=>have:=HK1.out;omega
    case rel=>exact ⟨(ji11),(wrap64 (x13_1 + 1)),(by first|rfl|(simp;done)|(simp only [←hji11] <;> (first|rfl|simp))|(simp [*];done)),zo,H',⟨by have:=HK1.out;omega⟩,⟨zR HO_11.out⟩,⟨zb⟩⟩
   rw [if_neg c8] at H
   have c8b0:=decide_eq_false c8
   clear c8
   replace H:=Option.bind_eq_some_iff.mp H
   obtain ⟨t297,A120,H⟩:=H
   try dsimp only at H
   have A12:=Aside0.mk A120
   clear A120
   replace H:=Option.bind_eq_some_iff.mp H
   obtain ⟨⟨t300,t301⟩,A130,H⟩:=H
   try dsimp only at H
   have A13:=Aside0.mk A130
   clear A130
   simp only [Option.some.injEq,Prod.mk.injEq] at H
   obtain ⟨rfl,rfl⟩:=H
   go_wp2_with (first|((with_reducible refine gate_callee (f:=27) rfl ?_);refine zgo 24 Try.func27 #[.int .i64 (l0.length:Int)] ?_;(with_reducible refine (impl_numbersTo.calls k1 (l0.length:Int) t297 _ A12.out).mono ?_);rintro e w14 ⟨v298,rfl,ho0,hb⟩;refine ⟨_,rfl,?_⟩;have n0_:=Aside0.mk (Kd.R_elder' (zR HO_11.out) (Kd.R_base ho0) hb);have n1_:=Aside0.mk (Kd.R_lower (Kd.R_new' ho0 (Kd.R_lt (zR HO_11.out))) (below_size zb));have n2_:=zb1 hb;clear HO_11;clear HB;have HO_11:=n0_;have HO299:=n1_;have HB:=n2_;clear n0_ n1_ n2_;(try clear hb);(try clear ho0);obtain ⟨Ao15,co15,eo15⟩:=Kd.R_slice HO299.out;subst eo15)|((with_reducible refine gate_callee (f:=26) rfl ?_);refine zgo 25 Try.func26 #[.slice A0 l0.length c0,.slice Ao15 t297.length co15] ?_;(with_reducible refine (impl_ratioOf.calls k1 _ _ l0 _ _ t297 t300 t301 _ ?side1 ?side2 ?side3 ?side4 A13.out).mono ?_);(case side1=>exact zC (Kd.C_below HR0.out HB.out));(case side2=>exact HC0.out);(case side3=>exact zC ((Kd.R_reads' HO299.out).2.2));(case side4=>exact (Kd.R_reads' HO299.out).2.1);rintro e w16 ⟨rfl,hb⟩;refine ⟨_,rfl,?_⟩;replace HO_11:=zRb HO_11 hb;replace HO299:=zRb HO299 hb;replace HB:=zb1 hb;(try clear hb)))
   go_ret2
   exact ⟨zz0,zb⟩

/-! ### spec_l1In: function 78 -/
def spec_l1In.f (a0:Int) (a1:Int) (a2:Int):Option (Bool):=if a0≥a1 then (some (decide (a0≤a2))) else (some false)
set_option maxHeartbeats 8000000 in
set_option maxRecDepth 100000 in
theorem spec_l1In.calls (a0:Int) (a1:Int) (a2:Int) (r:Bool) (w:World) (h:spec_l1In.f a0 a1 a2=some r) :
  Calls Try.prog 78 #[.int .i64 a0,.int .i64 a1,.int .i64 a2] w fun e w'=>e=.returned (.bool r)∧Drawn0 w w':=by
 have H:(if a0≥a1 then (some (decide (a0≤a2))) else (some false))=some r:=h
 clear h
 by_cases c4:a0≥a1
 ·rw [if_pos c4] at H
  have c4b0:=decide_eq_true c4
  clear c4
  obtain rfl:=Option.some.inj H
  go_enter Try.func78,Try.ntmps78
  go_wp2
  go_ret
  exact ⟨zz7,zz5⟩
 rw [if_neg c4] at H
 have c4b0:=decide_eq_false c4
 clear c4
 obtain rfl:=Option.some.inj H
 go_enter Try.func78,Try.ntmps78
 go_wp2
 go_ret
 exact ⟨zz7,zz5⟩

/-! ### spec_l2Job: function 98 -/
def spec_l2Job.f (a0_0:Int) (a0_1:Int) (a0_2:Int) (a0_3:Int):Option (Bool):=(spec_l1In.f a0_0 1 50).bind fun t303=>(if t303=true then ((spec_l1In.f a0_1 0 50).bind fun t304=>(if t304=true then ((spec_l1In.f a0_2 0 500).bind fun t305=>(if t305=true then ((spec_l1In.f a0_3 0 500).bind fun t306=>(some t306)) else (some false))) else (some false))) else (some false))
set_option maxHeartbeats 8000000 in
set_option maxRecDepth 100000 in
theorem spec_l2Job.calls (a0_0:Int) (a0_1:Int) (a0_2:Int) (a0_3:Int) (r:Bool) (w:World) (h:spec_l2Job.f a0_0 a0_1 a0_2 a0_3=some r) :
  Calls Try.prog 98 #[.agg #[.int .i64 a0_0,.int .i64 a0_1,.int .i64 a0_2,.int .i64 a0_3]] w fun e w'=>e=.returned (.bool r)∧Below w.heap.size w w':=by
 have hu31:=Try.underlying31
 have HB:=Aside0.mk (Below.refl w.heap.size w)
 have H:((spec_l1In.f a0_0 1 50).bind fun t303=>(if t303=true then ((spec_l1In.f a0_1 0 50).bind fun t304=>(if t304=true then ((spec_l1In.f a0_2 0 500).bind fun t305=>(if t305=true then ((spec_l1In.f a0_3 0 500).bind fun t306=>(some t306)) else (some false))) else (some false))) else (some false)))=some r:=h
 clear h
 replace H:=Option.bind_eq_some_iff.mp H
 obtain ⟨t303,A20,H⟩:=H
 try dsimp only at H
 have A2:=Aside0.mk A20
 clear A20
 by_cases c3:t303=true
 rotate_left
 ·replace c3:=Bool.eq_false_iff.mpr c3
  subst c3
  rw [if_neg (show ¬ (false=true) by decide)] at H
  obtain rfl:=Option.some.inj H
  go_enter Try.func98,Try.ntmps98
  go_wp2_with (first|((with_reducible refine gate_dst (N:=1) rfl ?_);refine box_event ?hg (N:=1) ?hd (cs:=#[.int .i64 a0_0,.int .i64 a0_1,.int .i64 a0_2,.int .i64 a0_3]) (t:=31) ?hr ?_;(case hd=>rfl);(case hg=>rfl);(case hr=>first|(go_simp;done)|(go_simp;rfl));intro gb302 hg w15 hbox hb;have n0_:=zb1 hb;have n1_:=Aside0.mk (hbox);have n2_:=Aside0.mk ((by rw [hg];exact (below_size zb):w.heap.size≤gb302));have n3_:=Aside0.mk ((by rw [hg];exact (below_size zb):w.heap.size≤gb302));clear HB;have HB:=n0_;have BK302:=n1_;have GW302:=n2_;have GE302:=n3_;clear n0_ n1_ n2_ n3_;clear hb hbox hg;obtain ⟨hcz16_0,hcz16_1,hcz16_2,hcz16_3,hfz16_0,hfz16_1,hfz16_2,hfz16_3⟩:=zk4 BK302.out)|((with_reducible refine gate_callee (f:=78) rfl ?_);refine zgo 5 Try.func78 #[.int .i64 a0_0,.int .i64 1,.int .i64 50] ?_;(with_reducible refine (spec_l1In.calls a0_0 1 50 false _ A2.out).mono ?_);rintro e w' ⟨rfl,⟨nd,rfl⟩⟩;refine ⟨_,rfl,?_⟩))
  go_ret
  exact ⟨zz0,zz37⟩
 subst c3
 rw [if_pos rfl] at H
 replace H:=Option.bind_eq_some_iff.mp H
 obtain ⟨t304,A40,H⟩:=H
 try dsimp only at H
 have A4:=Aside0.mk A40
 clear A40
 by_cases c5:t304=true
 rotate_left
 ·replace c5:=Bool.eq_false_iff.mpr c5
  subst c5
  rw [if_neg (show ¬ (false=true) by decide)] at H
  obtain rfl:=Option.some.inj H
  go_enter Try.func98,Try.ntmps98
  go_wp2_with (first|((with_reducible refine gate_dst (N:=1) rfl ?_);refine box_event ?hg (N:=1) ?hd (cs:=#[.int .i64 a0_0,.int .i64 a0_1,.int .i64 a0_2,.int .i64 a0_3]) (t:=31) ?hr ?_;(case hd=>rfl);(case hg=>rfl);(case hr=>first|(go_simp;done)|(go_simp;rfl));intro gb302 hg w13 hbox hb;have n0_:=zb1 hb;have n1_:=Aside0.mk (hbox);have n2_:=Aside0.mk ((by rw [hg];exact (below_size zb):w.heap.size≤gb302));have n3_:=Aside0.mk ((by rw [hg];exact (below_size zb):w.heap.size≤gb302));clear HB;have HB:=n0_;have BK302:=n1_;have GW302:=n2_;have GE302:=n3_;clear n0_ n1_ n2_ n3_;clear hb hbox hg;obtain ⟨hcz14_0,hcz14_1,hcz14_2,hcz14_3,hfz14_0,hfz14_1,hfz14_2,hfz14_3⟩:=zk4 BK302.out)|((with_reducible refine gate_callee (f:=78) rfl ?_);refine zgo 5 Try.func78 #[.int .i64 a0_0,.int .i64 1,.int .i64 50] ?_;(with_reducible refine (spec_l1In.calls a0_0 1 50 true _ A2.out).mono ?_);rintro e w' ⟨rfl,⟨nd,rfl⟩⟩;refine ⟨_,rfl,?_⟩)|(go_at_call 78;(with_reducible refine (spec_l1In.calls a0_1 0 50 false _ A4.out).mono ?_);rintro e w' ⟨rfl,⟨nd,rfl⟩⟩))
  go_ret
  exact ⟨zz0,zz37⟩
 subst c5
 rw [if_pos rfl] at H
 replace H:=Option.bind_eq_some_iff.mp H
 obtain ⟨t305,A60,H⟩:=H
 try dsimp only at H
 have A6:=Aside0.mk A60
 clear A60
 by_cases c7:t305=true
 rotate_left
 ·replace c7:=Bool.eq_false_iff.mpr c7
  subst c7
  rw [if_neg (show ¬ (false=true) by decide)] at H
  obtain rfl:=Option.some.inj H
  go_enter Try.func98,Try.ntmps98
  go_wp2_with (first|((with_reducible refine gate_dst (N:=1) rfl ?_);refine box_event ?hg (N:=1) ?hd (cs:=#[.int .i64 a0_0,.int .i64 a0_1,.int .i64 a0_2,.int .i64 a0_3]) (t:=31) ?hr ?_;(case hd=>rfl);(case hg=>rfl);(case hr=>first|(go_simp;done)|(go_simp;rfl));intro gb302 hg w11 hbox hb;have n0_:=zb1 hb;have n1_:=Aside0.mk (hbox);have n2_:=Aside0.mk ((by rw [hg];exact (below_size zb):w.heap.size≤gb302));have n3_:=Aside0.mk ((by rw [hg];exact (below_size zb):w.heap.size≤gb302));clear HB;have HB:=n0_;have BK302:=n1_;have GW302:=n2_;have GE302:=n3_;clear n0_ n1_ n2_ n3_;clear hb hbox hg;obtain ⟨hcz12_0,hcz12_1,hcz12_2,hcz12_3,hfz12_0,hfz12_1,hfz12_2,hfz12_3⟩:=zk4 BK302.out)|((with_reducible refine gate_callee (f:=78) rfl ?_);refine zgo 5 Try.func78 #[.int .i64 a0_0,.int .i64 1,.int .i64 50] ?_;(with_reducible refine (spec_l1In.calls a0_0 1 50 true _ A2.out).mono ?_);rintro e w' ⟨rfl,⟨nd,rfl⟩⟩;refine ⟨_,rfl,?_⟩)|(go_at_call 78;(with_reducible refine (spec_l1In.calls a0_1 0 50 true _ A4.out).mono ?_);rintro e w' ⟨rfl,⟨nd,rfl⟩⟩)|(go_at_call 78;(with_reducible refine (spec_l1In.calls a0_2 0 500 false _ A6.out).mono ?_);rintro e w' ⟨rfl,⟨nd,rfl⟩⟩))
  go_ret
  exact ⟨zz0,zz37⟩
 subst c7
 rw [if_pos rfl] at H
 replace H:=Option.bind_eq_some_iff.mp H
 obtain ⟨t306,A80,H⟩:=H
 try dsimp only at H
 have A8:=Aside0.mk A80
 clear A80
 obtain rfl:=Option.some.inj H
 go_enter Try.func98,Try.ntmps98
 go_wp2_with (first|((with_reducible refine gate_dst (N:=1) rfl ?_);refine box_event ?hg (N:=1) ?hd (cs:=#[.int .i64 a0_0,.int .i64 a0_1,.int .i64 a0_2,.int .i64 a0_3]) (t:=31) ?hr ?_;(case hd=>rfl);(case hg=>rfl);(case hr=>first|(go_simp;done)|(go_simp;rfl));intro gb302 hg w9 hbox hb;have n0_:=zb1 hb;have n1_:=Aside0.mk (hbox);have n2_:=Aside0.mk ((by rw [hg];exact (below_size zb):w.heap.size≤gb302));have n3_:=Aside0.mk ((by rw [hg];exact (below_size zb):w.heap.size≤gb302));clear HB;have HB:=n0_;have BK302:=n1_;have GW302:=n2_;have GE302:=n3_;clear n0_ n1_ n2_ n3_;clear hb hbox hg;obtain ⟨hcz10_0,hcz10_1,hcz10_2,hcz10_3,hfz10_0,hfz10_1,hfz10_2,hfz10_3⟩:=zk4 BK302.out)|((with_reducible refine gate_callee (f:=78) rfl ?_);refine zgo 5 Try.func78 #[.int .i64 a0_0,.int .i64 1,.int .i64 50] ?_;(with_reducible refine (spec_l1In.calls a0_0 1 50 true _ A2.out).mono ?_);rintro e w' ⟨rfl,⟨nd,rfl⟩⟩;refine ⟨_,rfl,?_⟩)|(go_at_call 78;(with_reducible refine (spec_l1In.calls a0_1 0 50 true _ A4.out).mono ?_);rintro e w' ⟨rfl,⟨nd,rfl⟩⟩)|(go_at_call 78;(with_reducible refine (spec_l1In.calls a0_2 0 500 true _ A6.out).mono ?_);rintro e w' ⟨rfl,⟨nd,rfl⟩⟩)|(go_at_call 78;(with_reducible refine (spec_l1In.calls a0_3 0 500 t306 _ A8.out).mono ?_);rintro e w' ⟨rfl,⟨nd,rfl⟩⟩))
 go_ret
 exact ⟨zz0,zz37⟩

/-! ### spec_l2Good: function 61 -/
def spec_l2Good.l0:Nat→List (S31)→Int→Option (Bool)
 | 0,_,_=>none
 | k + 1,x0,x3=>if x3<(x0.length:Int) then (if 0≤x3 then ((spec_l2Job.f ((rd_T31 x0 x3).f0) ((rd_T31 x0 x3).f1) ((rd_T31 x0 x3).f2) ((rd_T31 x0 x3).f3)).bind fun t308=>(if t308=true then (spec_l2Good.l0 k x0 (wrap64 (x3 + 1))) else (some false))) else (none)) else (some (decide ((x0.length:Int)≤8)))
def spec_l2Good.f (k:Nat) (l0:List (S31)):Option (Bool):=spec_l2Good.l0 k l0 0
theorem spec_l2Good.mono_l:∀ k,(∀ y0 y1,LeO (spec_l2Good.l0 k y0 y1) (spec_l2Good.l0 (k + 1) y0 y1))
 | 0=>fun _ _ r h=>by simp [spec_l2Good.l0] at h
 | k + 1=>by
  have ih0:=spec_l2Good.mono_l k
  ·intro y0 y1
   unfold spec_l2Good.l0
   repeat' first|(with_reducible first|apply ih0|exact LeO.refl _|exact LeO.none _|refine LeO.ite ?_ ?_|refine LeO.bind ?_ (fun _=>?_))|apply ih0|exact LeO.none _|refine LeO.ite ?_ ?_|refine LeO.bind ?_ (fun _=>?_)
theorem spec_l2Good.mono:∀ a0 k,LeO (spec_l2Good.f k a0) (spec_l2Good.f (k + 1) a0):=by
 intro a0 k
 have ih0:=spec_l2Good.mono_l k
 unfold spec_l2Good.f
 repeat' first|(with_reducible first|apply ih0|exact LeO.refl _|exact LeO.none _|refine LeO.ite ?_ ?_|refine LeO.bind ?_ (fun _=>?_))|apply ih0|exact LeO.none _|refine LeO.ite ?_ ?_|refine LeO.bind ?_ (fun _=>?_)
set_option maxHeartbeats 8000000 in
set_option maxRecDepth 100000 in
theorem spec_l2Good.calls (k:Nat) (A0:Option Addr) (c0:Nat) (l0:List (S31)) (r:Bool) (w:World) (hr0:Kd.C k31 w A0 l0.length l0) (hc0:l0.length≤c0) (h:spec_l2Good.f k l0=some r) :
  Calls Try.prog 61 #[.slice A0 l0.length c0] w fun e w'=>e=.returned (.bool r)∧Below w.heap.size w w':=by
 have hu31:=Try.underlying31
 have HR0:=Aside0.mk hr0
 have HC0:=Aside0.mk hc0
 clear hr0 hc0
 have HB:=Aside0.mk (Below.refl w.heap.size w)
 have H:(spec_l2Good.l0 k l0 0)=some r:=h
 clear h
 have H':=Aside0.mk H
 clear H
 go_enter Try.func61,Try.ntmps61
 go_wp2
 go_loopg [3] k (fun kq v3 w'=>∃ (x3_1:Int),v3=.int .i64 x3_1∧Aside0 (spec_l2Good.l0 kq l0 x3_1=some r)∧Aside0 (kq≤k)∧Aside0 (Below w.heap.size w w'))
 case atStart=>exact ⟨(0),zo,H',⟨Nat.le_refl _⟩,⟨zb⟩⟩
 case round=>
  clear H'
  obtain ⟨x3_1,rfl,HA,HK1,HB⟩:=hrel
  cases gk with
  | zero=>exact absurd HA.out (by simp [spec_l2Good.l0])
  | succ k1=>
   have H:=HA.out
   clear HA
   simp only [spec_l2Good.l0] at H
   by_cases c2:x3_1<(l0.length:Int)
   rotate_left
   ·rw [if_neg c2] at H
    have c2b0:=decide_eq_false c2
    clear c2
    obtain rfl:=Option.some.inj H
    go_wp2
    go_ret
    exact ⟨zz0,zb⟩
   rw [if_pos c2] at H
   have c2b0:=decide_eq_true c2
   clear c2
   by_cases c3:0≤x3_1
   rotate_left
   ·rw [if_neg c3] at H
    exact absurd H (by simp)
   rw [if_pos c3] at H
   have c3b0:=decide_eq_true c3
   clear c3
   replace H:=Option.bind_eq_some_iff.mp H
   obtain ⟨t308,A40,H⟩:=H
   try dsimp only at H
   have A4:=Aside0.mk A40
   clear A40
   by_cases c5:t308=true
   ·subst c5
    rw [if_pos rfl] at H
    have H':=Aside0.mk H
    clear H
    have p307:0≤(x3_1:Int):=of_decide_eq_true za
    have q307:x3_1<(l0.length:Int):=of_decide_eq_true za
    obtain ⟨ad307,e307,hx307_0,hx307_1,hx307_2,hx307_3⟩:=at_T31 HR0.out x3_1 p307 q307
    cases e307
    replace hx307_0:=zh_ HB hx307_0
    replace hx307_1:=zh_ HB hx307_1
    replace hx307_2:=zh_ HB hx307_2
    replace hx307_3:=zh_ HB hx307_3
    replace p307:=eq_true p307
    replace q307:=eq_true q307
    go_wp2_with (first|((with_reducible refine gate_callee (f:=98) rfl ?_);refine zgo 14 Try.func98 #[.agg #[.int .i64 ((rd_T31 l0 x3_1).f0),.int .i64 ((rd_T31 l0 x3_1).f1),.int .i64 ((rd_T31 l0 x3_1).f2),.int .i64 ((rd_T31 l0 x3_1).f3)]] ?_;(with_reducible refine (spec_l2Job.calls ((rd_T31 l0 x3_1).f0) ((rd_T31 l0 x3_1).f1) ((rd_T31 l0 x3_1).f2) ((rd_T31 l0 x3_1).f3) true _ A4.out).mono ?_);rintro e w6 ⟨rfl,hb⟩;refine ⟨_,rfl,?_⟩;replace HB:=zb1 hb;(try clear hb)))
    go_roundg k1
    case measure=>have:=HK1.out;omega
    case rel=>exact ⟨(wrap64 (x3_1 + 1)),zo,H',⟨by have:=HK1.out;omega⟩,⟨zb⟩⟩
   replace c5:=Bool.eq_false_iff.mpr c5
   subst c5
   rw [if_neg (show ¬ (false=true) by decide)] at H
   obtain rfl:=Option.some.inj H
   have p307:0≤(x3_1:Int):=of_decide_eq_true za
   have q307:x3_1<(l0.length:Int):=of_decide_eq_true za
   obtain ⟨ad307,e307,hx307_0,hx307_1,hx307_2,hx307_3⟩:=at_T31 HR0.out x3_1 p307 q307
   cases e307
   replace hx307_0:=zh_ HB hx307_0
   replace hx307_1:=zh_ HB hx307_1
   replace hx307_2:=zh_ HB hx307_2
   replace hx307_3:=zh_ HB hx307_3
   replace p307:=eq_true p307
   replace q307:=eq_true q307
   go_wp2_with (first|((with_reducible refine gate_callee (f:=98) rfl ?_);refine zgo 14 Try.func98 #[.agg #[.int .i64 ((rd_T31 l0 x3_1).f0),.int .i64 ((rd_T31 l0 x3_1).f1),.int .i64 ((rd_T31 l0 x3_1).f2),.int .i64 ((rd_T31 l0 x3_1).f3)]] ?_;(with_reducible refine (spec_l2Job.calls ((rd_T31 l0 x3_1).f0) ((rd_T31 l0 x3_1).f1) ((rd_T31 l0 x3_1).f2) ((rd_T31 l0 x3_1).f3) false _ A4.out).mono ?_);rintro e w7 ⟨rfl,hb⟩;refine ⟨_,rfl,?_⟩;replace HB:=zb1 hb;(try clear hb)))
   go_ret
   exact ⟨zz0,zb⟩

end Go.Proofs.Ytkolecmpncaooaa.XFnLateWeight
-- minified
