-- Written by a program of this session (the kit's print, widened). Proved here: what each function answers, for the arguments that its contract names.
import Derived.Test.YtbcfmegepkhlpaaXFnSharedx0
import Derived.Test.YtbcfmegepkhlpaaXFnSharedx4
import Derived.Test.YtbcfmegepkhlpaaXFnSharedx5
namespace Go.Proofs.Ytbcfmegepkhlpaa.XFnShared
open Go.RowKit Go.Proofs.YtbcfmegepkhlpaaW.PrintWords Go.Proofs.YtbcfmegepkhlpaaW.PrintLast Go.Proofs.YtbcfmegepkhlpaaW.PrintMore
attribute [local go_sem] max2_int min2_int max_two min_two max_three min_three max_four min_four   -- for this text's walks alone
attribute [local go_sem] idxA_72_0 idxA_72_1 fldS_96_0 fldS_96_1 fldS_96_2 fldS_111_0 fldS_111_1 fldS_111_2
set_option linter.unusedVariables false
set_option linter.unusedSimpArgs false

/-! ### spec_l7Tails: function 77 -/
def spec_l7Tails.l0:Nat→List (S76)→List Int→List (List Bool)→Int→Option (List Int)
 | 0,_,_,_,_=>none
 | k + 1,x0,x5,x6,x7=>if x7<(x0.length:Int) then ((spec_l7Tail.f k x0 x6 x7).bind fun t166=>(if x5.length<17592186044416 then (spec_l7Tails.l0 k x0 (x5++[t166]) x6 (wrap64 (x7 + 1))) else (none))) else (some x5)
def spec_l7Tails.f (k:Nat) (l0:List (S76)) (l1:List (S72)):Option (List Int):=(spec_l4Table.f k (l0.length:Int) l1).bind fun t163=>(spec_l7Tails.l0 k l0 (([]:List Int)) t163 0)
theorem spec_l7Tails.mono_l:∀ k,(∀ y0 y1 y2 y3,LeO (spec_l7Tails.l0 k y0 y1 y2 y3) (spec_l7Tails.l0 (k + 1) y0 y1 y2 y3))
 | 0=>fun _ _ _ _ r h=>by simp [spec_l7Tails.l0] at h
 | k + 1=>by
  have ih0:=spec_l7Tails.mono_l k
  ·intro y0 y1 y2 y3
   unfold spec_l7Tails.l0
   repeat' first|(with_reducible first|apply ih0|exact spec_l4Table.mono _ _ _|exact spec_l7Tail.mono _ _ _ _|exact LeO.refl _|exact LeO.none _|refine LeO.ite ?_ ?_|refine LeO.bind ?_ (fun _=>?_))|apply ih0|exact spec_l4Table.mono _ _ _|exact spec_l7Tail.mono _ _ _ _|exact LeO.none _|refine LeO.ite ?_ ?_|refine LeO.bind ?_ (fun _=>?_)
theorem spec_l7Tails.mono:∀ a0 a1 k,LeO (spec_l7Tails.f k a0 a1) (spec_l7Tails.f (k + 1) a0 a1):=by
 intro a0 a1 k
 have ih0:=spec_l7Tails.mono_l k
 unfold spec_l7Tails.f
 repeat' first|(with_reducible first|apply ih0|exact spec_l4Table.mono _ _ _|exact spec_l7Tail.mono _ _ _ _|exact LeO.refl _|exact LeO.none _|refine LeO.ite ?_ ?_|refine LeO.bind ?_ (fun _=>?_))|apply ih0|exact spec_l4Table.mono _ _ _|exact spec_l7Tail.mono _ _ _ _|exact LeO.none _|refine LeO.ite ?_ ?_|refine LeO.bind ?_ (fun _=>?_)
set_option maxHeartbeats 8000000 in
set_option maxRecDepth 100000 in
theorem spec_l7Tails.calls (k:Nat) (A0:Option Addr) (c0:Nat) (l0:List (S76)) (A1:Option Addr) (c1:Nat) (l1:List (S72)) (r:List Int) (w:World) (hr0:Kd.C k76 w A0 l0.length l0) (hc0:l0.length≤c0) (hr1:Kd.C k72 w A1 l1.length l1) (hc1:l1.length≤c1) (h:spec_l7Tails.f k l0 l1=some r) :
  Calls Try.prog 77 #[.slice A0 l0.length c0,.slice A1 l1.length c1] w fun e w'=>∃ v0_:Value,e=.returned (v0_)∧Kd.R (Kd.int .i64) 3 w' w.heap.size (fun _=>True) v0_ r∧Below w.heap.size w w':=by
 have HR0:=Aside0.mk hr0
 have HC0:=Aside0.mk hc0
 clear hr0 hc0
 have HR1:=Aside0.mk hr1
 have HC1:=Aside0.mk hc1
 clear hr1 hc1
 have HB:=Aside0.mk (Below.refl w.heap.size w)
 have H:((spec_l4Table.f k (l0.length:Int) l1).bind fun t163=>(spec_l7Tails.l0 k l0 (([]:List Int)) t163 0))=some r:=h
 clear h
 obtain ⟨y160,hy160⟩:∃ y_:List Int,y_=(([]:List Int)):=⟨_,rfl⟩
 replace H:((spec_l4Table.f k (l0.length:Int) l1).bind fun t163=>(spec_l7Tails.l0 k l0 y160 t163 0))=some r:=by first|(rw [hy160];with_reducible exact H)|(have H2_:=(Option.bind_some _ _).symm.trans H;rw [hy160];with_reducible exact H2_)|(have H2_:=(Option.bind_some _ _).symm.trans H;with_reducible exact H2_)|with_reducible exact H|(rw [hy160];exact H)|exact H
 have Ny160:=Aside0.mk hy160
 clear hy160
 replace H:=Option.bind_eq_some_iff.mp H
 obtain ⟨t163,A30,H⟩:=H
 try dsimp only at H
 have A3:=Aside0.mk A30
 clear A30
 have H':=Aside0.mk H
 clear H
 go_enter Try.func77,Try.ntmps77
 go_wp2_with (first|((with_reducible refine gate_dst (N:=8) rfl ?_);refine Kd.R_lit (Kd.int .i64) _ 3 ?hg (N:=8) ?hd (xs:=([]:List Int)) (inner:=[]) (ok:=fun _=>True) (okp:=fun _=>True) ?hr ?hp (fun _ hk=>hk) trivial (Below.refl _ _) (Nat.le_refl _) (by simp) ?_;(case hd=>rfl);(case hg=>rfl);(case hr=>first|(go_simp;done)|(go_simp;rfl));(case hp=>exact (Reps.none _ _));intro v161 w4 ho5 hb hg_ hnew_;clear hg_ hnew_;(first|rw [←Ny160.out] at ho5|(simp only [Int.reduceToNat] at ho5;rw [←Ny160.out] at ho5));have HO162:=Aside0.mk (Kd.R_lower ho5 (below_size zb));replace HB:=zb1 hb;clear hb ho5)|((with_reducible refine gate_callee (f:=107) rfl ?_);refine zgo 12 Try.func107 #[.int .i64 (l0.length:Int),.slice A1 l1.length c1] ?_;(with_reducible refine (spec_l4Table.calls k (l0.length:Int) _ _ l1 t163 _ ?side1 ?side2 A3.out).mono ?_);(case side1=>exact zC (Kd.C_below HR1.out HB.out));(case side2=>exact HC1.out);rintro e w6 ⟨v164,rfl,ho0,hb⟩;refine ⟨_,rfl,?_⟩;replace HO162:=zRb HO162 hb;have HO165:=Aside0.mk (Kd.S_lower ho0 (below_size zb));replace HB:=zb1 hb;(try clear hb);(try clear ho0)))
 go_loopg [5,7] k (fun kq v5 v7 w'=>∃ (x5_1:List Int) (x7_1:Int),v7=.int .i64 x7_1∧Aside0 (spec_l7Tails.l0 kq l0 x5_1 t163 x7_1=some r)∧Aside0 (kq≤k)∧Aside0 (Kd.R (Kd.int .i64) 3 w' w.heap.size (fun _=>True) v5 x5_1)∧Aside0 (Kd.S (Kd.slice 4 Kd.bool) 127 w' w.heap.size (fun _=>True) v164 t163)∧Aside0 (Below w.heap.size w w'))
 case atStart=>exact ⟨(y160),(0),zo,H',⟨Nat.le_refl _⟩,⟨zR HO162.out⟩,⟨zS HO165.out⟩,⟨zb⟩⟩
 case round=>
  clear H'
  obtain ⟨x5_1,x7_1,rfl,HA,HK1,HO_5,HO_6,HB⟩:=hrel
  cases gk with
  | zero=>exact absurd HA.out (by simp [spec_l7Tails.l0])
  | succ k1=>
   have H:=HA.out
   clear HA
   simp only [spec_l7Tails.l0] at H
   by_cases c7:x7_1<(l0.length:Int)
   rotate_left
   ·rw [if_neg c7] at H
    have c7b0:=decide_eq_false c7
    clear c7
    obtain rfl:=Option.some.inj H
    go_wp2
    go_ret
    exact ⟨_,zz1,zR HO_5.out,zb⟩
   rw [if_pos c7] at H
   have c7b0:=decide_eq_true c7
   clear c7
   replace H:=Option.bind_eq_some_iff.mp H
   obtain ⟨t166,A80,H⟩:=H
   try dsimp only at H
   have A8:=Aside0.mk A80
   clear A80
   by_cases c9:x5_1.length<17592186044416
   rotate_left
   ·rw [if_neg c9] at H
    exact absurd H (by simp)
   rw [if_pos c9] at H
   have LMc9:=Aside0.mk c9
   clear c9
   obtain ⟨y167,hy167⟩:∃ y_:List Int,y_=(x5_1++[t166]):=⟨_,rfl⟩
   replace H:(spec_l7Tails.l0 k1 l0 y167 t163 (wrap64 (x7_1 + 1)))=some r:=by first|(rw [hy167];with_reducible exact H)|(have H2_:=(Option.bind_some _ _).symm.trans H;rw [hy167];with_reducible exact H2_)|(have H2_:=(Option.bind_some _ _).symm.trans H;with_reducible exact H2_)|with_reducible exact H|(rw [hy167];exact H)|exact H
   have Ny167:=Aside0.mk hy167
   clear hy167
   have H':=Aside0.mk H
   clear H
   obtain ⟨Ao10,co10,eo10⟩:=Kd.S_slice HO_6.out
   subst eo10
   go_wp2_with (first|((with_reducible refine gate_callee (f:=133) rfl ?_);refine zgo 23 Try.func133 #[.slice A0 l0.length c0,.slice Ao10 t163.length co10,.int .i64 x7_1] ?_;(with_reducible refine (spec_l7Tail.calls k1 _ _ l0 _ _ t163 x7_1 t166 _ ?side1 ?side2 ?side3 ?side4 A8.out).mono ?_);(case side1=>exact zC (Kd.C_below HR0.out HB.out));(case side2=>exact HC0.out);(case side3=>exact zC ((Kd.S_reads' HO_6.out).2.2));(case side4=>exact (Kd.S_reads' HO_6.out).2.1);rintro e w' ⟨rfl,⟨nd,rfl⟩⟩;refine ⟨_,rfl,?_⟩)|((with_reducible refine gate_builtin (b:=.append) (xs:=#[.tmp 19,.tmp 24]) rfl ?_);at_builtin;refine Kd.R_append (Kd.int .i64) (w0:=w) w.heap.size rfl (.tmp 19) (.tmp 24) 43 3 (.int .i64 0) 8 rfl Try.underlying43 info3 rfl (by decide) (by omega) u5 x5_1 t166 [.int .i64 t166] (fun _=>True) (fun _=>False) rfl rfl ?aP (fun _ hk=>hk.elim) ?aF ?aO ?aB ?aS ?aL ?_;(case aP=>exact rfl);(case aB=>exact zb);(case aF=>exact (fun _ _=>trivial));(case aO=>exact (zR HO_5.out));(case aS=>exact (below_size zb));(case aL=>have:=LMc9.out;omega);intro v168 w11 ho hb hg hat;rw [←Ny167.out] at ho;replace HO_6:=Aside0.mk (Kd.S_over' (zS HO_6.out) (Kd.R_typed (zR HO_5.out)) (by decide) hg);replace HB:=Aside0.mk (hb);have HO169:=Aside0.mk (ho);clear HO_5;clear ho hb hg hat))
   go_roundg k1
   case measure=>have:=HK1.out;omega
   case rel=>exact ⟨(y167),(wrap64 (x7_1 + 1)),zo,H',⟨by have:=HK1.out;omega⟩,⟨zR HO169.out⟩,⟨zS HO_6.out⟩,⟨zb⟩⟩

/-! ### spec_l2Last: function 146 -/
def spec_l2Last.l0:Nat→List Int→Int→Int→Option (Int)
 | 0,_,_,_=>none
 | k + 1,x0,x3,x4=>if x4<(x0.length:Int) then (if 0≤x4 then ((spec_l1Most.f x3 (rd x0 x4)).bind fun t171=>(spec_l2Last.l0 k x0 t171 (wrap64 (x4 + 1)))) else (none)) else (some x3)
def spec_l2Last.f (k:Nat) (l0:List Int):Option (Int):=spec_l2Last.l0 k l0 0 0
theorem spec_l2Last.mono_l:∀ k,(∀ y0 y1 y2,LeO (spec_l2Last.l0 k y0 y1 y2) (spec_l2Last.l0 (k + 1) y0 y1 y2))
 | 0=>fun _ _ _ r h=>by simp [spec_l2Last.l0] at h
 | k + 1=>by
  have ih0:=spec_l2Last.mono_l k
  ·intro y0 y1 y2
   unfold spec_l2Last.l0
   repeat' first|(with_reducible first|apply ih0|exact LeO.refl _|exact LeO.none _|refine LeO.ite ?_ ?_|refine LeO.bind ?_ (fun _=>?_))|apply ih0|exact LeO.none _|refine LeO.ite ?_ ?_|refine LeO.bind ?_ (fun _=>?_)
theorem spec_l2Last.mono:∀ a0 k,LeO (spec_l2Last.f k a0) (spec_l2Last.f (k + 1) a0):=by
 intro a0 k
 have ih0:=spec_l2Last.mono_l k
 unfold spec_l2Last.f
 repeat' first|(with_reducible first|apply ih0|exact LeO.refl _|exact LeO.none _|refine LeO.ite ?_ ?_|refine LeO.bind ?_ (fun _=>?_))|apply ih0|exact LeO.none _|refine LeO.ite ?_ ?_|refine LeO.bind ?_ (fun _=>?_)
set_option maxHeartbeats 8000000 in
set_option maxRecDepth 100000 in
theorem spec_l2Last.calls (k:Nat) (A0:Option Addr) (c0:Nat) (l0:List Int) (r:Int) (w:World) (hr0:Kd.C (Kd.int .i64) w A0 l0.length l0) (hc0:l0.length≤c0) (h:spec_l2Last.f k l0=some r) :
  Calls Try.prog 146 #[.slice A0 l0.length c0] w fun e w'=>e=.returned (.int .i64 r)∧Drawn0 w w':=by
 have HR0:=Aside0.mk hr0
 have HC0:=Aside0.mk hc0
 clear hr0 hc0
 have H:(spec_l2Last.l0 k l0 0 0)=some r:=h
 clear h
 have H':=Aside0.mk H
 clear H
 go_enter Try.func146,Try.ntmps146
 go_wp2
 go_loopg [3,4] k (fun kq v3 v4 w'=>∃ (x3_1:Int) (x4_1:Int),v3=.int .i64 x3_1∧v4=.int .i64 x4_1∧Aside0 (spec_l2Last.l0 kq l0 x3_1 x4_1=some r)∧Aside0 (kq≤k)∧Drawn0 w w')
 case atStart=>exact ⟨(0),(0),zo,zo,H',⟨Nat.le_refl _⟩,zz6⟩
 case round=>
  clear H'
  try clear c1
  obtain ⟨x3_1,x4_1,rfl,rfl,HA,HK1,⟨m1,rfl⟩⟩:=hrel
  cases gk with
  | zero=>exact absurd HA.out (by simp [spec_l2Last.l0])
  | succ k1=>
   have H:=HA.out
   clear HA
   simp only [spec_l2Last.l0] at H
   by_cases c2:x4_1<(l0.length:Int)
   rotate_left
   ·rw [if_neg c2] at H
    have c2b0:=decide_eq_false c2
    clear c2
    obtain rfl:=Option.some.inj H
    go_wp2
    go_ret
    exact ⟨zz7,zz6⟩
   rw [if_pos c2] at H
   have c2b0:=decide_eq_true c2
   clear c2
   by_cases c3:0≤x4_1
   rotate_left
   ·rw [if_neg c3] at H
    exact absurd H (by simp)
   rw [if_pos c3] at H
   have c3b0:=decide_eq_true c3
   clear c3
   replace H:=Option.bind_eq_some_iff.mp H
   obtain ⟨t171,A40,H⟩:=H
   try dsimp only at H
   have A4:=Aside0.mk A40
   clear A40
   have H':=Aside0.mk H
   clear H
   have p170:0≤(x4_1:Int):=of_decide_eq_true za
   have q170:x4_1<(l0.length:Int):=of_decide_eq_true za
   obtain ⟨ad170,e170,hx170_0⟩:=Kd.at_int HR0.out x4_1 p170 q170
   cases e170
   replace p170:=eq_true p170
   replace q170:=eq_true q170
   go_wp2_with (first|((with_reducible refine gate_callee (f:=145) rfl ?_);refine zgo 16 Try.func145 #[.int .i64 x3_1,.int .i64 (rd l0 x4_1)] ?_;(with_reducible refine (spec_l1Most.calls x3_1 (rd l0 x4_1) t171 _ A4.out).mono ?_);rintro e w' ⟨rfl,⟨nd,rfl⟩⟩;refine ⟨_,rfl,?_⟩))
   go_roundg k1
   case measure=>have:=HK1.out;omega
   case rel=>exact ⟨(t171),(wrap64 (x4_1 + 1)),zo,zo,H',⟨by have:=HK1.out;omega⟩,zz6⟩

/-! ### spec_l2Times: function 147 -/
def spec_l2Times.l0:Nat→List (S76)→Int→Int→Option (Int)
 | 0,_,_,_=>none
 | k + 1,x0,x3,x4=>if x4<(x0.length:Int) then (if 0≤x4 then (spec_l2Times.l0 k x0 (wrap64 (x3 + ((rd_T76 x0 x4).f0))) (wrap64 (x4 + 1))) else (none)) else (some x3)
def spec_l2Times.f (k:Nat) (l0:List (S76)):Option (Int):=spec_l2Times.l0 k l0 0 0
theorem spec_l2Times.mono_l:∀ k,(∀ y0 y1 y2,LeO (spec_l2Times.l0 k y0 y1 y2) (spec_l2Times.l0 (k + 1) y0 y1 y2))
 | 0=>fun _ _ _ r h=>by simp [spec_l2Times.l0] at h
 | k + 1=>by
  have ih0:=spec_l2Times.mono_l k
  ·intro y0 y1 y2
   unfold spec_l2Times.l0
   repeat' first|(with_reducible first|apply ih0|exact LeO.refl _|exact LeO.none _|refine LeO.ite ?_ ?_|refine LeO.bind ?_ (fun _=>?_))|apply ih0|exact LeO.none _|refine LeO.ite ?_ ?_|refine LeO.bind ?_ (fun _=>?_)
theorem spec_l2Times.mono:∀ a0 k,LeO (spec_l2Times.f k a0) (spec_l2Times.f (k + 1) a0):=by
 intro a0 k
 have ih0:=spec_l2Times.mono_l k
 unfold spec_l2Times.f
 repeat' first|(with_reducible first|apply ih0|exact LeO.refl _|exact LeO.none _|refine LeO.ite ?_ ?_|refine LeO.bind ?_ (fun _=>?_))|apply ih0|exact LeO.none _|refine LeO.ite ?_ ?_|refine LeO.bind ?_ (fun _=>?_)
set_option maxHeartbeats 8000000 in
set_option maxRecDepth 100000 in
theorem spec_l2Times.calls (k:Nat) (A0:Option Addr) (c0:Nat) (l0:List (S76)) (r:Int) (w:World) (hr0:Kd.C k76 w A0 l0.length l0) (hc0:l0.length≤c0) (h:spec_l2Times.f k l0=some r) :
  Calls Try.prog 147 #[.slice A0 l0.length c0] w fun e w'=>e=.returned (.int .i64 r)∧Drawn0 w w':=by
 have HR0:=Aside0.mk hr0
 have HC0:=Aside0.mk hc0
 clear hr0 hc0
 have H:(spec_l2Times.l0 k l0 0 0)=some r:=h
 clear h
 have H':=Aside0.mk H
 clear H
 go_enter Try.func147,Try.ntmps147
 go_wp2
 go_loopg [3,4] k (fun kq v3 v4 w'=>∃ (x3_1:Int) (x4_1:Int),v3=.int .i64 x3_1∧v4=.int .i64 x4_1∧Aside0 (spec_l2Times.l0 kq l0 x3_1 x4_1=some r)∧Aside0 (kq≤k)∧Drawn0 w w')
 case atStart=>exact ⟨(0),(0),zo,zo,H',⟨Nat.le_refl _⟩,zz6⟩
 case round=>
  clear H'
  try clear c1
  obtain ⟨x3_1,x4_1,rfl,rfl,HA,HK1,⟨m1,rfl⟩⟩:=hrel
  cases gk with
  | zero=>exact absurd HA.out (by simp [spec_l2Times.l0])
  | succ k1=>
   have H:=HA.out
   clear HA
   simp only [spec_l2Times.l0] at H
   by_cases c2:x4_1<(l0.length:Int)
   rotate_left
   ·rw [if_neg c2] at H
    have c2b0:=decide_eq_false c2
    clear c2
    obtain rfl:=Option.some.inj H
    go_wp2
    go_ret
    exact ⟨zz7,zz6⟩
   rw [if_pos c2] at H
   have c2b0:=decide_eq_true c2
   clear c2
   by_cases c3:0≤x4_1
   rotate_left
   ·rw [if_neg c3] at H
    exact absurd H (by simp)
   rw [if_pos c3] at H
   have c3b0:=decide_eq_true c3
   clear c3
   have H':=Aside0.mk H
   clear H
   have p172:0≤(x4_1:Int):=of_decide_eq_true za
   have q172:x4_1<(l0.length:Int):=of_decide_eq_true za
   obtain ⟨ad172,e172,hx172_0,hx172_1,hx172_2,hx172_3⟩:=at_T76 HR0.out x4_1 p172 q172
   cases e172
   replace p172:=eq_true p172
   replace q172:=eq_true q172
   go_wp2
   go_roundg k1
   case measure=>have:=HK1.out;omega
   case rel=>exact ⟨(wrap64 (x3_1 + ((rd_T76 l0 x4_1).f0))),(wrap64 (x4_1 + 1)),zo,zo,H',⟨by have:=HK1.out;omega⟩,zz6⟩

/-! ### spec_l7Bound: function 91 -/
def spec_l7Bound.f (k:Nat) (l0:List (S76)) (a1:Int) (l2:List (S72)):Option (Int):=(spec_l7Tails.f k l0 l2).bind fun t173=>((spec_l2Last.f k t173).bind fun t176=>((spec_l2Times.f k l0).bind fun t177=>(if a1=0 then (none) else ((spec_l1Most.f t176 (wrap64 (Int.tdiv (wrap64 ((wrap64 (t177 + a1)) - 1)) a1))).bind fun t178=>(some t178)))))
theorem spec_l7Bound.mono:∀ a0 a1 a2 k,LeO (spec_l7Bound.f k a0 a1 a2) (spec_l7Bound.f (k + 1) a0 a1 a2):=by
 intro a0 a1 a2 k
 unfold spec_l7Bound.f
 repeat' first|(with_reducible first|exact spec_l2Last.mono _ _|exact spec_l2Times.mono _ _|exact spec_l7Tails.mono _ _ _|exact LeO.refl _|exact LeO.none _|refine LeO.ite ?_ ?_|refine LeO.bind ?_ (fun _=>?_))|exact spec_l2Last.mono _ _|exact spec_l2Times.mono _ _|exact spec_l7Tails.mono _ _ _|exact LeO.none _|refine LeO.ite ?_ ?_|refine LeO.bind ?_ (fun _=>?_)
set_option maxHeartbeats 8000000 in
set_option maxRecDepth 100000 in
theorem spec_l7Bound.calls (k:Nat) (A0:Option Addr) (c0:Nat) (l0:List (S76)) (a1:Int) (A2:Option Addr) (c2:Nat) (l2:List (S72)) (r:Int) (w:World) (hr0:Kd.C k76 w A0 l0.length l0) (hc0:l0.length≤c0) (hr2:Kd.C k72 w A2 l2.length l2) (hc2:l2.length≤c2) (h:spec_l7Bound.f k l0 a1 l2=some r) :
  Calls Try.prog 91 #[.slice A0 l0.length c0,.int .i64 a1,.slice A2 l2.length c2] w fun e w'=>e=.returned (.int .i64 r)∧Below w.heap.size w w':=by
 have HR0:=Aside0.mk hr0
 have HC0:=Aside0.mk hc0
 clear hr0 hc0
 have HR2:=Aside0.mk hr2
 have HC2:=Aside0.mk hc2
 clear hr2 hc2
 have HB:=Aside0.mk (Below.refl w.heap.size w)
 have H:((spec_l7Tails.f k l0 l2).bind fun t173=>((spec_l2Last.f k t173).bind fun t176=>((spec_l2Times.f k l0).bind fun t177=>(if a1=0 then (none) else ((spec_l1Most.f t176 (wrap64 (Int.tdiv (wrap64 ((wrap64 (t177 + a1)) - 1)) a1))).bind fun t178=>(some t178))))))=some r:=h
 clear h
 replace H:=Option.bind_eq_some_iff.mp H
 obtain ⟨t173,A40,H⟩:=H
 try dsimp only at H
 have A4:=Aside0.mk A40
 clear A40
 replace H:=Option.bind_eq_some_iff.mp H
 obtain ⟨t176,A50,H⟩:=H
 try dsimp only at H
 have A5:=Aside0.mk A50
 clear A50
 replace H:=Option.bind_eq_some_iff.mp H
 obtain ⟨t177,A60,H⟩:=H
 try dsimp only at H
 have A6:=Aside0.mk A60
 clear A60
 by_cases c7:a1=0
 ·rw [if_pos c7] at H
  exact absurd H (by simp)
 rw [if_neg c7] at H
 have c7b0:(a1 == 0)=false:=beq_eq_false_iff_ne.mpr c7
 have c7b1:(a1 != 0)=true:=bne_iff_ne.mpr c7
 replace H:=Option.bind_eq_some_iff.mp H
 obtain ⟨t178,A80,H⟩:=H
 try dsimp only at H
 have A8:=Aside0.mk A80
 clear A80
 obtain rfl:=Option.some.inj H
 go_enter Try.func91,Try.ntmps91
 go_wp2_with (first|((with_reducible refine gate_callee (f:=77) rfl ?_);refine zgo 9 Try.func77 #[.slice A0 l0.length c0,.slice A2 l2.length c2] ?_;(with_reducible refine (spec_l7Tails.calls k _ _ l0 _ _ l2 t173 _ ?side1 ?side2 ?side3 ?side4 A4.out).mono ?_);(case side1=>exact zC HR0.out);(case side2=>exact HC0.out);(case side3=>exact zC HR2.out);(case side4=>exact HC2.out);rintro e w9 ⟨v174,rfl,ho0,hb⟩;refine ⟨_,rfl,?_⟩;have HO175:=Aside0.mk (Kd.R_lower ho0 (below_size zb));replace HB:=zb1 hb;(try clear hb);(try clear ho0);obtain ⟨Ao10,co10,eo10⟩:=Kd.R_slice HO175.out;subst eo10)|((with_reducible refine gate_callee (f:=146) rfl ?_);refine zgo 10 Try.func146 #[.slice Ao10 t173.length co10] ?_;(with_reducible refine (spec_l2Last.calls k _ _ t173 t176 _ ?side1 ?side2 A5.out).mono ?_);(case side1=>exact zC ((Kd.R_reads' HO175.out).2.2));(case side2=>exact (Kd.R_reads' HO175.out).2.1);rintro e w' ⟨rfl,⟨nd,rfl⟩⟩;refine ⟨_,rfl,?_⟩)|((with_reducible refine gate_callee (f:=147) rfl ?_);refine zgo 12 Try.func147 #[.slice A0 l0.length c0] ?_;(with_reducible refine (spec_l2Times.calls k _ _ l0 t177 _ ?side1 ?side2 A6.out).mono ?_);(case side1=>exact zC (Kd.C_below HR0.out zb));(case side2=>exact HC0.out);rintro e w' ⟨rfl,⟨nd,rfl⟩⟩;refine ⟨_,rfl,?_⟩)|((with_reducible refine gate_callee (f:=145) rfl ?_);refine zgo 18 Try.func145 #[.int .i64 t176,.int .i64 (wrap64 (Int.tdiv (wrap64 ((wrap64 (t177 + a1)) - 1)) a1))] ?_;(with_reducible refine (spec_l1Most.calls t176 (wrap64 (Int.tdiv (wrap64 ((wrap64 (t177 + a1)) - 1)) a1)) t178 _ A8.out).mono ?_);rintro e w' ⟨rfl,⟨nd,rfl⟩⟩;refine ⟨_,rfl,?_⟩))
 go_ret
 exact ⟨zz1,zb⟩

/-! ### spec_l1Least: function 92 -/
def spec_l1Least.f (a0:Int) (a1:Int):Option (Int):=if a0<a1 then (some a0) else (some a1)
set_option maxHeartbeats 8000000 in
set_option maxRecDepth 100000 in
theorem spec_l1Least.calls (a0:Int) (a1:Int) (r:Int) (w:World) (h:spec_l1Least.f a0 a1=some r) :
  Calls Try.prog 92 #[.int .i64 a0,.int .i64 a1] w fun e w'=>e=.returned (.int .i64 r)∧Drawn0 w w':=by
 have H:(if a0<a1 then (some a0) else (some a1))=some r:=h
 clear h
 by_cases c3:a0<a1
 ·rw [if_pos c3] at H
  have c3b0:=decide_eq_true c3
  clear c3
  obtain rfl:=Option.some.inj H
  go_enter Try.func92,Try.ntmps92
  go_wp2
  go_ret
  exact ⟨zz7,zz6⟩
 rw [if_neg c3] at H
 have c3b0:=decide_eq_false c3
 clear c3
 obtain rfl:=Option.some.inj H
 go_enter Try.func92,Try.ntmps92
 go_wp2
 go_ret
 exact ⟨zz7,zz6⟩

/-! ### spec_WrapAround: function 43 -/
mutual
def spec_WrapAround.l0:Nat→List (S76)→Int→List (List (S116))→Int→Int→Int→Option ((List (List (S116))) × Bool)
 | 0,_,_,_,_,_,_=>none
 | k + 1,x0,x6,x7,x8,x9,x10=>if x10<(x0.length:Int) then (if 0≤x10 then (spec_WrapAround.l1 k x0 x6 x7 x8 x9 x10 ((rd_T76 x0 x10).f0)) else (none)) else (some (x7,true))
def spec_WrapAround.l1:Nat→List (S76)→Int→List (List (S116))→Int→Int→Int→Int→Option ((List (List (S116))) × Bool)
 | 0,_,_,_,_,_,_,_=>none
 | k + 1,x0,x6,x7,x8,x9,x10,x11=>if x11>0 then ((spec_l1Least.f x11 (wrap64 (x6 - x9))).bind fun t194=>(if t194>0 then (if 0≤x8 then (if x8<(x7.length:Int) then (if (rd_L7 x7 x8).length<5864062014805 then ((some (x7.set (x8:Int).toNat ((rd_L7 x7 x8)++[(⟨x10,x9,wrap64 (x9 + t194)⟩:S116)]):List (List (S116)))).bind fun y199=>(if (wrap64 (x9 + t194))=x6 then (spec_WrapAround.l1 k x0 x6 y199 (wrap64 (x8 + 1)) 0 x10 (wrap64 (x11 - t194))) else (spec_WrapAround.l1 k x0 x6 y199 x8 (wrap64 (x9 + t194)) x10 (wrap64 (x11 - t194))))) else (none)) else (none)) else (none)) else (if (wrap64 (x9 + t194))=x6 then (spec_WrapAround.l1 k x0 x6 x7 (wrap64 (x8 + 1)) 0 x10 (wrap64 (x11 - t194))) else (spec_WrapAround.l1 k x0 x6 x7 x8 (wrap64 (x9 + t194)) x10 (wrap64 (x11 - t194)))))) else (spec_WrapAround.l0 k x0 x6 x7 x8 x9 (wrap64 (x10 + 1)))
end
def spec_WrapAround.f (k:Nat) (l0:List (S76)) (a1:Int):Option ((List (List (S116))) × Bool):=(spec_l7Good.f k l0 a1 (([]:List (S72)))).bind fun t182=>(if t182=true then ((spec_l7Bound.f k l0 a1 (([]:List (S72)))).bind fun t189=>(if 0≤a1 then (if (a1:Int).toNat≤11728124029610 then (spec_WrapAround.l0 k l0 t189 (List.replicate (a1:Int).toNat []) 0 0 0) else (none)) else (none))) else (some ((([]:List (List (S116)))),false)))
theorem spec_WrapAround.mono_l:∀ k,(∀ y0 y1 y2 y3 y4 y5,LeO (spec_WrapAround.l0 k y0 y1 y2 y3 y4 y5) (spec_WrapAround.l0 (k + 1) y0 y1 y2 y3 y4 y5))∧(∀ y0 y1 y2 y3 y4 y5 y6,LeO (spec_WrapAround.l1 k y0 y1 y2 y3 y4 y5 y6) (spec_WrapAround.l1 (k + 1) y0 y1 y2 y3 y4 y5 y6))
 | 0=>⟨fun _ _ _ _ _ _ r h=>by simp [spec_WrapAround.l0] at h,fun _ _ _ _ _ _ _ r h=>by simp [spec_WrapAround.l1] at h⟩
 | k + 1=>by
  obtain ⟨ih0,ih1⟩:=spec_WrapAround.mono_l k
  refine ⟨?_,?_⟩ <;> intros <;> first|unfold spec_WrapAround.l0|unfold spec_WrapAround.l1
  all_goals repeat' first|(with_reducible first|apply ih0|apply ih1|exact spec_l7Bound.mono _ _ _ _|exact spec_l7Good.mono _ _ _ _|exact LeO.refl _|exact LeO.none _|refine LeO.ite ?_ ?_|refine LeO.bind ?_ (fun _=>?_))|apply ih0|apply ih1|exact spec_l7Bound.mono _ _ _ _|exact spec_l7Good.mono _ _ _ _|exact LeO.none _|refine LeO.ite ?_ ?_|refine LeO.bind ?_ (fun _=>?_)
theorem spec_WrapAround.mono:∀ a0 a1 k,LeO (spec_WrapAround.f k a0 a1) (spec_WrapAround.f (k + 1) a0 a1):=by
 intro a0 a1 k
 obtain ⟨ih0,ih1⟩:=spec_WrapAround.mono_l k
 unfold spec_WrapAround.f
 repeat' first|(with_reducible first|apply ih0|apply ih1|exact spec_l7Bound.mono _ _ _ _|exact spec_l7Good.mono _ _ _ _|exact LeO.refl _|exact LeO.none _|refine LeO.ite ?_ ?_|refine LeO.bind ?_ (fun _=>?_))|apply ih0|apply ih1|exact spec_l7Bound.mono _ _ _ _|exact spec_l7Good.mono _ _ _ _|exact LeO.none _|refine LeO.ite ?_ ?_|refine LeO.bind ?_ (fun _=>?_)
set_option maxHeartbeats 8000000 in
set_option maxRecDepth 100000 in
theorem spec_WrapAround.calls (k:Nat) (A0:Option Addr) (c0:Nat) (l0:List (S76)) (a1:Int) (r1:List (List (S116))) (r2:Bool) (w:World) (hr0:Kd.C k76 w A0 l0.length l0) (hc0:l0.length≤c0) (h:spec_WrapAround.f k l0 a1=some (r1,r2)) :
  Calls Try.prog 43 #[.slice A0 l0.length c0,.int .i64 a1] w fun e w'=>∃ v0_:Value,e=.returned (.tuple #[v0_,.bool r2])∧Kd.S (Kd.slice 116 k116) 65 w' w.heap.size (fun _=>True) v0_ r1∧Below w.heap.size w w':=by
 have hu116:=Try.underlying116
 have HR0:=Aside0.mk hr0
 have HC0:=Aside0.mk hc0
 clear hr0 hc0
 have HB:=Aside0.mk (Below.refl w.heap.size w)
 have H:((spec_l7Good.f k l0 a1 (([]:List (S72)))).bind fun t182=>(if t182=true then ((spec_l7Bound.f k l0 a1 (([]:List (S72)))).bind fun t189=>(if 0≤a1 then (if (a1:Int).toNat≤11728124029610 then (spec_WrapAround.l0 k l0 t189 (List.replicate (a1:Int).toNat []) 0 0 0) else (none)) else (none))) else (some ((([]:List (List (S116)))),false))))=some (r1,r2):=h
 clear h
 obtain ⟨y179,hy179⟩:∃ y_:List (S72),y_=(([]:List (S72))):=⟨_,rfl⟩
 replace H:((spec_l7Good.f k l0 a1 y179).bind fun t182=>(if t182=true then ((spec_l7Bound.f k l0 a1 (([]:List (S72)))).bind fun t189=>(if 0≤a1 then (if (a1:Int).toNat≤11728124029610 then (spec_WrapAround.l0 k l0 t189 (List.replicate (a1:Int).toNat []) 0 0 0) else (none)) else (none))) else (some ((([]:List (List (S116)))),false))))=some (r1,r2):=by first|(rw [hy179];with_reducible exact H)|(have H2_:=(Option.bind_some _ _).symm.trans H;rw [hy179];with_reducible exact H2_)|(have H2_:=(Option.bind_some _ _).symm.trans H;with_reducible exact H2_)|with_reducible exact H|(rw [hy179];exact H)|exact H
 have Ny179:=Aside0.mk hy179
 clear hy179
 replace H:=Option.bind_eq_some_iff.mp H
 obtain ⟨t182,A30,H⟩:=H
 try dsimp only at H
 have A3:=Aside0.mk A30
 clear A30
 by_cases c4:t182=true
 rotate_left
 ·replace c4:=Bool.eq_false_iff.mpr c4
  subst c4
  rw [if_neg (show ¬ (false=true) by decide)] at H
  obtain ⟨y183,hy183⟩:∃ y_:List (List (S116)),y_=(([]:List (List (S116)))):=⟨_,rfl⟩
  replace H:(some (y183,false))=some (r1,r2):=by first|(rw [hy183];with_reducible exact H)|(have H2_:=(Option.bind_some _ _).symm.trans H;rw [hy183];with_reducible exact H2_)|(have H2_:=(Option.bind_some _ _).symm.trans H;with_reducible exact H2_)|with_reducible exact H|(rw [hy183];exact H)|exact H
  have Ny183:=Aside0.mk hy183
  clear hy183
  simp only [Option.some.injEq,Prod.mk.injEq] at H
  obtain ⟨rfl,rfl⟩:=H
  go_enter Try.func43,Try.ntmps43
  go_wp2_with (first|((with_reducible refine gate_dst (N:=15) rfl ?_);refine Kd.R_lit k72 _ 72 ?hg (N:=15) ?hd (xs:=([]:List (S72))) (inner:=[]) (ok:=fun _=>True) (okp:=fun _=>True) ?hr ?hp (fun _ hk=>hk) trivial (Below.refl _ _) (Nat.le_refl _) (by simp) ?_;(case hd=>rfl);(case hg=>rfl);(case hr=>first|(go_simp;done)|(go_simp;rfl));(case hp=>exact (Reps.none _ _));intro v180 w41 ho42 hb hg_ hnew_;clear hg_ hnew_;(first|rw [←Ny179.out] at ho42|(simp only [Int.reduceToNat] at ho42;rw [←Ny179.out] at ho42));have HO181:=Aside0.mk (Kd.R_lower ho42 (below_size zb));replace HB:=zb1 hb;clear hb ho42;obtain ⟨Ao43,co43,eo43⟩:=Kd.R_slice HO181.out;subst eo43)|((with_reducible refine gate_callee (f:=76) rfl ?_);refine zgo 16 Try.func76 #[.slice A0 l0.length c0,.int .i64 a1,.slice Ao43 y179.length co43] ?_;(with_reducible refine (spec_l7Good.calls k _ _ l0 a1 _ _ y179 false _ ?side1 ?side2 ?side3 ?side4 A3.out).mono ?_);(case side1=>exact zC (Kd.C_below HR0.out HB.out));(case side2=>exact HC0.out);(case side3=>exact zC ((Kd.R_reads' HO181.out).2.2));(case side4=>exact (Kd.R_reads' HO181.out).2.1);rintro e w44 ⟨rfl,hb⟩;refine ⟨_,rfl,?_⟩;replace HO181:=zRb HO181 hb;replace HB:=zb1 hb;(try clear hb))|((with_reducible refine gate_dst (N:=18) rfl ?_);refine Kd.S_lit (Kd.slice 116 k116) _ 65 ?hg (N:=18) ?hd (xs:=([]:List (List (S116)))) (inner:=[]) (ok:=fun _=>True) (okp:=fun _=>True) ?hr ?hp (fun _ hk=>hk) trivial (Below.refl _ _) (Nat.le_refl _) (by simp) ?_;(case hd=>rfl);(case hg=>rfl);(case hr=>first|(go_simp;done)|(go_simp;rfl));(case hp=>exact (Reps.none _ _));intro v184 w45 ho46 hb hg_ hnew_;clear hg_ hnew_;(first|rw [←Ny183.out] at ho46|(simp only [Int.reduceToNat] at ho46;rw [←Ny183.out] at ho46));replace HO181:=zRb HO181 hb;have HO185:=Aside0.mk (Kd.S_lower ho46 (below_size zb));replace HB:=zb1 hb;clear hb ho46))
  go_ret2
  exact ⟨_,zz1,zS HO185.out,zb⟩
 subst c4
 rw [if_pos rfl] at H
 obtain ⟨y186,hy186⟩:∃ y_:List (S72),y_=(([]:List (S72))):=⟨_,rfl⟩
 replace H:((spec_l7Bound.f k l0 a1 y186).bind fun t189=>(if 0≤a1 then (if (a1:Int).toNat≤11728124029610 then (spec_WrapAround.l0 k l0 t189 (List.replicate (a1:Int).toNat []) 0 0 0) else (none)) else (none)))=some (r1,r2):=by first|(rw [hy186];with_reducible exact H)|(have H2_:=(Option.bind_some _ _).symm.trans H;rw [hy186];with_reducible exact H2_)|(have H2_:=(Option.bind_some _ _).symm.trans H;with_reducible exact H2_)|with_reducible exact H|(rw [hy186];exact H)|exact H
 have Ny186:=Aside0.mk hy186
 clear hy186
 replace H:=Option.bind_eq_some_iff.mp H
 obtain ⟨t189,A50,H⟩:=H
 try dsimp only at H
 have A5:=Aside0.mk A50
 clear A50
 by_cases c6:0≤a1
 rotate_left
 ·rw [if_neg c6] at H
  exact absurd H (by simp)
 rw [if_pos c6] at H
 have c6b0:=eq_true c6
 have c6b1:=decide_eq_true c6
 clear c6
 by_cases c7:(a1:Int).toNat≤11728124029610
 rotate_left
 ·rw [if_neg c7] at H
  exact absurd H (by simp)
 rw [if_pos c7] at H
 have c7b0:=eq_true c7
 have c7b1:=decide_eq_true c7
 clear c7
 obtain ⟨y190,hy190⟩:∃ y_:List (List (S116)),y_=(List.replicate (a1:Int).toNat []):=⟨_,rfl⟩
 replace H:(spec_WrapAround.l0 k l0 t189 y190 0 0 0)=some (r1,r2):=by first|(rw [hy190];with_reducible exact H)|(have H2_:=(Option.bind_some _ _).symm.trans H;rw [hy190];with_reducible exact H2_)|(have H2_:=(Option.bind_some _ _).symm.trans H;with_reducible exact H2_)|with_reducible exact H|(rw [hy190];exact H)|exact H
 have Ny190:=Aside0.mk hy190
 clear hy190
 have H':=Aside0.mk H
 clear H
 go_enter Try.func43,Try.ntmps43
 go_wp2_with (first|((with_reducible refine gate_dst (N:=15) rfl ?_);refine Kd.R_lit k72 _ 72 ?hg (N:=15) ?hd (xs:=([]:List (S72))) (inner:=[]) (ok:=fun _=>True) (okp:=fun _=>True) ?hr ?hp (fun _ hk=>hk) trivial (Below.refl _ _) (Nat.le_refl _) (by simp) ?_;(case hd=>rfl);(case hg=>rfl);(case hr=>first|(go_simp;done)|(go_simp;rfl));(case hp=>exact (Reps.none _ _));intro v180 w8 ho9 hb hg_ hnew_;clear hg_ hnew_;(first|rw [←Ny179.out] at ho9|(simp only [Int.reduceToNat] at ho9;rw [←Ny179.out] at ho9));have HO181:=Aside0.mk (Kd.R_lower ho9 (below_size zb));replace HB:=zb1 hb;clear hb ho9;obtain ⟨Ao10,co10,eo10⟩:=Kd.R_slice HO181.out;subst eo10)|((with_reducible refine gate_callee (f:=76) rfl ?_);refine zgo 16 Try.func76 #[.slice A0 l0.length c0,.int .i64 a1,.slice Ao10 y179.length co10] ?_;(with_reducible refine (spec_l7Good.calls k _ _ l0 a1 _ _ y179 true _ ?side1 ?side2 ?side3 ?side4 A3.out).mono ?_);(case side1=>exact zC (Kd.C_below HR0.out HB.out));(case side2=>exact HC0.out);(case side3=>exact zC ((Kd.R_reads' HO181.out).2.2));(case side4=>exact (Kd.R_reads' HO181.out).2.1);rintro e w11 ⟨rfl,hb⟩;refine ⟨_,rfl,?_⟩;replace HO181:=zRb HO181 hb;replace HB:=zb1 hb;(try clear hb))|((with_reducible refine gate_dst (N:=21) rfl ?_);refine Kd.R_lit k72 _ 72 ?hg (N:=21) ?hd (xs:=([]:List (S72))) (inner:=[]) (ok:=fun _=>True) (okp:=fun _=>True) ?hr ?hp (fun _ hk=>hk) trivial (Below.refl _ _) (Nat.le_refl _) (by simp) ?_;(case hd=>rfl);(case hg=>rfl);(case hr=>first|(go_simp;done)|(go_simp;rfl));(case hp=>exact (Reps.none _ _));intro v187 w12 ho13 hb hg_ hnew_;clear hg_ hnew_;(first|rw [←Ny186.out] at ho13|(simp only [Int.reduceToNat] at ho13;rw [←Ny186.out] at ho13));have n0_:=Aside0.mk (Kd.R_elder' (zR HO181.out) (Kd.R_base ho13) hb);have n1_:=Aside0.mk (Kd.R_lower (Kd.R_new' ho13 (Kd.R_lt (zR HO181.out))) (below_size zb));have n2_:=zb1 hb;clear HO181;clear HB;have HO181:=n0_;have HO188:=n1_;have HB:=n2_;clear n0_ n1_ n2_;clear hb ho13;obtain ⟨Ao14,co14,eo14⟩:=Kd.R_slice HO188.out;subst eo14)|((with_reducible refine gate_callee (f:=91) rfl ?_);refine zgo 22 Try.func91 #[.slice A0 l0.length c0,.int .i64 a1,.slice Ao14 y186.length co14] ?_;(with_reducible refine (spec_l7Bound.calls k _ _ l0 a1 _ _ y186 t189 _ ?side1 ?side2 ?side3 ?side4 A5.out).mono ?_);(case side1=>exact zC (Kd.C_below HR0.out HB.out));(case side2=>exact HC0.out);(case side3=>exact zC ((Kd.R_reads' HO188.out).2.2));(case side4=>exact (Kd.R_reads' HO188.out).2.1);rintro e w15 ⟨rfl,hb⟩;refine ⟨_,rfl,?_⟩;replace HO181:=zRb HO181 hb;replace HO188:=zRb HO188 hb;replace HB:=zb1 hb;(try clear hb))|((with_reducible refine gate_dst (N:=24) rfl ?_);refine Kd.S_make (Kd.slice 116 k116) _ 65 rfl (N:=24) rfl 57 _ _ rfl a1 rfl rfl Try.underlying57 (.slice none 0 0) 24 info65 rfl (by decide) (by omega) [] (ok:=fun _=>True) (okp:=fun _=>True) ⟨_,rfl,Kd.R_nil _ _ _ _ _⟩ (fun _ hk=>hk) trivial (of_decide_eq_true za) (Nat.le_trans (Nat.mul_le_mul_right _ (of_decide_eq_true za:a1.toNat≤11728124029610)) (by omega)) (Below.refl _ _) (Nat.le_refl _) ?_;intro v191 w16 ho17 hb hg_ hnew_;clear hg_ hnew_;(first|rw [←Ny190.out] at ho17|(simp only [Int.reduceToNat] at ho17;rw [←Ny190.out] at ho17));replace HO181:=zRb HO181 hb;replace HO188:=zRb HO188 hb;have HO192:=Aside0.mk (Kd.S_lower ho17 (below_size zb));replace HB:=zb1 hb;clear hb ho17))
 go_loopg [8,9,10] k (fun kq v8 v9 v10 w'=>∃ (x7_1:List (List (S116))) (x8_1:Int) (x9_1:Int) (x10_1:Int),v8=.int .i64 x8_1∧v9=.int .i64 x9_1∧v10=.int .i64 x10_1∧Aside0 (spec_WrapAround.l0 kq l0 t189 x7_1 x8_1 x9_1 x10_1=some (r1,r2))∧Aside0 (kq≤k)∧Aside0 (Kd.S (Kd.slice 116 k116) 65 w' w.heap.size (fun _=>True) v191 x7_1)∧Aside0 (Below w.heap.size w w'))
 case atStart=>exact ⟨(y190),(0),(0),(0),zo,zo,zo,H',⟨Nat.le_refl _⟩,⟨zS HO192.out⟩,⟨zb⟩⟩
 case round=>
  clear H'
  obtain ⟨x7_1,x8_1,x9_1,x10_1,rfl,rfl,rfl,HA,HK1,HO_7,HB⟩:=hrel
  cases gk with
  | zero=>exact absurd HA.out (by simp [spec_WrapAround.l0])
  | succ k1=>
   have H:=HA.out
   clear HA
   simp only [spec_WrapAround.l0] at H
   by_cases c18:x10_1<(l0.length:Int)
   rotate_left
   ·rw [if_neg c18] at H
    have c18b0:=decide_eq_false c18
    clear c18
    simp only [Option.some.injEq,Prod.mk.injEq] at H
    obtain ⟨rfl,rfl⟩:=H
    go_wp2
    go_ret2
    exact ⟨_,zz1,zS HO_7.out,zb⟩
   rw [if_pos c18] at H
   have c18b0:=decide_eq_true c18
   clear c18
   by_cases c19:0≤x10_1
   rotate_left
   ·rw [if_neg c19] at H
    exact absurd H (by simp)
   rw [if_pos c19] at H
   have c19b0:=decide_eq_true c19
   clear c19
   have H':=Aside0.mk H
   clear H
   have p193:0≤(x10_1:Int):=of_decide_eq_true za
   have q193:x10_1<(l0.length:Int):=of_decide_eq_true za
   obtain ⟨ad193,e193,hx193_0,hx193_1,hx193_2,hx193_3⟩:=at_T76 HR0.out x10_1 p193 q193
   cases e193
   replace hx193_0:=zh_ HB hx193_0
   replace hx193_1:=zh_ HB hx193_1
   replace hx193_2:=zh_ HB hx193_2
   replace hx193_3:=zh_ HB hx193_3
   replace p193:=eq_true p193
   replace q193:=eq_true q193
   go_wp2
   go_loopg [8,9,11] k1 (fun kq v8 v9 v11 w'=>∃ (x7_2:List (List (S116))) (x8_2:Int) (x9_2:Int) (x11_2:Int),v8=.int .i64 x8_2∧v9=.int .i64 x9_2∧v11=.int .i64 x11_2∧Aside0 (spec_WrapAround.l1 kq l0 t189 x7_2 x8_2 x9_2 x10_1 x11_2=some (r1,r2))∧Aside0 (kq≤k1)∧Aside0 (Kd.S (Kd.slice 116 k116) 65 w' w.heap.size (fun _=>True) v191 x7_2)∧Aside0 (Below w.heap.size w w'))
   case atStart=>exact ⟨(x7_1),(x8_1),(x9_1),((rd_T76 l0 x10_1).f0),zo,zo,zo,H',⟨Nat.le_refl _⟩,⟨zS HO_7.out⟩,⟨zb⟩⟩
   case round=>
    clear H'
    obtain ⟨x7_2,x8_2,x9_2,x11_2,rfl,rfl,rfl,HA,HK2,HO_7,HB⟩:=hrel
    cases gk with
    | zero=>exact absurd HA.out (by simp [spec_WrapAround.l1])
    | succ k2=>
     have H:=HA.out
     clear HA
     simp only [spec_WrapAround.l1] at H
     by_cases c20:x11_2>0
     rotate_left
     ·rw [if_neg c20] at H
      have c20b0:=decide_eq_false c20
      clear c20
      have H':=Aside0.mk H
      clear H
      go_wp2
      go_roundg k2
      case measure=>have:=HK1.out;have:=HK2.out;omega
      case rel=>exact ⟨(x7_2),(x8_2),(x9_2),(wrap64 (x10_1 + 1)),zo,zo,zo,H',⟨zz9⟩,⟨zS HO_7.out⟩,⟨zb⟩⟩
     rw [if_pos c20] at H
     have c20b0:=decide_eq_true c20
     clear c20
     replace H:=Option.bind_eq_some_iff.mp H
     obtain ⟨t194,A210,H⟩:=H
     try dsimp only at H
     have A21:=Aside0.mk A210
     clear A210
     by_cases c22:t194>0
     rotate_left
     ·rw [if_neg c22] at H
      have c22b0:=decide_eq_false c22
      clear c22
      by_cases c40:(wrap64 (x9_2 + t194))=t189
      rotate_left
      ·rw [if_neg c40] at H
       have c40b0:((wrap64 (x9_2 + t194)) == t189)=false:=beq_eq_false_iff_ne.mpr c40
       have c40b1:((wrap64 (x9_2 + t194)) != t189)=true:=bne_iff_ne.mpr c40
       have H':=Aside0.mk H
       clear H
       go_wp2_with (first|((with_reducible refine gate_callee (f:=92) rfl ?_);refine zgo 42 Try.func92 #[.int .i64 x11_2,.int .i64 (wrap64 (t189 - x9_2))] ?_;(with_reducible refine (spec_l1Least.calls x11_2 (wrap64 (t189 - x9_2)) t194 _ A21.out).mono ?_);rintro e w' ⟨rfl,⟨nd,rfl⟩⟩;refine ⟨_,rfl,?_⟩))
       go_roundg k2
       case measure=>have:=HK1.out;have:=HK2.out;omega
       case rel=>exact ⟨(x7_2),(x8_2),(wrap64 (x9_2 + t194)),(wrap64 (x11_2 - t194)),zo,zo,zo,H',⟨zz9⟩,⟨zS HO_7.out⟩,⟨zb⟩⟩
      rw [if_pos c40] at H
      have c40b0:((wrap64 (x9_2 + t194)) == t189)=true:=beq_iff_eq.mpr c40
      have c40b1:((wrap64 (x9_2 + t194)) != t189)=false:=bne_eq_false_iff_eq.mpr c40
      clear c40
      have H':=Aside0.mk H
      clear H
      go_wp2_with (first|((with_reducible refine gate_callee (f:=92) rfl ?_);refine zgo 42 Try.func92 #[.int .i64 x11_2,.int .i64 (wrap64 (t189 - x9_2))] ?_;(with_reducible refine (spec_l1Least.calls x11_2 (wrap64 (t189 - x9_2)) t194 _ A21.out).mono ?_);rintro e w' ⟨rfl,⟨nd,rfl⟩⟩;refine ⟨_,rfl,?_⟩))
      go_roundg k2
      case measure=>have:=HK1.out;have:=HK2.out;omega
      case rel=>exact ⟨(x7_2),(wrap64 (x8_2 + 1)),(0),(wrap64 (x11_2 - t194)),zo,zo,zo,H',⟨zz9⟩,⟨zS HO_7.out⟩,⟨zb⟩⟩
     rw [if_pos c22] at H
     have c22b0:=decide_eq_true c22
     clear c22
     by_cases c23:0≤x8_2
     rotate_left
     ·rw [if_neg c23] at H
      exact absurd H (by simp)
     rw [if_pos c23] at H
     have c23b0:=decide_eq_true c23
     clear c23
     by_cases c24:x8_2<(x7_2.length:Int)
     rotate_left
     ·rw [if_neg c24] at H
      exact absurd H (by simp)
     rw [if_pos c24] at H
     have c24b0:=decide_eq_true c24
     clear c24
     by_cases c25:(rd_L7 x7_2 x8_2).length<5864062014805
     rotate_left
     ·rw [if_neg c25] at H
      exact absurd H (by simp)
     rw [if_pos c25] at H
     have LMc25:=Aside0.mk c25
     clear c25
     obtain ⟨y196,hy196⟩:∃ y_:List (S116),y_=((rd_L7 x7_2 x8_2)++[(⟨x10_1,x9_2,wrap64 (x9_2 + t194)⟩:S116)]):=⟨_,rfl⟩
     replace H:((some (x7_2.set (x8_2:Int).toNat y196:List (List (S116)))).bind fun y199=>(if (wrap64 (x9_2 + t194))=t189 then (spec_WrapAround.l1 k2 l0 t189 y199 (wrap64 (x8_2 + 1)) 0 x10_1 (wrap64 (x11_2 - t194))) else (spec_WrapAround.l1 k2 l0 t189 y199 x8_2 (wrap64 (x9_2 + t194)) x10_1 (wrap64 (x11_2 - t194)))))=some (r1,r2):=by first|(rw [hy196];with_reducible exact H)|(have H2_:=(Option.bind_some _ _).symm.trans H;rw [hy196];with_reducible exact H2_)|(have H2_:=(Option.bind_some _ _).symm.trans H;with_reducible exact H2_)|with_reducible exact H|(rw [hy196];exact H)|exact H
     have Ny196:=Aside0.mk hy196
     clear hy196
     obtain ⟨y199,hy199⟩:∃ y_:List (List (S116)),y_=(x7_2.set (x8_2:Int).toNat y196):=⟨_,rfl⟩
     replace H:(if (wrap64 (x9_2 + t194))=t189 then (spec_WrapAround.l1 k2 l0 t189 y199 (wrap64 (x8_2 + 1)) 0 x10_1 (wrap64 (x11_2 - t194))) else (spec_WrapAround.l1 k2 l0 t189 y199 x8_2 (wrap64 (x9_2 + t194)) x10_1 (wrap64 (x11_2 - t194))))=some (r1,r2):=by first|(rw [hy199];with_reducible exact H)|(have H2_:=(Option.bind_some _ _).symm.trans H;rw [hy199];with_reducible exact H2_)|(have H2_:=(Option.bind_some _ _).symm.trans H;with_reducible exact H2_)|with_reducible exact H|(rw [hy199];exact H)|exact H
     have Ny199:=Aside0.mk hy199
     clear hy199
     by_cases c27:(wrap64 (x9_2 + t194))=t189
     rotate_left
     ·rw [if_neg c27] at H
      have c27b0:((wrap64 (x9_2 + t194)) == t189)=false:=beq_eq_false_iff_ne.mpr c27
      have c27b1:((wrap64 (x9_2 + t194)) != t189)=true:=bne_iff_ne.mpr c27
      have H':=Aside0.mk H
      clear H
      go_wp2_with (first|((with_reducible refine gate_callee (f:=92) rfl ?_);refine zgo 42 Try.func92 #[.int .i64 x11_2,.int .i64 (wrap64 (t189 - x9_2))] ?_;(with_reducible refine (spec_l1Least.calls x11_2 (wrap64 (t189 - x9_2)) t194 _ A21.out).mono ?_);rintro e w' ⟨rfl,⟨nd,rfl⟩⟩;refine ⟨_,rfl,?_⟩;(try (rw [drewN_self wr];generalize hq_:World.drewN wr _=wr;have n0_:Aside0 (Kd.S (Kd.slice 116 k116) 65 wr w.heap.size (fun _=>True) v191 x7_2):=⟨by rw [←hq_];exact (zS HO_7.out)⟩;have n1_:Aside0 (Below w.heap.size w wr):=⟨by rw [←hq_];exact zb⟩;clear HO_7 HB hq_;have HO_7:=n0_;have HB:=n1_;clear n0_ n1_));obtain ⟨Ao34,co34,eo34⟩:=Kd.S_slice HO_7.out;subst eo34;have p195:0≤(x8_2:Int):=of_decide_eq_true za;have q195:x8_2<(x7_2.length:Int):=of_decide_eq_true za;obtain ⟨ad195,A195_0,c195_0,e195,hx195_0,hl195_0,hi195_0⟩:=at_L7 (Kd.S_reads' HO_7.out).2.2 x8_2 p195 q195;cases e195;obtain ⟨ce195,hce195,hMe195,hcc195⟩:=Kd.S_get HO_7.out [] x8_2 p195 (by first|exact q195|exact of_decide_eq_true za|(have e_:=(Kd.S_reads' HO_7.out).1;omega));obtain ⟨ve195_0,rfl,ge195_0⟩:=hMe195;have hv195_0:=hcc195 0 _ rfl;rw [Nat.add_zero,show ((Kd.slice 116 k116)).sz=1 from rfl,Nat.mul_one] at hv195_0;replace hv195_0:=Option.some.inj (hv195_0.symm.trans hx195_0);rw [hv195_0] at ge195_0;have HL195_0:=Aside0.mk (show Kd.R k116 116 _ _ _ _ (rd_L7 x7_2 x8_2) from ge195_0);clear hv195_0 ge195_0;have HX195_0:=Aside0.mk hx195_0;clear hcc195 hce195;have HR195_0:=Aside0.mk hi195_0;have HC195_0:=Aside0.mk hl195_0;clear hi195_0 hl195_0;replace p195:=eq_true p195;replace q195:=eq_true q195;obtain ⟨go35,co35,eo35,gb35,gl35,cl35,HG35⟩:=Kd.S_form HO_7.out (by have h_:(x8_2:Int)<((x7_2.length:Int):Int):=of_decide_eq_true za;have h2_:0≤(x8_2:Int):=(of_decide_eq_true za);omega);(first|cases eo35|(injection eo35 with ea_ en_ ec_;(first|subst ea_|(injection ea_ with ea_;subst ea_));subst ec_;clear en_));have GB35:=Aside0.mk gb35;have GG35:=Aside0.mk HG35;clear gb35 gl35 HG35;(first|simp only [add_plain] at hx195_0|skip);obtain ⟨oki35,ce35,hcl35,hM35,hcc35,_,_,hH35⟩:=Kd.S_elem HO_7.out [] (x8_2:Int) (of_decide_eq_true za) (by have h_:(x8_2:Int)<((x7_2.length:Int):Int):=of_decide_eq_true za;first|exact h_|(have e_:=(Kd.S_reads' HO_7.out).1;omega)|simpa using h_);obtain ⟨ve35_0,rfl,ge35_0⟩:=hM35;have hv35:=hcc35 0 _ rfl;have hX35:=HX195_0.out;(try simp only [add_plain] at hX35);(try simp only [Nat.add_zero] at hv35);(try rw [show ((Kd.slice 116 k116)).sz=1 from rfl,Nat.mul_one] at hv35);replace hv35:=Option.some.inj (hv35.symm.trans hX35);subst hv35;clear hX35 hcc35 hcl35;have UU35:=Aside0.mk (show Kd.R k116 116 _ w.heap.size oki35 (.slice A195_0 (rd_L7 x7_2 x8_2).length c195_0) (rd_L7 x7_2 x8_2) from ge35_0);have HH35:=Aside0.mk hH35;have HN35:=Aside0.mk (Kd.S_reads' HO_7.out).1;clear hH35 ge35_0)|((with_reducible refine gate_builtin (b:=.append) (xs:=#[.tmp 50,.tmp 57]) rfl ?_);at_builtin;refine Kd.R_append k116 (w0:=w) w.heap.size rfl (.tmp 50) (.tmp 57) 65 116 (.agg #[(.int .i64 0),(.int .i64 0),(.int .i64 0)]) 24 rfl Try.underlying65 info116 rfl (by decide) (by omega) (.slice A195_0 (rd_L7 x7_2 x8_2).length c195_0) (rd_L7 x7_2 x8_2) (⟨x10_1,x9_2,wrap64 (x9_2 + t194)⟩:S116) [.int .i64 x10_1,.int .i64 x9_2,.int .i64 (wrap64 (x9_2 + t194))] (fun k_=>oki35 k_∨((fun _=>True)) k_∧wr.heap.size≤k_) (fun _=>False) rfl rfl ?aP (fun _ hk=>hk.elim) ?aF ?aO ?aB ?aS ?aL ?_;(case aP=>exact k116_mkM _ _ _ (⟨x10_1,x9_2,wrap64 (x9_2 + t194)⟩:S116));(case aB=>exact zb);(case aF=>exact (fun k_ hk=>.inr ⟨trivial,hk⟩));(case aO=>exact (zR (Kd.R_mono UU35.out (fun _ hk=>.inl hk))));(case aS=>exact (below_size zb));(case aL=>have:=LMc25.out;omega);intro v197 w36 ho hb hg hat;rw [←Ny196.out] at ho;replace HB:=Aside0.mk (hb);replace HH35:=Aside0.mk (Kd.H_grown (Kd.H_widen (by repeat (first|exact HH35.out|refine Kd.H_alloc ?_ _|refine Kd.H_drewN ?_ _|refine Kd.H_drew ?_))) hg (fun k_ e_=>.inl (UU35.out.1 k_ e_)));have HO198:=Aside0.mk (ho);clear HO_7 UU35 HL195_0;clear ho hb hg hat;have p26:0≤(x8_2:Int):=of_decide_eq_true za;have q26:(x8_2:Int)<((x7_2.length:Int):Int):=of_decide_eq_true za;replace p26:=eq_true p26;replace q26:=eq_true q26;obtain ⟨Ao39,co39,eo39⟩:=Kd.R_slice HO198.out;subst eo39;obtain ⟨_,_,hraw37,_,_,hcc37,_⟩:=Kd.H_raw HH35.out (of_decide_eq_true za) (by have h_:(x8_2:Int)<((x7_2.length:Int):Int):=of_decide_eq_true za;first|exact h_|(have e_:=(HN35.out);omega)|simpa using h_);obtain ⟨_,hfr37⟩:=Kd.H_at HH35.out (of_decide_eq_true za) (by have h_:(x8_2:Int)<((x7_2.length:Int):Int):=of_decide_eq_true za;first|exact h_|(have e_:=(HN35.out);omega)|simpa using h_);have hx37_0:=hcc37 0 _ rfl;have hf37_0:=hfr37 0;(try simp only [Nat.add_zero] at hx37_0 hf37_0);(try rw [show ((Kd.slice 116 k116)).sz=1 from rfl,Nat.mul_one] at hx37_0);(try rw [show ((Kd.slice 116 k116)).sz=1 from rfl,Nat.mul_one] at hf37_0);have HP37:=Kd.S_seg0 HH35.out (of_decide_eq_true za) (by have h_:(x8_2:Int)<((x7_2.length:Int):Int):=of_decide_eq_true za;first|exact h_|(have e_:=(HN35.out);omega)|simpa using h_) (seg:=[.slice Ao39 y196.length co39]) (j:=0) (show 1≤1 from by decide) (x':=y196) (Kd.M_row HO198.out) (fun _ hk=>hk);(try simp only [show ((Kd.slice 116 k116)).sz=1 from rfl,Nat.mul_one,Nat.add_zero] at HP37);clear hcc37 hfr37)|((with_reducible refine gate_store (t:=65) (p:=59) rfl ?_);(try (rw [drewN_self w36];generalize hq_:World.drewN w36 _=w36;have n0_:=Aside0.mk (Kd.S_at hq_ HO_7.out);have n1_:=Aside0.mk (below_at hq_ HB.out);(try replace hx37_0:=cell_at hq_ hx37_0);(try replace hf37_0:=(fun {W_ W2_:World} {n_:Nat} {a_:Addr} {b_:Bool} (h_:W_.drewN n_=W2_) (e_:W_.frozen? a_=b_)=>(by subst h_;exact e_:W2_.frozen? a_=b_)) hq_ hf37_0);clear hq_ HO_7 HB;have HO_7:=n0_;have HB:=n1_;clear n0_ n1_;(try (obtain ⟨Ao39,co39,eo39⟩:=Kd.R_slice HO198.out));(try (subst eo39));(try (obtain ⟨_,_,hraw37,_,_,hcc37,_⟩:=Kd.H_raw HH35.out (of_decide_eq_true za) (by have h_:(x8_2:Int)<((x7_2.length:Int):Int):=of_decide_eq_true za;first|exact h_|(have e_:=(HN35.out);omega)|simpa using h_)));(try (obtain ⟨_,hfr37⟩:=Kd.H_at HH35.out (of_decide_eq_true za) (by have h_:(x8_2:Int)<((x7_2.length:Int):Int):=of_decide_eq_true za;first|exact h_|(have e_:=(HN35.out);omega)|simpa using h_)));(try (have hx37_0:=hcc37 0 _ rfl));(try (have hf37_0:=hfr37 0));(try (try simp only [Nat.add_zero] at hx37_0 hf37_0));(try (try rw [show ((Kd.slice 116 k116)).sz=1 from rfl,Nat.mul_one] at hx37_0));(try (try rw [show ((Kd.slice 116 k116)).sz=1 from rfl,Nat.mul_one] at hf37_0));(try (have HP37:=Kd.S_seg0 HH35.out (of_decide_eq_true za) (by have h_:(x8_2:Int)<((x7_2.length:Int):Int):=of_decide_eq_true za;first|exact h_|(have e_:=(HN35.out);omega)|simpa using h_) (seg:=[.slice Ao39 y196.length co39]) (j:=0) (show 1≤1 from by decide) (x':=y196) (Kd.M_row HO198.out) (fun _ hk=>hk)));(try (try simp only [show ((Kd.slice 116 k116)).sz=1 from rfl,Nat.mul_one,Nat.add_zero] at HP37));(try (clear hcc37 hfr37))));refine store_event (t:=65) (p:=59) (v:=?vo_w38) (w1:=(w36.setCell ⟨go35,(x8_2:Int).toNat,none⟩ (.slice Ao39 y196.length co39))) ?hg ?ho ?hn ?hr ?_;(case ho=>rfl);(case hg=>rfl);(case hn=>rfl);(case hr=>first|(go_simp;done)|(go_simp;rfl));intro w38 hw;have hg:w36.grownBy w38 (some go35):=(by rw [hw];exact HP37.2);have hp_:Kd.S (Kd.slice 116 k116) 65 w38 w.heap.size (fun _=>True) (.slice (some ⟨go35,0,none⟩) x7_2.length co34) y199:=(by rw [hw,Ny199.out];exact HP37.1);clear HP37;replace HB:=Aside0.mk ((by rw [hw];exact below_set HB.out GB35.out:Below w.heap.size w w38));have HO_7:=Aside0.mk (hp_);clear HO198 HH35;clear hg hw hp_ hraw37))
      go_roundg k2
      case measure=>have:=HK1.out;have:=HK2.out;omega
      case rel=>exact ⟨(y199),(x8_2),(wrap64 (x9_2 + t194)),(wrap64 (x11_2 - t194)),zo,zo,zo,H',⟨zz9⟩,⟨zS HO_7.out⟩,⟨zb⟩⟩
     rw [if_pos c27] at H
     have c27b0:((wrap64 (x9_2 + t194)) == t189)=true:=beq_iff_eq.mpr c27
     have c27b1:((wrap64 (x9_2 + t194)) != t189)=false:=bne_eq_false_iff_eq.mpr c27
     clear c27
     have H':=Aside0.mk H
     clear H
     go_wp2_with (first|((with_reducible refine gate_callee (f:=92) rfl ?_);refine zgo 42 Try.func92 #[.int .i64 x11_2,.int .i64 (wrap64 (t189 - x9_2))] ?_;(with_reducible refine (spec_l1Least.calls x11_2 (wrap64 (t189 - x9_2)) t194 _ A21.out).mono ?_);rintro e w' ⟨rfl,⟨nd,rfl⟩⟩;refine ⟨_,rfl,?_⟩;(try (rw [drewN_self wr];generalize hq_:World.drewN wr _=wr;have n0_:Aside0 (Kd.S (Kd.slice 116 k116) 65 wr w.heap.size (fun _=>True) v191 x7_2):=⟨by rw [←hq_];exact (zS HO_7.out)⟩;have n1_:Aside0 (Below w.heap.size w wr):=⟨by rw [←hq_];exact zb⟩;clear HO_7 HB hq_;have HO_7:=n0_;have HB:=n1_;clear n0_ n1_));obtain ⟨Ao28,co28,eo28⟩:=Kd.S_slice HO_7.out;subst eo28;have p195:0≤(x8_2:Int):=of_decide_eq_true za;have q195:x8_2<(x7_2.length:Int):=of_decide_eq_true za;obtain ⟨ad195,A195_0,c195_0,e195,hx195_0,hl195_0,hi195_0⟩:=at_L7 (Kd.S_reads' HO_7.out).2.2 x8_2 p195 q195;cases e195;obtain ⟨ce195,hce195,hMe195,hcc195⟩:=Kd.S_get HO_7.out [] x8_2 p195 (by first|exact q195|exact of_decide_eq_true za|(have e_:=(Kd.S_reads' HO_7.out).1;omega));obtain ⟨ve195_0,rfl,ge195_0⟩:=hMe195;have hv195_0:=hcc195 0 _ rfl;rw [Nat.add_zero,show ((Kd.slice 116 k116)).sz=1 from rfl,Nat.mul_one] at hv195_0;replace hv195_0:=Option.some.inj (hv195_0.symm.trans hx195_0);rw [hv195_0] at ge195_0;have HL195_0:=Aside0.mk (show Kd.R k116 116 _ _ _ _ (rd_L7 x7_2 x8_2) from ge195_0);clear hv195_0 ge195_0;have HX195_0:=Aside0.mk hx195_0;clear hcc195 hce195;have HR195_0:=Aside0.mk hi195_0;have HC195_0:=Aside0.mk hl195_0;clear hi195_0 hl195_0;replace p195:=eq_true p195;replace q195:=eq_true q195;obtain ⟨go29,co29,eo29,gb29,gl29,cl29,HG29⟩:=Kd.S_form HO_7.out (by have h_:(x8_2:Int)<((x7_2.length:Int):Int):=of_decide_eq_true za;have h2_:0≤(x8_2:Int):=(of_decide_eq_true za);omega);(first|cases eo29|(injection eo29 with ea_ en_ ec_;(first|subst ea_|(injection ea_ with ea_;subst ea_));subst ec_;clear en_));have GB29:=Aside0.mk gb29;have GG29:=Aside0.mk HG29;clear gb29 gl29 HG29;(first|simp only [add_plain] at hx195_0|skip);obtain ⟨oki29,ce29,hcl29,hM29,hcc29,_,_,hH29⟩:=Kd.S_elem HO_7.out [] (x8_2:Int) (of_decide_eq_true za) (by have h_:(x8_2:Int)<((x7_2.length:Int):Int):=of_decide_eq_true za;first|exact h_|(have e_:=(Kd.S_reads' HO_7.out).1;omega)|simpa using h_);obtain ⟨ve29_0,rfl,ge29_0⟩:=hM29;have hv29:=hcc29 0 _ rfl;have hX29:=HX195_0.out;(try simp only [add_plain] at hX29);(try simp only [Nat.add_zero] at hv29);(try rw [show ((Kd.slice 116 k116)).sz=1 from rfl,Nat.mul_one] at hv29);replace hv29:=Option.some.inj (hv29.symm.trans hX29);subst hv29;clear hX29 hcc29 hcl29;have UU29:=Aside0.mk (show Kd.R k116 116 _ w.heap.size oki29 (.slice A195_0 (rd_L7 x7_2 x8_2).length c195_0) (rd_L7 x7_2 x8_2) from ge29_0);have HH29:=Aside0.mk hH29;have HN29:=Aside0.mk (Kd.S_reads' HO_7.out).1;clear hH29 ge29_0)|((with_reducible refine gate_builtin (b:=.append) (xs:=#[.tmp 50,.tmp 57]) rfl ?_);at_builtin;refine Kd.R_append k116 (w0:=w) w.heap.size rfl (.tmp 50) (.tmp 57) 65 116 (.agg #[(.int .i64 0),(.int .i64 0),(.int .i64 0)]) 24 rfl Try.underlying65 info116 rfl (by decide) (by omega) (.slice A195_0 (rd_L7 x7_2 x8_2).length c195_0) (rd_L7 x7_2 x8_2) (⟨x10_1,x9_2,wrap64 (x9_2 + t194)⟩:S116) [.int .i64 x10_1,.int .i64 x9_2,.int .i64 (wrap64 (x9_2 + t194))] (fun k_=>oki29 k_∨((fun _=>True)) k_∧wr.heap.size≤k_) (fun _=>False) rfl rfl ?aP (fun _ hk=>hk.elim) ?aF ?aO ?aB ?aS ?aL ?_;(case aP=>exact k116_mkM _ _ _ (⟨x10_1,x9_2,wrap64 (x9_2 + t194)⟩:S116));(case aB=>exact zb);(case aF=>exact (fun k_ hk=>.inr ⟨trivial,hk⟩));(case aO=>exact (zR (Kd.R_mono UU29.out (fun _ hk=>.inl hk))));(case aS=>exact (below_size zb));(case aL=>have:=LMc25.out;omega);intro v197 w30 ho hb hg hat;rw [←Ny196.out] at ho;replace HB:=Aside0.mk (hb);replace HH29:=Aside0.mk (Kd.H_grown (Kd.H_widen (by repeat (first|exact HH29.out|refine Kd.H_alloc ?_ _|refine Kd.H_drewN ?_ _|refine Kd.H_drew ?_))) hg (fun k_ e_=>.inl (UU29.out.1 k_ e_)));have HO198:=Aside0.mk (ho);clear HO_7 UU29 HL195_0;clear ho hb hg hat;have p26:0≤(x8_2:Int):=of_decide_eq_true za;have q26:(x8_2:Int)<((x7_2.length:Int):Int):=of_decide_eq_true za;replace p26:=eq_true p26;replace q26:=eq_true q26;obtain ⟨Ao33,co33,eo33⟩:=Kd.R_slice HO198.out;subst eo33;obtain ⟨_,_,hraw31,_,_,hcc31,_⟩:=Kd.H_raw HH29.out (of_decide_eq_true za) (by have h_:(x8_2:Int)<((x7_2.length:Int):Int):=of_decide_eq_true za;first|exact h_|(have e_:=(HN29.out);omega)|simpa using h_);obtain ⟨_,hfr31⟩:=Kd.H_at HH29.out (of_decide_eq_true za) (by have h_:(x8_2:Int)<((x7_2.length:Int):Int):=of_decide_eq_true za;first|exact h_|(have e_:=(HN29.out);omega)|simpa using h_);have hx31_0:=hcc31 0 _ rfl;have hf31_0:=hfr31 0;(try simp only [Nat.add_zero] at hx31_0 hf31_0);(try rw [show ((Kd.slice 116 k116)).sz=1 from rfl,Nat.mul_one] at hx31_0);(try rw [show ((Kd.slice 116 k116)).sz=1 from rfl,Nat.mul_one] at hf31_0);have HP31:=Kd.S_seg0 HH29.out (of_decide_eq_true za) (by have h_:(x8_2:Int)<((x7_2.length:Int):Int):=of_decide_eq_true za;first|exact h_|(have e_:=(HN29.out);omega)|simpa using h_) (seg:=[.slice Ao33 y196.length co33]) (j:=0) (show 1≤1 from by decide) (x':=y196) (Kd.M_row HO198.out) (fun _ hk=>hk);(try simp only [show ((Kd.slice 116 k116)).sz=1 from rfl,Nat.mul_one,Nat.add_zero] at HP31);clear hcc31 hfr31)|((with_reducible refine gate_store (t:=65) (p:=59) rfl ?_);(try (rw [drewN_self w30];generalize hq_:World.drewN w30 _=w30;have n0_:=Aside0.mk (Kd.S_at hq_ HO_7.out);have n1_:=Aside0.mk (below_at hq_ HB.out);(try replace hx31_0:=cell_at hq_ hx31_0);(try replace hf31_0:=(fun {W_ W2_:World} {n_:Nat} {a_:Addr} {b_:Bool} (h_:W_.drewN n_=W2_) (e_:W_.frozen? a_=b_)=>(by subst h_;exact e_:W2_.frozen? a_=b_)) hq_ hf31_0);clear hq_ HO_7 HB;have HO_7:=n0_;have HB:=n1_;clear n0_ n1_;(try (obtain ⟨Ao33,co33,eo33⟩:=Kd.R_slice HO198.out));(try (subst eo33));(try (obtain ⟨_,_,hraw31,_,_,hcc31,_⟩:=Kd.H_raw HH29.out (of_decide_eq_true za) (by have h_:(x8_2:Int)<((x7_2.length:Int):Int):=of_decide_eq_true za;first|exact h_|(have e_:=(HN29.out);omega)|simpa using h_)));(try (obtain ⟨_,hfr31⟩:=Kd.H_at HH29.out (of_decide_eq_true za) (by have h_:(x8_2:Int)<((x7_2.length:Int):Int):=of_decide_eq_true za;first|exact h_|(have e_:=(HN29.out);omega)|simpa using h_)));(try (have hx31_0:=hcc31 0 _ rfl));(try (have hf31_0:=hfr31 0));(try (try simp only [Nat.add_zero] at hx31_0 hf31_0));(try (try rw [show ((Kd.slice 116 k116)).sz=1 from rfl,Nat.mul_one] at hx31_0));(try (try rw [show ((Kd.slice 116 k116)).sz=1 from rfl,Nat.mul_one] at hf31_0));(try (have HP31:=Kd.S_seg0 HH29.out (of_decide_eq_true za) (by have h_:(x8_2:Int)<((x7_2.length:Int):Int):=of_decide_eq_true za;first|exact h_|(have e_:=(HN29.out);omega)|simpa using h_) (seg:=[.slice Ao33 y196.length co33]) (j:=0) (show 1≤1 from by decide) (x':=y196) (Kd.M_row HO198.out) (fun _ hk=>hk)));(try (try simp only [show ((Kd.slice 116 k116)).sz=1 from rfl,Nat.mul_one,Nat.add_zero] at HP31));(try (clear hcc31 hfr31))));refine store_event (t:=65) (p:=59) (v:=?vo_w32) (w1:=(w30.setCell ⟨go29,(x8_2:Int).toNat,none⟩ (.slice Ao33 y196.length co33))) ?hg ?ho ?hn ?hr ?_;(case ho=>rfl);(case hg=>rfl);(case hn=>rfl);(case hr=>first|(go_simp;done)|(go_simp;rfl));intro w32 hw;have hg:w30.grownBy w32 (some go29):=(by rw [hw];exact HP31.2);have hp_:Kd.S (Kd.slice 116 k116) 65 w32 w.heap.size (fun _=>True) (.slice (some ⟨go29,0,none⟩) x7_2.length co28) y199:=(by rw [hw,Ny199.out];exact HP31.1);clear HP31;replace HB:=Aside0.mk ((by rw [hw];exact below_set HB.out GB29.out:Below w.heap.size w w32));have HO_7:=Aside0.mk (hp_);clear HO198 HH29;clear hg hw hp_ hraw31))
     go_roundg k2
     case measure=>have:=HK1.out;have:=HK2.out;omega
     case rel=>exact ⟨(y199),(wrap64 (x8_2 + 1)),(0),(wrap64 (x11_2 - t194)),zo,zo,zo,H',⟨zz9⟩,⟨zS HO_7.out⟩,⟨zb⟩⟩

/-- A state of type 111 at block g of W; what its slices lead to came in by w0. -/
def IsS111 (w0 W:World) (g:Nat) (f0:List Int) (f1:Int) (f2:Int):Prop:=∃ A0 c0,W.heap[g]?=some (.cells #[.slice A0 f0.length c0,.int .i64 f1,.int .u64 f2] 111 (0,0))∧w0.heap.size≤g∧Kd.C (Kd.int .u8) w0 A0 f0.length f0
theorem IsS111.grown {w0 W:World} {g:Nat} {f0:List Int} {f1:Int} {f2:Int} {W1:World} {row:Option Nat} (h:IsS111 w0 W g f0 f1 f2) (hw:W.grownBy W1 row) (hne:some g≠row):IsS111 w0 W1 g f0 f1 f2:=by
 obtain ⟨A0,c0,hb,hg,hr0⟩:=h
 exact ⟨A0,c0,blk_grown hb hw hne,hg,hr0⟩
theorem IsS111.own_neN {w0 W:World} {g:Nat} {f0:List Int} {f1:Int} {f2:Int} {α:Type} {d:Kd α} {e:Nat} {base:Nat} {ok:Nat→Prop} {v:Value} {xs:List α} (h:IsS111 w0 W g f0 f1 f2) (ho:Kd.N d e W base ok v xs) (ht:e≠111):some g≠v.ownBlock:=by
 obtain ⟨A0,c0,hb,hg,hr0⟩:=h
 exact Kd.N_ne ho hb ht
theorem IsS111.fresh {w0 W:World} {g:Nat} {f0:List Int} {f1:Int} {f2:Int} (h:IsS111 w0 W g f0 f1 f2):∀ k,W.heap.size≤k→k≠g:=by
 obtain ⟨A0,c0,hb,hg,hr0⟩:=h
 exact Kd.freshB hb
theorem IsS111.kept {w0 W:World} {g:Nat} {f0:List Int} {f1:Int} {f2:Int} {W1:World} {S:Nat→Prop} (h:IsS111 w0 W g f0 f1 f2) (hk:Kept W W1 S) (hne:¬ S g):IsS111 w0 W1 g f0 f1 f2:=by
 obtain ⟨A0,c0,hb,hg,hr0⟩:=h
 exact ⟨A0,c0,blk_kept hb hk hne,hg,hr0⟩
theorem IsS111.below {w0 W:World} {g:Nat} {f0:List Int} {f1:Int} {f2:Int} {W1:World} (h:IsS111 w0 W g f0 f1 f2) (hw:Below W.heap.size W W1):IsS111 w0 W1 g f0 f1 f2:=h.grown (grown_of_below hw none) (by simp)
theorem IsS111.alloc {w0 W:World} {g:Nat} {f0:List Int} {f1:Int} {f2:Int} (h:IsS111 w0 W g f0 f1 f2) (o:Obj):IsS111 w0 (W.alloc o) g f0 f1 f2:=h.below (below_alloc (Below.refl _ _) o)
theorem IsS111.drewN {w0 W:World} {g:Nat} {f0:List Int} {f1:Int} {f2:Int} (h:IsS111 w0 W g f0 f1 f2) (m:Nat):IsS111 w0 (W.drewN m) g f0 f1 f2:=h
theorem IsS111.drew {w0 W:World} {g:Nat} {f0:List Int} {f1:Int} {f2:Int} (h:IsS111 w0 W g f0 f1 f2):IsS111 w0 W.drew g f0 f1 f2:=h
theorem IsS111.at_ {w0 W:World} {g:Nat} {f0:List Int} {f1:Int} {f2:Int} {w':World} {m:Nat} (hq:W.drewN m=w') (h:IsS111 w0 W g f0 f1 f2):IsS111 w0 w' g f0 f1 f2:=by subst hq;exact IsS111.drewN h m
theorem IsS111.apart {w0 W:World} {g:Nat} {f0:List Int} {f1:Int} {f2:Int} {α:Type} {d:Kd α} {e:Nat} {base:Nat} {ok:Nat→Prop} {v:Value} {xs:List α} (h:IsS111 w0 W g f0 f1 f2) (ho:d.R e W base ok v xs) (ht:∀ q,q ∈ e::d.E→q≠111):d.R e W base (fun k=>ok k∧k≠g) v xs:=by
 obtain ⟨A0,c0,hb,hg,hr0⟩:=h
 exact Kd.R_types ho hb ht
theorem IsS111.own_ne {w0 W:World} {g:Nat} {f0:List Int} {f1:Int} {f2:Int} {α:Type} {d:Kd α} {e:Nat} {base:Nat} {ok:Nat→Prop} {v:Value} {xs:List α} (h:IsS111 w0 W g f0 f1 f2) (ho:d.R e W base ok v xs) (ht:e≠111):some g≠v.ownBlock:=by
 obtain ⟨A0,c0,hb,hg,hr0⟩:=h
 exact Kd.R_ne ho hb ht
theorem IsS111.apartQ {w0 W:World} {g:Nat} {f0:List Int} {f1:Int} {f2:Int} {α:Type} {d:Kd α} {e:Nat} {base:Nat} {ok:Nat→Prop} {v:Value} {xs:List α} (h:IsS111 w0 W g f0 f1 f2) (ho:d.Q e W base ok v xs) (ht:∀ q,q ∈ e::d.E→q≠111):d.Q e W base (fun k=>ok k∧k≠g) v xs:=by
 obtain ⟨A0,c0,hb,hg,hr0⟩:=h
 exact Kd.Q_types ho hb ht
theorem IsS111.own_neQ {w0 W:World} {g:Nat} {f0:List Int} {f1:Int} {f2:Int} {α:Type} {d:Kd α} {e:Nat} {base:Nat} {ok:Nat→Prop} {v:Value} {xs:List α} (h:IsS111 w0 W g f0 f1 f2) (ho:d.Q e W base ok v xs) (ht:e≠111):some g≠v.ownBlock:=by
 obtain ⟨A0,c0,hb,hg,hr0⟩:=h
 exact Kd.Q_ne ho hb ht
theorem IsS111.apartS {w0 W:World} {g:Nat} {f0:List Int} {f1:Int} {f2:Int} {α:Type} {d:Kd α} {e:Nat} {base:Nat} {ok:Nat→Prop} {v:Value} {xs:List α} (h:IsS111 w0 W g f0 f1 f2) (ho:d.S e W base ok v xs) (ht:∀ q,q ∈ e::d.E→q≠111):d.S e W base (fun k=>ok k∧k≠g) v xs:=by
 obtain ⟨A0,c0,hb,hg,hr0⟩:=h
 exact Kd.S_types ho hb ht
theorem IsS111.own_neS {w0 W:World} {g:Nat} {f0:List Int} {f1:Int} {f2:Int} {α:Type} {d:Kd α} {e:Nat} {base:Nat} {ok:Nat→Prop} {v:Value} {xs:List α} (h:IsS111 w0 W g f0 f1 f2) (ho:d.S e W base ok v xs) (ht:e≠111):some g≠v.ownBlock:=by
 obtain ⟨A0,c0,hb,hg,hr0⟩:=h
 exact Kd.S_ne ho hb ht
theorem IsS111.lt {w0 W:World} {g:Nat} {f0:List Int} {f1:Int} {f2:Int} (h:IsS111 w0 W g f0 f1 f2):g<W.heap.size:=by
 obtain ⟨A0,c0,hb,hg,hr0⟩:=h
 exact blk_lt hb
theorem IsS111.ge {w0 W:World} {g:Nat} {f0:List Int} {f1:Int} {f2:Int} (h:IsS111 w0 W g f0 f1 f2):w0.heap.size≤g:=by
 obtain ⟨A0,c0,hb,hg,hr0⟩:=h
 exact hg
theorem IsS111.ne_blk {w0 W:World} {g:Nat} {f0:List Int} {f1:Int} {f2:Int} {a:Nat} {cs:Array Value} {t:TypeId} {fr:Nat × Nat} (h:IsS111 w0 W g f0 f1 f2) (hb2:W.heap[a]?=some (.cells cs t fr)) (ht:t≠111):g≠a:=by
 obtain ⟨A0,c0,hb,hg,hr0⟩:=h
 rintro rfl
 rw [hb] at hb2
 injection hb2 with hb2
 injection hb2 with _ ht2
 exact ht ht2.symm
theorem IsS111.far {w0 W:World} {g:Nat} {f0:List Int} {f1:Int} {f2:Int} {p:Addr} (h:IsS111 w0 W g f0 f1 f2) (hne:g≠p.block) (u:Value):IsS111 w0 (W.setCell p u) g f0 f1 f2:=by
 obtain ⟨A0,c0,hb,hg,hr0⟩:=h
 exact ⟨A0,c0,blk_far hb hne u,hg,hr0⟩
theorem cellS111_0 {W:World} {g:Nat} {A0:Option Addr} {c0:Nat} {f0:List Int} {f1:Int} {f2:Int} (h:W.heap[g]?=some (.cells #[.slice A0 f0.length c0,.int .i64 f1,.int .u64 f2] 111 (0,0))):W.cell? ⟨g,0,none⟩=some (.slice A0 f0.length c0):=(blk_cell h 0).trans rfl
theorem cellS111_1 {W:World} {g:Nat} {A0:Option Addr} {c0:Nat} {f0:List Int} {f1:Int} {f2:Int} (h:W.heap[g]?=some (.cells #[.slice A0 f0.length c0,.int .i64 f1,.int .u64 f2] 111 (0,0))):W.cell? ⟨g,1,none⟩=some (.int .i64 f1):=(blk_cell h 1).trans rfl
theorem IsS111.set_1 {w0 W:World} {g:Nat} {f0:List Int} {f1:Int} {f2:Int} (h:IsS111 w0 W g f0 f1 f2) (x:Int):IsS111 w0 (W.setCell ⟨g,1,none⟩ (.int .i64 x)) g f0 x f2:=by
 obtain ⟨A0,c0,hb,hg,hr0⟩:=h
 exact ⟨A0,c0,by simpa using blk_set hb 1 (.int .i64 x),hg,hr0⟩
theorem cellS111_2 {W:World} {g:Nat} {A0:Option Addr} {c0:Nat} {f0:List Int} {f1:Int} {f2:Int} (h:W.heap[g]?=some (.cells #[.slice A0 f0.length c0,.int .i64 f1,.int .u64 f2] 111 (0,0))):W.cell? ⟨g,2,none⟩=some (.int .u64 f2):=(blk_cell h 2).trans rfl
theorem IsS111.set_2 {w0 W:World} {g:Nat} {f0:List Int} {f1:Int} {f2:Int} (h:IsS111 w0 W g f0 f1 f2) (x:Int):IsS111 w0 (W.setCell ⟨g,2,none⟩ (.int .u64 x)) g f0 f1 x:=by
 obtain ⟨A0,c0,hb,hg,hr0⟩:=h
 exact ⟨A0,c0,by simpa using blk_set hb 2 (.int .u64 x),hg,hr0⟩
theorem IsS111.new (w0 W:World) (A0:Option Addr) (c0:Nat) (f0:List Int) (f1:Int) (f2:Int) (hB:Below w0.heap.size w0 W) (hr0:Kd.C (Kd.int .u8) w0 A0 f0.length f0):IsS111 w0 (W.alloc (.cells #[.slice A0 f0.length c0,.int .i64 f1,.int .u64 f2] 111)) W.heap.size f0 f1 f2:=⟨A0,c0,by simpa using heap_alloc_new W _,hB.size,hr0⟩

/-! ### spec_l1Cur_next: function 139 -/
def spec_l1Cur_next.f (s0_0:List Int) (s0_1:Int) (s0_2:Int):Option (Int × Int × Int):=if s0_1<(s0_0.length:Int) then (if 0≤s0_1 then (if (wrap64 (s0_1 + 1))≤(s0_0.length:Int) then (some (wrap64 (rd s0_0 s0_1),wrap64 (s0_1 + 1),IntKind.u64.wrap ((IntKind.u64.wrap ((IntKind.u64.wrap (s0_2 * 6364136223846793005)) + (IntKind.u64.wrap (wrap64 (rd s0_0 s0_1))))) + 462197))) else (some (wrap64 (Go.bits .and .u64 ((IntKind.u64.wrap ((IntKind.u64.wrap ((IntKind.u64.wrap (s0_2 * 6364136223846793005)) + (IntKind.u64.wrap (wrap64 (rd s0_0 s0_1))))) + 462197)) / 1099511627776) 255),wrap64 (s0_1 + 1),IntKind.u64.wrap ((IntKind.u64.wrap ((IntKind.u64.wrap (s0_2 * 6364136223846793005)) + (IntKind.u64.wrap (wrap64 (rd s0_0 s0_1))))) + 462197)))) else (none)) else (if (wrap64 (s0_1 + 1))≤(s0_0.length:Int) then (some (0,wrap64 (s0_1 + 1),IntKind.u64.wrap ((IntKind.u64.wrap (IntKind.u64.wrap (s0_2 * 6364136223846793005))) + 462197))) else (some (wrap64 (Go.bits .and .u64 ((IntKind.u64.wrap ((IntKind.u64.wrap (IntKind.u64.wrap (s0_2 * 6364136223846793005))) + 462197)) / 1099511627776) 255),wrap64 (s0_1 + 1),IntKind.u64.wrap ((IntKind.u64.wrap (IntKind.u64.wrap (s0_2 * 6364136223846793005))) + 462197))))
set_option maxHeartbeats 8000000 in
set_option maxRecDepth 100000 in
theorem spec_l1Cur_next.calls (g:Nat) (s0_0:List Int) (s0_1:Int) (s0_2:Int) (r1:Int) (r2:Int) (r3:Int) (w0 w:World) (hI:IsS111 w0 w g s0_0 s0_1 s0_2) (hB:Below w0.heap.size w0 w) (h:spec_l1Cur_next.f s0_0 s0_1 s0_2=some (r1,r2,r3)) :
  Calls Try.prog 139 #[.pointer (some ⟨g,0,none⟩)] w fun e w'=>e=.returned (.int .i64 r1)∧IsS111 w0 w' g s0_0 r2 r3∧Below w0.heap.size w0 w'∧KeepBut w w' g none:=by
 have HI0:=Aside0.mk hI
 have HK:=Aside0.mk (KeepBut.refl w g none)
 have HL:=Aside0.mk hB.size
 clear hI
 have HW0:=Aside0.mk hB.size
 have HB:=Aside0.mk hB
 clear hB
 have H:(if s0_1<(s0_0.length:Int) then (if 0≤s0_1 then (if (wrap64 (s0_1 + 1))≤(s0_0.length:Int) then (some (wrap64 (rd s0_0 s0_1),wrap64 (s0_1 + 1),IntKind.u64.wrap ((IntKind.u64.wrap ((IntKind.u64.wrap (s0_2 * 6364136223846793005)) + (IntKind.u64.wrap (wrap64 (rd s0_0 s0_1))))) + 462197))) else (some (wrap64 (Go.bits .and .u64 ((IntKind.u64.wrap ((IntKind.u64.wrap ((IntKind.u64.wrap (s0_2 * 6364136223846793005)) + (IntKind.u64.wrap (wrap64 (rd s0_0 s0_1))))) + 462197)) / 1099511627776) 255),wrap64 (s0_1 + 1),IntKind.u64.wrap ((IntKind.u64.wrap ((IntKind.u64.wrap (s0_2 * 6364136223846793005)) + (IntKind.u64.wrap (wrap64 (rd s0_0 s0_1))))) + 462197)))) else (none)) else (if (wrap64 (s0_1 + 1))≤(s0_0.length:Int) then (some (0,wrap64 (s0_1 + 1),IntKind.u64.wrap ((IntKind.u64.wrap (IntKind.u64.wrap (s0_2 * 6364136223846793005))) + 462197))) else (some (wrap64 (Go.bits .and .u64 ((IntKind.u64.wrap ((IntKind.u64.wrap (IntKind.u64.wrap (s0_2 * 6364136223846793005))) + 462197)) / 1099511627776) 255),wrap64 (s0_1 + 1),IntKind.u64.wrap ((IntKind.u64.wrap (IntKind.u64.wrap (s0_2 * 6364136223846793005))) + 462197)))))=some (r1,r2,r3):=h
 clear h
 by_cases c2:s0_1<(s0_0.length:Int)
 rotate_left
 ·rw [if_neg c2] at H
  have c2b0:=decide_eq_false c2
  clear c2
  by_cases c7:(wrap64 (s0_1 + 1))≤(s0_0.length:Int)
  ·rw [if_pos c7] at H
   have c7b0:=decide_eq_true c7
   clear c7
   simp only [Option.some.injEq,Prod.mk.injEq] at H
   obtain ⟨rfl,rfl,rfl⟩:=H
   obtain ⟨ASz8_0,cSz8_0,HGz8,hgz8,HSz8_0⟩:=HI0.out
   have hcz8_0:=cellS111_0 HGz8
   have hcz8_1:=cellS111_1 HGz8
   have hcz8_2:=cellS111_2 HGz8
   have hfz8_1:=blk_frozen HGz8 1
   have hfz8_2:=blk_frozen HGz8 2
   clear HGz8 hgz8
   go_enter Try.func139,Try.ntmps139
   go_wp2
   repeat (go_quiet (fail);try go_wp2)
   go_ret
   exact ⟨zz1,zz2,zz3,zz0⟩
  rw [if_neg c7] at H
  have c7b0:=decide_eq_false c7
  clear c7
  simp only [Option.some.injEq,Prod.mk.injEq] at H
  obtain ⟨rfl,rfl,rfl⟩:=H
  obtain ⟨ASz9_0,cSz9_0,HGz9,hgz9,HSz9_0⟩:=HI0.out
  have hcz9_0:=cellS111_0 HGz9
  have hcz9_1:=cellS111_1 HGz9
  have hcz9_2:=cellS111_2 HGz9
  have hfz9_1:=blk_frozen HGz9 1
  have hfz9_2:=blk_frozen HGz9 2
  clear HGz9 hgz9
  go_enter Try.func139,Try.ntmps139
  go_wp2
  repeat (go_quiet (fail);try go_wp2)
  go_ret
  exact ⟨zz1,zz2,zz3,zz0⟩
 rw [if_pos c2] at H
 have c2b0:=decide_eq_true c2
 clear c2
 by_cases c3:0≤s0_1
 rotate_left
 ·rw [if_neg c3] at H
  exact absurd H (by simp)
 rw [if_pos c3] at H
 have c3b0:=decide_eq_true c3
 clear c3
 by_cases c4:(wrap64 (s0_1 + 1))≤(s0_0.length:Int)
 ·rw [if_pos c4] at H
  have c4b0:=decide_eq_true c4
  clear c4
  simp only [Option.some.injEq,Prod.mk.injEq] at H
  obtain ⟨rfl,rfl,rfl⟩:=H
  obtain ⟨ASz5_0,cSz5_0,HGz5,hgz5,HSz5_0⟩:=HI0.out
  have hcz5_0:=cellS111_0 HGz5
  have hcz5_1:=cellS111_1 HGz5
  have hcz5_2:=cellS111_2 HGz5
  have hfz5_1:=blk_frozen HGz5 1
  have hfz5_2:=blk_frozen HGz5 2
  clear HGz5 hgz5
  have p200:0≤(s0_1:Int):=of_decide_eq_true za
  have q200:s0_1<(s0_0.length:Int):=of_decide_eq_true za
  obtain ⟨ad200,e200,hx200_0⟩:=Kd.at_int HSz5_0 s0_1 p200 q200
  cases e200
  replace hx200_0:=pw_cell_below HB.out hx200_0
  replace p200:=eq_true p200
  replace q200:=eq_true q200
  go_enter Try.func139,Try.ntmps139
  go_wp2
  repeat (go_quiet (fail);try go_wp2)
  go_ret
  exact ⟨zz1,zz2,zz3,zz0⟩
 rw [if_neg c4] at H
 have c4b0:=decide_eq_false c4
 clear c4
 simp only [Option.some.injEq,Prod.mk.injEq] at H
 obtain ⟨rfl,rfl,rfl⟩:=H
 obtain ⟨ASz6_0,cSz6_0,HGz6,hgz6,HSz6_0⟩:=HI0.out
 have hcz6_0:=cellS111_0 HGz6
 have hcz6_1:=cellS111_1 HGz6
 have hcz6_2:=cellS111_2 HGz6
 have hfz6_1:=blk_frozen HGz6 1
 have hfz6_2:=blk_frozen HGz6 2
 clear HGz6 hgz6
 have p200:0≤(s0_1:Int):=of_decide_eq_true za
 have q200:s0_1<(s0_0.length:Int):=of_decide_eq_true za
 obtain ⟨ad200,e200,hx200_0⟩:=Kd.at_int HSz6_0 s0_1 p200 q200
 cases e200
 replace hx200_0:=pw_cell_below HB.out hx200_0
 replace p200:=eq_true p200
 replace q200:=eq_true q200
 go_enter Try.func139,Try.ntmps139
 go_wp2
 repeat (go_quiet (fail);try go_wp2)
 go_ret
 exact ⟨zz1,zz2,zz3,zz0⟩

end Go.Proofs.Ytbcfmegepkhlpaa.XFnShared
-- minified
