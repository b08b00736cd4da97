-- Written by a program of this session (the kit's print, widened). Proved here: what each function answers, for the arguments that its contract names.
import Derived.Test.YtbcfmegepkhlpaaXFnSharedx0
import Derived.Test.YtbcfmegepkhlpaaXFnSharedx1
import Derived.Test.YtbcfmegepkhlpaaXFnSharedx13
import Derived.Test.YtbcfmegepkhlpaaXFnSharedx17
namespace Go.Proofs.Ytbcfmegepkhlpaa.XFnShared
open Go.RowKit Go.Proofs.YtbcfmegepkhlpaaW.PrintWords Go.Proofs.YtbcfmegepkhlpaaW.PrintLast Go.Proofs.YtbcfmegepkhlpaaW.PrintMore
attribute [local go_sem] max2_int min2_int max_two min_two max_three min_three max_four min_four   -- for this text's walks alone
attribute [local go_sem] idxA_72_0 idxA_72_1 fldS_96_0 fldS_96_1 fldS_96_2 fldS_111_0 fldS_111_1 fldS_111_2
set_option linter.unusedVariables false
set_option linter.unusedSimpArgs false

def ixV (i:Nat):Value→Int
 | .agg a=>match a[i]? with
  | some (.int _ n)=>n
  | _=>0
 | _=>0
def agV:Value→Bool
 | .agg ⟨[.int .i64 _,.int .i64 _,.int .i64 _]⟩=>true
 | _=>false
theorem agV_3 (a b c:Int):agV (.agg #[.int .i64 a,.int .i64 b,.int .i64 c])=true:=id rfl
theorem ixV_0 (k:IntKind) (a:Int) (b c:Value):ixV 0 (.agg #[.int k a,b,c])=a:=rfl
theorem ixV_1 (k:IntKind) (a:Int) (b c:Value):ixV 1 (.agg #[b,.int k a,c])=a:=rfl
theorem ixV_2 (k:IntKind) (a:Int) (b c:Value):ixV 2 (.agg #[b,c,.int k a])=a:=rfl
theorem agV_ex {x:Value} (h:agV x=true):∃ a b c,x=.agg #[.int .i64 a,.int .i64 b,.int .i64 c]:=by
 unfold agV at h
 split at h
 · exact ⟨_,_,_,rfl⟩
 · cases h
theorem eqV116 (d:Nat) (P:Program) (w:World) (t:TypeId) (x y:Value) (hP:P=Try.prog) (ht:t=116) (hx:agV x=true) (hy:agV y=true):(Op.equalIn (d + 2) t x y).run P w=.ok (ixV 0 x == ixV 0 y && (ixV 1 x == ixV 1 y && (ixV 2 x == ixV 2 y))) w:=by
 subst hP ht
 obtain ⟨x0,x1,x2,rfl⟩:=agV_ex hx
 obtain ⟨y0,y1,y2,rfl⟩:=agV_ex hy
 exact eqA116 d w x0 y0 x1 y1 x2 y2
attribute [local go_sem] agV_3 ixV_0 ixV_1 ixV_2 eqV116
/-! ### impl_greatestOf: function 142 -/
def impl_greatestOf.l0:Nat→Int→List Int→Int→Int→Option (Int)
 | 0,_,_,_,_=>none
 | k + 1,x3,x6,x7,x8=>if x8<x7 then (if 0≤x8 then (if x8<(x6.length:Int) then (impl_greatestOf.l0 k (mx x3 (rd x6 x8)) x6 x7 (wrap64 (x8 + 1))) else (none)) else (none)) else (some x3)
def impl_greatestOf.f (k:Nat) (l0:List Int):Option (Int):=impl_greatestOf.l0 k 0 l0 (l0.length:Int) 0
theorem impl_greatestOf.mono_l:∀ k,(∀ y0 y1 y2 y3,LeO (impl_greatestOf.l0 k y0 y1 y2 y3) (impl_greatestOf.l0 (k + 1) y0 y1 y2 y3))
 | 0=>fun _ _ _ _ r h=>by simp [impl_greatestOf.l0] at h
 | k + 1=>by
  have ih0:=impl_greatestOf.mono_l k
  ·intro y0 y1 y2 y3
   unfold impl_greatestOf.l0
   repeat' first|(with_reducible first|apply ih0|exact LeO.refl _|exact LeO.none _|refine LeO.ite ?_ ?_|refine LeO.bind ?_ (fun _=>?_))|apply ih0|exact LeO.none _|refine LeO.ite ?_ ?_|refine LeO.bind ?_ (fun _=>?_)
theorem impl_greatestOf.mono:∀ a0 k,LeO (impl_greatestOf.f k a0) (impl_greatestOf.f (k + 1) a0):=by
 intro a0 k
 have ih0:=impl_greatestOf.mono_l k
 unfold impl_greatestOf.f
 repeat' first|(with_reducible first|apply ih0|exact LeO.refl _|exact LeO.none _|refine LeO.ite ?_ ?_|refine LeO.bind ?_ (fun _=>?_))|apply ih0|exact LeO.none _|refine LeO.ite ?_ ?_|refine LeO.bind ?_ (fun _=>?_)
set_option maxHeartbeats 8000000 in
set_option maxRecDepth 100000 in
theorem impl_greatestOf.calls (k:Nat) (A0:Option Addr) (c0:Nat) (l0:List Int) (r:Int) (w:World) (hr0:Kd.C (Kd.int .i64) w A0 l0.length l0) (hc0:l0.length≤c0) (h:impl_greatestOf.f k l0=some r) :
  Calls Try.prog 142 #[.slice A0 l0.length c0] w fun e w'=>e=.returned (.int .i64 r)∧Below w.heap.size w w':=by
 have HR0:=Aside0.mk hr0
 have HC0:=Aside0.mk hc0
 clear hr0 hc0
 have HB:=Aside0.mk (Below.refl w.heap.size w)
 have H:(impl_greatestOf.l0 k 0 l0 (l0.length:Int) 0)=some r:=h
 clear h
 have H':=Aside0.mk H
 clear H
 go_enter Try.func142,Try.ntmps142
 go_wp2
 go_loopg [3,8] k (fun kq v3 v8 w'=>∃ (x3_1:Int) (x8_1:Int),v3=.int .i64 x3_1∧v8=.int .i64 x8_1∧Aside0 (impl_greatestOf.l0 kq x3_1 l0 (l0.length:Int) x8_1=some r)∧Aside0 (kq≤k)∧Aside0 (Below w.heap.size w w'))
 case atStart=>exact ⟨(0),(0),zo,zo,H',⟨Nat.le_refl _⟩,⟨zb⟩⟩
 case round=>
  clear H'
  try clear c1
  obtain ⟨x3_1,x8_1,rfl,rfl,HA,HK1,HB⟩:=hrel
  cases gk with
  | zero=>exact absurd HA.out (by simp [impl_greatestOf.l0])
  | succ k1=>
   have H:=HA.out
   clear HA
   simp only [impl_greatestOf.l0] at H
   by_cases c2:x8_1<(l0.length:Int)
   rotate_left
   ·rw [if_neg c2] at H
    have c2b0:=decide_eq_false c2
    clear c2
    obtain rfl:=Option.some.inj H
    go_wp2
    go_ret
    exact ⟨zz1,zb⟩
   rw [if_pos c2] at H
   have c2b0:=decide_eq_true c2
   clear c2
   by_cases c3:0≤x8_1
   rotate_left
   ·rw [if_neg c3] at H
    exact absurd H (by simp)
   rw [if_pos c3] at H
   have c3b0:=decide_eq_true c3
   clear c3
   by_cases c4:x8_1<(l0.length:Int)
   rotate_left
   ·rw [if_neg c4] at H
    exact absurd H (by simp)
   rw [if_pos c4] at H
   have c4b0:=decide_eq_true c4
   clear c4
   obtain ⟨ji5,hji5⟩:∃ j_:Int,(mx x3_1 (rd l0 x8_1))=j_:=⟨_,rfl⟩
   replace H:(impl_greatestOf.l0 k1 ji5 l0 (l0.length:Int) (wrap64 (x8_1 + 1)))=some r:=by first|(rw [hji5] at H;exact H)|(simp only [hji5] at H ⊢;exact H)
   have hji5_:(if x3_1<(rd l0 x8_1) then (rd l0 x8_1) else x3_1)=ji5:=hji5
   have H':=Aside0.mk H
   clear H
   have p552:0≤(x8_1:Int):=of_decide_eq_true za
   have q552:x8_1<(l0.length:Int):=of_decide_eq_true za
   obtain ⟨ad552,e552,hx552_0⟩:=Kd.at_int HR0.out x8_1 p552 q552
   cases e552
   replace hx552_0:=zh_ HB hx552_0
   replace p552:=eq_true p552
   replace q552:=eq_true q552
   go_wp2
   go_roundg k1
   case measure=>have:=HK1.out;omega
   case rel=>exact ⟨(ji5),(wrap64 (x8_1 + 1)),(by first|rfl|(simp;done)|(simp only [←hji5] <;> (first|rfl|simp))|(simp [*];done)),zo,H',⟨by have:=HK1.out;omega⟩,⟨zb⟩⟩

/-! ### impl_floorDiv: function 164 -/
def impl_floorDiv.f (a0:Int) (a1:Int):Option (Int):=if a1=0 then (none) else (if (Int.tmod a0 a1)<0 then (some (wrap64 ((wrap64 (Int.tdiv a0 a1)) - 1))) else (some (wrap64 (Int.tdiv a0 a1))))
set_option maxHeartbeats 8000000 in
set_option maxRecDepth 100000 in
theorem impl_floorDiv.calls (a0:Int) (a1:Int) (r:Int) (w:World) (h:impl_floorDiv.f a0 a1=some r) :
  Calls Try.prog 164 #[.int .i64 a0,.int .i64 a1] w fun e w'=>e=.returned (.int .i64 r)∧Drawn0 w w':=by
 have H:(if a1=0 then (none) else (if (Int.tmod a0 a1)<0 then (some (wrap64 ((wrap64 (Int.tdiv a0 a1)) - 1))) else (some (wrap64 (Int.tdiv a0 a1)))))=some r:=h
 clear h
 by_cases c3:a1=0
 ·rw [if_pos c3] at H
  exact absurd H (by simp)
 rw [if_neg c3] at H
 have c3b0:(a1 == 0)=false:=beq_eq_false_iff_ne.mpr c3
 have c3b1:(a1 != 0)=true:=bne_iff_ne.mpr c3
 by_cases c4:(Int.tmod a0 a1)<0
 ·rw [if_pos c4] at H
  have c4b0:=decide_eq_true c4
  clear c4
  obtain rfl:=Option.some.inj H
  go_enter Try.func164,Try.ntmps164
  go_wp2
  go_ret
  exact ⟨zz7,zz6⟩
 rw [if_neg c4] at H
 have c4b0:=decide_eq_false c4
 clear c4
 obtain rfl:=Option.some.inj H
 go_enter Try.func164,Try.ntmps164
 go_wp2
 go_ret
 exact ⟨zz7,zz6⟩

/-! ### impl_ceilDiv: function 143 -/
def impl_ceilDiv.f (a0:Int) (a1:Int):Option (Int):=(impl_floorDiv.f (wrap64 (-a0)) a1).bind fun t553=>(some (wrap64 (-t553)))
set_option maxHeartbeats 8000000 in
set_option maxRecDepth 100000 in
theorem impl_ceilDiv.calls (a0:Int) (a1:Int) (r:Int) (w:World) (h:impl_ceilDiv.f a0 a1=some r) :
  Calls Try.prog 143 #[.int .i64 a0,.int .i64 a1] w fun e w'=>e=.returned (.int .i64 r)∧Drawn0 w w':=by
 have H:((impl_floorDiv.f (wrap64 (-a0)) a1).bind fun t553=>(some (wrap64 (-t553))))=some r:=h
 clear h
 replace H:=Option.bind_eq_some_iff.mp H
 obtain ⟨t553,A30,H⟩:=H
 try dsimp only at H
 have A3:=Aside0.mk A30
 clear A30
 obtain rfl:=Option.some.inj H
 go_enter Try.func143,Try.ntmps143
 go_wp2_with (first|((with_reducible refine gate_callee (f:=164) rfl ?_);refine zgo 8 Try.func164 #[.int .i64 (wrap64 (-a0)),.int .i64 a1] ?_;(with_reducible refine (impl_floorDiv.calls (wrap64 (-a0)) a1 t553 _ A3.out).mono ?_);rintro e w' ⟨rfl,⟨nd,rfl⟩⟩;refine ⟨_,rfl,?_⟩))
 go_ret
 exact ⟨zz7,zz6⟩

/-! ### impl_totalOf: function 144 -/
def impl_totalOf.l0:Nat→Int→List (S76)→Int→Int→Option (Int)
 | 0,_,_,_,_=>none
 | k + 1,x3,x6,x7,x8=>if x8<x7 then (if 0≤x8 then (if x8<(x6.length:Int) then (impl_totalOf.l0 k (wrap64 (x3 + ((rd_T76 x6 x8).f0))) x6 x7 (wrap64 (x8 + 1))) else (none)) else (none)) else (some x3)
def impl_totalOf.f (k:Nat) (l0:List (S76)):Option (Int):=impl_totalOf.l0 k 0 l0 (l0.length:Int) 0
theorem impl_totalOf.mono_l:∀ k,(∀ y0 y1 y2 y3,LeO (impl_totalOf.l0 k y0 y1 y2 y3) (impl_totalOf.l0 (k + 1) y0 y1 y2 y3))
 | 0=>fun _ _ _ _ r h=>by simp [impl_totalOf.l0] at h
 | k + 1=>by
  have ih0:=impl_totalOf.mono_l k
  ·intro y0 y1 y2 y3
   unfold impl_totalOf.l0
   repeat' first|(with_reducible first|apply ih0|exact LeO.refl _|exact LeO.none _|refine LeO.ite ?_ ?_|refine LeO.bind ?_ (fun _=>?_))|apply ih0|exact LeO.none _|refine LeO.ite ?_ ?_|refine LeO.bind ?_ (fun _=>?_)
theorem impl_totalOf.mono:∀ a0 k,LeO (impl_totalOf.f k a0) (impl_totalOf.f (k + 1) a0):=by
 intro a0 k
 have ih0:=impl_totalOf.mono_l k
 unfold impl_totalOf.f
 repeat' first|(with_reducible first|apply ih0|exact LeO.refl _|exact LeO.none _|refine LeO.ite ?_ ?_|refine LeO.bind ?_ (fun _=>?_))|apply ih0|exact LeO.none _|refine LeO.ite ?_ ?_|refine LeO.bind ?_ (fun _=>?_)
set_option maxHeartbeats 8000000 in
set_option maxRecDepth 100000 in
theorem impl_totalOf.calls (k:Nat) (A0:Option Addr) (c0:Nat) (l0:List (S76)) (r:Int) (w:World) (hr0:Kd.C k76 w A0 l0.length l0) (hc0:l0.length≤c0) (h:impl_totalOf.f k l0=some r) :
  Calls Try.prog 144 #[.slice A0 l0.length c0] w fun e w'=>e=.returned (.int .i64 r)∧Below w.heap.size w w':=by
 have hu76:=Try.underlying76
 have HR0:=Aside0.mk hr0
 have HC0:=Aside0.mk hc0
 clear hr0 hc0
 have HB:=Aside0.mk (Below.refl w.heap.size w)
 have H:(impl_totalOf.l0 k 0 l0 (l0.length:Int) 0)=some r:=h
 clear h
 have H':=Aside0.mk H
 clear H
 go_enter Try.func144,Try.ntmps144
 go_wp2
 go_loopg [3,8] k (fun kq v3 v8 w'=>∃ (x3_1:Int) (x8_1:Int),v3=.int .i64 x3_1∧v8=.int .i64 x8_1∧Aside0 (impl_totalOf.l0 kq x3_1 l0 (l0.length:Int) x8_1=some r)∧Aside0 (kq≤k)∧Aside0 (Below w.heap.size w w'))
 case atStart=>exact ⟨(0),(0),zo,zo,H',⟨Nat.le_refl _⟩,⟨zb⟩⟩
 case round=>
  clear H'
  try clear c1
  obtain ⟨x3_1,x8_1,rfl,rfl,HA,HK1,HB⟩:=hrel
  cases gk with
  | zero=>exact absurd HA.out (by simp [impl_totalOf.l0])
  | succ k1=>
   have H:=HA.out
   clear HA
   simp only [impl_totalOf.l0] at H
   by_cases c2:x8_1<(l0.length:Int)
   rotate_left
   ·rw [if_neg c2] at H
    have c2b0:=decide_eq_false c2
    clear c2
    obtain rfl:=Option.some.inj H
    go_wp2
    go_ret
    exact ⟨zz1,zb⟩
   rw [if_pos c2] at H
   have c2b0:=decide_eq_true c2
   clear c2
   by_cases c3:0≤x8_1
   rotate_left
   ·rw [if_neg c3] at H
    exact absurd H (by simp)
   rw [if_pos c3] at H
   have c3b0:=decide_eq_true c3
   clear c3
   by_cases c4:x8_1<(l0.length:Int)
   rotate_left
   ·rw [if_neg c4] at H
    exact absurd H (by simp)
   rw [if_pos c4] at H
   have c4b0:=decide_eq_true c4
   clear c4
   have H':=Aside0.mk H
   clear H
   have p554:0≤(x8_1:Int):=of_decide_eq_true za
   have q554:x8_1<(l0.length:Int):=of_decide_eq_true za
   obtain ⟨ad554,e554,hx554_0,hx554_1,hx554_2,hx554_3⟩:=at_T76 HR0.out x8_1 p554 q554
   cases e554
   replace hx554_0:=zh_ HB hx554_0
   replace hx554_1:=zh_ HB hx554_1
   replace hx554_2:=zh_ HB hx554_2
   replace hx554_3:=zh_ HB hx554_3
   replace p554:=eq_true p554
   replace q554:=eq_true q554
   go_wp2_with (first|((with_reducible refine gate_dst (N:=5) rfl ?_);refine box_event ?hg (N:=5) ?hd (cs:=#[.int .i64 0,.int .i64 0,.int .i64 0,.int .i64 0]) (t:=76) ?hr ?_;(case hd=>rfl);(case hg=>rfl);(case hr=>first|(go_simp;done)|(go_simp;rfl));intro gb555 hg w5 hbox hb;have n0_:=zb1 hb;have n1_:=Aside0.mk (hbox);have n2_:=Aside0.mk ((by rw [hg];exact (below_size zb):w.heap.size≤gb555));have n3_:=Aside0.mk ((by rw [hg];exact (below_size zb):w.heap.size≤gb555));clear HB;have HB:=n0_;have BK555:=n1_;have GW555:=n2_;have GE555:=n3_;clear n0_ n1_ n2_ n3_;clear hb hbox hg;obtain ⟨hcz6_0,hcz6_1,hcz6_2,hcz6_3,hfz6_0,hfz6_1,hfz6_2,hfz6_3⟩:=zk4 BK555.out))
   go_roundg k1
   case measure=>have:=HK1.out;omega
   case rel=>exact ⟨(wrap64 (x3_1 + ((rd_T76 l0 x8_1).f0))),(wrap64 (x8_1 + 1)),zo,zo,H',⟨by have:=HK1.out;omega⟩,⟨by repeat (first|(with_reducible first|exact HB.out|apply below_alloc|apply pw_below_drewN|apply below_drew1|refine below_set ?_ GE555.out)|exact HB.out)⟩⟩

/-! ### impl_lengthBound: function 90 -/
def impl_lengthBound.f (k:Nat) (l0:List (S76)) (a1:Int) (l2:List (S72)):Option (Int):=(impl_tailsOf.f k l0 l2).bind fun t556=>((impl_greatestOf.f k t556).bind fun t559=>((impl_totalOf.f k l0).bind fun t560=>((impl_ceilDiv.f t560 a1).bind fun t561=>(some (mx t559 t561)))))
theorem impl_lengthBound.mono:∀ a0 a1 a2 k,LeO (impl_lengthBound.f k a0 a1 a2) (impl_lengthBound.f (k + 1) a0 a1 a2):=by
 intro a0 a1 a2 k
 unfold impl_lengthBound.f
 repeat' first|(with_reducible first|exact impl_greatestOf.mono _ _|exact impl_tailsOf.mono _ _ _|exact impl_totalOf.mono _ _|exact LeO.refl _|exact LeO.none _|refine LeO.ite ?_ ?_|refine LeO.bind ?_ (fun _=>?_))|exact impl_greatestOf.mono _ _|exact impl_tailsOf.mono _ _ _|exact impl_totalOf.mono _ _|exact LeO.none _|refine LeO.ite ?_ ?_|refine LeO.bind ?_ (fun _=>?_)
set_option maxHeartbeats 8000000 in
set_option maxRecDepth 100000 in
theorem impl_lengthBound.calls (k:Nat) (A0:Option Addr) (c0:Nat) (l0:List (S76)) (a1:Int) (A2:Option Addr) (c2:Nat) (l2:List (S72)) (r:Int) (w:World) (hr0:Kd.C k76 w A0 l0.length l0) (hc0:l0.length≤c0) (hr2:Kd.C k72 w A2 l2.length l2) (hc2:l2.length≤c2) (h:impl_lengthBound.f k l0 a1 l2=some r) :
  Calls Try.prog 90 #[.slice A0 l0.length c0,.int .i64 a1,.slice A2 l2.length c2] w fun e w'=>e=.returned (.int .i64 r)∧Below w.heap.size w w':=by
 have HR0:=Aside0.mk hr0
 have HC0:=Aside0.mk hc0
 clear hr0 hc0
 have HR2:=Aside0.mk hr2
 have HC2:=Aside0.mk hc2
 clear hr2 hc2
 have HB:=Aside0.mk (Below.refl w.heap.size w)
 have H:((impl_tailsOf.f k l0 l2).bind fun t556=>((impl_greatestOf.f k t556).bind fun t559=>((impl_totalOf.f k l0).bind fun t560=>((impl_ceilDiv.f t560 a1).bind fun t561=>(some (mx t559 t561))))))=some r:=h
 clear h
 replace H:=Option.bind_eq_some_iff.mp H
 obtain ⟨t556,A40,H⟩:=H
 try dsimp only at H
 have A4:=Aside0.mk A40
 clear A40
 replace H:=Option.bind_eq_some_iff.mp H
 obtain ⟨t559,A50,H⟩:=H
 try dsimp only at H
 have A5:=Aside0.mk A50
 clear A50
 replace H:=Option.bind_eq_some_iff.mp H
 obtain ⟨t560,A60,H⟩:=H
 try dsimp only at H
 have A6:=Aside0.mk A60
 clear A60
 replace H:=Option.bind_eq_some_iff.mp H
 obtain ⟨t561,A70,H⟩:=H
 try dsimp only at H
 have A7:=Aside0.mk A70
 clear A70
 obtain ⟨ji8,hji8⟩:∃ j_:Int,(mx t559 t561)=j_:=⟨_,rfl⟩
 replace H:(some ji8)=some r:=by first|(rw [hji8] at H;exact H)|(simp only [hji8] at H ⊢;exact H)
 (try rw [hji8] at A4)
 (try rw [hji8] at A5)
 (try rw [hji8] at A6)
 (try rw [hji8] at A7)
 have hji8_:(if t559<t561 then t561 else t559)=ji8:=hji8
 obtain rfl:=Option.some.inj H
 go_enter Try.func90,Try.ntmps90
 go_wp2_with (first|((with_reducible refine gate_callee (f:=79) rfl ?_);refine zgo 9 Try.func79 #[.slice A0 l0.length c0,.slice A2 l2.length c2] ?_;(with_reducible refine (impl_tailsOf.calls k _ _ l0 _ _ l2 t556 _ ?side1 ?side2 ?side3 ?side4 A4.out).mono ?_);(case side1=>exact zC HR0.out);(case side2=>exact HC0.out);(case side3=>exact zC HR2.out);(case side4=>exact HC2.out);rintro e w9 ⟨v557,rfl,ho0,hb⟩;refine ⟨_,rfl,?_⟩;have HO558:=Aside0.mk (Kd.R_lower ho0 (below_size zb));replace HB:=zb1 hb;(try clear hb);(try clear ho0);obtain ⟨Ao10,co10,eo10⟩:=Kd.R_slice HO558.out;subst eo10)|((with_reducible refine gate_callee (f:=142) rfl ?_);refine zgo 10 Try.func142 #[.slice Ao10 t556.length co10] ?_;(with_reducible refine (impl_greatestOf.calls k _ _ t556 t559 _ ?side1 ?side2 A5.out).mono ?_);(case side1=>exact zC ((Kd.R_reads' HO558.out).2.2));(case side2=>exact (Kd.R_reads' HO558.out).2.1);rintro e w11 ⟨rfl,hb⟩;refine ⟨_,rfl,?_⟩;replace HO558:=zRb HO558 hb;replace HB:=zb1 hb;(try clear hb))|((with_reducible refine gate_callee (f:=144) rfl ?_);refine zgo 12 Try.func144 #[.slice A0 l0.length c0] ?_;(with_reducible refine (impl_totalOf.calls k _ _ l0 t560 _ ?side1 ?side2 A6.out).mono ?_);(case side1=>exact zC (Kd.C_below HR0.out HB.out));(case side2=>exact HC0.out);rintro e w12 ⟨rfl,hb⟩;refine ⟨_,rfl,?_⟩;replace HO558:=zRb HO558 hb;replace HB:=zb1 hb;(try clear hb))|((with_reducible refine gate_callee (f:=143) rfl ?_);refine zgo 14 Try.func143 #[.int .i64 t560,.int .i64 a1] ?_;(with_reducible refine (impl_ceilDiv.calls t560 a1 t561 _ A7.out).mono ?_);rintro e w' ⟨rfl,⟨nd,rfl⟩⟩;refine ⟨_,rfl,?_⟩))
 go_ret
 exact ⟨by first|rfl|(simp [errW_none,errW_some] <;> rfl)|(simp only [←hji8];first|rfl|(simp [errW_none,errW_some] <;> rfl))|(simp [*,errW_none,errW_some] <;> rfl),zb⟩

/-! ### impl_WrapAround: function 42 -/
mutual
def impl_WrapAround.l0:Nat→Int→List (List (S116))→Int→Int→List (S76)→Int→Int→Option ((List (List (S116))) × Bool)
 | 0,_,_,_,_,_,_,_=>none
 | k + 1,x6,x7,x8,x9,x23,x24,x25=>if x25<x24 then (if 0≤x25 then (if x25<(x23.length:Int) then (impl_WrapAround.l1 k x6 x7 x8 x9 x25 ((rd_T76 x23 x25).f0) x23 x24 x25) else (none)) else (none)) else (some (x7,true))
def impl_WrapAround.l1:Nat→Int→List (List (S116))→Int→Int→Int→Int→List (S76)→Int→Int→Option ((List (List (S116))) × Bool)
 | 0,_,_,_,_,_,_,_,_,_=>none
 | k + 1,x6,x7,x8,x9,x10,x12,x23,x24,x25=>if x12>0 then (if x9=x6 then (if 0≤(wrap64 (x8 + 1)) then (if (wrap64 (x8 + 1))<(x7.length:Int) then (if (rd_L7 x7 (wrap64 (x8 + 1))).length<5864062014805 then (impl_WrapAround.l1 k x6 (x7.set ((wrap64 (x8 + 1)):Int).toNat ((rd_L7 x7 (wrap64 (x8 + 1)))++[(⟨x10,0,wrap64 (0 + (mn x12 (wrap64 (x6 - 0))))⟩:S116)])) (wrap64 (x8 + 1)) (wrap64 (0 + (mn x12 (wrap64 (x6 - 0))))) x10 (wrap64 (x12 - (mn x12 (wrap64 (x6 - 0))))) x23 x24 x25) else (none)) else (none)) else (none)) else (if 0≤x8 then (if x8<(x7.length:Int) then (if (rd_L7 x7 x8).length<5864062014805 then (impl_WrapAround.l1 k x6 (x7.set (x8:Int).toNat ((rd_L7 x7 x8)++[(⟨x10,x9,wrap64 (x9 + (mn x12 (wrap64 (x6 - x9))))⟩:S116)])) x8 (wrap64 (x9 + (mn x12 (wrap64 (x6 - x9))))) x10 (wrap64 (x12 - (mn x12 (wrap64 (x6 - x9))))) x23 x24 x25) else (none)) else (none)) else (none))) else (impl_WrapAround.l0 k x6 x7 x8 x9 x23 x24 (wrap64 (x25 + 1)))
end
def impl_WrapAround.f (k:Nat) (l0:List (S76)) (a1:Int):Option ((List (List (S116))) × Bool):=(impl_isParallel.f k l0 a1 ([]:List (S72))).bind fun t562=>(if t562=true then ((impl_lengthBound.f k l0 a1 ([]:List (S72))).bind fun t563=>(if 0≤a1 then (if (a1:Int).toNat≤11728124029610 then (impl_WrapAround.l0 k t563 (List.replicate (a1:Int).toNat []) 0 0 l0 (l0.length:Int) 0) else (none)) else (none))) else (some (([]:List (List (S116))),false)))
theorem impl_WrapAround.mono_l:∀ k,(∀ y0 y1 y2 y3 y4 y5 y6,LeO (impl_WrapAround.l0 k y0 y1 y2 y3 y4 y5 y6) (impl_WrapAround.l0 (k + 1) y0 y1 y2 y3 y4 y5 y6))∧(∀ y0 y1 y2 y3 y4 y5 y6 y7 y8,LeO (impl_WrapAround.l1 k y0 y1 y2 y3 y4 y5 y6 y7 y8) (impl_WrapAround.l1 (k + 1) y0 y1 y2 y3 y4 y5 y6 y7 y8))
 | 0=>⟨fun _ _ _ _ _ _ _ r h=>by simp [impl_WrapAround.l0] at h,fun _ _ _ _ _ _ _ _ _ r h=>by simp [impl_WrapAround.l1] at h⟩
 | k + 1=>by
  obtain ⟨ih0,ih1⟩:=impl_WrapAround.mono_l k
  refine ⟨?_,?_⟩ <;> intros <;> first|unfold impl_WrapAround.l0|unfold impl_WrapAround.l1
  all_goals repeat' first|(with_reducible first|apply ih0|apply ih1|exact impl_isParallel.mono _ _ _ _|exact impl_lengthBound.mono _ _ _ _|exact LeO.refl _|exact LeO.none _|refine LeO.ite ?_ ?_|refine LeO.bind ?_ (fun _=>?_))|apply ih0|apply ih1|exact impl_isParallel.mono _ _ _ _|exact impl_lengthBound.mono _ _ _ _|exact LeO.none _|refine LeO.ite ?_ ?_|refine LeO.bind ?_ (fun _=>?_)
theorem impl_WrapAround.mono:∀ a0 a1 k,LeO (impl_WrapAround.f k a0 a1) (impl_WrapAround.f (k + 1) a0 a1):=by
 intro a0 a1 k
 obtain ⟨ih0,ih1⟩:=impl_WrapAround.mono_l k
 unfold impl_WrapAround.f
 repeat' first|(with_reducible first|apply ih0|apply ih1|exact impl_isParallel.mono _ _ _ _|exact impl_lengthBound.mono _ _ _ _|exact LeO.refl _|exact LeO.none _|refine LeO.ite ?_ ?_|refine LeO.bind ?_ (fun _=>?_))|apply ih0|apply ih1|exact impl_isParallel.mono _ _ _ _|exact impl_lengthBound.mono _ _ _ _|exact LeO.none _|refine LeO.ite ?_ ?_|refine LeO.bind ?_ (fun _=>?_)
set_option maxHeartbeats 8000000 in
set_option maxRecDepth 100000 in
theorem impl_WrapAround.calls (k:Nat) (A0:Option Addr) (c0:Nat) (l0:List (S76)) (a1:Int) (r1:List (List (S116))) (r2:Bool) (w:World) (hr0:Kd.C k76 w A0 l0.length l0) (hc0:l0.length≤c0) (h:impl_WrapAround.f k l0 a1=some (r1,r2)) :
  Calls Try.prog 42 #[.slice A0 l0.length c0,.int .i64 a1] w fun e w'=>∃ v0_:Value,e=.returned (.tuple #[v0_,.bool r2])∧Kd.S (Kd.slice 116 k116) 65 w' w.heap.size (fun _=>True) v0_ r1∧Below w.heap.size w w':=by
 have hu76:=Try.underlying76
 have hu116:=Try.underlying116
 have HR0:=Aside0.mk hr0
 have HC0:=Aside0.mk hc0
 clear hr0 hc0
 have HB:=Aside0.mk (Below.refl w.heap.size w)
 have H:((impl_isParallel.f k l0 a1 ([]:List (S72))).bind fun t562=>(if t562=true then ((impl_lengthBound.f k l0 a1 ([]:List (S72))).bind fun t563=>(if 0≤a1 then (if (a1:Int).toNat≤11728124029610 then (impl_WrapAround.l0 k t563 (List.replicate (a1:Int).toNat []) 0 0 l0 (l0.length:Int) 0) else (none)) else (none))) else (some (([]:List (List (S116))),false))))=some (r1,r2):=h
 clear h
 replace H:=Option.bind_eq_some_iff.mp H
 obtain ⟨t562,A30,H⟩:=H
 try dsimp only at H
 have A3:=Aside0.mk A30
 clear A30
 by_cases c4:t562=true
 rotate_left
 ·replace c4:=Bool.eq_false_iff.mpr c4
  subst c4
  rw [if_neg (show ¬ (false=true) by decide)] at H
  simp only [Option.some.injEq,Prod.mk.injEq] at H
  obtain ⟨rfl,rfl⟩:=H
  go_enter Try.func42,Try.ntmps42
  go_wp2_with (first|((with_reducible refine gate_callee (f:=78) rfl ?_);refine zgo 16 Try.func78 #[.slice A0 l0.length c0,.int .i64 a1,.slice none 0 0] ?_;(refine (impl_isParallel.calls k _ _ l0 a1 _ _ ([]:List (S72)) false _ ?side1 ?side2 ?side3 ?side4 A3.out).mono ?_);(case side1=>exact zC HR0.out);(case side2=>exact HC0.out);(case side3=>exact Kd.C_nil _ _);(case side4=>exact Nat.le_refl _);rintro e w42 ⟨rfl,hb⟩;refine ⟨_,rfl,?_⟩;replace HB:=zb1 hb;(try clear hb)))
  go_ret2
  exact ⟨_,zz1,by first|exact Kd.S_nil _ _ _ _ _|exact Kd.N_nil _ _ _ _ _|exact Kd.V_nil _ _ _ _ _|exact Kd.Q_nil _ _ _ _ _|exact Kd.R_nil _ _ _ _ _,zb⟩
 subst c4
 rw [if_pos rfl] at H
 replace H:=Option.bind_eq_some_iff.mp H
 obtain ⟨t563,A50,H⟩:=H
 try dsimp only at H
 have A5:=Aside0.mk A50
 clear A50
 by_cases c6:0≤a1
 rotate_left
 ·rw [if_neg c6] at H
  exact absurd H (by simp)
 rw [if_pos c6] at H
 have c6b0:=eq_true c6
 have c6b1:=decide_eq_true c6
 clear c6
 by_cases c7:(a1:Int).toNat≤11728124029610
 rotate_left
 ·rw [if_neg c7] at H
  exact absurd H (by simp)
 rw [if_pos c7] at H
 have c7b0:=eq_true c7
 have c7b1:=decide_eq_true c7
 clear c7
 obtain ⟨y564,hy564⟩:∃ y_:List (List (S116)),y_=(List.replicate (a1:Int).toNat []):=⟨_,rfl⟩
 replace H:(impl_WrapAround.l0 k t563 y564 0 0 l0 (l0.length:Int) 0)=some (r1,r2):=by first|(rw [hy564];with_reducible exact H)|(have H2_:=(Option.bind_some _ _).symm.trans H;rw [hy564];with_reducible exact H2_)|(have H2_:=(Option.bind_some _ _).symm.trans H;with_reducible exact H2_)|with_reducible exact H|(rw [hy564];exact H)|exact H
 have Ny564:=Aside0.mk hy564
 clear hy564
 have H':=Aside0.mk H
 clear H
 go_enter Try.func42,Try.ntmps42
 go_wp2_with (first|((with_reducible refine gate_callee (f:=78) rfl ?_);refine zgo 16 Try.func78 #[.slice A0 l0.length c0,.int .i64 a1,.slice none 0 0] ?_;(refine (impl_isParallel.calls k _ _ l0 a1 _ _ ([]:List (S72)) true _ ?side1 ?side2 ?side3 ?side4 A3.out).mono ?_);(case side1=>exact zC HR0.out);(case side2=>exact HC0.out);(case side3=>exact Kd.C_nil _ _);(case side4=>exact Nat.le_refl _);rintro e w8 ⟨rfl,hb⟩;refine ⟨_,rfl,?_⟩;replace HB:=zb1 hb;(try clear hb))|((with_reducible refine gate_callee (f:=90) rfl ?_);refine zgo 20 Try.func90 #[.slice A0 l0.length c0,.int .i64 a1,.slice none 0 0] ?_;(refine (impl_lengthBound.calls k _ _ l0 a1 _ _ ([]:List (S72)) t563 _ ?side1 ?side2 ?side3 ?side4 A5.out).mono ?_);(case side1=>exact zC (Kd.C_below HR0.out HB.out));(case side2=>exact HC0.out);(case side3=>exact Kd.C_nil _ _);(case side4=>exact Nat.le_refl _);rintro e w9 ⟨rfl,hb⟩;refine ⟨_,rfl,?_⟩;replace HB:=zb1 hb;(try clear hb))|((with_reducible refine gate_dst (N:=22) rfl ?_);refine Kd.S_make (Kd.slice 116 k116) _ 65 rfl (N:=22) rfl 57 _ _ rfl a1 rfl rfl Try.underlying57 (.slice none 0 0) 24 info65 rfl (by decide) (by omega) [] (ok:=fun _=>True) (okp:=fun _=>True) ⟨_,rfl,Kd.R_nil _ _ _ _ _⟩ (fun _ hk=>hk) trivial (of_decide_eq_true za) (Nat.le_trans (Nat.mul_le_mul_right _ (of_decide_eq_true za:a1.toNat≤11728124029610)) (by omega)) (Below.refl _ _) (Nat.le_refl _) ?_;intro v565 w10 ho11 hb hg_ hnew_;clear hg_ hnew_;(first|rw [←Ny564.out] at ho11|(simp only [Int.reduceToNat] at ho11;rw [←Ny564.out] at ho11));have HO566:=Aside0.mk (Kd.S_lower ho11 (below_size zb));replace HB:=zb1 hb;clear hb ho11))
 go_loopg [8,9,25] k (fun kq v8 v9 v25 w'=>∃ (x7_1:List (List (S116))) (x8_1:Int) (x9_1:Int) (x25_1:Int),v8=.int .i64 x8_1∧v9=.int .i64 x9_1∧v25=.int .i64 x25_1∧Aside0 (impl_WrapAround.l0 kq t563 x7_1 x8_1 x9_1 l0 (l0.length:Int) x25_1=some (r1,r2))∧Aside0 (kq≤k)∧Aside0 (Kd.S (Kd.slice 116 k116) 65 w' w.heap.size (fun _=>True) v565 x7_1)∧Aside0 (Below w.heap.size w w'))
 case atStart=>exact ⟨(y564),(0),(0),(0),zo,zo,zo,H',⟨Nat.le_refl _⟩,⟨zS HO566.out⟩,⟨zb⟩⟩
 case round=>
  clear H'
  obtain ⟨x7_1,x8_1,x9_1,x25_1,rfl,rfl,rfl,HA,HK1,HO_7,HB⟩:=hrel
  cases gk with
  | zero=>exact absurd HA.out (by simp [impl_WrapAround.l0])
  | succ k1=>
   have H:=HA.out
   clear HA
   simp only [impl_WrapAround.l0] at H
   by_cases c12:x25_1<(l0.length:Int)
   rotate_left
   ·rw [if_neg c12] at H
    have c12b0:=decide_eq_false c12
    clear c12
    simp only [Option.some.injEq,Prod.mk.injEq] at H
    obtain ⟨rfl,rfl⟩:=H
    go_wp2
    go_ret2
    exact ⟨_,zz1,zS HO_7.out,zb⟩
   rw [if_pos c12] at H
   have c12b0:=decide_eq_true c12
   clear c12
   by_cases c13:0≤x25_1
   rotate_left
   ·rw [if_neg c13] at H
    exact absurd H (by simp)
   rw [if_pos c13] at H
   have c13b0:=decide_eq_true c13
   clear c13
   by_cases c14:x25_1<(l0.length:Int)
   rotate_left
   ·rw [if_neg c14] at H
    exact absurd H (by simp)
   rw [if_pos c14] at H
   have c14b0:=decide_eq_true c14
   clear c14
   have H':=Aside0.mk H
   clear H
   have p567:0≤(x25_1:Int):=of_decide_eq_true za
   have q567:x25_1<(l0.length:Int):=of_decide_eq_true za
   obtain ⟨ad567,e567,hx567_0,hx567_1,hx567_2,hx567_3⟩:=at_T76 HR0.out x25_1 p567 q567
   cases e567
   replace hx567_0:=zh_ HB hx567_0
   replace hx567_1:=zh_ HB hx567_1
   replace hx567_2:=zh_ HB hx567_2
   replace hx567_3:=zh_ HB hx567_3
   replace p567:=eq_true p567
   replace q567:=eq_true q567
   go_wp2_with (first|((with_reducible refine gate_dst (N:=11) rfl ?_);refine box_event ?hg (N:=11) ?hd (cs:=#[.int .i64 0,.int .i64 0,.int .i64 0,.int .i64 0]) (t:=76) ?hr ?_;(case hd=>rfl);(case hg=>rfl);(case hr=>first|(go_simp;done)|(go_simp;rfl));intro gb568 hg w15 hbox hb;have n0_:=zSb HO_7 hb;have n1_:=zb1 hb;have n2_:=Aside0.mk (hbox);have n3_:=Aside0.mk ((by rw [hg];exact (below_size zb):w.heap.size≤gb568));have n4_:=Aside0.mk ((by rw [hg];exact (below_size zb):w.heap.size≤gb568));clear HO_7;clear HB;have HO_7:=n0_;have HB:=n1_;have BK568:=n2_;have GW568:=n3_;have GE568:=n4_;clear n0_ n1_ n2_ n3_ n4_;clear hb hbox hg;obtain ⟨hcz16_0,hcz16_1,hcz16_2,hcz16_3,hfz16_0,hfz16_1,hfz16_2,hfz16_3⟩:=zk4 BK568.out))
   go_loopg [8,9,12] k1 (fun kq v8 v9 v12 w'=>∃ (x7_2:List (List (S116))) (x8_2:Int) (x9_2:Int) (x12_2:Int),v8=.int .i64 x8_2∧v9=.int .i64 x9_2∧v12=.int .i64 x12_2∧Aside0 (impl_WrapAround.l1 kq t563 x7_2 x8_2 x9_2 x25_1 x12_2 l0 (l0.length:Int) x25_1=some (r1,r2))∧Aside0 (kq≤k1)∧Aside0 (Kd.S (Kd.slice 116 k116) 65 w' w.heap.size (fun _=>True) v565 x7_2)∧Aside0 (w'.heap[gb568]?=some (.cells #[.int .i64 ((rd_T76 l0 x25_1).f0),.int .i64 ((rd_T76 l0 x25_1).f1),.int .i64 ((rd_T76 l0 x25_1).f2),.int .i64 ((rd_T76 l0 x25_1).f3)] 76 (0,0)))∧Aside0 (Below w.heap.size w w'))
   case atStart=>exact ⟨(x7_1),(x8_1),(x9_1),((rd_T76 l0 x25_1).f0),zo,zo,zo,H',⟨Nat.le_refl _⟩,⟨by (with_reducible repeat (first|apply Kd.S_alloc|apply Kd.S_drewN|apply Kd.S_drew));exact Kd.S_mono (Kd.S_far (p:=⟨gb568,3,none⟩) (Kd.S_far (p:=⟨gb568,2,none⟩) (Kd.S_far (p:=⟨gb568,1,none⟩) (Kd.S_far (p:=⟨gb568,0,none⟩) (Kd.S_types HO_7.out BK568.out (by decide)) (fun _ hk=>hk.2) (.int .i64 ((rd_T76 l0 x25_1).f0))) (fun _ hk=>hk.2) (.int .i64 ((rd_T76 l0 x25_1).f1))) (fun _ hk=>hk.2) (.int .i64 ((rd_T76 l0 x25_1).f2))) (fun _ hk=>hk.2) (.int .i64 ((rd_T76 l0 x25_1).f3))) (fun _ hk=>trivial)⟩,⟨by (with_reducible repeat (first|refine blk_drewN ?_ _|refine blk_drew ?_|refine blk_alloc ?_ _));refine blk_put (cs:=#[.int .i64 ((rd_T76 l0 x25_1).f0),.int .i64 ((rd_T76 l0 x25_1).f1),.int .i64 ((rd_T76 l0 x25_1).f2),.int .i64 0]) ?_ 3 _ rfl;(with_reducible repeat (first|refine blk_drewN ?_ _|refine blk_drew ?_|refine blk_alloc ?_ _));refine blk_put (cs:=#[.int .i64 ((rd_T76 l0 x25_1).f0),.int .i64 ((rd_T76 l0 x25_1).f1),.int .i64 0,.int .i64 0]) ?_ 2 _ rfl;(with_reducible repeat (first|refine blk_drewN ?_ _|refine blk_drew ?_|refine blk_alloc ?_ _));refine blk_put (cs:=#[.int .i64 ((rd_T76 l0 x25_1).f0),.int .i64 0,.int .i64 0,.int .i64 0]) ?_ 1 _ rfl;(with_reducible repeat (first|refine blk_drewN ?_ _|refine blk_drew ?_|refine blk_alloc ?_ _));refine blk_put (cs:=#[.int .i64 0,.int .i64 0,.int .i64 0,.int .i64 0]) ?_ 0 _ rfl;(with_reducible repeat (first|refine blk_drewN ?_ _|refine blk_drew ?_|refine blk_alloc ?_ _));exact BK568.out⟩,⟨zz30⟩⟩
   case round=>
    clear H'
    obtain ⟨x7_2,x8_2,x9_2,x12_2,rfl,rfl,rfl,HA,HK2,HO_7,BK568,HB⟩:=hrel
    cases gk with
    | zero=>exact absurd HA.out (by simp [impl_WrapAround.l1])
    | succ k2=>
     have H:=HA.out
     clear HA
     simp only [impl_WrapAround.l1] at H
     by_cases c17:x12_2>0
     rotate_left
     ·rw [if_neg c17] at H
      have c17b0:=decide_eq_false c17
      clear c17
      have H':=Aside0.mk H
      clear H
      go_wp2
      go_roundg k2
      case measure=>have:=HK1.out;have:=HK2.out;omega
      case rel=>exact ⟨(x7_2),(x8_2),(x9_2),(wrap64 (x25_1 + 1)),zo,zo,zo,H',⟨zz9⟩,⟨zS HO_7.out⟩,⟨zz30⟩⟩
     rw [if_pos c17] at H
     have c17b0:=decide_eq_true c17
     clear c17
     by_cases c18:x9_2=t563
     rotate_left
     ·rw [if_neg c18] at H
      have c18b0:(x9_2 == t563)=false:=beq_eq_false_iff_ne.mpr c18
      have c18b1:(x9_2 != t563)=true:=bne_iff_ne.mpr c18
      obtain ⟨ji31,hji31⟩:∃ j_:Int,(mn x12_2 (wrap64 (t563 - x9_2)))=j_:=⟨_,rfl⟩
      replace H:(if 0≤x8_2 then (if x8_2<(x7_2.length:Int) then (if (rd_L7 x7_2 x8_2).length<5864062014805 then (impl_WrapAround.l1 k2 t563 (x7_2.set (x8_2:Int).toNat ((rd_L7 x7_2 x8_2)++[(⟨x25_1,x9_2,wrap64 (x9_2 + (ji31))⟩:S116)])) x8_2 (wrap64 (x9_2 + (ji31))) x25_1 (wrap64 (x12_2 - (ji31))) l0 (l0.length:Int) x25_1) else (none)) else (none)) else (none))=some (r1,r2):=by first|(rw [hji31] at H;exact H)|(simp only [hji31] at H ⊢;exact H)
      have hji31_:(if (wrap64 (t563 - x9_2))<x12_2 then (wrap64 (t563 - x9_2)) else x12_2)=ji31:=hji31
      by_cases c32:0≤x8_2
      rotate_left
      ·rw [if_neg c32] at H
       exact absurd H (by simp)
      rw [if_pos c32] at H
      have c32b0:=decide_eq_true c32
      clear c32
      by_cases c33:x8_2<(x7_2.length:Int)
      rotate_left
      ·rw [if_neg c33] at H
       exact absurd H (by simp)
      rw [if_pos c33] at H
      have c33b0:=decide_eq_true c33
      clear c33
      by_cases c34:(rd_L7 x7_2 x8_2).length<5864062014805
      rotate_left
      ·rw [if_neg c34] at H
       exact absurd H (by simp)
      rw [if_pos c34] at H
      have LMc34:=Aside0.mk c34
      clear c34
      obtain ⟨y575,hy575⟩:∃ y_:List (S116),y_=((rd_L7 x7_2 x8_2)++[(⟨x25_1,x9_2,wrap64 (x9_2 + (ji31))⟩:S116)]):=⟨_,rfl⟩
      replace H:(impl_WrapAround.l1 k2 t563 (x7_2.set (x8_2:Int).toNat y575) x8_2 (wrap64 (x9_2 + (ji31))) x25_1 (wrap64 (x12_2 - (ji31))) l0 (l0.length:Int) x25_1)=some (r1,r2):=by first|(rw [hy575];with_reducible exact H)|(have H2_:=(Option.bind_some _ _).symm.trans H;rw [hy575];with_reducible exact H2_)|(have H2_:=(Option.bind_some _ _).symm.trans H;with_reducible exact H2_)|with_reducible exact H|(rw [hy575];exact H)|exact H
      have Ny575:=Aside0.mk hy575
      clear hy575
      obtain ⟨y578,hy578⟩:∃ y_:List (List (S116)),y_=(x7_2.set (x8_2:Int).toNat y575):=⟨_,rfl⟩
      replace H:(impl_WrapAround.l1 k2 t563 y578 x8_2 (wrap64 (x9_2 + (ji31))) x25_1 (wrap64 (x12_2 - (ji31))) l0 (l0.length:Int) x25_1)=some (r1,r2):=by first|(rw [hy578];with_reducible exact H)|(have H2_:=(Option.bind_some _ _).symm.trans H;rw [hy578];with_reducible exact H2_)|(have H2_:=(Option.bind_some _ _).symm.trans H;with_reducible exact H2_)|with_reducible exact H|(rw [hy578];exact H)|exact H
      have Ny578:=Aside0.mk hy578
      clear hy578
      have H':=Aside0.mk H
      clear H
      obtain ⟨Ao36,co36,eo36⟩:=Kd.S_slice HO_7.out
      subst eo36
      have p574:0≤(x8_2:Int):=of_decide_eq_true za
      have q574:x8_2<(x7_2.length:Int):=of_decide_eq_true za
      obtain ⟨ad574,A574_0,c574_0,e574,hx574_0,hl574_0,hi574_0⟩:=at_L7 (Kd.S_reads' HO_7.out).2.2 x8_2 p574 q574
      cases e574
      obtain ⟨ce574,hce574,hMe574,hcc574⟩:=Kd.S_get HO_7.out [] x8_2 p574 (by first|exact q574|exact of_decide_eq_true za|(have e_:=(Kd.S_reads' HO_7.out).1;omega))
      obtain ⟨ve574_0,rfl,ge574_0⟩:=hMe574
      have hv574_0:=hcc574 0 _ rfl
      rw [Nat.add_zero,show ((Kd.slice 116 k116)).sz=1 from rfl,Nat.mul_one] at hv574_0
      replace hv574_0:=Option.some.inj (hv574_0.symm.trans hx574_0)
      rw [hv574_0] at ge574_0
      have HL574_0:=Aside0.mk (show Kd.R k116 116 _ _ _ _ (rd_L7 x7_2 x8_2) from ge574_0)
      clear hv574_0 ge574_0
      have HX574_0:=Aside0.mk hx574_0
      clear hcc574 hce574
      have HR574_0:=Aside0.mk hi574_0
      have HC574_0:=Aside0.mk hl574_0
      clear hi574_0 hl574_0
      replace p574:=eq_true p574
      replace q574:=eq_true q574
      obtain ⟨go37,co37,eo37,gb37,gl37,cl37,HG37⟩:=Kd.S_form HO_7.out (by have h_:(x8_2:Int)<((x7_2.length:Int):Int):=of_decide_eq_true za;have h2_:0≤(x8_2:Int):=(of_decide_eq_true za);omega)
      (first|cases eo37|(injection eo37 with ea_ en_ ec_;(first|subst ea_|(injection ea_ with ea_;subst ea_));subst ec_;clear en_))
      have GB37:=Aside0.mk gb37
      have GG37:=Aside0.mk HG37
      clear gb37 gl37 HG37
      (first|simp only [add_plain] at hx574_0|skip)
      obtain ⟨oki37,ce37,hcl37,hM37,hcc37,_,_,hH37⟩:=Kd.S_elem HO_7.out [] (x8_2:Int) (of_decide_eq_true za) (by have h_:(x8_2:Int)<((x7_2.length:Int):Int):=of_decide_eq_true za;first|exact h_|(have e_:=(Kd.S_reads' HO_7.out).1;omega)|simpa using h_)
      obtain ⟨ve37_0,rfl,ge37_0⟩:=hM37
      have hv37:=hcc37 0 _ rfl
      have hX37:=HX574_0.out
      (try simp only [add_plain] at hX37)
      (try simp only [Nat.add_zero] at hv37)
      (try rw [show ((Kd.slice 116 k116)).sz=1 from rfl,Nat.mul_one] at hv37)
      replace hv37:=Option.some.inj (hv37.symm.trans hX37)
      subst hv37
      clear hX37 hcc37 hcl37
      have UU37:=Aside0.mk (show Kd.R k116 116 _ w.heap.size oki37 (.slice A574_0 (rd_L7 x7_2 x8_2).length c574_0) (rd_L7 x7_2 x8_2) from ge37_0)
      have HH37:=Aside0.mk hH37
      have HN37:=Aside0.mk (Kd.S_reads' HO_7.out).1
      clear hH37 ge37_0
      go_wp2_with (first|((with_reducible refine gate_builtin (b:=.append) (xs:=#[.tmp 49,.tmp 56]) rfl ?_);at_builtin;refine Kd.R_append k116 (w0:=w) w.heap.size rfl (.tmp 49) (.tmp 56) 65 116 (.agg #[(.int .i64 0),(.int .i64 0),(.int .i64 0)]) 24 rfl Try.underlying65 info116 rfl (by decide) (by omega) (.slice A574_0 (rd_L7 x7_2 x8_2).length c574_0) (rd_L7 x7_2 x8_2) (⟨x25_1,x9_2,wrap64 (x9_2 + (ji31))⟩:S116) [.int .i64 x25_1,.int .i64 x9_2,.int .i64 (wrap64 (x9_2 + (ji31)))] (fun k_=>oki37 k_∨((fun _=>True)) k_∧wr.heap.size≤k_) (fun _=>False) rfl rfl ?aP (fun _ hk=>hk.elim) ?aF ?aO ?aB ?aS ?aL ?_;(case aP=>exact k116_mkM _ _ _ (⟨x25_1,x9_2,wrap64 (x9_2 + (ji31))⟩:S116));(case aB=>exact zz30);(case aF=>exact (fun k_ hk=>.inr ⟨trivial,hk⟩));(case aO=>exact (zR (Kd.R_mono UU37.out (fun _ hk=>.inl hk))));(case aS=>exact (below_size zz30));(case aL=>have:=LMc34.out;omega);intro v576 w38 ho hb hg hat;rw [←Ny575.out] at ho;replace BK568:=Aside0.mk (blk_grown (g:=gb568) (o:=.cells #[.int .i64 ((rd_T76 l0 x25_1).f0),.int .i64 ((rd_T76 l0 x25_1).f1),.int .i64 ((rd_T76 l0 x25_1).f2),.int .i64 ((rd_T76 l0 x25_1).f3)] 76 (0,0)) zz33 hg (Kd.R_ne HL574_0.out BK568.out (by decide)));replace HB:=Aside0.mk (hb);replace HH37:=Aside0.mk (Kd.H_grown (Kd.H_widen (by repeat (first|exact HH37.out|refine Kd.H_alloc ?_ _|refine Kd.H_drewN ?_ _|refine Kd.H_drew ?_))) hg (fun k_ e_=>.inl (UU37.out.1 k_ e_)));have HO577:=Aside0.mk (ho);clear HO_7 UU37 HL574_0;clear ho hb hg hat;have p35:0≤(x8_2:Int):=of_decide_eq_true za;have q35:(x8_2:Int)<((x7_2.length:Int):Int):=of_decide_eq_true za;replace p35:=eq_true p35;replace q35:=eq_true q35;obtain ⟨Ao41,co41,eo41⟩:=Kd.R_slice HO577.out;subst eo41;obtain ⟨_,_,hraw39,_,_,hcc39,_⟩:=Kd.H_raw HH37.out (of_decide_eq_true za) (by have h_:(x8_2:Int)<((x7_2.length:Int):Int):=of_decide_eq_true za;first|exact h_|(have e_:=(HN37.out);omega)|simpa using h_);obtain ⟨_,hfr39⟩:=Kd.H_at HH37.out (of_decide_eq_true za) (by have h_:(x8_2:Int)<((x7_2.length:Int):Int):=of_decide_eq_true za;first|exact h_|(have e_:=(HN37.out);omega)|simpa using h_);have hx39_0:=hcc39 0 _ rfl;have hf39_0:=hfr39 0;(try simp only [Nat.add_zero] at hx39_0 hf39_0);(try rw [show ((Kd.slice 116 k116)).sz=1 from rfl,Nat.mul_one] at hx39_0);(try rw [show ((Kd.slice 116 k116)).sz=1 from rfl,Nat.mul_one] at hf39_0);have HP39:=Kd.S_seg0 HH37.out (of_decide_eq_true za) (by have h_:(x8_2:Int)<((x7_2.length:Int):Int):=of_decide_eq_true za;first|exact h_|(have e_:=(HN37.out);omega)|simpa using h_) (seg:=[.slice Ao41 y575.length co41]) (j:=0) (show 1≤1 from by decide) (x':=y575) (Kd.M_row HO577.out) (fun _ hk=>hk);(try simp only [show ((Kd.slice 116 k116)).sz=1 from rfl,Nat.mul_one,Nat.add_zero] at HP39);clear hcc39 hfr39)|((with_reducible refine gate_store (t:=65) (p:=58) rfl ?_);(try (rw [drewN_self w38];generalize hq_:World.drewN w38 _=w38;have n0_:=Aside0.mk (Kd.S_at hq_ HO_7.out);have n1_:=Aside0.mk (blk_at hq_ BK568.out);have n2_:=Aside0.mk (below_at hq_ HB.out);(try replace hx39_0:=cell_at hq_ hx39_0);(try replace hf39_0:=(fun {W_ W2_:World} {n_:Nat} {a_:Addr} {b_:Bool} (h_:W_.drewN n_=W2_) (e_:W_.frozen? a_=b_)=>(by subst h_;exact e_:W2_.frozen? a_=b_)) hq_ hf39_0);clear hq_ HO_7 BK568 HB;have HO_7:=n0_;have BK568:=n1_;have HB:=n2_;clear n0_ n1_ n2_;(try (obtain ⟨Ao41,co41,eo41⟩:=Kd.R_slice HO577.out));(try (subst eo41));(try (obtain ⟨_,_,hraw39,_,_,hcc39,_⟩:=Kd.H_raw HH37.out (of_decide_eq_true za) (by have h_:(x8_2:Int)<((x7_2.length:Int):Int):=of_decide_eq_true za;first|exact h_|(have e_:=(HN37.out);omega)|simpa using h_)));(try (obtain ⟨_,hfr39⟩:=Kd.H_at HH37.out (of_decide_eq_true za) (by have h_:(x8_2:Int)<((x7_2.length:Int):Int):=of_decide_eq_true za;first|exact h_|(have e_:=(HN37.out);omega)|simpa using h_)));(try (have hx39_0:=hcc39 0 _ rfl));(try (have hf39_0:=hfr39 0));(try (try simp only [Nat.add_zero] at hx39_0 hf39_0));(try (try rw [show ((Kd.slice 116 k116)).sz=1 from rfl,Nat.mul_one] at hx39_0));(try (try rw [show ((Kd.slice 116 k116)).sz=1 from rfl,Nat.mul_one] at hf39_0));(try (have HP39:=Kd.S_seg0 HH37.out (of_decide_eq_true za) (by have h_:(x8_2:Int)<((x7_2.length:Int):Int):=of_decide_eq_true za;first|exact h_|(have e_:=(HN37.out);omega)|simpa using h_) (seg:=[.slice Ao41 y575.length co41]) (j:=0) (show 1≤1 from by decide) (x':=y575) (Kd.M_row HO577.out) (fun _ hk=>hk)));(try (try simp only [show ((Kd.slice 116 k116)).sz=1 from rfl,Nat.mul_one,Nat.add_zero] at HP39));(try (clear hcc39 hfr39))));refine store_event (t:=65) (p:=58) (v:=?vo_w40) (w1:=(w38.setCell ⟨go37,(x8_2:Int).toNat,none⟩ (.slice Ao41 y575.length co41))) ?hg ?ho ?hn ?hr ?_;(case ho=>rfl);(case hg=>rfl);(case hn=>rfl);(case hr=>first|(go_simp;done)|(go_simp;rfl));intro w40 hw;have hg:w38.grownBy w40 (some go37):=(by rw [hw];exact HP39.2);have hp_:Kd.S (Kd.slice 116 k116) 65 w40 w.heap.size (fun _=>True) (.slice (some ⟨go37,0,none⟩) x7_2.length co36) y578:=(by rw [hw,Ny578.out];exact HP39.1);clear HP39;replace BK568:=Aside0.mk (blk_grown (g:=gb568) (o:=.cells #[.int .i64 ((rd_T76 l0 x25_1).f0),.int .i64 ((rd_T76 l0 x25_1).f1),.int .i64 ((rd_T76 l0 x25_1).f2),.int .i64 ((rd_T76 l0 x25_1).f3)] 76 (0,0)) zz33 hg (Kd.R_ne hraw39 BK568.out (by decide)));replace HB:=Aside0.mk ((by rw [hw];exact below_set HB.out GB37.out:Below w.heap.size w w40));have HO_7:=Aside0.mk (hp_);clear HO577 HH37;clear hg hw hp_ hraw39))
      go_roundg k2
      case measure=>have:=HK1.out;have:=HK2.out;omega
      case rel=>exact ⟨(y578),(x8_2),(wrap64 (x9_2 + (ji31))),(wrap64 (x12_2 - (ji31))),zo,(by first|rfl|(simp;done)|(simp only [←hji31] <;> (first|rfl|simp))|(simp [*];done)),(by first|rfl|(simp;done)|(simp only [←hji31] <;> (first|rfl|simp))|(simp [*];done)),H',⟨zz9⟩,⟨zS HO_7.out⟩,⟨zz33⟩,⟨zz30⟩⟩
     rw [if_pos c18] at H
     have c18b0:(x9_2 == t563)=true:=beq_iff_eq.mpr c18
     have c18b1:(x9_2 != t563)=false:=bne_eq_false_iff_eq.mpr c18
     clear c18
     simp only [Int.sub_zero, Int.zero_add] at H
     obtain ⟨ji19,hji19⟩:∃ j_:Int,(mn x12_2 (wrap64 (t563)))=j_:=⟨_,rfl⟩
     replace H:(if 0≤(wrap64 (x8_2 + 1)) then (if (wrap64 (x8_2 + 1))<(x7_2.length:Int) then (if (rd_L7 x7_2 (wrap64 (x8_2 + 1))).length<5864062014805 then (impl_WrapAround.l1 k2 t563 (x7_2.set ((wrap64 (x8_2 + 1)):Int).toNat ((rd_L7 x7_2 (wrap64 (x8_2 + 1)))++[(⟨x25_1,0,wrap64 (ji19)⟩:S116)])) (wrap64 (x8_2 + 1)) (wrap64 (ji19)) x25_1 (wrap64 (x12_2 - (ji19))) l0 (l0.length:Int) x25_1) else (none)) else (none)) else (none))=some (r1,r2):=by first|(rw [hji19] at H;exact H)|(simp only [hji19] at H ⊢;exact H)
     have hji19_:(if (wrap64 (t563))<x12_2 then (wrap64 (t563)) else x12_2)=ji19:=hji19
     obtain ⟨ji20,hji20⟩:∃ j_:Int,(wrap64 (x8_2 + 1))=j_:=⟨_,rfl⟩
     replace H:(if 0≤(ji20) then (if (ji20)<(x7_2.length:Int) then (if (rd_L7 x7_2 (ji20)).length<5864062014805 then (impl_WrapAround.l1 k2 t563 (x7_2.set ((ji20):Int).toNat ((rd_L7 x7_2 (ji20))++[(⟨x25_1,0,wrap64 (ji19)⟩:S116)])) ji20 (wrap64 (ji19)) x25_1 (wrap64 (x12_2 - (ji19))) l0 (l0.length:Int) x25_1) else (none)) else (none)) else (none))=some (r1,r2):=by first|(rw [hji20] at H;exact H)|(simp only [hji20] at H ⊢;exact H)
     have hji20w:(IntKind.i64.wrap (x8_2 + 1))=ji20:=(i64_w _).trans hji20
     by_cases c21:0≤(ji20)
     rotate_left
     ·rw [if_neg c21] at H
      exact absurd H (by simp)
     rw [if_pos c21] at H
     have c21b0:=decide_eq_true c21
     clear c21
     by_cases c22:(ji20)<(x7_2.length:Int)
     rotate_left
     ·rw [if_neg c22] at H
      exact absurd H (by simp)
     rw [if_pos c22] at H
     have c22b0:=decide_eq_true c22
     clear c22
     by_cases c23:(rd_L7 x7_2 (ji20)).length<5864062014805
     rotate_left
     ·rw [if_neg c23] at H
      exact absurd H (by simp)
     rw [if_pos c23] at H
     have LMc23:=Aside0.mk c23
     clear c23
     obtain ⟨y570,hy570⟩:∃ y_:List (S116),y_=((rd_L7 x7_2 (ji20))++[(⟨x25_1,0,wrap64 (ji19)⟩:S116)]):=⟨_,rfl⟩
     replace H:(impl_WrapAround.l1 k2 t563 (x7_2.set ((ji20):Int).toNat y570) ji20 (wrap64 (ji19)) x25_1 (wrap64 (x12_2 - (ji19))) l0 (l0.length:Int) x25_1)=some (r1,r2):=by first|(rw [hy570];with_reducible exact H)|(have H2_:=(Option.bind_some _ _).symm.trans H;rw [hy570];with_reducible exact H2_)|(have H2_:=(Option.bind_some _ _).symm.trans H;with_reducible exact H2_)|with_reducible exact H|(rw [hy570];exact H)|exact H
     have Ny570:=Aside0.mk hy570
     clear hy570
     obtain ⟨y573,hy573⟩:∃ y_:List (List (S116)),y_=(x7_2.set ((ji20):Int).toNat y570):=⟨_,rfl⟩
     replace H:(impl_WrapAround.l1 k2 t563 y573 ji20 (wrap64 (ji19)) x25_1 (wrap64 (x12_2 - (ji19))) l0 (l0.length:Int) x25_1)=some (r1,r2):=by first|(rw [hy573];with_reducible exact H)|(have H2_:=(Option.bind_some _ _).symm.trans H;rw [hy573];with_reducible exact H2_)|(have H2_:=(Option.bind_some _ _).symm.trans H;with_reducible exact H2_)|with_reducible exact H|(rw [hy573];exact H)|exact H
     have Ny573:=Aside0.mk hy573
     clear hy573
     have H':=Aside0.mk H
     clear H
     obtain ⟨Ao25,co25,eo25⟩:=Kd.S_slice HO_7.out
     subst eo25
     have p569:0≤((ji20):Int):=of_decide_eq_true za
     have q569:(ji20)<(x7_2.length:Int):=of_decide_eq_true za
     obtain ⟨ad569,A569_0,c569_0,e569,hx569_0,hl569_0,hi569_0⟩:=at_L7 (Kd.S_reads' HO_7.out).2.2 (ji20) p569 q569
     cases e569
     obtain ⟨ce569,hce569,hMe569,hcc569⟩:=Kd.S_get HO_7.out [] (ji20) p569 (by first|exact q569|exact of_decide_eq_true za|(have e_:=(Kd.S_reads' HO_7.out).1;omega))
     obtain ⟨ve569_0,rfl,ge569_0⟩:=hMe569
     have hv569_0:=hcc569 0 _ rfl
     rw [Nat.add_zero,show ((Kd.slice 116 k116)).sz=1 from rfl,Nat.mul_one] at hv569_0
     replace hv569_0:=Option.some.inj (hv569_0.symm.trans hx569_0)
     rw [hv569_0] at ge569_0
     have HL569_0:=Aside0.mk (show Kd.R k116 116 _ _ _ _ (rd_L7 x7_2 (ji20)) from ge569_0)
     clear hv569_0 ge569_0
     have HX569_0:=Aside0.mk hx569_0
     clear hcc569 hce569
     have HR569_0:=Aside0.mk hi569_0
     have HC569_0:=Aside0.mk hl569_0
     clear hi569_0 hl569_0
     replace p569:=eq_true p569
     replace q569:=eq_true q569
     obtain ⟨go26,co26,eo26,gb26,gl26,cl26,HG26⟩:=Kd.S_form HO_7.out (by have h_:((ji20):Int)<((x7_2.length:Int):Int):=of_decide_eq_true za;have h2_:0≤((ji20):Int):=(of_decide_eq_true za);omega)
     (first|cases eo26|(injection eo26 with ea_ en_ ec_;(first|subst ea_|(injection ea_ with ea_;subst ea_));subst ec_;clear en_))
     have GB26:=Aside0.mk gb26
     have GG26:=Aside0.mk HG26
     clear gb26 gl26 HG26
     (first|simp only [add_plain] at hx569_0|skip)
     obtain ⟨oki26,ce26,hcl26,hM26,hcc26,_,_,hH26⟩:=Kd.S_elem HO_7.out [] ((ji20):Int) (of_decide_eq_true za) (by have h_:((ji20):Int)<((x7_2.length:Int):Int):=of_decide_eq_true za;first|exact h_|(have e_:=(Kd.S_reads' HO_7.out).1;omega)|simpa using h_)
     obtain ⟨ve26_0,rfl,ge26_0⟩:=hM26
     have hv26:=hcc26 0 _ rfl
     have hX26:=HX569_0.out
     (try simp only [add_plain] at hX26)
     (try simp only [Nat.add_zero] at hv26)
     (try rw [show ((Kd.slice 116 k116)).sz=1 from rfl,Nat.mul_one] at hv26)
     replace hv26:=Option.some.inj (hv26.symm.trans hX26)
     subst hv26
     clear hX26 hcc26 hcl26
     have UU26:=Aside0.mk (show Kd.R k116 116 _ w.heap.size oki26 (.slice A569_0 (rd_L7 x7_2 (ji20)).length c569_0) (rd_L7 x7_2 (ji20)) from ge26_0)
     have HH26:=Aside0.mk hH26
     have HN26:=Aside0.mk (Kd.S_reads' HO_7.out).1
     clear hH26 ge26_0
     go_wp2_with (first|((with_reducible refine gate_builtin (b:=.append) (xs:=#[.tmp 49,.tmp 56]) rfl ?_);at_builtin;refine Kd.R_append k116 (w0:=w) w.heap.size rfl (.tmp 49) (.tmp 56) 65 116 (.agg #[(.int .i64 0),(.int .i64 0),(.int .i64 0)]) 24 rfl Try.underlying65 info116 rfl (by decide) (by omega) (.slice A569_0 (rd_L7 x7_2 (ji20)).length c569_0) (rd_L7 x7_2 (ji20)) (⟨x25_1,0,wrap64 (ji19)⟩:S116) [.int .i64 x25_1,.int .i64 0,.int .i64 (wrap64 (ji19))] (fun k_=>oki26 k_∨((fun _=>True)) k_∧wr.heap.size≤k_) (fun _=>False) rfl rfl ?aP (fun _ hk=>hk.elim) ?aF ?aO ?aB ?aS ?aL ?_;(case aP=>exact k116_mkM _ _ _ (⟨x25_1,0,wrap64 (ji19)⟩:S116));(case aB=>exact zz30);(case aF=>exact (fun k_ hk=>.inr ⟨trivial,hk⟩));(case aO=>exact (zR (Kd.R_mono UU26.out (fun _ hk=>.inl hk))));(case aS=>exact (below_size zz30));(case aL=>have:=LMc23.out;omega);intro v571 w27 ho hb hg hat;rw [←Ny570.out] at ho;replace BK568:=Aside0.mk (blk_grown (g:=gb568) (o:=.cells #[.int .i64 ((rd_T76 l0 x25_1).f0),.int .i64 ((rd_T76 l0 x25_1).f1),.int .i64 ((rd_T76 l0 x25_1).f2),.int .i64 ((rd_T76 l0 x25_1).f3)] 76 (0,0)) zz33 hg (Kd.R_ne HL569_0.out BK568.out (by decide)));replace HB:=Aside0.mk (hb);replace HH26:=Aside0.mk (Kd.H_grown (Kd.H_widen (by repeat (first|exact HH26.out|refine Kd.H_alloc ?_ _|refine Kd.H_drewN ?_ _|refine Kd.H_drew ?_))) hg (fun k_ e_=>.inl (UU26.out.1 k_ e_)));have HO572:=Aside0.mk (ho);clear HO_7 UU26 HL569_0;clear ho hb hg hat;have p24:0≤((ji20):Int):=of_decide_eq_true za;have q24:((ji20):Int)<((x7_2.length:Int):Int):=of_decide_eq_true za;replace p24:=eq_true p24;replace q24:=eq_true q24;obtain ⟨Ao30,co30,eo30⟩:=Kd.R_slice HO572.out;subst eo30;obtain ⟨_,_,hraw28,_,_,hcc28,_⟩:=Kd.H_raw HH26.out (of_decide_eq_true za) (by have h_:((ji20):Int)<((x7_2.length:Int):Int):=of_decide_eq_true za;first|exact h_|(have e_:=(HN26.out);omega)|simpa using h_);obtain ⟨_,hfr28⟩:=Kd.H_at HH26.out (of_decide_eq_true za) (by have h_:((ji20):Int)<((x7_2.length:Int):Int):=of_decide_eq_true za;first|exact h_|(have e_:=(HN26.out);omega)|simpa using h_);have hx28_0:=hcc28 0 _ rfl;have hf28_0:=hfr28 0;(try simp only [Nat.add_zero] at hx28_0 hf28_0);(try rw [show ((Kd.slice 116 k116)).sz=1 from rfl,Nat.mul_one] at hx28_0);(try rw [show ((Kd.slice 116 k116)).sz=1 from rfl,Nat.mul_one] at hf28_0);have HP28:=Kd.S_seg0 HH26.out (of_decide_eq_true za) (by have h_:((ji20):Int)<((x7_2.length:Int):Int):=of_decide_eq_true za;first|exact h_|(have e_:=(HN26.out);omega)|simpa using h_) (seg:=[.slice Ao30 y570.length co30]) (j:=0) (show 1≤1 from by decide) (x':=y570) (Kd.M_row HO572.out) (fun _ hk=>hk);(try simp only [show ((Kd.slice 116 k116)).sz=1 from rfl,Nat.mul_one,Nat.add_zero] at HP28);clear hcc28 hfr28)|((with_reducible refine gate_store (t:=65) (p:=58) rfl ?_);(try (rw [drewN_self w27];generalize hq_:World.drewN w27 _=w27;have n0_:=Aside0.mk (Kd.S_at hq_ HO_7.out);have n1_:=Aside0.mk (blk_at hq_ BK568.out);have n2_:=Aside0.mk (below_at hq_ HB.out);(try replace hx28_0:=cell_at hq_ hx28_0);(try replace hf28_0:=(fun {W_ W2_:World} {n_:Nat} {a_:Addr} {b_:Bool} (h_:W_.drewN n_=W2_) (e_:W_.frozen? a_=b_)=>(by subst h_;exact e_:W2_.frozen? a_=b_)) hq_ hf28_0);clear hq_ HO_7 BK568 HB;have HO_7:=n0_;have BK568:=n1_;have HB:=n2_;clear n0_ n1_ n2_;(try (obtain ⟨Ao30,co30,eo30⟩:=Kd.R_slice HO572.out));(try (subst eo30));(try (obtain ⟨_,_,hraw28,_,_,hcc28,_⟩:=Kd.H_raw HH26.out (of_decide_eq_true za) (by have h_:((ji20):Int)<((x7_2.length:Int):Int):=of_decide_eq_true za;first|exact h_|(have e_:=(HN26.out);omega)|simpa using h_)));(try (obtain ⟨_,hfr28⟩:=Kd.H_at HH26.out (of_decide_eq_true za) (by have h_:((ji20):Int)<((x7_2.length:Int):Int):=of_decide_eq_true za;first|exact h_|(have e_:=(HN26.out);omega)|simpa using h_)));(try (have hx28_0:=hcc28 0 _ rfl));(try (have hf28_0:=hfr28 0));(try (try simp only [Nat.add_zero] at hx28_0 hf28_0));(try (try rw [show ((Kd.slice 116 k116)).sz=1 from rfl,Nat.mul_one] at hx28_0));(try (try rw [show ((Kd.slice 116 k116)).sz=1 from rfl,Nat.mul_one] at hf28_0));(try (have HP28:=Kd.S_seg0 HH26.out (of_decide_eq_true za) (by have h_:((ji20):Int)<((x7_2.length:Int):Int):=of_decide_eq_true za;first|exact h_|(have e_:=(HN26.out);omega)|simpa using h_) (seg:=[.slice Ao30 y570.length co30]) (j:=0) (show 1≤1 from by decide) (x':=y570) (Kd.M_row HO572.out) (fun _ hk=>hk)));(try (try simp only [show ((Kd.slice 116 k116)).sz=1 from rfl,Nat.mul_one,Nat.add_zero] at HP28));(try (clear hcc28 hfr28))));refine store_event (t:=65) (p:=58) (v:=?vo_w29) (w1:=(w27.setCell ⟨go26,((ji20):Int).toNat,none⟩ (.slice Ao30 y570.length co30))) ?hg ?ho ?hn ?hr ?_;(case ho=>rfl);(case hg=>rfl);(case hn=>rfl);(case hr=>first|(go_simp;done)|(go_simp;rfl));intro w29 hw;have hg:w27.grownBy w29 (some go26):=(by rw [hw];exact HP28.2);have hp_:Kd.S (Kd.slice 116 k116) 65 w29 w.heap.size (fun _=>True) (.slice (some ⟨go26,0,none⟩) x7_2.length co25) y573:=(by rw [hw,Ny573.out];exact HP28.1);clear HP28;replace BK568:=Aside0.mk (blk_grown (g:=gb568) (o:=.cells #[.int .i64 ((rd_T76 l0 x25_1).f0),.int .i64 ((rd_T76 l0 x25_1).f1),.int .i64 ((rd_T76 l0 x25_1).f2),.int .i64 ((rd_T76 l0 x25_1).f3)] 76 (0,0)) zz33 hg (Kd.R_ne hraw28 BK568.out (by decide)));replace HB:=Aside0.mk ((by rw [hw];exact below_set HB.out GB26.out:Below w.heap.size w w29));have HO_7:=Aside0.mk (hp_);clear HO572 HH26;clear hg hw hp_ hraw28))
     go_roundg k2
     case measure=>have:=HK1.out;have:=HK2.out;omega
     case rel=>exact ⟨(y573),(ji20),(wrap64 (ji19)),(wrap64 (x12_2 - (ji19))),(by first|rfl|(simp;done)|(simp only [←hji20] <;> (first|rfl|simp))|(simp [*];done)),(by first|rfl|(simp;done)|(simp only [←hji19] <;> (first|rfl|simp))|(simp [*];done)),(by first|rfl|(simp;done)|(simp only [←hji19] <;> (first|rfl|simp))|(simp [*];done)),H',⟨zz9⟩,⟨zS HO_7.out⟩,⟨zz33⟩,⟨zz30⟩⟩

/-! ### laws_vSpans: function 44 -/
def laws_vSpans.l0:Nat→List (S116)→List (S116)→Int→Option (Bool)
 | 0,_,_,_=>none
 | k + 1,x0,x1,x5=>if x5<(x0.length:Int) then (if 0≤x5 then (if x5<(x1.length:Int) then (if (!(((rd_T116 x0 x5).f0) == ((rd_T116 x1 x5).f0)) || (!(((rd_T116 x0 x5).f1) == ((rd_T116 x1 x5).f1)) || (!(((rd_T116 x0 x5).f2) == ((rd_T116 x1 x5).f2)))))=true then (some false) else (laws_vSpans.l0 k x0 x1 (wrap64 (x5 + 1)))) else (none)) else (none)) else (some true)
def laws_vSpans.f (k:Nat) (l0:List (S116)) (l1:List (S116)):Option (Bool):=if (l0.length:Int)=(l1.length:Int) then (laws_vSpans.l0 k l0 l1 0) else (some false)
theorem laws_vSpans.mono_l:∀ k,(∀ y0 y1 y2,LeO (laws_vSpans.l0 k y0 y1 y2) (laws_vSpans.l0 (k + 1) y0 y1 y2))
 | 0=>fun _ _ _ r h=>by simp [laws_vSpans.l0] at h
 | k + 1=>by
  have ih0:=laws_vSpans.mono_l k
  ·intro y0 y1 y2
   unfold laws_vSpans.l0
   repeat' first|(with_reducible first|apply ih0|exact LeO.refl _|exact LeO.none _|refine LeO.ite ?_ ?_|refine LeO.bind ?_ (fun _=>?_))|apply ih0|exact LeO.none _|refine LeO.ite ?_ ?_|refine LeO.bind ?_ (fun _=>?_)
theorem laws_vSpans.mono:∀ a0 a1 k,LeO (laws_vSpans.f k a0 a1) (laws_vSpans.f (k + 1) a0 a1):=by
 intro a0 a1 k
 have ih0:=laws_vSpans.mono_l k
 unfold laws_vSpans.f
 repeat' first|(with_reducible first|apply ih0|exact LeO.refl _|exact LeO.none _|refine LeO.ite ?_ ?_|refine LeO.bind ?_ (fun _=>?_))|apply ih0|exact LeO.none _|refine LeO.ite ?_ ?_|refine LeO.bind ?_ (fun _=>?_)
set_option maxHeartbeats 8000000 in
set_option maxRecDepth 100000 in
theorem laws_vSpans.calls (k:Nat) (A0:Option Addr) (c0:Nat) (l0:List (S116)) (A1:Option Addr) (c1:Nat) (l1:List (S116)) (r:Bool) (w:World) (hr0:Kd.C k116 w A0 l0.length l0) (hc0:l0.length≤c0) (hr1:Kd.C k116 w A1 l1.length l1) (hc1:l1.length≤c1) (h:laws_vSpans.f k l0 l1=some r) :
  Calls Try.prog 44 #[.slice A0 l0.length c0,.slice A1 l1.length c1] w fun e w'=>e=.returned (.bool r)∧Drawn0 w w':=by
 have hu116:=Try.underlying116
 have HR0:=Aside0.mk hr0
 have HC0:=Aside0.mk hc0
 clear hr0 hc0
 have HR1:=Aside0.mk hr1
 have HC1:=Aside0.mk hc1
 clear hr1 hc1
 have H:(if (l0.length:Int)=(l1.length:Int) then (laws_vSpans.l0 k l0 l1 0) else (some false))=some r:=h
 clear h
 by_cases c3:(l0.length:Int)=(l1.length:Int)
 rotate_left
 ·rw [if_neg c3] at H
  have c3b0:((l0.length:Int) == (l1.length:Int))=false:=beq_eq_false_iff_ne.mpr c3
  have c3b1:((l0.length:Int) != (l1.length:Int))=true:=bne_iff_ne.mpr c3
  have c3b2:(l0.length == l1.length)=false:=by first|simpa using c3|(simp at c3 ⊢;omega)
  obtain rfl:=Option.some.inj H
  go_enter Try.func44,Try.ntmps44
  go_wp2
  repeat (go_quiet (fail);try go_wp2)
  go_ret
  exact ⟨zz7,zz6⟩
 rw [if_pos c3] at H
 have c3b0:((l0.length:Int) == (l1.length:Int))=true:=beq_iff_eq.mpr c3
 have c3b1:((l0.length:Int) != (l1.length:Int))=false:=bne_eq_false_iff_eq.mpr c3
 have c3b2:(l0.length == l1.length)=true:=by first|simpa using c3|(simp at c3 ⊢;omega)
 clear c3
 have H':=Aside0.mk H
 clear H
 go_enter Try.func44,Try.ntmps44
 go_wp2
 repeat (go_quiet (fail);try go_wp2)
 go_loopg [5] k (fun kq v5 w'=>∃ (x5_1:Int),v5=.int .i64 x5_1∧Aside0 (laws_vSpans.l0 kq l0 l1 x5_1=some r)∧Aside0 (kq≤k)∧Drawn0 w w')
 case atStart=>exact ⟨(0),zo,H',⟨Nat.le_refl _⟩,zz6⟩
 case round=>
  clear H'
  obtain ⟨x5_1,rfl,HA,HK1,⟨m1,rfl⟩⟩:=hrel
  cases gk with
  | zero=>exact absurd HA.out (by simp [laws_vSpans.l0])
  | succ k1=>
   have H:=HA.out
   clear HA
   simp only [laws_vSpans.l0] at H
   by_cases c4:x5_1<(l0.length:Int)
   rotate_left
   ·rw [if_neg c4] at H
    have c4b0:=decide_eq_false c4
    clear c4
    obtain rfl:=Option.some.inj H
    go_wp2
    repeat (go_quiet (fail);try go_wp2)
    go_ret
    exact ⟨zz7,zz6⟩
   rw [if_pos c4] at H
   have c4b0:=decide_eq_true c4
   clear c4
   by_cases c5:0≤x5_1
   rotate_left
   ·rw [if_neg c5] at H
    exact absurd H (by simp)
   rw [if_pos c5] at H
   have c5b0:=decide_eq_true c5
   clear c5
   by_cases c6:x5_1<(l1.length:Int)
   rotate_left
   ·rw [if_neg c6] at H
    exact absurd H (by simp)
   rw [if_pos c6] at H
   have c6b0:=decide_eq_true c6
   clear c6
   by_cases c7:(!(((rd_T116 l0 x5_1).f0) == ((rd_T116 l1 x5_1).f0)) || (!(((rd_T116 l0 x5_1).f1) == ((rd_T116 l1 x5_1).f1)) || (!(((rd_T116 l0 x5_1).f2) == ((rd_T116 l1 x5_1).f2)))))=true
   ·rw [if_pos c7] at H
    have c7b0:(!(((rd_T116 l0 x5_1).f0) == ((rd_T116 l1 x5_1).f0)) || (!(((rd_T116 l0 x5_1).f1) == ((rd_T116 l1 x5_1).f1)) || (!(((rd_T116 l0 x5_1).f2) == ((rd_T116 l1 x5_1).f2)))))=true:=c7
    clear c7
    obtain rfl:=Option.some.inj H
    have p579:0≤(x5_1:Int):=of_decide_eq_true za
    have q579:x5_1<(l0.length:Int):=of_decide_eq_true za
    obtain ⟨ad579,e579,hx579_0,hx579_1,hx579_2⟩:=at_T116 HR0.out x5_1 p579 q579
    cases e579
    replace p579:=eq_true p579
    replace q579:=eq_true q579
    have p580:0≤(x5_1:Int):=of_decide_eq_true za
    have q580:x5_1<(l1.length:Int):=of_decide_eq_true za
    obtain ⟨ad580,e580,hx580_0,hx580_1,hx580_2⟩:=at_T116 HR1.out x5_1 p580 q580
    cases e580
    replace p580:=eq_true p580
    replace q580:=eq_true q580
    go_wp2
    repeat (go_quiet (fail);try go_wp2)
    go_ret
    exact ⟨zz7,zz6⟩
   rw [if_neg c7] at H
   have c7b0:(!(((rd_T116 l0 x5_1).f0) == ((rd_T116 l1 x5_1).f0)) || (!(((rd_T116 l0 x5_1).f1) == ((rd_T116 l1 x5_1).f1)) || (!(((rd_T116 l0 x5_1).f2) == ((rd_T116 l1 x5_1).f2)))))=false:=by simpa using c7
   clear c7
   have H':=Aside0.mk H
   clear H
   have p579:0≤(x5_1:Int):=of_decide_eq_true za
   have q579:x5_1<(l0.length:Int):=of_decide_eq_true za
   obtain ⟨ad579,e579,hx579_0,hx579_1,hx579_2⟩:=at_T116 HR0.out x5_1 p579 q579
   cases e579
   replace p579:=eq_true p579
   replace q579:=eq_true q579
   have p580:0≤(x5_1:Int):=of_decide_eq_true za
   have q580:x5_1<(l1.length:Int):=of_decide_eq_true za
   obtain ⟨ad580,e580,hx580_0,hx580_1,hx580_2⟩:=at_T116 HR1.out x5_1 p580 q580
   cases e580
   replace p580:=eq_true p580
   replace q580:=eq_true q580
   go_wp2
   repeat (go_quiet (fail);try go_wp2)
   go_roundg k1
   case measure=>have:=HK1.out;omega
   case rel=>exact ⟨(wrap64 (x5_1 + 1)),zo,H',⟨by have:=HK1.out;omega⟩,zz6⟩

end Go.Proofs.Ytbcfmegepkhlpaa.XFnShared
-- minified
