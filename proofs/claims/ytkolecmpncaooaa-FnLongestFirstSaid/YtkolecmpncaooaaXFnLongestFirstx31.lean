-- Words and walks of this claim.
import Derived.Test.YtkolecmpncaooaaXFnLongestFirstx30
namespace Go.Proofs.Ytkolecmpncaooaa.XFnLongestFirst
open Go.RowKit Go.Proofs.YtkolecmpncaooaaW.PrintWords Go.Proofs.YtkolecmpncaooaaW.PrintLast Go.Proofs.YtkolecmpncaooaaW.PrintMore
attribute [local go_sem] max2_int min2_int max_two min_two max_three min_three max_four min_four
attribute [local go_sem] idxA_51_0 idxA_51_1 fldS_45_0 fldS_45_1 fldS_45_2 fldS_96_0 fldS_96_1 fldS_96_2
set_option linter.unusedVariables false
set_option linter.unusedSimpArgs false
def impl_LengthBound.f (k:Nat) (l0:List (S31)) (a1:Int) (l2:List (S51)):Option (Int × Bool):=(impl_isParallel.f k l0 a1 l2).bind fun t664=>(if t664=true then ((impl_lengthBound.f k l0 a1 l2).bind fun t665=>(some (t665,true))) else (some (0,false)))
set_option maxHeartbeats 8000000 in
set_option maxRecDepth 100000 in
theorem impl_LengthBound.calls (k:Nat) (A0:Option Addr) (c0:Nat) (l0:List (S31)) (a1:Int) (A2:Option Addr) (c2:Nat) (l2:List (S51)) (r1:Int) (r2:Bool) (w:World) (hr0:Kd.C k31 w A0 l0.length l0) (hc0:l0.length<=c0) (hr2:Kd.C k51 w A2 l2.length l2) (hc2:l2.length<=c2) (h:impl_LengthBound.f k l0 a1 l2=some (r1,r2)) :
  Calls Try.prog 20 #[.slice A0 l0.length c0,.int .i64 a1,.slice A2 l2.length c2] w fun e w'=>e=.returned (.tuple #[.int .i64 r1,.bool r2])/\Below w.heap.size w w':=by
 have HR0:=ak_ hr0
 have HC0:=ak_ hc0
 clear hr0 hc0
 have HR2:=ak_ hr2
 have HC2:=ak_ hc2
 clear hr2 hc2
 have HB:=ak_ (Below.refl w.heap.size w)
 have H:((impl_isParallel.f k l0 a1 l2).bind fun t664=>(if t664=true then ((impl_lengthBound.f k l0 a1 l2).bind fun t665=>(some (t665,true))) else (some (0,false))))=some (r1,r2):=h
 clear h
 replace H:=gT H;obtain ⟨t664,A4,H⟩:=H
 replace H:=gNB H;rcases H with ⟨rfl,H⟩ | ⟨rfl,H⟩
 ·simp only [Option.some.injEq,Prod.mk.injEq] at H
  obtain ⟨rfl,rfl⟩:=H
  go_enter Try.func20,Try.ntmps20
  go_wp2_with (((with_reducible refine gate_callee (f:=35) rfl ?_);refine zgo 11 Try.func35 #[.slice A0 l0.length c0,.int .i64 a1,.slice A2 l2.length c2] ?_;(with_reducible refine (impl_isParallel.calls k _ _ l0 a1 _ _ l2 false _ ?side1 ?side2 ?side3 ?side4 A4.out).mono ?_);(case side1=>exact zC HR0.out);(case side2=>exact HC0.out);(case side3=>exact zC HR2.out);(case side4=>exact HC2.out);rintro e w9 ⟨rfl,hb⟩;refine ⟨_,rfl,?_⟩;replace HB:=zb1 hb;(try clear hb)))
  go_ret2
  exact ⟨zz0,zb⟩
 replace H:=gT H;obtain ⟨t665,A6,H⟩:=H
 simp only [Option.some.injEq,Prod.mk.injEq] at H
 obtain ⟨rfl,rfl⟩:=H
 go_enter Try.func20,Try.ntmps20
 go_wp2_with (first|((with_reducible refine gate_callee (f:=35) rfl ?_);refine zgo 11 Try.func35 #[.slice A0 l0.length c0,.int .i64 a1,.slice A2 l2.length c2] ?_;(with_reducible refine (impl_isParallel.calls k _ _ l0 a1 _ _ l2 true _ ?side1 ?side2 ?side3 ?side4 A4.out).mono ?_);(case side1=>exact zC HR0.out);(case side2=>exact HC0.out);(case side3=>exact zC HR2.out);(case side4=>exact HC2.out);rintro e w7 ⟨rfl,hb⟩;refine ⟨_,rfl,?_⟩;replace HB:=zb1 hb;(try clear hb))|((with_reducible refine gate_callee (f:=49) rfl ?_);refine zgo 16 Try.func49 #[.slice A0 l0.length c0,.int .i64 a1,.slice A2 l2.length c2] ?_;(with_reducible refine (impl_lengthBound.calls k _ _ l0 a1 _ _ l2 t665 _ ?side1 ?side2 ?side3 ?side4 A6.out).mono ?_);(case side1=>exact zC (Kd.C_below HR0.out HB.out));(case side2=>exact HC0.out);(case side3=>exact zC (Kd.C_below HR2.out HB.out));(case side4=>exact HC2.out);rintro e w8 ⟨rfl,hb⟩;refine ⟨_,rfl,?_⟩;replace HB:=zb1 hb;(try clear hb)))
 go_ret2
 exact ⟨zz0,zb⟩
