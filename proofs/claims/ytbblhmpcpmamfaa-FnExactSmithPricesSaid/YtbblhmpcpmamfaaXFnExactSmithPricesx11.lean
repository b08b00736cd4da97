-- Written by a program of this session (the kit's print, widened). Proved here: what each function answers, for the arguments that its contract names.
import Derived.Test.YtbblhmpcpmamfaaXFnExactSmithPricesx0
import Derived.Test.YtbblhmpcpmamfaaXFnExactSmithPricesx7
namespace Go.Proofs.Ytbblhmpcpmamfaa.XFnExactSmithPrices
open Go.RowKit Go.Proofs.YtbblhmpcpmamfaaW.PrintWords Go.Proofs.YtbblhmpcpmamfaaW.PrintLast Go.Proofs.YtbblhmpcpmamfaaW.PrintMore
attribute [local go_sem] max2_int min2_int max_two min_two max_three min_three max_four min_four   -- for this text's walks alone
attribute [local go_sem] idxA_77_0 idxA_77_1 fldS_68_0 fldS_68_1 fldS_73_0 fldS_73_1 fldS_73_2
set_option linter.unusedVariables false
set_option linter.unusedSimpArgs false

/-! ### impl_ascending: function 54, by hand -/
set_option maxHeartbeats 8000000 in
set_option maxRecDepth 100000 in
theorem impl_ascending1.cmp (W:World) (a b:Int) :
  Calls Try.prog 94 #[.int .i64 a,.int .i64 b] W fun e W'=>e=.returned (.bool (decide (a<b)))∧∃ n,W'=W.drewN n:=by
 go_enter Try.func94,Try.ntmps94
 go_wp2
 go_ret
 exact ⟨rfl,0,rfl⟩
def impl_ascending.f (k:Nat) (l0:List Int):Option (List Int):=if l0.length≤1048576 then some (insAll (fun a b=>decide (a<b)) l0 []) else none
theorem impl_ascending.mono:∀ l0 k,LeO (impl_ascending.f k l0) (impl_ascending.f (k + 1) l0):=by
 intro l0 k r h
 exact h
set_option maxHeartbeats 8000000 in
set_option maxRecDepth 100000 in
theorem impl_ascending.calls (k:Nat) (A0:Option Addr) (c0:Nat) (l0:List Int) (r:List Int) (w:World) (hr0:Kd.C (Kd.int .i64) w A0 l0.length l0) (hc0:l0.length≤c0) (h:impl_ascending.f k l0=some r) :
  Calls Try.prog 54 #[.slice A0 l0.length c0] w fun e w'=>∃ v0_:Value,e=.returned (v0_)∧Kd.R (Kd.int .i64) 3 w' w.heap.size (fun _=>True) v0_ r∧Below w.heap.size w w':=by
 unfold impl_ascending.f at h
 split at h
 case isFalse=>cases h
 case isTrue h3=>
 obtain rfl:=Option.some.inj h
 have HR0:=Aside0.mk hr0
 have HC0:=Aside0.mk hc0
 have H3:=Aside0.mk h3
 have HB:=Aside0.mk (Below.refl w.heap.size w)
 clear hr0 hc0 h3 h
 go_enter Try.func54,Try.ntmps54
 go_wp2_with (fail)
 refine (impl_sortedBy.calls 94 ?eg #[] (fun a b=>decide (a<b)) (fun _=>True) A0 c0 l0 w HR0.out HC0.out (fun _ _=>trivial) H3.out ?cmp).mono ?_
 case eg=>intro args w;go_simp
 case cmp=>intro W hW a b _ _;exact impl_ascending1.cmp W a b
 rintro e w4 ⟨v4,rfl,ho0,hb⟩
 dsimp only
 have HB4:=Aside0.mk hb
 have HO_4:=Aside0.mk ho0
 clear HB ho0 hb
 have HB:=HB4
 clear HB4
 go_wp2
 go_ret
 exact ⟨_,rfl,by (with_reducible repeat (first|apply Kd.R_alloc|apply Kd.R_drewN|apply Kd.R_drew));exact HO_4.out,(by repeat (first|(with_reducible first|exact HB.out|apply below_alloc|apply pw_below_drewN|apply below_drew1)|exact HB.out))⟩

end Go.Proofs.Ytbblhmpcpmamfaa.XFnExactSmithPrices
-- minified
