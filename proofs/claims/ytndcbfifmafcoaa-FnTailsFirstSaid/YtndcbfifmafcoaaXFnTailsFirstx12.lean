import Derived.Test.YtndcbfifmafcoaaXFnTailsFirstx11
namespace Go.Proofs.Ytndcbfifmafcoaa.XFnTailsFirst
open Go.RowKit Go.Proofs.YtndcbfifmafcoaaW.PrintWords Go.Proofs.YtndcbfifmafcoaaW.PrintLast Go.Proofs.YtndcbfifmafcoaaW.PrintMore
set_option linter.unusedVariables false
set_option linter.unusedSimpArgs false
/-- the greater first -/
def downLt:Int->Int->Bool:=fun a b=>decide (b<a)
set_option maxHeartbeats 8000000 in
set_option maxRecDepth 100000 in
theorem impl_labelsOf1.cmp (W:World) (a b:Int):Calls Try.prog 67 #[.int .i64 a,.int .i64 b] W fun e W'=>e=.returned (.bool (downLt a b))/\∃ n,W'=W.drewN n:=by
 go_enter Try.func67,Try.ntmps67
 go_wp2
 go_ret
 exact ⟨rfl,0,rfl⟩
def impl_sortedDown.f (k:Nat) (l0:List Int):Option (List Int):=if l0.length<=1048576 then some (insAll downLt l0 []) else none
theorem impl_sortedDown.calls (k:Nat) (A0:Option Addr) (c0:Nat) (l0:List Int) (r:List Int) (w:World) (hr0:Kd.C (Kd.int .i64) w A0 l0.length l0) (hc0:l0.length<=c0) (h:impl_sortedDown.f k l0=some r) :
  Calls Try.prog 28 #[.slice A0 l0.length c0,.func (.func 67) #[] #[]] w fun e w'=>∃ v0_:Value,e=.returned (v0_)/\Kd.R (Kd.int .i64) 3 w' w.heap.size (fun _=>True) v0_ r/\Below w.heap.size w w':=by
 unfold impl_sortedDown.f at h
 split at h
 case isFalse=>cases h
 case isTrue hl=>
 obtain rfl:=oi_ h;exact impl_sortedBy.calls 67 (by intro args w;go_simp) #[] downLt (fun _=>True) A0 c0 l0 w hr0 hc0 (fun _ _=>trivial) hl (fun W _ a b _ _=>impl_labelsOf1.cmp W a b)
