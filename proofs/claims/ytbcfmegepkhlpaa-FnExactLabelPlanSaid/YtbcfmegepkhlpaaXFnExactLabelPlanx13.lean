-- Written by a program of this session (the kit's print, widened). Proved here: what each function answers, for the arguments that its contract names.
import Derived.Test.YtbcfmegepkhlpaaXFnExactLabelPlanx0
namespace Go.Proofs.Ytbcfmegepkhlpaa.XFnExactLabelPlan
open Go.RowKit Go.Proofs.YtbcfmegepkhlpaaW.PrintWords Go.Proofs.YtbcfmegepkhlpaaW.PrintLast Go.Proofs.YtbcfmegepkhlpaaW.PrintMore
attribute [local go_sem] max2_int min2_int max_two min_two max_three min_three max_four min_four   -- for this text's walks alone
attribute [local go_sem] idxA_72_0 idxA_72_1 fldS_96_0 fldS_96_1 fldS_96_2 fldS_111_0 fldS_111_1 fldS_111_2
set_option linter.unusedVariables false
set_option linter.unusedSimpArgs false

/-! ### laws_toIntA2: function 61, by hand -/
def laws_toIntA2.f (k:Nat) (a0_0:Int) (a0_1:Int):Option (Int × Int):=some (a0_0,a0_1)
theorem laws_toIntA2.mono:∀ a0_0 a0_1 k,LeO (laws_toIntA2.f k a0_0 a0_1) (laws_toIntA2.f (k + 1) a0_0 a0_1):=fun _ _ _ _ h=>h
set_option maxHeartbeats 8000000 in
set_option maxRecDepth 100000 in
theorem laws_toIntA2.calls (k:Nat) (a0_0:Int) (a0_1:Int) (r1:Int) (r2:Int) (w:World) (h:laws_toIntA2.f k a0_0 a0_1=some (r1,r2)) :
  Calls Try.prog 61 #[.agg #[.int .i64 a0_0,.int .i64 a0_1]] w fun e w'=>e=.returned (.agg #[.int .i64 r1,.int .i64 r2])∧Below w.heap.size w w':=by
 have hu:=Try.underlying72
 have HB:=Aside0.mk (Below.refl w.heap.size w)
 unfold laws_toIntA2.f at h
 simp only [Option.some.injEq,Prod.mk.injEq] at h
 obtain ⟨rfl,rfl⟩:=h
 go_enter Try.func61,Try.ntmps61
 go_wp2
 have b0:=heap_alloc_new w (.cells #[.int .i64 a0_0,.int .i64 a0_1] 72)
 generalize hw1:w.alloc (.cells #[.int .i64 a0_0,.int .i64 a0_1] 72)=w1 at b0 ⊢
 have s1:w1.heap.size=w.heap.size + 1:=by rw [←hw1];show (w.heap.push _).size=_;rw [Array.size_push]
 have B1:Below w.heap.size w w1:=by rw [←hw1];exact below_alloc (Below.refl _ _) _
 have b1:=heap_alloc_new w1 (.cells #[.int .i64 0,.int .i64 0] 72)
 have b0':=blk_alloc b0 (.cells #[.int .i64 0,.int .i64 0] 72)
 generalize hw2:w1.alloc (.cells #[.int .i64 0,.int .i64 0] 72)=w2 at b1 b0' ⊢
 have s2:w2.heap.size=w.heap.size + 1 + 1:=by rw [←hw2,←s1];show (w1.heap.push _).size=_;rw [Array.size_push]
 have B2:Below w.heap.size w w2:=by rw [←hw2];exact below_alloc B1 _
 have b2:=heap_alloc_new w2 (.cells #[.int .i64 0,.int .i64 0] 72)
 have b1':=blk_alloc b1 (.cells #[.int .i64 0,.int .i64 0] 72)
 have b0'':=blk_alloc b0' (.cells #[.int .i64 0,.int .i64 0] 72)
 generalize hw3:w2.alloc (.cells #[.int .i64 0,.int .i64 0] 72)=w3 at b2 b1' b0'' ⊢
 have B3:Below w.heap.size w w3:=by rw [←hw3];exact below_alloc B2 _
 rw [s1] at b1'
 rw [s2] at b2
 have X0:=Aside0.mk b0''
 have X1:=Aside0.mk b1'
 have X2:=Aside0.mk b2
 have HB3:=Aside0.mk B3
 clear b0 b0' b0'' b1 b1' b2 hw1 hw2 hw3 s1 s2 B1 B2 B3 HB
 go_loopg [4] 2 (fun kq v4 w'=>∃ (i:Int),v4=.int .i64 i∧Aside0 (0≤i∧i + (kq:Int)=2)∧Aside0 (w'.heap[w.heap.size]?=some (.cells #[.int .i64 a0_0,.int .i64 a0_1] 72 (0,0)))∧Aside0 (w'.heap[w.heap.size + 1]?=some (.cells #[.int .i64 0,.int .i64 0] 72 (0,0)))∧Aside0 (w'.heap[w.heap.size + 1 + 1]?=some (.cells (if i=0 then #[.int .i64 0,.int .i64 0] else if i=1 then #[.int .i64 a0_0,.int .i64 0] else #[.int .i64 a0_0,.int .i64 a0_1]) 72 (0,0)))∧Aside0 (Below w.heap.size w w'))
 case atStart=>exact ⟨0,rfl,⟨by omega⟩,X0,X1,⟨by rw [if_pos rfl];exact X2.out⟩,HB3⟩
 case round=>
  clear X0 X1 X2 HB3
  obtain ⟨i,rfl,HK,X0,X1,X2,HB3⟩:=hrel
  have hi:i=0∨i=1∨i=2:=by have:=HK.out;omega
  rcases hi with rfl|rfl|rfl
  ·have x2:=X2.out
   rw [if_pos rfl] at x2
   have f0:=(blk_cell X0.out 0).trans rfl
   have f2:=(blk_cell x2 0).trans rfl
   have z2:=blk_frozen x2 0
   have x2s:=blk_put x2 0 (.int .i64 a0_0) (cs':=#[.int .i64 a0_0,.int .i64 0]) rfl
   have x0s:=blk_far X0.out (p:=⟨w.heap.size + 1 + 1,0,none⟩) (show w.heap.size≠w.heap.size + 1 + 1 by omega) (.int .i64 a0_0)
   have x1s:=blk_far X1.out (p:=⟨w.heap.size + 1 + 1,0,none⟩) (show w.heap.size + 1≠w.heap.size + 1 + 1 by omega) (.int .i64 a0_0)
   have Y0:=Aside0.mk x0s
   have Y1:=Aside0.mk x1s
   have Y2:=Aside0.mk x2s
   clear x0s x1s x2s x2
   go_wp2
   go_roundg 1
   case measure=>have:=HK.out;omega
   case rel=>exact ⟨1,rfl,⟨by omega⟩,Y0,Y1,⟨Y2.out⟩,⟨below_set HB3.out (by show w.heap.size≤w.heap.size + 1 + 1;omega)⟩⟩
  ·have x2:=X2.out
   rw [if_neg (by decide),if_pos rfl] at x2
   have f0:=(blk_cell X0.out 1).trans rfl
   have f2:=(blk_cell x2 1).trans rfl
   have z2:=blk_frozen x2 1
   have x2s:=blk_put x2 1 (.int .i64 a0_1) (cs':=#[.int .i64 a0_0,.int .i64 a0_1]) rfl
   have x0s:=blk_far X0.out (p:=⟨w.heap.size + 1 + 1,1,none⟩) (show w.heap.size≠w.heap.size + 1 + 1 by omega) (.int .i64 a0_1)
   have x1s:=blk_far X1.out (p:=⟨w.heap.size + 1 + 1,1,none⟩) (show w.heap.size + 1≠w.heap.size + 1 + 1 by omega) (.int .i64 a0_1)
   have Y0:=Aside0.mk x0s
   have Y1:=Aside0.mk x1s
   have Y2:=Aside0.mk x2s
   clear x0s x1s x2s x2
   go_wp2
   go_roundg 0
   case measure=>have:=HK.out;omega
   case rel=>exact ⟨2,rfl,⟨by omega⟩,Y0,Y1,⟨Y2.out⟩,⟨below_set HB3.out (by show w.heap.size≤w.heap.size + 1 + 1;omega)⟩⟩
  ·have x2:=X2.out
   rw [if_neg (by decide),if_neg (by decide)] at x2
   have f20:=(blk_cell x2 0).trans rfl
   have f21:=(blk_cell x2 1).trans rfl
   have f10:=(blk_cell X1.out 0).trans rfl
   have f11:=(blk_cell X1.out 1).trans rfl
   have z10:=blk_frozen X1.out 0
   have z11:=blk_frozen X1.out 1
   go_wp2
   refine bodyPost_ret (results_cell_row rfl _ _ (w.heap.size + 1) 72 #[.int .i64 a0_0,.int .i64 a0_1] (0,0) _ rfl (by refine blk_put (cs:=#[.int .i64 a0_0,.int .i64 0]) ?_ 1 _ rfl;refine blk_put (cs:=#[.int .i64 0,.int .i64 0]) ?_ 0 _ rfl;exact X1.out) Try.underlying72 rfl (by kernel_rfl)) rfl ?_
   exact ⟨rfl,below_set (below_set HB3.out (by show w.heap.size≤w.heap.size + 1;omega)) (by show w.heap.size≤w.heap.size + 1;omega)⟩

end Go.Proofs.Ytbcfmegepkhlpaa.XFnExactLabelPlan
-- minified
