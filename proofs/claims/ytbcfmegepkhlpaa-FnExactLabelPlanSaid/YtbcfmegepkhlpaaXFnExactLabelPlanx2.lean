-- Written by a program of this session (the kit's print, widened). Proved here: what each function answers, for the arguments that its contract names.
import Derived.Test.YtbcfmegepkhlpaaXFnExactLabelPlanx0
namespace Go.Proofs.Ytbcfmegepkhlpaa.XFnExactLabelPlan
open Go.RowKit Go.Proofs.YtbcfmegepkhlpaaW.PrintWords Go.Proofs.YtbcfmegepkhlpaaW.PrintLast Go.Proofs.YtbcfmegepkhlpaaW.PrintMore
attribute [local go_sem] max2_int min2_int max_two min_two max_three min_three max_four min_four   -- for this text's walks alone
attribute [local go_sem] idxA_72_0 idxA_72_1 fldS_96_0 fldS_96_1 fldS_96_2 fldS_111_0 fldS_111_1 fldS_111_2
set_option linter.unusedVariables false
set_option linter.unusedSimpArgs false

/-! ### laws_eqIntA2: function 54, by hand -/
def laws_eqIntA2.f (k:Nat) (a0_0:Int) (a0_1:Int) (a1_0:Int) (a1_1:Int):Option (Bool):=some (decide (a0_0=a1_0∧a0_1=a1_1))
theorem laws_eqIntA2.mono:∀ a0_0 a0_1 a1_0 a1_1 k,LeO (laws_eqIntA2.f k a0_0 a0_1 a1_0 a1_1) (laws_eqIntA2.f (k + 1) a0_0 a0_1 a1_0 a1_1):=fun _ _ _ _ _ _ h=>h
set_option maxHeartbeats 8000000 in
set_option maxRecDepth 100000 in
theorem laws_eqIntA2.calls (k:Nat) (a0_0:Int) (a0_1:Int) (a1_0:Int) (a1_1:Int) (r:Bool) (w:World) (h:laws_eqIntA2.f k a0_0 a0_1 a1_0 a1_1=some r) :
  Calls Try.prog 54 #[.agg #[.int .i64 a0_0,.int .i64 a0_1],.agg #[.int .i64 a1_0,.int .i64 a1_1]] w fun e w'=>e=.returned (.bool r)∧Below w.heap.size w w':=by
 have hu:=Try.underlying72
 have HB:=Aside0.mk (Below.refl w.heap.size w)
 unfold laws_eqIntA2.f at h
 obtain rfl:=Option.some.inj h
 clear h
 go_enter Try.func54,Try.ntmps54
 go_wp2
 have b0:=heap_alloc_new w (.cells #[.int .i64 a0_0,.int .i64 a0_1] 72)
 generalize hw1:w.alloc (.cells #[.int .i64 a0_0,.int .i64 a0_1] 72)=w1 at b0 ⊢
 have s1:w1.heap.size=w.heap.size + 1:=by rw [←hw1];show (w.heap.push _).size=_;rw [Array.size_push]
 have B1:Below w.heap.size w w1:=by rw [←hw1];exact below_alloc (Below.refl _ _) _
 have b1:=heap_alloc_new w1 (.cells #[.int .i64 a1_0,.int .i64 a1_1] 72)
 have b0':=blk_alloc b0 (.cells #[.int .i64 a1_0,.int .i64 a1_1] 72)
 generalize hw2:w1.alloc (.cells #[.int .i64 a1_0,.int .i64 a1_1] 72)=w2 at b1 b0' ⊢
 have B2:Below w.heap.size w w2:=by rw [←hw2];exact below_alloc B1 _
 rw [s1] at b1
 have X0:=Aside0.mk b0'
 have X1:=Aside0.mk b1
 have HB3:=Aside0.mk B2
 clear b0 b0' b1 hw1 hw2 s1 B1 B2 HB
 go_loopg [5] 2 (fun kq v4 w'=>∃ (i:Int),v4=.int .i64 i∧Aside0 (0≤i∧i + (kq:Int)=2)∧Aside0 (1≤i→a0_0=a1_0)∧Aside0 (2≤i→a0_1=a1_1)∧Aside0 (w'.heap[w.heap.size]?=some (.cells #[.int .i64 a0_0,.int .i64 a0_1] 72 (0,0)))∧Aside0 (w'.heap[w.heap.size + 1]?=some (.cells #[.int .i64 a1_0,.int .i64 a1_1] 72 (0,0)))∧Aside0 (Below w.heap.size w w'))
 case atStart=>exact ⟨0,rfl,⟨by omega⟩,⟨by omega⟩,⟨by omega⟩,X0,X1,HB3⟩
 case round=>
  clear X0 X1 HB3
  obtain ⟨i,rfl,HK,E0,E1,X0,X1,HB3⟩:=hrel
  have hi:i=0∨i=1∨i=2:=by have:=HK.out;omega
  rcases hi with rfl|rfl|rfl
  ·have f0:=(blk_cell X0.out 0).trans rfl
   have f2:=(blk_cell X1.out 0).trans rfl
   by_cases q:a0_0=a1_0
   ·have qb:(a0_0 != a1_0)=false:=bne_eq_false_iff_eq.mpr q
    have Q:=Aside0.mk q
    clear q
    go_wp2
    go_region
    all_goals (go_wp2;go_roundg 1;(case measure=>have:=HK.out;omega);(case rel=>exact ⟨1,rfl,⟨by omega⟩,⟨fun _=>Q.out⟩,⟨by omega⟩,⟨X0.out⟩,⟨X1.out⟩,⟨below_drew1 HB3.out⟩⟩))
   ·have qb:(a0_0 != a1_0)=true:=bne_iff_ne.mpr q
    have hr:decide (a0_0=a1_0∧a0_1=a1_1)=false:=decide_eq_false (fun h=>q h.1)
    clear q
    go_wp2
    go_region
    all_goals (go_wp2;go_ret;exact ⟨by first|(rw [hr];rfl)|(simp [hr];done)|rfl,below_drew1 HB3.out⟩)
  ·have f0:=(blk_cell X0.out 1).trans rfl
   have f2:=(blk_cell X1.out 1).trans rfl
   by_cases q:a0_1=a1_1
   ·have qb:(a0_1 != a1_1)=false:=bne_eq_false_iff_eq.mpr q
    have Q:=Aside0.mk q
    clear q
    go_wp2
    go_region
    all_goals (go_wp2;go_roundg 0;(case measure=>have:=HK.out;omega);(case rel=>exact ⟨2,rfl,⟨by omega⟩,⟨fun _=>E0.out (by omega)⟩,⟨fun _=>Q.out⟩,⟨X0.out⟩,⟨X1.out⟩,⟨below_drew1 HB3.out⟩⟩))
   ·have qb:(a0_1 != a1_1)=true:=bne_iff_ne.mpr q
    have hr:decide (a0_0=a1_0∧a0_1=a1_1)=false:=decide_eq_false (fun h=>q h.2)
    clear q
    go_wp2
    go_region
    all_goals (go_wp2;go_ret;exact ⟨by first|(rw [hr];rfl)|(simp [hr];done)|rfl,below_drew1 HB3.out⟩)
  ·have hr:decide (a0_0=a1_0∧a0_1=a1_1)=true:=decide_eq_true ⟨E0.out (by omega),E1.out (by omega)⟩
   go_wp2
   go_ret
   exact ⟨by first|(rw [hr];rfl)|(simp [hr];done)|rfl,HB3.out⟩

end Go.Proofs.Ytbcfmegepkhlpaa.XFnExactLabelPlan
-- minified
