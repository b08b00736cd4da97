-- Written by a program of this session (the kit's print, widened). Proved here: what each function answers, for the arguments that its contract names.
import Derived.Test.YtafjdcjaigmnaaaXFnExactBestFlowx0
import Derived.Test.YtafjdcjaigmnaaaXFnExactBestFlowx2
import Derived.Test.YtafjdcjaigmnaaaXFnExactBestFlowx3
namespace Go.Proofs.Ytafjdcjaigmnaaa.XFnExactBestFlow
open Go.RowKit Go.Proofs.YtafjdcjaigmnaaaW.PrintWords Go.Proofs.YtafjdcjaigmnaaaW.PrintLast Go.Proofs.YtafjdcjaigmnaaaW.PrintMore
attribute [local go_sem] max2_int min2_int max_two min_two max_three min_three max_four min_four   -- for this text's walks alone
attribute [local go_sem] idxA_75_0 idxA_75_1 fldS_65_0 fldS_65_1 fldS_65_2
set_option linter.unusedVariables false
set_option linter.unusedSimpArgs false

/-! ### spec_l8Span: function 86, by hand -/
def spec_l8Span.f (k : Nat) (l0 : List (List Int)) (l1 : List Int) : Option (Int) := if (l1.length : Int) = 0 then (some 0) else ((spec_l8Ends.f k l0 l1).bind fun t => (if 0 ≤ (wrap64 ((l1.length : Int) - 1)) ∧ (wrap64 ((l1.length : Int) - 1)) < (l1.length : Int) ∧ 0 ≤ (rd l1 (wrap64 ((l1.length : Int) - 1))) ∧ (rd l1 (wrap64 ((l1.length : Int) - 1))) < (t.length : Int) then (spec_l2Last.f k (rd_L1 t (rd l1 (wrap64 ((l1.length : Int) - 1))))) else none))
theorem spec_l8Span.mono : ∀ a0 a1 k, LeO (spec_l8Span.f k a0 a1) (spec_l8Span.f (k + 1) a0 a1) := by
  intro a0 a1 k
  unfold spec_l8Span.f
  repeat' first
      | (with_reducible exact spec_l2Last.mono _ _)
      | (with_reducible exact spec_l8Ends.mono _ _ _)
      | (with_reducible exact LeO.refl _)
      | (with_reducible exact LeO.none _)
      | (with_reducible refine LeO.ite ?_ ?_)
      | (with_reducible refine LeO.bind ?_ (fun _ => ?_))
set_option maxHeartbeats 8000000 in
set_option maxRecDepth 100000 in
theorem spec_l8Span.calls (k : Nat) (A0 : Option Addr) (c0 : Nat) (l0 : List (List Int)) (A1 : Option Addr) (c1 : Nat) (l1 : List Int) (r : Int) (w : World) (hr0 : Kd.C (Kd.slice 3 (Kd.int .i64)) w A0 l0.length l0) (hc0 : l0.length ≤ c0) (hr1 : Kd.C (Kd.int .i64) w A1 l1.length l1) (hc1 : l1.length ≤ c1) (h : spec_l8Span.f k l0 l1 = some r) :
    Calls Try.prog 86 #[.slice A0 l0.length c0, .slice A1 l1.length c1] w fun e w' => e = .returned (.int .i64 r) ∧ Below w.heap.size w w' := by
  have HR0 := Aside0.mk hr0
  have HC0 := Aside0.mk hc0
  clear hr0 hc0
  have HR1 := Aside0.mk hr1
  have HC1 := Aside0.mk hc1
  clear hr1 hc1
  have HB := Aside0.mk (Below.refl w.heap.size w)
  unfold spec_l8Span.f at h
  by_cases c3 : (l1.length : Int) = 0
  · rw [if_pos c3] at h
    have c3b0 : ((l1.length : Int) == 0) = true := beq_iff_eq.mpr c3
    obtain rfl := Option.some.inj h
    clear c3 h
    go_enter Try.func86, Try.ntmps86
    go_wp2
    go_ret
    exact ⟨by first | rfl | (simp [*]; done), by repeat (first | (with_reducible first | exact HB.out | apply below_alloc | apply pw_below_drewN | apply below_drew1) | exact HB.out)⟩
  · rw [if_neg c3] at h
    have c3b0 : ((l1.length : Int) == 0) = false := beq_eq_false_iff_ne.mpr c3
    clear c3
    obtain ⟨t, A40, h⟩ := Option.bind_eq_some_iff.mp h
    have A4 := Aside0.mk A40
    clear A40
    obtain ⟨j, hj⟩ : ∃ j_ : Int, (wrap64 ((l1.length : Int) - 1)) = j_ := ⟨_, rfl⟩
    have hjw : (IntKind.i64.wrap ((l1.length : Int) - 1)) = j := (i64_w _).trans hj
    rw [hj] at h
    split at h
    case isFalse => cases h
    case isTrue hq =>
    have A5 := Aside0.mk h
    clear h
    obtain ⟨p1, q1, p2, q2⟩ := hq
    obtain ⟨ad1, e1, hx1⟩ := Kd.at_int HR1.out j p1 q1
    subst e1
    obtain ⟨x, hx⟩ : ∃ x_ : Int, rd l1 j = x_ := ⟨_, rfl⟩
    rw [hx] at hx1 p2 q2 A5
    have P2 := Aside0.mk p2
    have Q2 := Aside0.mk q2
    replace p1 := eq_true p1
    replace q1 := eq_true q1
    replace p2 := eq_true p2
    replace q2 := eq_true q2
    go_enter Try.func86, Try.ntmps86
    go_wp2
    go_region_with (first
      | (go_at_call 104; refine (spec_l8Ends.calls k A0 c0 l0 (some ad1) c1 l1 t _ ?s1 HC0.out ?s2 HC1.out A4.out).mono ?_; (case s1 => repeat (first | exact HR0.out | refine Kd.C_drew ?_)); (case s2 => repeat (first | exact HR1.out | refine Kd.C_drew ?_)); rintro e w2 ⟨v2, rfl, ho0, hb⟩; obtain ⟨A2, c2, ev2⟩ := Kd.S_slice ho0; subst ev2; have HS := Aside0.mk ho0; have hx1b := (hb.cell (World.block_lt_of_cell? w _ hx1)).trans hx1; obtain ⟨ad2, A3, c3, e3, hx3, hl3, hi3⟩ := at_L1 (Kd.S_reads' HS.out).2.2 x P2.out Q2.out; subst e3; have HL3 := Aside0.mk hl3; have HI3 := Aside0.mk hi3; have HB2 := Aside0.mk (show Below w.heap.size w w2 from below_step (below_drew1 HB.out) hb); clear hl3 hi3 ho0 hb)
      | (go_at_call 103; refine (spec_l2Last.calls k A3 c3 _ r _ HI3.out HL3.out A5.out).mono ?_; rintro e w5 ⟨rfl, ⟨n5, rfl⟩⟩))
    all_goals (go_wp2; go_ret; exact ⟨by first | rfl | (simp [*]; done), by repeat (first | (with_reducible first | exact HB2.out | apply below_alloc | apply pw_below_drewN | apply below_drew1) | exact HB2.out)⟩)

end Go.Proofs.Ytafjdcjaigmnaaa.XFnExactBestFlow
