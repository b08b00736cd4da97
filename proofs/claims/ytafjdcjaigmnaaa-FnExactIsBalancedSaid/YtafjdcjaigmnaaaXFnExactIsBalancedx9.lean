-- Written by a program of this session (the kit's print, widened). Proved here: what each function answers, for the arguments that its contract names.
import Derived.Test.YtafjdcjaigmnaaaXFnExactIsBalancedx0
import Derived.Test.YtafjdcjaigmnaaaXFnExactIsBalancedx7
import Derived.Test.YtafjdcjaigmnaaaXFnExactIsBalancedx8
namespace Go.Proofs.Ytafjdcjaigmnaaa.XFnExactIsBalanced
open Go.RowKit Go.Proofs.YtafjdcjaigmnaaaW.PrintWords Go.Proofs.YtafjdcjaigmnaaaW.PrintLast Go.Proofs.YtafjdcjaigmnaaaW.PrintMore
attribute [local go_sem] max2_int min2_int max_two min_two max_three min_three max_four min_four   -- for this text's walks alone
set_option linter.unusedVariables false
set_option linter.unusedSimpArgs false

/-! ### impl_byEnds: function 83, by hand -/
/-! ### impl_byEnds, by hand -/
set_option maxHeartbeats 8000000 in
set_option maxRecDepth 100000 in
theorem impl_byEnds1.cmp (box : Addr) (A0 : Option Addr) (c0 : Nat) (l0 : List Int) (W : World) (hbox : W.cell? box = some (.slice A0 l0.length c0)) (hr : Kd.C (Kd.int .i64) W A0 l0.length l0) (a b : Int) (ha : 0 ≤ a ∧ a < l0.length) (hb : 0 ≤ b ∧ b < l0.length) :
    Calls Try.prog 101 #[.int .i64 a, .int .i64 b, .pointer (some box)] W fun e W' => e = .returned (.bool (decide (rd l0 a < rd l0 b))) ∧ ∃ n, W' = W.drewN n := by
  obtain ⟨ad1, e1, hx1⟩ := Kd.at_int hr a ha.1 ha.2
  obtain ⟨ad2, e2, hx2⟩ := Kd.at_int hr b hb.1 hb.2
  subst e1
  obtain rfl : ad1 = ad2 := by injection e2
  clear hr e2
  have p1 := eq_true ha.1
  have q1 := eq_true ha.2
  have p2 := eq_true hb.1
  have q2 := eq_true hb.2
  clear ha hb
  go_enter Try.func101, Try.ntmps101
  go_wp2
  go_region
  all_goals (go_wp2; go_ret; exact ⟨rfl, 1, rfl⟩)
def impl_byEnds.f (k : Nat) (l0 : List Int) : Option (List Int) := (impl_numbersTo.f k (l0.length : Int)).bind fun r1 => if r1.length ≤ 1048576 ∧ ∀ x ∈ r1, 0 ≤ x ∧ x < (l0.length : Int) then some (insAll (fun a b => decide (rd l0 a < rd l0 b)) r1 []) else none
theorem impl_byEnds.mono : ∀ l0 k, LeO (impl_byEnds.f k l0) (impl_byEnds.f (k + 1) l0) := by
  intro l0 k r h
  unfold impl_byEnds.f at h ⊢
  obtain ⟨r1, h1, h2⟩ := Option.bind_eq_some_iff.1 h
  rw [impl_numbersTo.mono _ _ _ h1]
  exact h2
set_option maxHeartbeats 8000000 in
set_option maxRecDepth 100000 in
theorem impl_byEnds.calls (k : Nat) (A0 : Option Addr) (c0 : Nat) (l0 : List Int) (r : List Int) (w : World) (hr0 : Kd.C (Kd.int .i64) w A0 l0.length l0) (hc0 : l0.length ≤ c0) (h : impl_byEnds.f k l0 = some r) :
    Calls Try.prog 83 #[.slice A0 l0.length c0] w fun e w' => ∃ v0_ : Value, e = .returned (v0_) ∧ Kd.R (Kd.int .i64) 3 w' w.heap.size (fun _ => True) v0_ r ∧ Below w.heap.size w w' := by
  unfold impl_byEnds.f at h
  obtain ⟨r1, h1, h2⟩ := Option.bind_eq_some_iff.1 h
  clear h
  split at h2
  case isFalse => cases h2
  case isTrue h3 =>
  obtain rfl := Option.some.inj h2
  have HR0 := Aside0.mk hr0
  have HC0 := Aside0.mk hc0
  have H1 := Aside0.mk h1
  have H3 := Aside0.mk h3
  have HB := Aside0.mk (Below.refl w.heap.size w)
  clear hr0 hc0 h1 h2 h3
  go_enter Try.func83, Try.ntmps83
  go_wp2_with (fail)
  refine (impl_numbersTo.calls k _ r1 _ H1.out).mono ?_
  rintro e w2 ⟨v2, rfl, ho0, hb⟩
  dsimp only
  have HX2 := hb.cell (p := ⟨w.heap.size, 0, none⟩) (by show w.heap.size < (w.heap.push _).size; rw [Array.size_push]; omega)
  have HBox : Aside0 (w2.cell? ⟨w.heap.size, 0, none⟩ = some (.slice A0 l0.length c0)) := ⟨by rw [HX2]; go_simp⟩
  clear HX2
  have n1_ := Aside0.mk (below_step (by repeat (first | (with_reducible first | exact HB.out | apply below_alloc | apply pw_below_drewN | apply below_drew1) | exact HB.out)) hb)
  have HO_2 := Aside0.mk ho0
  clear HB ho0 hb
  have HB := n1_
  clear n1_
  obtain ⟨Ao2, co2, eo2⟩ := Kd.R_slice HO_2.out
  subst eo2
  go_wp2_with (fail)
  refine (impl_sortedBy.calls 101 ?eg #[.pointer (some ⟨w.heap.size, 0, none⟩)] (fun a b => decide (rd l0 a < rd l0 b)) (fun x => 0 ≤ x ∧ x < (l0.length : Int)) Ao2 co2 r1 w2 (Kd.R_reads' HO_2.out).2.2 (Kd.R_reads' HO_2.out).2.1 H3.out.2 H3.out.1 ?cmp).mono ?_
  case eg => intro args w; go_simp
  case cmp => intro W hW a b ha hb; exact impl_byEnds1.cmp _ A0 c0 l0 W ((hW.cell (World.block_lt_of_cell? w2 _ HBox.out)).trans HBox.out) (Kd.C_below HR0.out (below_step HB.out hW)) a b ha hb
  rintro e w4 ⟨v4, rfl, ho0, hb⟩
  dsimp only
  have n1_ := Aside0.mk (below_step HB.out hb)
  have HO_4 := Aside0.mk (Kd.R_lower ho0 (below_size HB.out))
  clear HB HO_2 HBox ho0 hb
  have HB := n1_
  clear n1_
  go_wp2
  go_ret
  exact ⟨_, rfl, by (with_reducible repeat (first | apply Kd.R_alloc | apply Kd.R_drewN | apply Kd.R_drew)); exact HO_4.out, (by repeat (first | (with_reducible first | exact HB.out | apply below_alloc | apply pw_below_drewN | apply below_drew1) | exact HB.out))⟩

end Go.Proofs.Ytafjdcjaigmnaaa.XFnExactIsBalanced
