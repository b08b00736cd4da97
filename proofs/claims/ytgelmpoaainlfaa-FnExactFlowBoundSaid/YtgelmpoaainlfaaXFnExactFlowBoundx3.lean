-- Written by a program of this session (the kit's print, widened). Proved here: what each function answers, for the arguments that its contract names.
import Derived.Test.YtgelmpoaainlfaaXFnExactFlowBoundx0
import Derived.Test.YtgelmpoaainlfaaXFnExactFlowBoundx1
import Derived.Test.YtgelmpoaainlfaaXFnExactFlowBoundx2
namespace Go.Proofs.Ytgelmpoaainlfaa.XFnExactFlowBound
open Go.RowKit Go.Proofs.YtgelmpoaainlfaaW.PrintWords Go.Proofs.YtgelmpoaainlfaaW.PrintLast Go.Proofs.YtgelmpoaainlfaaW.PrintMore
attribute [local go_sem] max2_int min2_int max_two min_two max_three min_three max_four min_four   -- for this text's walks alone
set_option linter.unusedVariables false
set_option linter.unusedSimpArgs false

/-! ### spec_FlowBound: function 48 -/
mutual
def spec_FlowBound.l0 : Nat → List (List Int) → Int → Int → Option (Int × Bool)
  | 0, _, _, _ => none
  | k + 1, x0, x4, x5 => (spec_l8Machines.f x0).bind fun t130 => (if x5 < t130 then (spec_FlowBound.j1 k x0 x4 x5 (decide ((x0.length : Int) > 0))) else (spec_FlowBound.j1 k x0 x4 x5 false))
def spec_FlowBound.j1 : Nat → List (List Int) → Int → Int → Bool → Option (Int × Bool)
  | 0, _, _, _, _ => none
  | k + 1, x0, x4, x5, x23 => if x23 = true then (spec_FlowBound.l1 k x0 x4 x5 0 (-1) (-1) 0) else (some (x4, true))
def spec_FlowBound.l1 : Nat → List (List Int) → Int → Int → Int → Int → Int → Int → Option (Int × Bool)
  | 0, _, _, _, _, _, _, _ => none
  | k + 1, x0, x4, x5, x6, x7, x8, x9 => if x9 < (x0.length : Int) then (if 0 ≤ x9 then (if 0 ≤ x5 then (if x5 < ((rd_L1 x0 x9).length : Int) then (if x5 ≤ ((rd_L1 x0 x9).length : Int) then ((spec_l8Sum.f k ((rd_L1 x0 x9).take (x5 : Int).toNat)).bind fun t136 => (if x7 < 0 then (spec_FlowBound.j3 k x0 x4 x5 (wrap64 (x6 + (rd (rd_L1 x0 x9) x5))) x7 x8 x9 t136 true) else (spec_FlowBound.j3 k x0 x4 x5 (wrap64 (x6 + (rd (rd_L1 x0 x9) x5))) x7 x8 x9 t136 (decide (t136 < x7))))) else (none)) else (none)) else (none)) else (none)) else ((spec_l1Most.f x4 (wrap64 ((wrap64 (x7 + x6)) + x8))).bind fun t131 => (spec_FlowBound.l0 k x0 t131 (wrap64 (x5 + 1))))
def spec_FlowBound.j3 : Nat → List (List Int) → Int → Int → Int → Int → Int → Int → Int → Bool → Option (Int × Bool)
  | 0, _, _, _, _, _, _, _, _, _ => none
  | k + 1, x0, x4, x5, x6, x7, x8, x9, x10, x54 => if x54 = true then (if 0 ≤ x9 then (if x9 < (x0.length : Int) then (if 0 ≤ (wrap64 (x5 + 1)) then (if (wrap64 (x5 + 1)) ≤ ((rd_L1 x0 x9).length : Int) then ((spec_l8Sum.f k ((rd_L1 x0 x9).drop ((wrap64 (x5 + 1)) : Int).toNat)).bind fun t139 => (if x8 < 0 then (spec_FlowBound.l1 k x0 x4 x5 x6 x10 t139 (wrap64 (x9 + 1))) else (if t139 < x8 then (spec_FlowBound.l1 k x0 x4 x5 x6 x10 t139 (wrap64 (x9 + 1))) else (spec_FlowBound.l1 k x0 x4 x5 x6 x10 x8 (wrap64 (x9 + 1)))))) else (none)) else (none)) else (none)) else (none)) else (if 0 ≤ x9 then (if x9 < (x0.length : Int) then (if 0 ≤ (wrap64 (x5 + 1)) then (if (wrap64 (x5 + 1)) ≤ ((rd_L1 x0 x9).length : Int) then ((spec_l8Sum.f k ((rd_L1 x0 x9).drop ((wrap64 (x5 + 1)) : Int).toNat)).bind fun t142 => (if x8 < 0 then (spec_FlowBound.l1 k x0 x4 x5 x6 x7 t142 (wrap64 (x9 + 1))) else (if t142 < x8 then (spec_FlowBound.l1 k x0 x4 x5 x6 x7 t142 (wrap64 (x9 + 1))) else (spec_FlowBound.l1 k x0 x4 x5 x6 x7 x8 (wrap64 (x9 + 1)))))) else (none)) else (none)) else (none)) else (none))
end
def spec_FlowBound.f (k : Nat) (l0 : List (List Int)) : Option (Int × Bool) := (spec_l8Good.f k l0).bind fun t129 => (if t129 = true then (spec_FlowBound.l0 k l0 0 0) else (some (0, false)))
theorem spec_FlowBound.mono_l : ∀ k, (∀ y0 y1 y2, LeO (spec_FlowBound.l0 k y0 y1 y2) (spec_FlowBound.l0 (k + 1) y0 y1 y2)) ∧ (∀ y0 y1 y2 y3, LeO (spec_FlowBound.j1 k y0 y1 y2 y3) (spec_FlowBound.j1 (k + 1) y0 y1 y2 y3)) ∧ (∀ y0 y1 y2 y3 y4 y5 y6, LeO (spec_FlowBound.l1 k y0 y1 y2 y3 y4 y5 y6) (spec_FlowBound.l1 (k + 1) y0 y1 y2 y3 y4 y5 y6)) ∧ (∀ y0 y1 y2 y3 y4 y5 y6 y7 y8, LeO (spec_FlowBound.j3 k y0 y1 y2 y3 y4 y5 y6 y7 y8) (spec_FlowBound.j3 (k + 1) y0 y1 y2 y3 y4 y5 y6 y7 y8))
  | 0 => ⟨fun _ _ _ r h => by simp [spec_FlowBound.l0] at h, fun _ _ _ _ r h => by simp [spec_FlowBound.j1] at h, fun _ _ _ _ _ _ _ r h => by simp [spec_FlowBound.l1] at h, fun _ _ _ _ _ _ _ _ _ r h => by simp [spec_FlowBound.j3] at h⟩
  | k + 1 => by
    obtain ⟨ih0, ih1, ih2, ih3⟩ := spec_FlowBound.mono_l k
    refine ⟨?_, ?_, ?_, ?_⟩
    · intro y0 y1 y2
      unfold spec_FlowBound.l0
      repeat' first
      | (with_reducible exact ih0 _ _ _)
      | (with_reducible exact ih1 _ _ _ _)
      | (with_reducible exact ih2 _ _ _ _ _ _ _)
      | (with_reducible exact ih3 _ _ _ _ _ _ _ _ _)
      | (with_reducible exact spec_l8Good.mono _ _)
      | (with_reducible exact spec_l8Sum.mono _ _)
      | (with_reducible exact LeO.refl _)
      | (with_reducible exact LeO.none _)
      | (with_reducible refine LeO.ite ?_ ?_)
      | (with_reducible refine LeO.bind ?_ (fun _ => ?_))
      | exact ih0 _ _ _
      | exact ih1 _ _ _ _
      | exact ih2 _ _ _ _ _ _ _
      | exact ih3 _ _ _ _ _ _ _ _ _
      | exact spec_l8Good.mono _ _
      | exact spec_l8Sum.mono _ _
      | exact LeO.none _
      | refine LeO.ite ?_ ?_
      | refine LeO.bind ?_ (fun _ => ?_)
    · intro y0 y1 y2 y3
      unfold spec_FlowBound.j1
      repeat' first
      | (with_reducible exact ih0 _ _ _)
      | (with_reducible exact ih1 _ _ _ _)
      | (with_reducible exact ih2 _ _ _ _ _ _ _)
      | (with_reducible exact ih3 _ _ _ _ _ _ _ _ _)
      | (with_reducible exact spec_l8Good.mono _ _)
      | (with_reducible exact spec_l8Sum.mono _ _)
      | (with_reducible exact LeO.refl _)
      | (with_reducible exact LeO.none _)
      | (with_reducible refine LeO.ite ?_ ?_)
      | (with_reducible refine LeO.bind ?_ (fun _ => ?_))
      | exact ih0 _ _ _
      | exact ih1 _ _ _ _
      | exact ih2 _ _ _ _ _ _ _
      | exact ih3 _ _ _ _ _ _ _ _ _
      | exact spec_l8Good.mono _ _
      | exact spec_l8Sum.mono _ _
      | exact LeO.none _
      | refine LeO.ite ?_ ?_
      | refine LeO.bind ?_ (fun _ => ?_)
    · intro y0 y1 y2 y3 y4 y5 y6
      unfold spec_FlowBound.l1
      repeat' first
      | (with_reducible exact ih0 _ _ _)
      | (with_reducible exact ih1 _ _ _ _)
      | (with_reducible exact ih2 _ _ _ _ _ _ _)
      | (with_reducible exact ih3 _ _ _ _ _ _ _ _ _)
      | (with_reducible exact spec_l8Good.mono _ _)
      | (with_reducible exact spec_l8Sum.mono _ _)
      | (with_reducible exact LeO.refl _)
      | (with_reducible exact LeO.none _)
      | (with_reducible refine LeO.ite ?_ ?_)
      | (with_reducible refine LeO.bind ?_ (fun _ => ?_))
      | exact ih0 _ _ _
      | exact ih1 _ _ _ _
      | exact ih2 _ _ _ _ _ _ _
      | exact ih3 _ _ _ _ _ _ _ _ _
      | exact spec_l8Good.mono _ _
      | exact spec_l8Sum.mono _ _
      | exact LeO.none _
      | refine LeO.ite ?_ ?_
      | refine LeO.bind ?_ (fun _ => ?_)
    · intro y0 y1 y2 y3 y4 y5 y6 y7 y8
      unfold spec_FlowBound.j3
      repeat' first
      | (with_reducible exact ih0 _ _ _)
      | (with_reducible exact ih1 _ _ _ _)
      | (with_reducible exact ih2 _ _ _ _ _ _ _)
      | (with_reducible exact ih3 _ _ _ _ _ _ _ _ _)
      | (with_reducible exact spec_l8Good.mono _ _)
      | (with_reducible exact spec_l8Sum.mono _ _)
      | (with_reducible exact LeO.refl _)
      | (with_reducible exact LeO.none _)
      | (with_reducible refine LeO.ite ?_ ?_)
      | (with_reducible refine LeO.bind ?_ (fun _ => ?_))
      | exact ih0 _ _ _
      | exact ih1 _ _ _ _
      | exact ih2 _ _ _ _ _ _ _
      | exact ih3 _ _ _ _ _ _ _ _ _
      | exact spec_l8Good.mono _ _
      | exact spec_l8Sum.mono _ _
      | exact LeO.none _
      | refine LeO.ite ?_ ?_
      | refine LeO.bind ?_ (fun _ => ?_)
theorem spec_FlowBound.mono : ∀ a0 k, LeO (spec_FlowBound.f k a0) (spec_FlowBound.f (k + 1) a0) := by
  intro a0 k
  obtain ⟨ih0, ih1, ih2, ih3⟩ := spec_FlowBound.mono_l k
  unfold spec_FlowBound.f
  repeat' first
      | (with_reducible exact ih0 _ _ _)
      | (with_reducible exact ih1 _ _ _ _)
      | (with_reducible exact ih2 _ _ _ _ _ _ _)
      | (with_reducible exact ih3 _ _ _ _ _ _ _ _ _)
      | (with_reducible exact spec_l8Good.mono _ _)
      | (with_reducible exact spec_l8Sum.mono _ _)
      | (with_reducible exact LeO.refl _)
      | (with_reducible exact LeO.none _)
      | (with_reducible refine LeO.ite ?_ ?_)
      | (with_reducible refine LeO.bind ?_ (fun _ => ?_))
      | exact ih0 _ _ _
      | exact ih1 _ _ _ _
      | exact ih2 _ _ _ _ _ _ _
      | exact ih3 _ _ _ _ _ _ _ _ _
      | exact spec_l8Good.mono _ _
      | exact spec_l8Sum.mono _ _
      | exact LeO.none _
      | refine LeO.ite ?_ ?_
      | refine LeO.bind ?_ (fun _ => ?_)
set_option maxHeartbeats 8000000 in
set_option maxRecDepth 100000 in
theorem spec_FlowBound.calls (k : Nat) (A0 : Option Addr) (c0 : Nat) (l0 : List (List Int)) (r1 : Int) (r2 : Bool) (w : World) (hr0 : Kd.C (Kd.slice 3 (Kd.int .i64)) w A0 l0.length l0) (hc0 : l0.length ≤ c0) (h : spec_FlowBound.f k l0 = some (r1, r2)) :
    Calls Try.prog 48 #[.slice A0 l0.length c0] w fun e w' => e = .returned (.tuple #[.int .i64 r1, .bool r2]) ∧ Drawn0 w w' := by
  have HR0 := Aside0.mk hr0
  have HC0 := Aside0.mk hc0
  clear hr0 hc0
  have H : ((spec_l8Good.f k l0).bind fun t129 => (if t129 = true then (spec_FlowBound.l0 k l0 0 0) else (some (0, false)))) = some (r1, r2) := h
  clear h
  replace H := Option.bind_eq_some_iff.mp H
  obtain ⟨t129, A20, H⟩ := H
  replace H : (if t129 = true then (spec_FlowBound.l0 k l0 0 0) else (some (0, false))) = some (r1, r2) := H
  have A2 := Aside0.mk A20
  clear A20
  by_cases c3 : t129 = true
  · subst c3
    have H1 : (spec_FlowBound.l0 k l0 0 0) = some (r1, r2) := by rw [if_pos rfl] at H; exact H
    clear H
    have H := H1
    clear H1
    have H' := Aside0.mk H
    clear H
    go_enter Try.func48, Try.ntmps48
    go_wp2_with (first | ((with_reducible refine gate_callee (f := 87) rfl ?_); refine goesL_ (some 13) rfl rfl Try.func87 (by kernel_rfl) rfl #[.slice A0 l0.length c0] rfl (by (try simp only [List.map_toArray, List.map_cons, List.map_nil]); first | done | rfl | (simp only [List.length_drop, List.length_take]; rfl)) ?_; (with_reducible refine (spec_l8Good.calls k _ _ l0 true _ ?side1 ?side2 A2.out).mono ?_); (case side1 => repeat (first | exact HR0.out | (with_reducible refine Kd.C_alloc ?_ _) | (with_reducible refine Kd.C_drewN ?_ _) | (with_reducible refine Kd.C_drew ?_))); (case side2 => exact HC0.out); rintro e w' ⟨rfl, ⟨nd, rfl⟩⟩; refine ⟨_, rfl, ?_⟩))
    go_loopg [4, 5] k (fun kq v4 v5 w' => ∃ (x4_1 : Int) (x5_1 : Int), v4 = .int .i64 x4_1 ∧ v5 = .int .i64 x5_1 ∧ Aside0 (spec_FlowBound.l0 kq l0 x4_1 x5_1 = some (r1, r2)) ∧ Aside0 (kq ≤ k) ∧ Drawn0 w w')
    case atStart => exact ⟨(0), (0), (by first | rfl | (simp; done) | (simp [*]; done)), (by first | rfl | (simp; done) | (simp [*]; done)), H', ⟨Nat.le_refl _⟩, by repeat (first | exact Drawn0.refl _ | apply Drawn0.step)⟩
    case round =>
      clear H'
      try clear p2
      try clear c3
      obtain ⟨x4_1, x5_1, rfl, rfl, HA, HK1, ⟨m1, rfl⟩⟩ := hrel
      cases gk with
      | zero => exact absurd HA.out (by simp [spec_FlowBound.l0])
      | succ k1 =>
        have H := HA.out
        clear HA
        simp only [spec_FlowBound.l0] at H
        have HC4 := Aside0.mk H
        clear H
        go_upto_region 5 with (fail)
        go_cut [23] (fun v23 wc => ∃ (kq : Nat) (x23_3 : Bool), v23 = .bool x23_3 ∧ Aside0 (spec_FlowBound.j1 kq l0 x4_1 x5_1 x23_3 = some (r1, r2)) ∧ Aside0 (kq ≤ k1) ∧ Drawn0 w wc)
        case first =>
          have H := HC4.out
          clear HC4
          replace H := Option.bind_eq_some_iff.mp H
          obtain ⟨t130, A50, H⟩ := H
          replace H : (if x5_1 < t130 then (spec_FlowBound.j1 k1 l0 x4_1 x5_1 (decide ((l0.length : Int) > 0))) else (spec_FlowBound.j1 k1 l0 x4_1 x5_1 false)) = some (r1, r2) := H
          have A5 := Aside0.mk A50
          clear A50
          by_cases c6 : x5_1 < t130
          · rw [if_pos c6] at H
            have c6b0 : decide (x5_1 < t130) = true := decide_eq_true c6
            clear c6
            (first | rw [c6b0] | (simp only [i64_w, i32_w]; rw [c6b0]) | skip)
            have H' := Aside0.mk H
            clear H
            go_wp2_with (first | ((with_reducible refine gate_callee (f := 104) rfl ?_); refine goesL_ (some 17) rfl rfl Try.func104 (by kernel_rfl) rfl #[.slice A0 l0.length c0] rfl (by (try simp only [List.map_toArray, List.map_cons, List.map_nil]); first | done | rfl | (simp only [List.length_drop, List.length_take]; rfl)) ?_; (with_reducible refine (spec_l8Machines.calls _ _ l0 t130 _ ?side1 ?side2 A5.out).mono ?_); (case side1 => repeat (first | exact HR0.out | (with_reducible refine Kd.C_alloc ?_ _) | (with_reducible refine Kd.C_drewN ?_ _) | (with_reducible refine Kd.C_drew ?_))); (case side2 => exact HC0.out); rintro e w' ⟨rfl, ⟨nd, rfl⟩⟩; refine ⟨_, rfl, ?_⟩))
            go_meet
            case rel => exact ⟨_, (decide ((l0.length : Int) > 0)), (by first | rfl | (simp; done) | (simp [*]; done)), H', ⟨by have := HK1.out; first | omega | exact Nat.le_refl _⟩, by repeat (first | exact Drawn0.refl _ | apply Drawn0.step)⟩
          · rw [if_neg c6] at H
            have c6b0 : decide (x5_1 < t130) = false := decide_eq_false c6
            clear c6
            (first | rw [c6b0] | (simp only [i64_w, i32_w]; rw [c6b0]) | skip)
            have H' := Aside0.mk H
            clear H
            go_wp2_with (first | ((with_reducible refine gate_callee (f := 104) rfl ?_); refine goesL_ (some 17) rfl rfl Try.func104 (by kernel_rfl) rfl #[.slice A0 l0.length c0] rfl (by (try simp only [List.map_toArray, List.map_cons, List.map_nil]); first | done | rfl | (simp only [List.length_drop, List.length_take]; rfl)) ?_; (with_reducible refine (spec_l8Machines.calls _ _ l0 t130 _ ?side1 ?side2 A5.out).mono ?_); (case side1 => repeat (first | exact HR0.out | (with_reducible refine Kd.C_alloc ?_ _) | (with_reducible refine Kd.C_drewN ?_ _) | (with_reducible refine Kd.C_drew ?_))); (case side2 => exact HC0.out); rintro e w' ⟨rfl, ⟨nd, rfl⟩⟩; refine ⟨_, rfl, ?_⟩))
            go_meet
            case rel => exact ⟨_, (false), (by first | rfl | (simp; done) | (simp [*]; done)), H', ⟨by have := HK1.out; first | omega | exact Nat.le_refl _⟩, by repeat (first | exact Drawn0.refl _ | apply Drawn0.step)⟩
        case rest =>
          clear HC4
          try clear c1
          try clear p2
          try clear c3
          try clear c4
          try clear c6
          try clear c6b0
          try clear p2
          obtain ⟨kq, x23_3, rfl, HA, HJ3, ⟨mc3, rfl⟩⟩ := hcut
          cases kq with
          | zero => exact absurd HA.out (by simp [spec_FlowBound.j1])
          | succ kj3 =>
            have H := HA.out
            clear HA
            simp only [spec_FlowBound.j1] at H
            by_cases c7 : x23_3 = true
            · subst c7
              have H1 : (spec_FlowBound.l1 kj3 l0 x4_1 x5_1 0 (-1) (-1) 0) = some (r1, r2) := by rw [if_pos rfl] at H; exact H
              clear H
              have H := H1
              clear H1
              have H' := Aside0.mk H
              clear H
              go_wp2
              go_loopg [6, 7, 8, 9] kj3 (fun kq v6 v7 v8 v9 w' => ∃ (x6_3 : Int) (x7_3 : Int) (x8_3 : Int) (x9_3 : Int), v6 = .int .i64 x6_3 ∧ v7 = .int .i64 x7_3 ∧ v8 = .int .i64 x8_3 ∧ v9 = .int .i64 x9_3 ∧ Aside0 (spec_FlowBound.l1 kq l0 x4_1 x5_1 x6_3 x7_3 x8_3 x9_3 = some (r1, r2)) ∧ Aside0 (kq ≤ kj3) ∧ Drawn0 w w')
              case atStart => exact ⟨(0), ((-1)), ((-1)), (0), (by first | rfl | (simp; done) | (simp [*]; done)), (by first | rfl | (simp; done) | (simp [*]; done)), (by first | rfl | (simp; done) | (simp [*]; done)), (by first | rfl | (simp; done) | (simp [*]; done)), H', ⟨Nat.le_refl _⟩, by repeat (first | exact Drawn0.refl _ | apply Drawn0.step)⟩
              case round =>
                clear H'
                try clear c1
                try clear p2
                try clear c3
                try clear c4
                try clear c6
                try clear c6b0
                try clear c7
                try clear p2
                obtain ⟨x6_3, x7_3, x8_3, x9_3, rfl, rfl, rfl, rfl, HA, HK3, ⟨m3, rfl⟩⟩ := hrel
                cases gk with
                | zero => exact absurd HA.out (by simp [spec_FlowBound.l1])
                | succ k3 =>
                  have H := HA.out
                  clear HA
                  simp only [spec_FlowBound.l1] at H
                  by_cases c8 : x9_3 < (l0.length : Int)
                  · rw [if_pos c8] at H
                    have c8b0 : decide (x9_3 < (l0.length : Int)) = true := decide_eq_true c8
                    clear c8
                    by_cases c9 : 0 ≤ x9_3
                    · rw [if_pos c9] at H
                      have c9b0 : decide (0 ≤ x9_3) = true := decide_eq_true c9
                      clear c9
                      by_cases c10 : 0 ≤ x5_1
                      · rw [if_pos c10] at H
                        have c10b0 : decide (0 ≤ x5_1) = true := decide_eq_true c10
                        clear c10
                        by_cases c11 : x5_1 < ((rd_L1 l0 x9_3).length : Int)
                        · rw [if_pos c11] at H
                          have c11b0 : decide (x5_1 < ((rd_L1 l0 x9_3).length : Int)) = true := decide_eq_true c11
                          clear c11
                          have c12b0 := eq_true (of_decide_eq_true (by first | (with_reducible assumption) | assumption) : 0 ≤ x5_1)
                          by_cases c13 : x5_1 ≤ ((rd_L1 l0 x9_3).length : Int)
                          · rw [if_pos c13] at H
                            have c13b0 := eq_true c13
                            have c13b1 : decide (x5_1 ≤ ((rd_L1 l0 x9_3).length : Int)) = true := decide_eq_true c13
                            clear c13
                            replace H := Option.bind_eq_some_iff.mp H
                            obtain ⟨t136, A140, H⟩ := H
                            replace H : (if x7_3 < 0 then (spec_FlowBound.j3 k3 l0 x4_1 x5_1 (wrap64 (x6_3 + (rd (rd_L1 l0 x9_3) x5_1))) x7_3 x8_3 x9_3 t136 true) else (spec_FlowBound.j3 k3 l0 x4_1 x5_1 (wrap64 (x6_3 + (rd (rd_L1 l0 x9_3) x5_1))) x7_3 x8_3 x9_3 t136 (decide (t136 < x7_3)))) = some (r1, r2) := H
                            have A14 := Aside0.mk A140
                            clear A140
                            have HC15 := Aside0.mk H
                            clear H
                            have p132 : 0 ≤ (x9_3 : Int) := of_decide_eq_true (by first | (with_reducible assumption) | assumption)
                            have q132 : x9_3 < (l0.length : Int) := of_decide_eq_true (by first | (with_reducible assumption) | assumption)
                            obtain ⟨ad132, A132_0, c132_0, e132, hx132_0, hl132_0, hi132_0⟩ := at_L1 HR0.out x9_3 p132 q132
                            cases e132
                            have HR132_0 := Aside0.mk hi132_0
                            have HC132_0 := Aside0.mk hl132_0
                            clear hi132_0 hl132_0
                            replace p132 := eq_true p132
                            replace q132 := eq_true q132
                            have p133 : 0 ≤ (x5_1 : Int) := of_decide_eq_true (by first | (with_reducible assumption) | assumption)
                            have q133 : x5_1 < ((rd_L1 l0 x9_3).length : Int) := of_decide_eq_true (by first | (with_reducible assumption) | assumption)
                            obtain ⟨ad133, e133, hx133_0⟩ := Kd.at_int HR132_0.out x5_1 p133 q133
                            cases e133
                            replace p133 := eq_true p133
                            replace q133 := eq_true q133
                            have p134 : 0 ≤ (x9_3 : Int) := of_decide_eq_true (by first | (with_reducible assumption) | assumption)
                            have q134 : x9_3 < (l0.length : Int) := of_decide_eq_true (by first | (with_reducible assumption) | assumption)
                            obtain ⟨ad134, A134_0, c134_0, e134, hx134_0, hl134_0, hi134_0⟩ := at_L1 HR0.out x9_3 p134 q134
                            obtain rfl : ad132 = ad134 := (by injection e134)
                            have HR134_0 := Aside0.mk hi134_0
                            have HC134_0 := Aside0.mk hl134_0
                            clear hi134_0 hl134_0
                            replace p134 := eq_true p134
                            replace q134 := eq_true q134
                            have ea_ := Option.some.inj (hx132_0.symm.trans hx134_0)
                            injection ea_ with ea_ en_ ec_
                            subst ea_
                            subst ec_
                            clear en_
                            obtain ⟨i016, hi016, _, hsz16, _⟩ := info_parts info3
                            obtain ⟨hcut16, hA16, hC16⟩ := print_take_of (P := Try.prog) (Value.int .i64) 0 42 3 .i64 Try.underlying42 hi016 hsz16 (some ad133) c132_0 (rd_L1 l0 x9_3) x5_1 (of_decide_eq_true (by first | (with_reducible assumption) | assumption)) (of_decide_eq_true (by first | (with_reducible assumption) | assumption)) HC134_0.out
                            have HR135 := Aside0.mk (Kd.C_of_reads (h1 := fun _ => rfl) (hA16 _ (Kd.reads_of_C HR134_0.out)))
                            have HC135 := Aside0.mk hC16
                            clear hA16 hC16 hi016 hsz16
                            go_upto_region 13 with (first | ((with_reducible refine gate_callee (f := 105) rfl ?_); refine goesL_ (some 47) rfl rfl Try.func105 (by kernel_rfl) rfl #[.slice (some ad133) ((rd_L1 l0 x9_3).take (x5_1 : Int).toNat).length c132_0] rfl (by (try simp only [List.map_toArray, List.map_cons, List.map_nil]); first | done | (rw [show ((rd_L1 l0 x9_3).take (x5_1 : Int).toNat).length = x5_1.toNat from (by rw [List.length_take]; have h_ : (x5_1 : Int) ≤ ((rd_L1 l0 x9_3).length : Int) := of_decide_eq_true (by first | (with_reducible assumption) | assumption); omega)] <;> rfl) | rfl | (simp only [List.length_drop, List.length_take]; rfl)) ?_; (with_reducible refine (spec_l8Sum.calls k3 _ _ ((rd_L1 l0 x9_3).take (x5_1 : Int).toNat) t136 _ ?side1 ?side2 A14.out).mono ?_); (case side1 => repeat (first | exact HR135.out | (with_reducible refine Kd.C_alloc ?_ _) | (with_reducible refine Kd.C_drewN ?_ _) | (with_reducible refine Kd.C_drew ?_))); (case side2 => exact HC135.out); rintro e w' ⟨rfl, ⟨nd, rfl⟩⟩; refine ⟨_, rfl, ?_⟩))
                            (try simp only [Act.put, List.setIfInBounds_toArray, List.set_cons_zero, List.set_cons_succ])
                            go_cut [54] (fun v54 wc => ∃ (kq : Nat) (x54_14 : Bool), v54 = .bool x54_14 ∧ Aside0 (spec_FlowBound.j3 kq l0 x4_1 x5_1 (wrap64 (x6_3 + (rd (rd_L1 l0 x9_3) x5_1))) x7_3 x8_3 x9_3 t136 x54_14 = some (r1, r2)) ∧ Aside0 (kq ≤ k3) ∧ Drawn0 w wc)
                            case first =>
                              have H := HC15.out
                              clear HC15
                              by_cases c17 : x7_3 < 0
                              · rw [if_pos c17] at H
                                have c17b0 : decide (x7_3 < 0) = true := decide_eq_true c17
                                clear c17
                                (first | rw [c17b0] | (simp only [i64_w, i32_w]; rw [c17b0]) | skip)
                                have H' := Aside0.mk H
                                clear H
                                go_wp2
                                go_meet
                                case rel => exact ⟨_, (true), (by first | rfl | (simp; done) | (simp [*]; done)), H', ⟨by have := HK1.out; have := HJ3.out; have := HK3.out; first | omega | exact Nat.le_refl _⟩, by repeat (first | exact Drawn0.refl _ | apply Drawn0.step)⟩
                              · rw [if_neg c17] at H
                                have c17b0 : decide (x7_3 < 0) = false := decide_eq_false c17
                                clear c17
                                (first | rw [c17b0] | (simp only [i64_w, i32_w]; rw [c17b0]) | skip)
                                have H' := Aside0.mk H
                                clear H
                                go_wp2
                                go_meet
                                case rel => exact ⟨_, (decide (t136 < x7_3)), (by first | rfl | (simp; done) | (simp [*]; done)), H', ⟨by have := HK1.out; have := HJ3.out; have := HK3.out; first | omega | exact Nat.le_refl _⟩, by repeat (first | exact Drawn0.refl _ | apply Drawn0.step)⟩
                            case rest =>
                              clear HC15
                              try clear c1
                              try clear p1
                              try clear q1
                              try clear hx1
                              try clear p2
                              try clear c3
                              try clear c4
                              try clear c6
                              try clear c6b0
                              try clear p6
                              try clear c7
                              try clear c8
                              try clear c8b0
                              try clear c9
                              try clear c9b0
                              try clear c10
                              try clear c10b0
                              try clear c11
                              try clear c11b0
                              try clear c12
                              try clear c12b0
                              try clear c13
                              try clear c13b0
                              try clear c13b1
                              try clear p13
                              try clear q13
                              try clear hx13
                              try clear c17
                              try clear c17b0
                              try clear hx132_0
                              try clear hx133_0
                              try clear hx134_0
                              try clear p132
                              try clear p133
                              try clear p134
                              try clear p2
                              try clear q132
                              try clear q133
                              try clear q134
                              obtain ⟨kq, x54_14, rfl, HA, HJ14, ⟨mc14, rfl⟩⟩ := hcut
                              cases kq with
                              | zero => exact absurd HA.out (by simp [spec_FlowBound.j3])
                              | succ kj14 =>
                                have H := HA.out
                                clear HA
                                simp only [spec_FlowBound.j3] at H
                                by_cases c18 : x54_14 = true
                                · subst c18
                                  have H1 : (if 0 ≤ x9_3 then (if x9_3 < (l0.length : Int) then (if 0 ≤ (wrap64 (x5_1 + 1)) then (if (wrap64 (x5_1 + 1)) ≤ ((rd_L1 l0 x9_3).length : Int) then ((spec_l8Sum.f kj14 ((rd_L1 l0 x9_3).drop ((wrap64 (x5_1 + 1)) : Int).toNat)).bind fun t139 => (if x8_3 < 0 then (spec_FlowBound.l1 kj14 l0 x4_1 x5_1 (wrap64 (x6_3 + (rd (rd_L1 l0 x9_3) x5_1))) t136 t139 (wrap64 (x9_3 + 1))) else (if t139 < x8_3 then (spec_FlowBound.l1 kj14 l0 x4_1 x5_1 (wrap64 (x6_3 + (rd (rd_L1 l0 x9_3) x5_1))) t136 t139 (wrap64 (x9_3 + 1))) else (spec_FlowBound.l1 kj14 l0 x4_1 x5_1 (wrap64 (x6_3 + (rd (rd_L1 l0 x9_3) x5_1))) t136 x8_3 (wrap64 (x9_3 + 1)))))) else (none)) else (none)) else (none)) else (none)) = some (r1, r2) := by rw [if_pos rfl] at H; exact H
                                  clear H
                                  have H := H1
                                  clear H1
                                  by_cases c19 : 0 ≤ x9_3
                                  · rw [if_pos c19] at H
                                    have c19b0 : decide (0 ≤ x9_3) = true := decide_eq_true c19
                                    clear c19
                                    by_cases c20 : x9_3 < (l0.length : Int)
                                    · rw [if_pos c20] at H
                                      have c20b0 : decide (x9_3 < (l0.length : Int)) = true := decide_eq_true c20
                                      clear c20
                                      obtain ⟨ji21, hji21⟩ : ∃ j_ : Int, (wrap64 (x5_1 + 1)) = j_ := ⟨_, rfl⟩
                                      replace H : (if 0 ≤ (ji21) then (if (ji21) ≤ ((rd_L1 l0 x9_3).length : Int) then ((spec_l8Sum.f kj14 ((rd_L1 l0 x9_3).drop ((ji21) : Int).toNat)).bind fun t139 => (if x8_3 < 0 then (spec_FlowBound.l1 kj14 l0 x4_1 x5_1 (wrap64 (x6_3 + (rd (rd_L1 l0 x9_3) x5_1))) t136 t139 (wrap64 (x9_3 + 1))) else (if t139 < x8_3 then (spec_FlowBound.l1 kj14 l0 x4_1 x5_1 (wrap64 (x6_3 + (rd (rd_L1 l0 x9_3) x5_1))) t136 t139 (wrap64 (x9_3 + 1))) else (spec_FlowBound.l1 kj14 l0 x4_1 x5_1 (wrap64 (x6_3 + (rd (rd_L1 l0 x9_3) x5_1))) t136 x8_3 (wrap64 (x9_3 + 1)))))) else (none)) else (none)) = some (r1, r2) := by first | (rw [hji21] at H; exact H) | (simp only [hji21] at H ⊢; exact H)
                                      have hji21w : (IntKind.i64.wrap (x5_1 + 1)) = ji21 := (i64_w _).trans hji21
                                      by_cases c22 : 0 ≤ (ji21)
                                      · rw [if_pos c22] at H
                                        have c22b0 := eq_true c22
                                        have c22b1 : decide (0 ≤ (ji21)) = true := decide_eq_true c22
                                        clear c22
                                        by_cases c23 : (ji21) ≤ ((rd_L1 l0 x9_3).length : Int)
                                        · rw [if_pos c23] at H
                                          have c23b0 := eq_true c23
                                          have c23b1 : decide ((ji21) ≤ ((rd_L1 l0 x9_3).length : Int)) = true := decide_eq_true c23
                                          clear c23
                                          replace H := Option.bind_eq_some_iff.mp H
                                          obtain ⟨t139, A240, H⟩ := H
                                          replace H : (if x8_3 < 0 then (spec_FlowBound.l1 kj14 l0 x4_1 x5_1 (wrap64 (x6_3 + (rd (rd_L1 l0 x9_3) x5_1))) t136 t139 (wrap64 (x9_3 + 1))) else (if t139 < x8_3 then (spec_FlowBound.l1 kj14 l0 x4_1 x5_1 (wrap64 (x6_3 + (rd (rd_L1 l0 x9_3) x5_1))) t136 t139 (wrap64 (x9_3 + 1))) else (spec_FlowBound.l1 kj14 l0 x4_1 x5_1 (wrap64 (x6_3 + (rd (rd_L1 l0 x9_3) x5_1))) t136 x8_3 (wrap64 (x9_3 + 1))))) = some (r1, r2) := H
                                          have A24 := Aside0.mk A240
                                          clear A240
                                          by_cases c25 : x8_3 < 0
                                          · rw [if_pos c25] at H
                                            have c25b0 : decide (x8_3 < 0) = true := decide_eq_true c25
                                            clear c25
                                            have H' := Aside0.mk H
                                            clear H
                                            have p137 : 0 ≤ (x9_3 : Int) := of_decide_eq_true (by first | (with_reducible assumption) | assumption)
                                            have q137 : x9_3 < (l0.length : Int) := of_decide_eq_true (by first | (with_reducible assumption) | assumption)
                                            obtain ⟨ad137, A137_0, c137_0, e137, hx137_0, hl137_0, hi137_0⟩ := at_L1 HR0.out x9_3 p137 q137
                                            obtain rfl : ad132 = ad137 := (by injection e137)
                                            have HR137_0 := Aside0.mk hi137_0
                                            have HC137_0 := Aside0.mk hl137_0
                                            clear hi137_0 hl137_0
                                            replace p137 := eq_true p137
                                            replace q137 := eq_true q137
                                            obtain ⟨i026, hi026, _, hsz26, _⟩ := info_parts info3
                                            obtain ⟨A26, hcut26, hA26, hC26⟩ := print_drop_of (P := Try.prog) (Value.int .i64) 0 42 3 .i64 Try.underlying42 hi026 hsz26 A137_0 c137_0 (rd_L1 l0 x9_3) (ji21) (of_decide_eq_true (by first | (with_reducible assumption) | assumption)) (of_decide_eq_true (by first | (with_reducible assumption) | assumption)) HC137_0.out
                                            have HR138 := Aside0.mk (Kd.C_of_reads (h1 := fun _ => rfl) (hA26 _ (Kd.reads_of_C HR137_0.out)))
                                            have HC138 := Aside0.mk hC26
                                            clear hA26 hC26 hi026 hsz26
                                            go_wp2_with (first | ((with_reducible refine gate_callee (f := 105) rfl ?_); refine goesL_ (some 63) rfl rfl Try.func105 (by kernel_rfl) rfl #[.slice A26 ((rd_L1 l0 x9_3).drop ((ji21) : Int).toNat).length (c137_0 - (ji21).toNat)] rfl (by (try simp only [List.map_toArray, List.map_cons, List.map_nil]); first | done | (rw [show ((rd_L1 l0 x9_3).drop ((ji21) : Int).toNat).length = ((rd_L1 l0 x9_3).length - (ji21).toNat) from List.length_drop] <;> rfl) | (simp only [hji21]; rfl) | rfl | (simp only [List.length_drop, List.length_take]; rfl)) ?_; (with_reducible refine (spec_l8Sum.calls kj14 _ _ ((rd_L1 l0 x9_3).drop ((ji21) : Int).toNat) t139 _ ?side1 ?side2 A24.out).mono ?_); (case side1 => repeat (first | exact HR138.out | (with_reducible refine Kd.C_alloc ?_ _) | (with_reducible refine Kd.C_drewN ?_ _) | (with_reducible refine Kd.C_drew ?_))); (case side2 => exact HC138.out); rintro e w' ⟨rfl, ⟨nd, rfl⟩⟩; refine ⟨_, rfl, ?_⟩))
                                            go_roundg kj14
                                            case measure => have := HK1.out; have := HJ3.out; have := HK3.out; have := HJ14.out; omega
                                            case rel => exact ⟨((wrap64 (x6_3 + (rd (rd_L1 l0 x9_3) x5_1)))), (t136), (t139), (wrap64 (x9_3 + 1)), (by first | rfl | (simp; done) | (simp [*]; done)), (by first | rfl | (simp; done) | (simp [*]; done)), (by first | rfl | (simp; done) | (simp [*]; done)), (by first | rfl | (simp; done) | (simp [*]; done)), H', ⟨by have := HK1.out; have := HJ3.out; have := HK3.out; have := HJ14.out; omega⟩, by repeat (first | exact Drawn0.refl _ | apply Drawn0.step)⟩
                                          · rw [if_neg c25] at H
                                            have c25b0 : decide (x8_3 < 0) = false := decide_eq_false c25
                                            clear c25
                                            by_cases c27 : t139 < x8_3
                                            · rw [if_pos c27] at H
                                              have c27b0 : decide (t139 < x8_3) = true := decide_eq_true c27
                                              clear c27
                                              have H' := Aside0.mk H
                                              clear H
                                              have p137 : 0 ≤ (x9_3 : Int) := of_decide_eq_true (by first | (with_reducible assumption) | assumption)
                                              have q137 : x9_3 < (l0.length : Int) := of_decide_eq_true (by first | (with_reducible assumption) | assumption)
                                              obtain ⟨ad137, A137_0, c137_0, e137, hx137_0, hl137_0, hi137_0⟩ := at_L1 HR0.out x9_3 p137 q137
                                              obtain rfl : ad132 = ad137 := (by injection e137)
                                              have HR137_0 := Aside0.mk hi137_0
                                              have HC137_0 := Aside0.mk hl137_0
                                              clear hi137_0 hl137_0
                                              replace p137 := eq_true p137
                                              replace q137 := eq_true q137
                                              obtain ⟨i028, hi028, _, hsz28, _⟩ := info_parts info3
                                              obtain ⟨A28, hcut28, hA28, hC28⟩ := print_drop_of (P := Try.prog) (Value.int .i64) 0 42 3 .i64 Try.underlying42 hi028 hsz28 A137_0 c137_0 (rd_L1 l0 x9_3) (ji21) (of_decide_eq_true (by first | (with_reducible assumption) | assumption)) (of_decide_eq_true (by first | (with_reducible assumption) | assumption)) HC137_0.out
                                              have HR138 := Aside0.mk (Kd.C_of_reads (h1 := fun _ => rfl) (hA28 _ (Kd.reads_of_C HR137_0.out)))
                                              have HC138 := Aside0.mk hC28
                                              clear hA28 hC28 hi028 hsz28
                                              go_wp2_with (first | ((with_reducible refine gate_callee (f := 105) rfl ?_); refine goesL_ (some 63) rfl rfl Try.func105 (by kernel_rfl) rfl #[.slice A28 ((rd_L1 l0 x9_3).drop ((ji21) : Int).toNat).length (c137_0 - (ji21).toNat)] rfl (by (try simp only [List.map_toArray, List.map_cons, List.map_nil]); first | done | (rw [show ((rd_L1 l0 x9_3).drop ((ji21) : Int).toNat).length = ((rd_L1 l0 x9_3).length - (ji21).toNat) from List.length_drop] <;> rfl) | (simp only [hji21]; rfl) | rfl | (simp only [List.length_drop, List.length_take]; rfl)) ?_; (with_reducible refine (spec_l8Sum.calls kj14 _ _ ((rd_L1 l0 x9_3).drop ((ji21) : Int).toNat) t139 _ ?side1 ?side2 A24.out).mono ?_); (case side1 => repeat (first | exact HR138.out | (with_reducible refine Kd.C_alloc ?_ _) | (with_reducible refine Kd.C_drewN ?_ _) | (with_reducible refine Kd.C_drew ?_))); (case side2 => exact HC138.out); rintro e w' ⟨rfl, ⟨nd, rfl⟩⟩; refine ⟨_, rfl, ?_⟩))
                                              go_roundg kj14
                                              case measure => have := HK1.out; have := HJ3.out; have := HK3.out; have := HJ14.out; omega
                                              case rel => exact ⟨((wrap64 (x6_3 + (rd (rd_L1 l0 x9_3) x5_1)))), (t136), (t139), (wrap64 (x9_3 + 1)), (by first | rfl | (simp; done) | (simp [*]; done)), (by first | rfl | (simp; done) | (simp [*]; done)), (by first | rfl | (simp; done) | (simp [*]; done)), (by first | rfl | (simp; done) | (simp [*]; done)), H', ⟨by have := HK1.out; have := HJ3.out; have := HK3.out; have := HJ14.out; omega⟩, by repeat (first | exact Drawn0.refl _ | apply Drawn0.step)⟩
                                            · rw [if_neg c27] at H
                                              have c27b0 : decide (t139 < x8_3) = false := decide_eq_false c27
                                              clear c27
                                              have H' := Aside0.mk H
                                              clear H
                                              have p137 : 0 ≤ (x9_3 : Int) := of_decide_eq_true (by first | (with_reducible assumption) | assumption)
                                              have q137 : x9_3 < (l0.length : Int) := of_decide_eq_true (by first | (with_reducible assumption) | assumption)
                                              obtain ⟨ad137, A137_0, c137_0, e137, hx137_0, hl137_0, hi137_0⟩ := at_L1 HR0.out x9_3 p137 q137
                                              obtain rfl : ad132 = ad137 := (by injection e137)
                                              have HR137_0 := Aside0.mk hi137_0
                                              have HC137_0 := Aside0.mk hl137_0
                                              clear hi137_0 hl137_0
                                              replace p137 := eq_true p137
                                              replace q137 := eq_true q137
                                              obtain ⟨i029, hi029, _, hsz29, _⟩ := info_parts info3
                                              obtain ⟨A29, hcut29, hA29, hC29⟩ := print_drop_of (P := Try.prog) (Value.int .i64) 0 42 3 .i64 Try.underlying42 hi029 hsz29 A137_0 c137_0 (rd_L1 l0 x9_3) (ji21) (of_decide_eq_true (by first | (with_reducible assumption) | assumption)) (of_decide_eq_true (by first | (with_reducible assumption) | assumption)) HC137_0.out
                                              have HR138 := Aside0.mk (Kd.C_of_reads (h1 := fun _ => rfl) (hA29 _ (Kd.reads_of_C HR137_0.out)))
                                              have HC138 := Aside0.mk hC29
                                              clear hA29 hC29 hi029 hsz29
                                              go_wp2_with (first | ((with_reducible refine gate_callee (f := 105) rfl ?_); refine goesL_ (some 63) rfl rfl Try.func105 (by kernel_rfl) rfl #[.slice A29 ((rd_L1 l0 x9_3).drop ((ji21) : Int).toNat).length (c137_0 - (ji21).toNat)] rfl (by (try simp only [List.map_toArray, List.map_cons, List.map_nil]); first | done | (rw [show ((rd_L1 l0 x9_3).drop ((ji21) : Int).toNat).length = ((rd_L1 l0 x9_3).length - (ji21).toNat) from List.length_drop] <;> rfl) | (simp only [hji21]; rfl) | rfl | (simp only [List.length_drop, List.length_take]; rfl)) ?_; (with_reducible refine (spec_l8Sum.calls kj14 _ _ ((rd_L1 l0 x9_3).drop ((ji21) : Int).toNat) t139 _ ?side1 ?side2 A24.out).mono ?_); (case side1 => repeat (first | exact HR138.out | (with_reducible refine Kd.C_alloc ?_ _) | (with_reducible refine Kd.C_drewN ?_ _) | (with_reducible refine Kd.C_drew ?_))); (case side2 => exact HC138.out); rintro e w' ⟨rfl, ⟨nd, rfl⟩⟩; refine ⟨_, rfl, ?_⟩))
                                              go_roundg kj14
                                              case measure => have := HK1.out; have := HJ3.out; have := HK3.out; have := HJ14.out; omega
                                              case rel => exact ⟨((wrap64 (x6_3 + (rd (rd_L1 l0 x9_3) x5_1)))), (t136), (x8_3), (wrap64 (x9_3 + 1)), (by first | rfl | (simp; done) | (simp [*]; done)), (by first | rfl | (simp; done) | (simp [*]; done)), (by first | rfl | (simp; done) | (simp [*]; done)), (by first | rfl | (simp; done) | (simp [*]; done)), H', ⟨by have := HK1.out; have := HJ3.out; have := HK3.out; have := HJ14.out; omega⟩, by repeat (first | exact Drawn0.refl _ | apply Drawn0.step)⟩
                                        · rw [if_neg c23] at H
                                          exact absurd H (by simp)
                                      · rw [if_neg c22] at H
                                        exact absurd H (by simp)
                                    · rw [if_neg c20] at H
                                      exact absurd H (by simp)
                                  · rw [if_neg c19] at H
                                    exact absurd H (by simp)
                                · replace c18 := Bool.eq_false_iff.mpr c18
                                  subst c18
                                  have H1 : (if 0 ≤ x9_3 then (if x9_3 < (l0.length : Int) then (if 0 ≤ (wrap64 (x5_1 + 1)) then (if (wrap64 (x5_1 + 1)) ≤ ((rd_L1 l0 x9_3).length : Int) then ((spec_l8Sum.f kj14 ((rd_L1 l0 x9_3).drop ((wrap64 (x5_1 + 1)) : Int).toNat)).bind fun t142 => (if x8_3 < 0 then (spec_FlowBound.l1 kj14 l0 x4_1 x5_1 (wrap64 (x6_3 + (rd (rd_L1 l0 x9_3) x5_1))) x7_3 t142 (wrap64 (x9_3 + 1))) else (if t142 < x8_3 then (spec_FlowBound.l1 kj14 l0 x4_1 x5_1 (wrap64 (x6_3 + (rd (rd_L1 l0 x9_3) x5_1))) x7_3 t142 (wrap64 (x9_3 + 1))) else (spec_FlowBound.l1 kj14 l0 x4_1 x5_1 (wrap64 (x6_3 + (rd (rd_L1 l0 x9_3) x5_1))) x7_3 x8_3 (wrap64 (x9_3 + 1)))))) else (none)) else (none)) else (none)) else (none)) = some (r1, r2) := by rw [if_neg (show ¬ (false = true) by decide)] at H; exact H
                                  clear H
                                  have H := H1
                                  clear H1
                                  by_cases c30 : 0 ≤ x9_3
                                  · rw [if_pos c30] at H
                                    have c30b0 : decide (0 ≤ x9_3) = true := decide_eq_true c30
                                    clear c30
                                    by_cases c31 : x9_3 < (l0.length : Int)
                                    · rw [if_pos c31] at H
                                      have c31b0 : decide (x9_3 < (l0.length : Int)) = true := decide_eq_true c31
                                      clear c31
                                      obtain ⟨ji32, hji32⟩ : ∃ j_ : Int, (wrap64 (x5_1 + 1)) = j_ := ⟨_, rfl⟩
                                      replace H : (if 0 ≤ (ji32) then (if (ji32) ≤ ((rd_L1 l0 x9_3).length : Int) then ((spec_l8Sum.f kj14 ((rd_L1 l0 x9_3).drop ((ji32) : Int).toNat)).bind fun t142 => (if x8_3 < 0 then (spec_FlowBound.l1 kj14 l0 x4_1 x5_1 (wrap64 (x6_3 + (rd (rd_L1 l0 x9_3) x5_1))) x7_3 t142 (wrap64 (x9_3 + 1))) else (if t142 < x8_3 then (spec_FlowBound.l1 kj14 l0 x4_1 x5_1 (wrap64 (x6_3 + (rd (rd_L1 l0 x9_3) x5_1))) x7_3 t142 (wrap64 (x9_3 + 1))) else (spec_FlowBound.l1 kj14 l0 x4_1 x5_1 (wrap64 (x6_3 + (rd (rd_L1 l0 x9_3) x5_1))) x7_3 x8_3 (wrap64 (x9_3 + 1)))))) else (none)) else (none)) = some (r1, r2) := by first | (rw [hji32] at H; exact H) | (simp only [hji32] at H ⊢; exact H)
                                      have hji32w : (IntKind.i64.wrap (x5_1 + 1)) = ji32 := (i64_w _).trans hji32
                                      by_cases c33 : 0 ≤ (ji32)
                                      · rw [if_pos c33] at H
                                        have c33b0 := eq_true c33
                                        have c33b1 : decide (0 ≤ (ji32)) = true := decide_eq_true c33
                                        clear c33
                                        by_cases c34 : (ji32) ≤ ((rd_L1 l0 x9_3).length : Int)
                                        · rw [if_pos c34] at H
                                          have c34b0 := eq_true c34
                                          have c34b1 : decide ((ji32) ≤ ((rd_L1 l0 x9_3).length : Int)) = true := decide_eq_true c34
                                          clear c34
                                          replace H := Option.bind_eq_some_iff.mp H
                                          obtain ⟨t142, A350, H⟩ := H
                                          replace H : (if x8_3 < 0 then (spec_FlowBound.l1 kj14 l0 x4_1 x5_1 (wrap64 (x6_3 + (rd (rd_L1 l0 x9_3) x5_1))) x7_3 t142 (wrap64 (x9_3 + 1))) else (if t142 < x8_3 then (spec_FlowBound.l1 kj14 l0 x4_1 x5_1 (wrap64 (x6_3 + (rd (rd_L1 l0 x9_3) x5_1))) x7_3 t142 (wrap64 (x9_3 + 1))) else (spec_FlowBound.l1 kj14 l0 x4_1 x5_1 (wrap64 (x6_3 + (rd (rd_L1 l0 x9_3) x5_1))) x7_3 x8_3 (wrap64 (x9_3 + 1))))) = some (r1, r2) := H
                                          have A35 := Aside0.mk A350
                                          clear A350
                                          by_cases c36 : x8_3 < 0
                                          · rw [if_pos c36] at H
                                            have c36b0 : decide (x8_3 < 0) = true := decide_eq_true c36
                                            clear c36
                                            have H' := Aside0.mk H
                                            clear H
                                            have p140 : 0 ≤ (x9_3 : Int) := of_decide_eq_true (by first | (with_reducible assumption) | assumption)
                                            have q140 : x9_3 < (l0.length : Int) := of_decide_eq_true (by first | (with_reducible assumption) | assumption)
                                            obtain ⟨ad140, A140_0, c140_0, e140, hx140_0, hl140_0, hi140_0⟩ := at_L1 HR0.out x9_3 p140 q140
                                            obtain rfl : ad132 = ad140 := (by injection e140)
                                            have HR140_0 := Aside0.mk hi140_0
                                            have HC140_0 := Aside0.mk hl140_0
                                            clear hi140_0 hl140_0
                                            replace p140 := eq_true p140
                                            replace q140 := eq_true q140
                                            obtain ⟨i037, hi037, _, hsz37, _⟩ := info_parts info3
                                            obtain ⟨A37, hcut37, hA37, hC37⟩ := print_drop_of (P := Try.prog) (Value.int .i64) 0 42 3 .i64 Try.underlying42 hi037 hsz37 A140_0 c140_0 (rd_L1 l0 x9_3) (ji32) (of_decide_eq_true (by first | (with_reducible assumption) | assumption)) (of_decide_eq_true (by first | (with_reducible assumption) | assumption)) HC140_0.out
                                            have HR141 := Aside0.mk (Kd.C_of_reads (h1 := fun _ => rfl) (hA37 _ (Kd.reads_of_C HR140_0.out)))
                                            have HC141 := Aside0.mk hC37
                                            clear hA37 hC37 hi037 hsz37
                                            go_wp2_with (first | ((with_reducible refine gate_callee (f := 105) rfl ?_); refine goesL_ (some 63) rfl rfl Try.func105 (by kernel_rfl) rfl #[.slice A37 ((rd_L1 l0 x9_3).drop ((ji32) : Int).toNat).length (c140_0 - (ji32).toNat)] rfl (by (try simp only [List.map_toArray, List.map_cons, List.map_nil]); first | done | (rw [show ((rd_L1 l0 x9_3).drop ((ji32) : Int).toNat).length = ((rd_L1 l0 x9_3).length - (ji32).toNat) from List.length_drop] <;> rfl) | (simp only [hji32]; rfl) | rfl | (simp only [List.length_drop, List.length_take]; rfl)) ?_; (with_reducible refine (spec_l8Sum.calls kj14 _ _ ((rd_L1 l0 x9_3).drop ((ji32) : Int).toNat) t142 _ ?side1 ?side2 A35.out).mono ?_); (case side1 => repeat (first | exact HR141.out | (with_reducible refine Kd.C_alloc ?_ _) | (with_reducible refine Kd.C_drewN ?_ _) | (with_reducible refine Kd.C_drew ?_))); (case side2 => exact HC141.out); rintro e w' ⟨rfl, ⟨nd, rfl⟩⟩; refine ⟨_, rfl, ?_⟩))
                                            go_roundg kj14
                                            case measure => have := HK1.out; have := HJ3.out; have := HK3.out; have := HJ14.out; omega
                                            case rel => exact ⟨((wrap64 (x6_3 + (rd (rd_L1 l0 x9_3) x5_1)))), (x7_3), (t142), (wrap64 (x9_3 + 1)), (by first | rfl | (simp; done) | (simp [*]; done)), (by first | rfl | (simp; done) | (simp [*]; done)), (by first | rfl | (simp; done) | (simp [*]; done)), (by first | rfl | (simp; done) | (simp [*]; done)), H', ⟨by have := HK1.out; have := HJ3.out; have := HK3.out; have := HJ14.out; omega⟩, by repeat (first | exact Drawn0.refl _ | apply Drawn0.step)⟩
                                          · rw [if_neg c36] at H
                                            have c36b0 : decide (x8_3 < 0) = false := decide_eq_false c36
                                            clear c36
                                            by_cases c38 : t142 < x8_3
                                            · rw [if_pos c38] at H
                                              have c38b0 : decide (t142 < x8_3) = true := decide_eq_true c38
                                              clear c38
                                              have H' := Aside0.mk H
                                              clear H
                                              have p140 : 0 ≤ (x9_3 : Int) := of_decide_eq_true (by first | (with_reducible assumption) | assumption)
                                              have q140 : x9_3 < (l0.length : Int) := of_decide_eq_true (by first | (with_reducible assumption) | assumption)
                                              obtain ⟨ad140, A140_0, c140_0, e140, hx140_0, hl140_0, hi140_0⟩ := at_L1 HR0.out x9_3 p140 q140
                                              obtain rfl : ad132 = ad140 := (by injection e140)
                                              have HR140_0 := Aside0.mk hi140_0
                                              have HC140_0 := Aside0.mk hl140_0
                                              clear hi140_0 hl140_0
                                              replace p140 := eq_true p140
                                              replace q140 := eq_true q140
                                              obtain ⟨i039, hi039, _, hsz39, _⟩ := info_parts info3
                                              obtain ⟨A39, hcut39, hA39, hC39⟩ := print_drop_of (P := Try.prog) (Value.int .i64) 0 42 3 .i64 Try.underlying42 hi039 hsz39 A140_0 c140_0 (rd_L1 l0 x9_3) (ji32) (of_decide_eq_true (by first | (with_reducible assumption) | assumption)) (of_decide_eq_true (by first | (with_reducible assumption) | assumption)) HC140_0.out
                                              have HR141 := Aside0.mk (Kd.C_of_reads (h1 := fun _ => rfl) (hA39 _ (Kd.reads_of_C HR140_0.out)))
                                              have HC141 := Aside0.mk hC39
                                              clear hA39 hC39 hi039 hsz39
                                              go_wp2_with (first | ((with_reducible refine gate_callee (f := 105) rfl ?_); refine goesL_ (some 63) rfl rfl Try.func105 (by kernel_rfl) rfl #[.slice A39 ((rd_L1 l0 x9_3).drop ((ji32) : Int).toNat).length (c140_0 - (ji32).toNat)] rfl (by (try simp only [List.map_toArray, List.map_cons, List.map_nil]); first | done | (rw [show ((rd_L1 l0 x9_3).drop ((ji32) : Int).toNat).length = ((rd_L1 l0 x9_3).length - (ji32).toNat) from List.length_drop] <;> rfl) | (simp only [hji32]; rfl) | rfl | (simp only [List.length_drop, List.length_take]; rfl)) ?_; (with_reducible refine (spec_l8Sum.calls kj14 _ _ ((rd_L1 l0 x9_3).drop ((ji32) : Int).toNat) t142 _ ?side1 ?side2 A35.out).mono ?_); (case side1 => repeat (first | exact HR141.out | (with_reducible refine Kd.C_alloc ?_ _) | (with_reducible refine Kd.C_drewN ?_ _) | (with_reducible refine Kd.C_drew ?_))); (case side2 => exact HC141.out); rintro e w' ⟨rfl, ⟨nd, rfl⟩⟩; refine ⟨_, rfl, ?_⟩))
                                              go_roundg kj14
                                              case measure => have := HK1.out; have := HJ3.out; have := HK3.out; have := HJ14.out; omega
                                              case rel => exact ⟨((wrap64 (x6_3 + (rd (rd_L1 l0 x9_3) x5_1)))), (x7_3), (t142), (wrap64 (x9_3 + 1)), (by first | rfl | (simp; done) | (simp [*]; done)), (by first | rfl | (simp; done) | (simp [*]; done)), (by first | rfl | (simp; done) | (simp [*]; done)), (by first | rfl | (simp; done) | (simp [*]; done)), H', ⟨by have := HK1.out; have := HJ3.out; have := HK3.out; have := HJ14.out; omega⟩, by repeat (first | exact Drawn0.refl _ | apply Drawn0.step)⟩
                                            · rw [if_neg c38] at H
                                              have c38b0 : decide (t142 < x8_3) = false := decide_eq_false c38
                                              clear c38
                                              have H' := Aside0.mk H
                                              clear H
                                              have p140 : 0 ≤ (x9_3 : Int) := of_decide_eq_true (by first | (with_reducible assumption) | assumption)
                                              have q140 : x9_3 < (l0.length : Int) := of_decide_eq_true (by first | (with_reducible assumption) | assumption)
                                              obtain ⟨ad140, A140_0, c140_0, e140, hx140_0, hl140_0, hi140_0⟩ := at_L1 HR0.out x9_3 p140 q140
                                              obtain rfl : ad132 = ad140 := (by injection e140)
                                              have HR140_0 := Aside0.mk hi140_0
                                              have HC140_0 := Aside0.mk hl140_0
                                              clear hi140_0 hl140_0
                                              replace p140 := eq_true p140
                                              replace q140 := eq_true q140
                                              obtain ⟨i040, hi040, _, hsz40, _⟩ := info_parts info3
                                              obtain ⟨A40, hcut40, hA40, hC40⟩ := print_drop_of (P := Try.prog) (Value.int .i64) 0 42 3 .i64 Try.underlying42 hi040 hsz40 A140_0 c140_0 (rd_L1 l0 x9_3) (ji32) (of_decide_eq_true (by first | (with_reducible assumption) | assumption)) (of_decide_eq_true (by first | (with_reducible assumption) | assumption)) HC140_0.out
                                              have HR141 := Aside0.mk (Kd.C_of_reads (h1 := fun _ => rfl) (hA40 _ (Kd.reads_of_C HR140_0.out)))
                                              have HC141 := Aside0.mk hC40
                                              clear hA40 hC40 hi040 hsz40
                                              go_wp2_with (first | ((with_reducible refine gate_callee (f := 105) rfl ?_); refine goesL_ (some 63) rfl rfl Try.func105 (by kernel_rfl) rfl #[.slice A40 ((rd_L1 l0 x9_3).drop ((ji32) : Int).toNat).length (c140_0 - (ji32).toNat)] rfl (by (try simp only [List.map_toArray, List.map_cons, List.map_nil]); first | done | (rw [show ((rd_L1 l0 x9_3).drop ((ji32) : Int).toNat).length = ((rd_L1 l0 x9_3).length - (ji32).toNat) from List.length_drop] <;> rfl) | (simp only [hji32]; rfl) | rfl | (simp only [List.length_drop, List.length_take]; rfl)) ?_; (with_reducible refine (spec_l8Sum.calls kj14 _ _ ((rd_L1 l0 x9_3).drop ((ji32) : Int).toNat) t142 _ ?side1 ?side2 A35.out).mono ?_); (case side1 => repeat (first | exact HR141.out | (with_reducible refine Kd.C_alloc ?_ _) | (with_reducible refine Kd.C_drewN ?_ _) | (with_reducible refine Kd.C_drew ?_))); (case side2 => exact HC141.out); rintro e w' ⟨rfl, ⟨nd, rfl⟩⟩; refine ⟨_, rfl, ?_⟩))
                                              go_roundg kj14
                                              case measure => have := HK1.out; have := HJ3.out; have := HK3.out; have := HJ14.out; omega
                                              case rel => exact ⟨((wrap64 (x6_3 + (rd (rd_L1 l0 x9_3) x5_1)))), (x7_3), (x8_3), (wrap64 (x9_3 + 1)), (by first | rfl | (simp; done) | (simp [*]; done)), (by first | rfl | (simp; done) | (simp [*]; done)), (by first | rfl | (simp; done) | (simp [*]; done)), (by first | rfl | (simp; done) | (simp [*]; done)), H', ⟨by have := HK1.out; have := HJ3.out; have := HK3.out; have := HJ14.out; omega⟩, by repeat (first | exact Drawn0.refl _ | apply Drawn0.step)⟩
                                        · rw [if_neg c34] at H
                                          exact absurd H (by simp)
                                      · rw [if_neg c33] at H
                                        exact absurd H (by simp)
                                    · rw [if_neg c31] at H
                                      exact absurd H (by simp)
                                  · rw [if_neg c30] at H
                                    exact absurd H (by simp)
                          · rw [if_neg c13] at H
                            exact absurd H (by simp)
                        · rw [if_neg c11] at H
                          exact absurd H (by simp)
                      · rw [if_neg c10] at H
                        exact absurd H (by simp)
                    · rw [if_neg c9] at H
                      exact absurd H (by simp)
                  · rw [if_neg c8] at H
                    have c8b0 : decide (x9_3 < (l0.length : Int)) = false := decide_eq_false c8
                    clear c8
                    replace H := Option.bind_eq_some_iff.mp H
                    obtain ⟨t131, A410, H⟩ := H
                    replace H : (spec_FlowBound.l0 k3 l0 t131 (wrap64 (x5_1 + 1))) = some (r1, r2) := H
                    have A41 := Aside0.mk A410
                    clear A410
                    have H' := Aside0.mk H
                    clear H
                    go_wp2_with (first | ((with_reducible refine gate_callee (f := 106) rfl ?_); refine goesL_ (some 78) rfl rfl Try.func106 (by kernel_rfl) rfl #[.int .i64 x4_1, .int .i64 (wrap64 ((wrap64 (x7_3 + x6_3)) + x8_3))] rfl (by (try simp only [List.map_toArray, List.map_cons, List.map_nil]); first | done | rfl | (simp only [List.length_drop, List.length_take]; rfl)) ?_; (with_reducible refine (spec_l1Most.calls x4_1 (wrap64 ((wrap64 (x7_3 + x6_3)) + x8_3)) t131 _ A41.out).mono ?_); rintro e w' ⟨rfl, ⟨nd, rfl⟩⟩; refine ⟨_, rfl, ?_⟩))
                    go_roundg k3
                    case measure => have := HK1.out; have := HJ3.out; have := HK3.out; omega
                    case rel => exact ⟨(t131), (wrap64 (x5_1 + 1)), (by first | rfl | (simp; done) | (simp [*]; done)), (by first | rfl | (simp; done) | (simp [*]; done)), H', ⟨by have := HK1.out; have := HJ3.out; have := HK3.out; omega⟩, by repeat (first | exact Drawn0.refl _ | apply Drawn0.step)⟩
            · replace c7 := Bool.eq_false_iff.mpr c7
              subst c7
              have H1 : (some (x4_1, true)) = some (r1, r2) := by rw [if_neg (show ¬ (false = true) by decide)] at H; exact H
              clear H
              have H := H1
              clear H1
              simp only [Option.some.injEq, Prod.mk.injEq] at H
              obtain ⟨rfl, rfl⟩ := H
              go_wp2
              go_ret2
              exact ⟨by first | rfl | (simp; done) | (simp [*]; done), by repeat (first | exact Drawn0.refl _ | apply Drawn0.step)⟩
  · replace c3 := Bool.eq_false_iff.mpr c3
    subst c3
    have H1 : (some (0, false)) = some (r1, r2) := by rw [if_neg (show ¬ (false = true) by decide)] at H; exact H
    clear H
    have H := H1
    clear H1
    simp only [Option.some.injEq, Prod.mk.injEq] at H
    obtain ⟨rfl, rfl⟩ := H
    go_enter Try.func48, Try.ntmps48
    go_wp2_with (first | ((with_reducible refine gate_callee (f := 87) rfl ?_); refine goesL_ (some 13) rfl rfl Try.func87 (by kernel_rfl) rfl #[.slice A0 l0.length c0] rfl (by (try simp only [List.map_toArray, List.map_cons, List.map_nil]); first | done | rfl | (simp only [List.length_drop, List.length_take]; rfl)) ?_; (with_reducible refine (spec_l8Good.calls k _ _ l0 false _ ?side1 ?side2 A2.out).mono ?_); (case side1 => repeat (first | exact HR0.out | (with_reducible refine Kd.C_alloc ?_ _) | (with_reducible refine Kd.C_drewN ?_ _) | (with_reducible refine Kd.C_drew ?_))); (case side2 => exact HC0.out); rintro e w' ⟨rfl, ⟨nd, rfl⟩⟩; refine ⟨_, rfl, ?_⟩))
    go_ret2
    exact ⟨by first | rfl | (simp; done) | (simp [*]; done), by repeat (first | exact Drawn0.refl _ | apply Drawn0.step)⟩

/-! ### impl_within: function 53 -/
def impl_within.f (a0 : Int) (a1 : Int) (a2 : Int) : Option (Bool) := if a1 ≤ a0 then (some (decide (a0 ≤ a2))) else (some false)
set_option maxHeartbeats 8000000 in
set_option maxRecDepth 100000 in
theorem impl_within.calls (a0 : Int) (a1 : Int) (a2 : Int) (r : Bool) (w : World) (h : impl_within.f a0 a1 a2 = some r) :
    Calls Try.prog 53 #[.int .i64 a0, .int .i64 a1, .int .i64 a2] w fun e w' => e = .returned (.bool r) ∧ Drawn0 w w' := by
  have H : (if a1 ≤ a0 then (some (decide (a0 ≤ a2))) else (some false)) = some r := h
  clear h
  by_cases c4 : a1 ≤ a0
  · rw [if_pos c4] at H
    have c4b0 : decide (a1 ≤ a0) = true := decide_eq_true c4
    clear c4
    obtain rfl := Option.some.inj H
    go_enter Try.func53, Try.ntmps53
    go_wp2
    go_ret
    exact ⟨by first | rfl | (simp; done) | (simp [*]; done), by repeat (first | exact Drawn0.refl _ | apply Drawn0.step)⟩
  · rw [if_neg c4] at H
    have c4b0 : decide (a1 ≤ a0) = false := decide_eq_false c4
    clear c4
    obtain rfl := Option.some.inj H
    go_enter Try.func53, Try.ntmps53
    go_wp2
    go_ret
    exact ⟨by first | rfl | (simp; done) | (simp [*]; done), by repeat (first | exact Drawn0.refl _ | apply Drawn0.step)⟩

/-! ### impl_allWithin: function 145 -/
def impl_allWithin.l0 : Nat → Int → Int → List Int → Int → Int → Option (Bool)
  | 0, _, _, _, _, _ => none
  | k + 1, x1, x2, x9, x10, x11 => if x11 < x10 then (if 0 ≤ x11 then (if x11 < (x9.length : Int) then ((impl_within.f (rd x9 x11) x1 x2).bind fun t144 => (if t144 = true then (impl_allWithin.l0 k x1 x2 x9 x10 (wrap64 (x11 + 1))) else (some false))) else (none)) else (none)) else (some true)
def impl_allWithin.f (k : Nat) (l0 : List Int) (a1 : Int) (a2 : Int) : Option (Bool) := impl_allWithin.l0 k a1 a2 l0 (l0.length : Int) 0
theorem impl_allWithin.mono_l : ∀ k, (∀ y0 y1 y2 y3 y4, LeO (impl_allWithin.l0 k y0 y1 y2 y3 y4) (impl_allWithin.l0 (k + 1) y0 y1 y2 y3 y4))
  | 0 => fun _ _ _ _ _ r h => by simp [impl_allWithin.l0] at h
  | k + 1 => by
    have ih0 := impl_allWithin.mono_l k
    · intro y0 y1 y2 y3 y4
      unfold impl_allWithin.l0
      repeat' first
      | (with_reducible exact ih0 _ _ _ _ _)
      | (with_reducible exact LeO.refl _)
      | (with_reducible exact LeO.none _)
      | (with_reducible refine LeO.ite ?_ ?_)
      | (with_reducible refine LeO.bind ?_ (fun _ => ?_))
      | exact ih0 _ _ _ _ _
      | exact LeO.none _
      | refine LeO.ite ?_ ?_
      | refine LeO.bind ?_ (fun _ => ?_)
theorem impl_allWithin.mono : ∀ a0 a1 a2 k, LeO (impl_allWithin.f k a0 a1 a2) (impl_allWithin.f (k + 1) a0 a1 a2) := by
  intro a0 a1 a2 k
  have ih0 := impl_allWithin.mono_l k
  unfold impl_allWithin.f
  repeat' first
      | (with_reducible exact ih0 _ _ _ _ _)
      | (with_reducible exact LeO.refl _)
      | (with_reducible exact LeO.none _)
      | (with_reducible refine LeO.ite ?_ ?_)
      | (with_reducible refine LeO.bind ?_ (fun _ => ?_))
      | exact ih0 _ _ _ _ _
      | exact LeO.none _
      | refine LeO.ite ?_ ?_
      | refine LeO.bind ?_ (fun _ => ?_)
set_option maxHeartbeats 8000000 in
set_option maxRecDepth 100000 in
theorem impl_allWithin.calls (k : Nat) (A0 : Option Addr) (c0 : Nat) (l0 : List Int) (a1 : Int) (a2 : Int) (r : Bool) (w : World) (hr0 : Kd.C (Kd.int .i64) w A0 l0.length l0) (hc0 : l0.length ≤ c0) (h : impl_allWithin.f k l0 a1 a2 = some r) :
    Calls Try.prog 145 #[.slice A0 l0.length c0, .int .i64 a1, .int .i64 a2] w fun e w' => e = .returned (.bool r) ∧ Drawn0 w w' := by
  have HR0 := Aside0.mk hr0
  have HC0 := Aside0.mk hc0
  clear hr0 hc0
  have H : (impl_allWithin.l0 k a1 a2 l0 (l0.length : Int) 0) = some r := h
  clear h
  have H' := Aside0.mk H
  clear H
  go_enter Try.func145, Try.ntmps145
  go_wp2
  go_loopg [11] k (fun kq v11 w' => ∃ (x11_1 : Int), v11 = .int .i64 x11_1 ∧ Aside0 (impl_allWithin.l0 kq a1 a2 l0 (l0.length : Int) x11_1 = some r) ∧ Aside0 (kq ≤ k) ∧ Drawn0 w w')
  case atStart => exact ⟨(0), (by first | rfl | (simp; done) | (simp [*]; done)), H', ⟨Nat.le_refl _⟩, by repeat (first | exact Drawn0.refl _ | apply Drawn0.step)⟩
  case round =>
    clear H'
    try clear c1
    try clear p2
    obtain ⟨x11_1, rfl, HA, HK1, ⟨m1, rfl⟩⟩ := hrel
    cases gk with
    | zero => exact absurd HA.out (by simp [impl_allWithin.l0])
    | succ k1 =>
      have H := HA.out
      clear HA
      simp only [impl_allWithin.l0] at H
      by_cases c4 : x11_1 < (l0.length : Int)
      · rw [if_pos c4] at H
        have c4b0 : decide (x11_1 < (l0.length : Int)) = true := decide_eq_true c4
        clear c4
        by_cases c5 : 0 ≤ x11_1
        · rw [if_pos c5] at H
          have c5b0 : decide (0 ≤ x11_1) = true := decide_eq_true c5
          clear c5
          by_cases c6 : x11_1 < (l0.length : Int)
          · rw [if_pos c6] at H
            have c6b0 : decide (x11_1 < (l0.length : Int)) = true := decide_eq_true c6
            clear c6
            replace H := Option.bind_eq_some_iff.mp H
            obtain ⟨t144, A70, H⟩ := H
            replace H : (if t144 = true then (impl_allWithin.l0 k1 a1 a2 l0 (l0.length : Int) (wrap64 (x11_1 + 1))) else (some false)) = some r := H
            have A7 := Aside0.mk A70
            clear A70
            by_cases c8 : t144 = true
            · subst c8
              have H1 : (impl_allWithin.l0 k1 a1 a2 l0 (l0.length : Int) (wrap64 (x11_1 + 1))) = some r := by rw [if_pos rfl] at H; exact H
              clear H
              have H := H1
              clear H1
              have H' := Aside0.mk H
              clear H
              have p143 : 0 ≤ (x11_1 : Int) := of_decide_eq_true (by first | (with_reducible assumption) | assumption)
              have q143 : x11_1 < (l0.length : Int) := of_decide_eq_true (by first | (with_reducible assumption) | assumption)
              obtain ⟨ad143, e143, hx143_0⟩ := Kd.at_int HR0.out x11_1 p143 q143
              cases e143
              replace p143 := eq_true p143
              replace q143 := eq_true q143
              go_wp2_with (first | ((with_reducible refine gate_callee (f := 53) rfl ?_); refine goesL_ (some 18) rfl rfl Try.func53 (by kernel_rfl) rfl #[.int .i64 (rd l0 x11_1), .int .i64 a1, .int .i64 a2] rfl (by (try simp only [List.map_toArray, List.map_cons, List.map_nil]); first | done | rfl | (simp only [List.length_drop, List.length_take]; rfl)) ?_; (with_reducible refine (impl_within.calls (rd l0 x11_1) a1 a2 true _ A7.out).mono ?_); rintro e w' ⟨rfl, ⟨nd, rfl⟩⟩; refine ⟨_, rfl, ?_⟩))
              go_roundg k1
              case measure => have := HK1.out; omega
              case rel => exact ⟨(wrap64 (x11_1 + 1)), (by first | rfl | (simp; done) | (simp [*]; done)), H', ⟨by have := HK1.out; omega⟩, by repeat (first | exact Drawn0.refl _ | apply Drawn0.step)⟩
            · replace c8 := Bool.eq_false_iff.mpr c8
              subst c8
              have H1 : (some false) = some r := by rw [if_neg (show ¬ (false = true) by decide)] at H; exact H
              clear H
              have H := H1
              clear H1
              obtain rfl := Option.some.inj H
              have p143 : 0 ≤ (x11_1 : Int) := of_decide_eq_true (by first | (with_reducible assumption) | assumption)
              have q143 : x11_1 < (l0.length : Int) := of_decide_eq_true (by first | (with_reducible assumption) | assumption)
              obtain ⟨ad143, e143, hx143_0⟩ := Kd.at_int HR0.out x11_1 p143 q143
              cases e143
              replace p143 := eq_true p143
              replace q143 := eq_true q143
              go_wp2_with (first | ((with_reducible refine gate_callee (f := 53) rfl ?_); refine goesL_ (some 18) rfl rfl Try.func53 (by kernel_rfl) rfl #[.int .i64 (rd l0 x11_1), .int .i64 a1, .int .i64 a2] rfl (by (try simp only [List.map_toArray, List.map_cons, List.map_nil]); first | done | rfl | (simp only [List.length_drop, List.length_take]; rfl)) ?_; (with_reducible refine (impl_within.calls (rd l0 x11_1) a1 a2 false _ A7.out).mono ?_); rintro e w' ⟨rfl, ⟨nd, rfl⟩⟩; refine ⟨_, rfl, ?_⟩))
              go_ret
              exact ⟨by first | rfl | (simp; done) | (simp [*]; done), by repeat (first | exact Drawn0.refl _ | apply Drawn0.step)⟩
          · rw [if_neg c6] at H
            exact absurd H (by simp)
        · rw [if_neg c5] at H
          exact absurd H (by simp)
      · rw [if_neg c4] at H
        have c4b0 : decide (x11_1 < (l0.length : Int)) = false := decide_eq_false c4
        clear c4
        obtain rfl := Option.some.inj H
        go_wp2
        go_ret
        exact ⟨by first | rfl | (simp; done) | (simp [*]; done), by repeat (first | exact Drawn0.refl _ | apply Drawn0.step)⟩

end Go.Proofs.Ytgelmpoaainlfaa.XFnExactFlowBound
