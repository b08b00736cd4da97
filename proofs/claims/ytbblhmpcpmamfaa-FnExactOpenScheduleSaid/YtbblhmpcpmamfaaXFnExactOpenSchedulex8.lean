-- Written by a program of this session (the kit's print, widened). Proved here: what each function answers, for the arguments that its contract names.
import Derived.Test.YtbblhmpcpmamfaaXFnExactOpenSchedulex0
import Derived.Test.YtbblhmpcpmamfaaXFnExactOpenSchedulex7
namespace Go.Proofs.Ytbblhmpcpmamfaa.XFnExactOpenSchedule
open Go.RowKit Go.Proofs.YtbblhmpcpmamfaaW.PrintWords Go.Proofs.YtbblhmpcpmamfaaW.PrintLast Go.Proofs.YtbblhmpcpmamfaaW.PrintMore
attribute [local go_sem] max2_int min2_int max_two min_two max_three min_three max_four min_four   -- for this text's walks alone
attribute [local go_sem] idxA_77_0 idxA_77_1 fldS_68_0 fldS_68_1 fldS_73_0 fldS_73_1 fldS_73_2
set_option linter.unusedVariables false
set_option linter.unusedSimpArgs false

/-! ### impl_OpenSchedule: function 12 -/
mutual
def impl_OpenSchedule.l0 : Nat → List (List Int) → List (List Int) → Int → List (List Int) → Int → Int → Option ((List (List Int)) × Bool)
  | 0, _, _, _, _, _, _ => none
  | k + 1, x0, x4, x5, x24, x25, x26 => if x26 < x25 then (if 0 ≤ x26 then (if x26 < (x24.length : Int) then (if x26 < (x4.length : Int) then (impl_OpenSchedule.l1 k x0 (x4.set (x26 : Int).toNat (([(-1), (-1)] : List Int))) x5 x26 x24 x25 x26 (rd_L1 x24 x26) ((rd_L1 x24 x26).length : Int) 0) else (none)) else (none)) else (none)) else (impl_OpenSchedule.l2 k x0 x4 x5 (([0, 0] : List Int)) 0)
def impl_OpenSchedule.l1 : Nat → List (List Int) → List (List Int) → Int → Int → List (List Int) → Int → Int → List Int → Int → Int → Option ((List (List Int)) × Bool)
  | 0, _, _, _, _, _, _, _, _, _, _ => none
  | k + 1, x0, x4, x5, x6, x24, x25, x26, x35, x36, x37 => if x37 < x36 then (if 0 ≤ x37 then (if x37 < (x35.length : Int) then (if (rd x35 x37) = 0 then (if 0 ≤ x6 then (if x6 < (x4.length : Int) then (if x37 < ((rd_L1 x4 x6).length : Int) then (impl_OpenSchedule.l1 k x0 (x4.set (x6 : Int).toNat ((rd_L1 x4 x6).set (x37 : Int).toNat 0)) x5 x6 x24 x25 x26 x35 x36 (wrap64 (x37 + 1))) else (none)) else (none)) else (none)) else (impl_OpenSchedule.l1 k x0 x4 (wrap64 (x5 + 1)) x6 x24 x25 x26 x35 x36 (wrap64 (x37 + 1)))) else (none)) else (none)) else (impl_OpenSchedule.l0 k x0 x4 x5 x24 x25 (wrap64 (x26 + 1)))
def impl_OpenSchedule.l2 : Nat → List (List Int) → List (List Int) → Int → List Int → Int → Option ((List (List Int)) × Bool)
  | 0, _, _, _, _, _ => none
  | k + 1, x0, x4, x5, x10, x11 => if x5 > 0 then (impl_OpenSchedule.l3 k x0 x4 x5 x10 x11 0) else (some (x4, true))
def impl_OpenSchedule.l3 : Nat → List (List Int) → List (List Int) → Int → List Int → Int → Int → Option ((List (List Int)) × Bool)
  | 0, _, _, _, _, _, _ => none
  | k + 1, x0, x4, x5, x10, x11, x12 => if x12 < 2 then (if 0 ≤ x12 then (if x12 < (x10.length : Int) then (if (rd x10 x12) > x11 then (impl_OpenSchedule.l3 k x0 x4 x5 x10 x11 (wrap64 (x12 + 1))) else (impl_OpenSchedule.l4 k x0 x4 x5 x10 x11 x12 (wrap64 (1 - x12)) (-1) x0 (x0.length : Int) 0)) else (none)) else (none)) else (impl_OpenSchedule.l2 k x0 x4 x5 x10 (wrap64 (x11 + 1)))
def impl_OpenSchedule.l4 : Nat → List (List Int) → List (List Int) → Int → List Int → Int → Int → Int → Int → List (List Int) → Int → Int → Option ((List (List Int)) × Bool)
  | 0, _, _, _, _, _, _, _, _, _, _, _ => none
  | k + 1, x0, x4, x5, x10, x11, x12, x13, x14, x71, x72, x73 => if x73 < x72 then (if 0 ≤ x73 then (if x73 < (x71.length : Int) then (if x73 < (x4.length : Int) then (if 0 ≤ x12 then (if x12 < ((rd_L1 x4 x73).length : Int) then (if (rd (rd_L1 x4 x73) x12) ≥ 0 then (impl_OpenSchedule.l4 k x0 x4 x5 x10 x11 x12 x13 x14 x71 x72 (wrap64 (x73 + 1))) else (if 0 ≤ x13 then (if x13 < ((rd_L1 x4 x73).length : Int) then (if (rd (rd_L1 x4 x73) x13) ≥ 0 then (if x13 < ((rd_L1 x71 x73).length : Int) then (if (rd (rd_L1 x71 x73) x13) > 0 then (impl_OpenSchedule.j5 k x0 x4 x5 x10 x11 x12 x13 x14 x73 (rd_L1 x71 x73) (decide ((rd (rd_L1 x4 x73) x13) ≥ 0)) x71 x72 x73 (decide ((wrap64 ((rd (rd_L1 x4 x73) x13) + (rd (rd_L1 x71 x73) x13))) > x11))) else (impl_OpenSchedule.j5 k x0 x4 x5 x10 x11 x12 x13 x14 x73 (rd_L1 x71 x73) (decide ((rd (rd_L1 x4 x73) x13) ≥ 0)) x71 x72 x73 false)) else (none)) else (impl_OpenSchedule.j5 k x0 x4 x5 x10 x11 x12 x13 x14 x73 (rd_L1 x71 x73) (decide ((rd (rd_L1 x4 x73) x13) ≥ 0)) x71 x72 x73 false)) else (none)) else (none))) else (none)) else (none)) else (none)) else (none)) else (none)) else (if x14 ≥ 0 then (if 0 ≤ x14 then (if x14 < (x4.length : Int) then (if 0 ≤ x12 then (if x12 < ((rd_L1 x4 x14).length : Int) then (if x14 < (x0.length : Int) then (if x12 < ((rd_L1 x0 x14).length : Int) then (if x12 < (x10.length : Int) then (impl_OpenSchedule.l3 k x0 (x4.set (x14 : Int).toNat ((rd_L1 x4 x14).set (x12 : Int).toNat x11)) (wrap64 (x5 - 1)) (x10.set (x12 : Int).toNat (wrap64 (x11 + (rd (rd_L1 x0 x14) x12)))) x11 (wrap64 (x12 + 1))) else (none)) else (none)) else (none)) else (none)) else (none)) else (none)) else (none)) else (impl_OpenSchedule.l3 k x0 x4 x5 x10 x11 (wrap64 (x12 + 1))))
def impl_OpenSchedule.j5 : Nat → List (List Int) → List (List Int) → Int → List Int → Int → Int → Int → Int → Int → List Int → Bool → List (List Int) → Int → Int → Bool → Option ((List (List Int)) × Bool)
  | 0, _, _, _, _, _, _, _, _, _, _, _, _, _, _, _ => none
  | k + 1, x0, x4, x5, x10, x11, x12, x13, x14, x15, x16, x17, x71, x72, x73, x117 => if x117 = true then (impl_OpenSchedule.l4 k x0 x4 x5 x10 x11 x12 x13 x14 x71 x72 (wrap64 (x73 + 1))) else (if x14 < 0 then (impl_OpenSchedule.l4 k x0 x4 x5 x10 x11 x12 x13 x15 x71 x72 (wrap64 (x73 + 1))) else (if x17 = true then (impl_OpenSchedule.l4 k x0 x4 x5 x10 x11 x12 x13 x14 x71 x72 (wrap64 (x73 + 1))) else (if 0 ≤ x14 then (if x14 < (x4.length : Int) then (if 0 ≤ x13 then (if x13 < ((rd_L1 x4 x14).length : Int) then (if (rd (rd_L1 x4 x14) x13) ≥ 0 then (impl_OpenSchedule.l4 k x0 x4 x5 x10 x11 x12 x13 x15 x71 x72 (wrap64 (x73 + 1))) else (if x13 < (x16.length : Int) then (if x14 < (x0.length : Int) then (if x13 < ((rd_L1 x0 x14).length : Int) then (if (rd x16 x13) > (rd (rd_L1 x0 x14) x13) then (impl_OpenSchedule.l4 k x0 x4 x5 x10 x11 x12 x13 x15 x71 x72 (wrap64 (x73 + 1))) else (impl_OpenSchedule.l4 k x0 x4 x5 x10 x11 x12 x13 x14 x71 x72 (wrap64 (x73 + 1)))) else (none)) else (none)) else (none))) else (none)) else (none)) else (none)) else (none))))
end
def impl_OpenSchedule.f (k : Nat) (l0 : List (List Int)) : Option ((List (List Int)) × Bool) := (impl_isShopOf.f k l0 2).bind fun t200 => (if t200 = true then (if 0 ≤ (l0.length : Int) then (if ((l0.length : Int) : Int).toNat ≤ 11728124029610 then (impl_OpenSchedule.l0 k l0 (List.replicate ((l0.length : Int) : Int).toNat []) 0 l0 (l0.length : Int) 0) else (none)) else (none)) else (some (([] : List (List Int)), false)))
theorem impl_OpenSchedule.mono_l : ∀ k, (∀ y0 y1 y2 y3 y4 y5, LeO (impl_OpenSchedule.l0 k y0 y1 y2 y3 y4 y5) (impl_OpenSchedule.l0 (k + 1) y0 y1 y2 y3 y4 y5)) ∧ (∀ y0 y1 y2 y3 y4 y5 y6 y7 y8 y9, LeO (impl_OpenSchedule.l1 k y0 y1 y2 y3 y4 y5 y6 y7 y8 y9) (impl_OpenSchedule.l1 (k + 1) y0 y1 y2 y3 y4 y5 y6 y7 y8 y9)) ∧ (∀ y0 y1 y2 y3 y4, LeO (impl_OpenSchedule.l2 k y0 y1 y2 y3 y4) (impl_OpenSchedule.l2 (k + 1) y0 y1 y2 y3 y4)) ∧ (∀ y0 y1 y2 y3 y4 y5, LeO (impl_OpenSchedule.l3 k y0 y1 y2 y3 y4 y5) (impl_OpenSchedule.l3 (k + 1) y0 y1 y2 y3 y4 y5)) ∧ (∀ y0 y1 y2 y3 y4 y5 y6 y7 y8 y9 y10, LeO (impl_OpenSchedule.l4 k y0 y1 y2 y3 y4 y5 y6 y7 y8 y9 y10) (impl_OpenSchedule.l4 (k + 1) y0 y1 y2 y3 y4 y5 y6 y7 y8 y9 y10)) ∧ (∀ y0 y1 y2 y3 y4 y5 y6 y7 y8 y9 y10 y11 y12 y13 y14, LeO (impl_OpenSchedule.j5 k y0 y1 y2 y3 y4 y5 y6 y7 y8 y9 y10 y11 y12 y13 y14) (impl_OpenSchedule.j5 (k + 1) y0 y1 y2 y3 y4 y5 y6 y7 y8 y9 y10 y11 y12 y13 y14))
  | 0 => ⟨fun _ _ _ _ _ _ r h => by simp [impl_OpenSchedule.l0] at h, fun _ _ _ _ _ _ _ _ _ _ r h => by simp [impl_OpenSchedule.l1] at h, fun _ _ _ _ _ r h => by simp [impl_OpenSchedule.l2] at h, fun _ _ _ _ _ _ r h => by simp [impl_OpenSchedule.l3] at h, fun _ _ _ _ _ _ _ _ _ _ _ r h => by simp [impl_OpenSchedule.l4] at h, fun _ _ _ _ _ _ _ _ _ _ _ _ _ _ _ r h => by simp [impl_OpenSchedule.j5] at h⟩
  | k + 1 => by
    obtain ⟨ih0, ih1, ih2, ih3, ih4, ih5⟩ := impl_OpenSchedule.mono_l k
    refine ⟨?_, ?_, ?_, ?_, ?_, ?_⟩
    · intro y0 y1 y2 y3 y4 y5
      unfold impl_OpenSchedule.l0
      repeat' first
      | (with_reducible exact ih0 _ _ _ _ _ _)
      | (with_reducible exact ih1 _ _ _ _ _ _ _ _ _ _)
      | (with_reducible exact ih2 _ _ _ _ _)
      | (with_reducible exact ih3 _ _ _ _ _ _)
      | (with_reducible exact ih4 _ _ _ _ _ _ _ _ _ _ _)
      | (with_reducible exact ih5 _ _ _ _ _ _ _ _ _ _ _ _ _ _ _)
      | (with_reducible exact impl_isShopOf.mono _ _ _)
      | (with_reducible exact LeO.refl _)
      | (with_reducible exact LeO.none _)
      | (with_reducible refine LeO.ite ?_ ?_)
      | (with_reducible refine LeO.bind ?_ (fun _ => ?_))
      | exact ih0 _ _ _ _ _ _
      | exact ih1 _ _ _ _ _ _ _ _ _ _
      | exact ih2 _ _ _ _ _
      | exact ih3 _ _ _ _ _ _
      | exact ih4 _ _ _ _ _ _ _ _ _ _ _
      | exact ih5 _ _ _ _ _ _ _ _ _ _ _ _ _ _ _
      | exact impl_isShopOf.mono _ _ _
      | exact LeO.none _
      | refine LeO.ite ?_ ?_
      | refine LeO.bind ?_ (fun _ => ?_)
    · intro y0 y1 y2 y3 y4 y5 y6 y7 y8 y9
      unfold impl_OpenSchedule.l1
      repeat' first
      | (with_reducible exact ih0 _ _ _ _ _ _)
      | (with_reducible exact ih1 _ _ _ _ _ _ _ _ _ _)
      | (with_reducible exact ih2 _ _ _ _ _)
      | (with_reducible exact ih3 _ _ _ _ _ _)
      | (with_reducible exact ih4 _ _ _ _ _ _ _ _ _ _ _)
      | (with_reducible exact ih5 _ _ _ _ _ _ _ _ _ _ _ _ _ _ _)
      | (with_reducible exact impl_isShopOf.mono _ _ _)
      | (with_reducible exact LeO.refl _)
      | (with_reducible exact LeO.none _)
      | (with_reducible refine LeO.ite ?_ ?_)
      | (with_reducible refine LeO.bind ?_ (fun _ => ?_))
      | exact ih0 _ _ _ _ _ _
      | exact ih1 _ _ _ _ _ _ _ _ _ _
      | exact ih2 _ _ _ _ _
      | exact ih3 _ _ _ _ _ _
      | exact ih4 _ _ _ _ _ _ _ _ _ _ _
      | exact ih5 _ _ _ _ _ _ _ _ _ _ _ _ _ _ _
      | exact impl_isShopOf.mono _ _ _
      | exact LeO.none _
      | refine LeO.ite ?_ ?_
      | refine LeO.bind ?_ (fun _ => ?_)
    · intro y0 y1 y2 y3 y4
      unfold impl_OpenSchedule.l2
      repeat' first
      | (with_reducible exact ih0 _ _ _ _ _ _)
      | (with_reducible exact ih1 _ _ _ _ _ _ _ _ _ _)
      | (with_reducible exact ih2 _ _ _ _ _)
      | (with_reducible exact ih3 _ _ _ _ _ _)
      | (with_reducible exact ih4 _ _ _ _ _ _ _ _ _ _ _)
      | (with_reducible exact ih5 _ _ _ _ _ _ _ _ _ _ _ _ _ _ _)
      | (with_reducible exact impl_isShopOf.mono _ _ _)
      | (with_reducible exact LeO.refl _)
      | (with_reducible exact LeO.none _)
      | (with_reducible refine LeO.ite ?_ ?_)
      | (with_reducible refine LeO.bind ?_ (fun _ => ?_))
      | exact ih0 _ _ _ _ _ _
      | exact ih1 _ _ _ _ _ _ _ _ _ _
      | exact ih2 _ _ _ _ _
      | exact ih3 _ _ _ _ _ _
      | exact ih4 _ _ _ _ _ _ _ _ _ _ _
      | exact ih5 _ _ _ _ _ _ _ _ _ _ _ _ _ _ _
      | exact impl_isShopOf.mono _ _ _
      | exact LeO.none _
      | refine LeO.ite ?_ ?_
      | refine LeO.bind ?_ (fun _ => ?_)
    · intro y0 y1 y2 y3 y4 y5
      unfold impl_OpenSchedule.l3
      repeat' first
      | (with_reducible exact ih0 _ _ _ _ _ _)
      | (with_reducible exact ih1 _ _ _ _ _ _ _ _ _ _)
      | (with_reducible exact ih2 _ _ _ _ _)
      | (with_reducible exact ih3 _ _ _ _ _ _)
      | (with_reducible exact ih4 _ _ _ _ _ _ _ _ _ _ _)
      | (with_reducible exact ih5 _ _ _ _ _ _ _ _ _ _ _ _ _ _ _)
      | (with_reducible exact impl_isShopOf.mono _ _ _)
      | (with_reducible exact LeO.refl _)
      | (with_reducible exact LeO.none _)
      | (with_reducible refine LeO.ite ?_ ?_)
      | (with_reducible refine LeO.bind ?_ (fun _ => ?_))
      | exact ih0 _ _ _ _ _ _
      | exact ih1 _ _ _ _ _ _ _ _ _ _
      | exact ih2 _ _ _ _ _
      | exact ih3 _ _ _ _ _ _
      | exact ih4 _ _ _ _ _ _ _ _ _ _ _
      | exact ih5 _ _ _ _ _ _ _ _ _ _ _ _ _ _ _
      | exact impl_isShopOf.mono _ _ _
      | exact LeO.none _
      | refine LeO.ite ?_ ?_
      | refine LeO.bind ?_ (fun _ => ?_)
    · intro y0 y1 y2 y3 y4 y5 y6 y7 y8 y9 y10
      unfold impl_OpenSchedule.l4
      repeat' first
      | (with_reducible exact ih0 _ _ _ _ _ _)
      | (with_reducible exact ih1 _ _ _ _ _ _ _ _ _ _)
      | (with_reducible exact ih2 _ _ _ _ _)
      | (with_reducible exact ih3 _ _ _ _ _ _)
      | (with_reducible exact ih4 _ _ _ _ _ _ _ _ _ _ _)
      | (with_reducible exact ih5 _ _ _ _ _ _ _ _ _ _ _ _ _ _ _)
      | (with_reducible exact impl_isShopOf.mono _ _ _)
      | (with_reducible exact LeO.refl _)
      | (with_reducible exact LeO.none _)
      | (with_reducible refine LeO.ite ?_ ?_)
      | (with_reducible refine LeO.bind ?_ (fun _ => ?_))
      | exact ih0 _ _ _ _ _ _
      | exact ih1 _ _ _ _ _ _ _ _ _ _
      | exact ih2 _ _ _ _ _
      | exact ih3 _ _ _ _ _ _
      | exact ih4 _ _ _ _ _ _ _ _ _ _ _
      | exact ih5 _ _ _ _ _ _ _ _ _ _ _ _ _ _ _
      | exact impl_isShopOf.mono _ _ _
      | exact LeO.none _
      | refine LeO.ite ?_ ?_
      | refine LeO.bind ?_ (fun _ => ?_)
    · intro y0 y1 y2 y3 y4 y5 y6 y7 y8 y9 y10 y11 y12 y13 y14
      unfold impl_OpenSchedule.j5
      repeat' first
      | (with_reducible exact ih0 _ _ _ _ _ _)
      | (with_reducible exact ih1 _ _ _ _ _ _ _ _ _ _)
      | (with_reducible exact ih2 _ _ _ _ _)
      | (with_reducible exact ih3 _ _ _ _ _ _)
      | (with_reducible exact ih4 _ _ _ _ _ _ _ _ _ _ _)
      | (with_reducible exact ih5 _ _ _ _ _ _ _ _ _ _ _ _ _ _ _)
      | (with_reducible exact impl_isShopOf.mono _ _ _)
      | (with_reducible exact LeO.refl _)
      | (with_reducible exact LeO.none _)
      | (with_reducible refine LeO.ite ?_ ?_)
      | (with_reducible refine LeO.bind ?_ (fun _ => ?_))
      | exact ih0 _ _ _ _ _ _
      | exact ih1 _ _ _ _ _ _ _ _ _ _
      | exact ih2 _ _ _ _ _
      | exact ih3 _ _ _ _ _ _
      | exact ih4 _ _ _ _ _ _ _ _ _ _ _
      | exact ih5 _ _ _ _ _ _ _ _ _ _ _ _ _ _ _
      | exact impl_isShopOf.mono _ _ _
      | exact LeO.none _
      | refine LeO.ite ?_ ?_
      | refine LeO.bind ?_ (fun _ => ?_)
theorem impl_OpenSchedule.mono : ∀ a0 k, LeO (impl_OpenSchedule.f k a0) (impl_OpenSchedule.f (k + 1) a0) := by
  intro a0 k
  obtain ⟨ih0, ih1, ih2, ih3, ih4, ih5⟩ := impl_OpenSchedule.mono_l k
  unfold impl_OpenSchedule.f
  repeat' first
      | (with_reducible exact ih0 _ _ _ _ _ _)
      | (with_reducible exact ih1 _ _ _ _ _ _ _ _ _ _)
      | (with_reducible exact ih2 _ _ _ _ _)
      | (with_reducible exact ih3 _ _ _ _ _ _)
      | (with_reducible exact ih4 _ _ _ _ _ _ _ _ _ _ _)
      | (with_reducible exact ih5 _ _ _ _ _ _ _ _ _ _ _ _ _ _ _)
      | (with_reducible exact impl_isShopOf.mono _ _ _)
      | (with_reducible exact LeO.refl _)
      | (with_reducible exact LeO.none _)
      | (with_reducible refine LeO.ite ?_ ?_)
      | (with_reducible refine LeO.bind ?_ (fun _ => ?_))
      | exact ih0 _ _ _ _ _ _
      | exact ih1 _ _ _ _ _ _ _ _ _ _
      | exact ih2 _ _ _ _ _
      | exact ih3 _ _ _ _ _ _
      | exact ih4 _ _ _ _ _ _ _ _ _ _ _
      | exact ih5 _ _ _ _ _ _ _ _ _ _ _ _ _ _ _
      | exact impl_isShopOf.mono _ _ _
      | exact LeO.none _
      | refine LeO.ite ?_ ?_
      | refine LeO.bind ?_ (fun _ => ?_)
set_option maxHeartbeats 8000000 in
set_option maxRecDepth 100000 in
theorem impl_OpenSchedule.calls (k : Nat) (A0 : Option Addr) (c0 : Nat) (l0 : List (List Int)) (r1 : List (List Int)) (r2 : Bool) (w : World) (hr0 : Kd.C (Kd.slice 3 (Kd.int .i64)) w A0 l0.length l0) (hc0 : l0.length ≤ c0) (h : impl_OpenSchedule.f k l0 = some (r1, r2)) :
    Calls Try.prog 12 #[.slice A0 l0.length c0] w fun e w' => ∃ v0_ : Value, e = .returned (.tuple #[v0_, .bool r2]) ∧ Kd.S (Kd.slice 3 (Kd.int .i64)) 41 w' w.heap.size (fun _ => True) v0_ r1 ∧ Below w.heap.size w w' := by
  have HR0 := Aside0.mk hr0
  have HC0 := Aside0.mk hc0
  clear hr0 hc0
  have HB := Aside0.mk (Below.refl w.heap.size w)
  have H : ((impl_isShopOf.f k l0 2).bind fun t200 => (if t200 = true then (if 0 ≤ (l0.length : Int) then (if ((l0.length : Int) : Int).toNat ≤ 11728124029610 then (impl_OpenSchedule.l0 k l0 (List.replicate ((l0.length : Int) : Int).toNat []) 0 l0 (l0.length : Int) 0) else (none)) else (none)) else (some (([] : List (List Int)), false)))) = some (r1, r2) := h
  clear h
  replace H := Option.bind_eq_some_iff.mp H
  obtain ⟨t200, A20, H⟩ := H
  replace H : (if t200 = true then (if 0 ≤ (l0.length : Int) then (if ((l0.length : Int) : Int).toNat ≤ 11728124029610 then (impl_OpenSchedule.l0 k l0 (List.replicate ((l0.length : Int) : Int).toNat []) 0 l0 (l0.length : Int) 0) else (none)) else (none)) else (some (([] : List (List Int)), false))) = some (r1, r2) := H
  have A2 := Aside0.mk A20
  clear A20
  by_cases c3 : t200 = true
  · subst c3
    have H1 : (if 0 ≤ (l0.length : Int) then (if ((l0.length : Int) : Int).toNat ≤ 11728124029610 then (impl_OpenSchedule.l0 k l0 (List.replicate ((l0.length : Int) : Int).toNat []) 0 l0 (l0.length : Int) 0) else (none)) else (none)) = some (r1, r2) := by rw [if_pos rfl] at H; exact H
    clear H
    have H := H1
    clear H1
    by_cases c4 : 0 ≤ (l0.length : Int)
    · rw [if_pos c4] at H
      have c4b0 := eq_true c4
      have c4b1 : decide (0 ≤ (l0.length : Int)) = true := decide_eq_true c4
      clear c4
      by_cases c5 : ((l0.length : Int) : Int).toNat ≤ 11728124029610
      · rw [if_pos c5] at H
        have c5b0 := eq_true c5
        have c5b1 : decide (((l0.length : Int) : Int).toNat ≤ 11728124029610) = true := decide_eq_true c5
        clear c5
        obtain ⟨y201, hy201⟩ : ∃ y_ : List (List Int), y_ = (List.replicate ((l0.length : Int) : Int).toNat []) := ⟨_, rfl⟩
        replace H : (impl_OpenSchedule.l0 k l0 y201 0 l0 (l0.length : Int) 0) = some (r1, r2) := by first | (rw [hy201]; with_reducible exact H) | (have H2_ := (Option.bind_some _ _).symm.trans H; rw [hy201]; with_reducible exact H2_) | (have H2_ := (Option.bind_some _ _).symm.trans H; with_reducible exact H2_) | with_reducible exact H | (rw [hy201]; exact H) | exact H
        have Ny201 := Aside0.mk hy201
        clear hy201
        have H' := Aside0.mk H
        clear H
        go_enter Try.func12, Try.ntmps12
        go_wp2_with (first | (go_at_call 46; (with_reducible refine (impl_isShopOf.calls k _ _ l0 2 true _ ?side1 ?side2 A2.out).mono ?_); (case side1 => repeat (first | exact HR0.out | (with_reducible refine Kd.C_alloc ?_ _) | (with_reducible refine Kd.C_drewN ?_ _) | (with_reducible refine Kd.C_drew ?_))); (case side2 => exact HC0.out); rintro e w' ⟨rfl, ⟨nd, rfl⟩⟩; (try first | exact ⟨rfl, _, World.drewN_drewN _ _ _⟩ | exact ⟨rfl, _, Eq.trans (World.drewN_drewN _ _ _) (congrArg (World.drewN _) (Nat.add_assoc _ _ _))⟩)) | ((with_reducible refine gate_dst (N := 23) rfl ?_); refine Kd.S_make (Kd.slice 3 (Kd.int .i64)) _ 41 rfl (N := 23) rfl 22 _ _ rfl (l0.length : Int) rfl rfl Try.underlying22 (.slice none 0 0) 24 info41 rfl (by decide) (by omega) [] (ok := fun _ => True) (okp := fun _ => True) ⟨_, rfl, Kd.R_nil _ _ _ _ _⟩ (fun _ hk => hk) trivial (of_decide_eq_true (by first | (with_reducible assumption) | assumption)) (Nat.le_trans (Nat.mul_le_mul_right _ (of_decide_eq_true (by first | (with_reducible assumption) | assumption) : (l0.length : Int).toNat ≤ 11728124029610)) (by omega)) (Below.refl _ _) (Nat.le_refl _) ?_; intro v202 w6 ho7 hb hg_ hnew_; clear hg_ hnew_; (first | rw [← Ny201.out] at ho7 | (simp only [Int.reduceToNat] at ho7; rw [← Ny201.out] at ho7)); have n0_ := Aside0.mk (Kd.S_lower ho7 (below_size (by repeat (first | (with_reducible first | exact HB.out | apply below_alloc | apply pw_below_drewN | apply below_drew1) | exact HB.out)))); have n1_ := Aside0.mk (below_step (by repeat (first | (with_reducible first | exact HB.out | apply below_alloc | apply pw_below_drewN | apply below_drew1) | exact HB.out)) hb); clear HB; have HO203 := n0_; have HB := n1_; clear n0_ n1_; clear hb ho7))
        repeat (go_quiet (first | (go_at_call 46; (with_reducible refine (impl_isShopOf.calls k _ _ l0 2 true _ ?side1 ?side2 A2.out).mono ?_); (case side1 => repeat (first | exact HR0.out | (with_reducible refine Kd.C_alloc ?_ _) | (with_reducible refine Kd.C_drewN ?_ _) | (with_reducible refine Kd.C_drew ?_))); (case side2 => exact HC0.out); rintro e w' ⟨rfl, ⟨nd, rfl⟩⟩; (try first | exact ⟨rfl, _, World.drewN_drewN _ _ _⟩ | exact ⟨rfl, _, Eq.trans (World.drewN_drewN _ _ _) (congrArg (World.drewN _) (Nat.add_assoc _ _ _))⟩)) | ((with_reducible refine gate_dst (N := 23) rfl ?_); refine Kd.S_make (Kd.slice 3 (Kd.int .i64)) _ 41 rfl (N := 23) rfl 22 _ _ rfl (l0.length : Int) rfl rfl Try.underlying22 (.slice none 0 0) 24 info41 rfl (by decide) (by omega) [] (ok := fun _ => True) (okp := fun _ => True) ⟨_, rfl, Kd.R_nil _ _ _ _ _⟩ (fun _ hk => hk) trivial (of_decide_eq_true (by first | (with_reducible assumption) | assumption)) (Nat.le_trans (Nat.mul_le_mul_right _ (of_decide_eq_true (by first | (with_reducible assumption) | assumption) : (l0.length : Int).toNat ≤ 11728124029610)) (by omega)) (Below.refl _ _) (Nat.le_refl _) ?_; intro v202 w6 ho7 hb hg_ hnew_; clear hg_ hnew_; (first | rw [← Ny201.out] at ho7 | (simp only [Int.reduceToNat] at ho7; rw [← Ny201.out] at ho7)); have n0_ := Aside0.mk (Kd.S_lower ho7 (below_size (by repeat (first | (with_reducible first | exact HB.out | apply below_alloc | apply pw_below_drewN | apply below_drew1) | exact HB.out)))); have n1_ := Aside0.mk (below_step (by repeat (first | (with_reducible first | exact HB.out | apply below_alloc | apply pw_below_drewN | apply below_drew1) | exact HB.out)) hb); clear HB; have HO203 := n0_; have HB := n1_; clear n0_ n1_; clear hb ho7)); try go_wp2_with (first | (go_at_call 46; (with_reducible refine (impl_isShopOf.calls k _ _ l0 2 true _ ?side1 ?side2 A2.out).mono ?_); (case side1 => repeat (first | exact HR0.out | (with_reducible refine Kd.C_alloc ?_ _) | (with_reducible refine Kd.C_drewN ?_ _) | (with_reducible refine Kd.C_drew ?_))); (case side2 => exact HC0.out); rintro e w' ⟨rfl, ⟨nd, rfl⟩⟩; (try first | exact ⟨rfl, _, World.drewN_drewN _ _ _⟩ | exact ⟨rfl, _, Eq.trans (World.drewN_drewN _ _ _) (congrArg (World.drewN _) (Nat.add_assoc _ _ _))⟩)) | ((with_reducible refine gate_dst (N := 23) rfl ?_); refine Kd.S_make (Kd.slice 3 (Kd.int .i64)) _ 41 rfl (N := 23) rfl 22 _ _ rfl (l0.length : Int) rfl rfl Try.underlying22 (.slice none 0 0) 24 info41 rfl (by decide) (by omega) [] (ok := fun _ => True) (okp := fun _ => True) ⟨_, rfl, Kd.R_nil _ _ _ _ _⟩ (fun _ hk => hk) trivial (of_decide_eq_true (by first | (with_reducible assumption) | assumption)) (Nat.le_trans (Nat.mul_le_mul_right _ (of_decide_eq_true (by first | (with_reducible assumption) | assumption) : (l0.length : Int).toNat ≤ 11728124029610)) (by omega)) (Below.refl _ _) (Nat.le_refl _) ?_; intro v202 w6 ho7 hb hg_ hnew_; clear hg_ hnew_; (first | rw [← Ny201.out] at ho7 | (simp only [Int.reduceToNat] at ho7; rw [← Ny201.out] at ho7)); have n0_ := Aside0.mk (Kd.S_lower ho7 (below_size (by repeat (first | (with_reducible first | exact HB.out | apply below_alloc | apply pw_below_drewN | apply below_drew1) | exact HB.out)))); have n1_ := Aside0.mk (below_step (by repeat (first | (with_reducible first | exact HB.out | apply below_alloc | apply pw_below_drewN | apply below_drew1) | exact HB.out)) hb); clear HB; have HO203 := n0_; have HB := n1_; clear n0_ n1_; clear hb ho7)))
        go_loopg [5, 26] k (fun kq v5 v26 w' => ∃ (x4_1 : List (List Int)) (x5_1 : Int) (x26_1 : Int), v5 = .int .i64 x5_1 ∧ v26 = .int .i64 x26_1 ∧ Aside0 (impl_OpenSchedule.l0 kq l0 x4_1 x5_1 l0 (l0.length : Int) x26_1 = some (r1, r2)) ∧ Aside0 (kq ≤ k) ∧ Aside0 (Kd.S (Kd.slice 3 (Kd.int .i64)) 41 w' w.heap.size (fun _ => True) v202 x4_1) ∧ Aside0 (Below w.heap.size w w'))
        case atStart => exact ⟨(y201), (0), (0), (by first | rfl | (simp; done) | (simp [*]; done)), (by first | rfl | (simp; done) | (simp [*]; done)), H', ⟨Nat.le_refl _⟩, ⟨by (with_reducible repeat (first | apply Kd.S_alloc | apply Kd.S_drewN | apply Kd.S_drew)); exact HO203.out⟩, ⟨by repeat (first | (with_reducible first | exact HB.out | apply below_alloc | apply pw_below_drewN | apply below_drew1) | exact HB.out)⟩⟩
        case round =>
          clear H'
          try clear c1
          try clear p2
          try clear c3
          try clear c4
          try clear c4b0
          try clear c4b1
          try clear c5
          try clear c5b0
          try clear c5b1
          obtain ⟨x4_1, x5_1, x26_1, rfl, rfl, HA, HK1, HO_4, HB⟩ := hrel
          cases gk with
          | zero => exact absurd HA.out (by simp [impl_OpenSchedule.l0])
          | succ k1 =>
            have H := HA.out
            clear HA
            simp only [impl_OpenSchedule.l0] at H
            by_cases c8 : x26_1 < (l0.length : Int)
            · rw [if_pos c8] at H
              have c8b0 : decide (x26_1 < (l0.length : Int)) = true := decide_eq_true c8
              clear c8
              by_cases c9 : 0 ≤ x26_1
              · rw [if_pos c9] at H
                have c9b0 : decide (0 ≤ x26_1) = true := decide_eq_true c9
                clear c9
                by_cases c10 : x26_1 < (l0.length : Int)
                · rw [if_pos c10] at H
                  have c10b0 : decide (x26_1 < (l0.length : Int)) = true := decide_eq_true c10
                  clear c10
                  obtain ⟨y205, hy205⟩ : ∃ y_ : List Int, y_ = (([(-1), (-1)] : List Int)) := ⟨_, rfl⟩
                  replace H : (if x26_1 < (x4_1.length : Int) then (impl_OpenSchedule.l1 k1 l0 (x4_1.set (x26_1 : Int).toNat y205) x5_1 x26_1 l0 (l0.length : Int) x26_1 (rd_L1 l0 x26_1) ((rd_L1 l0 x26_1).length : Int) 0) else (none)) = some (r1, r2) := by first | (rw [hy205]; with_reducible exact H) | (have H2_ := (Option.bind_some _ _).symm.trans H; rw [hy205]; with_reducible exact H2_) | (have H2_ := (Option.bind_some _ _).symm.trans H; with_reducible exact H2_) | with_reducible exact H | (rw [hy205]; exact H) | exact H
                  have Ny205 := Aside0.mk hy205
                  clear hy205
                  by_cases c11 : x26_1 < (x4_1.length : Int)
                  · rw [if_pos c11] at H
                    have c11b0 : decide (x26_1 < (x4_1.length : Int)) = true := decide_eq_true c11
                    clear c11
                    obtain ⟨y208, hy208⟩ : ∃ y_ : List (List Int), y_ = (x4_1.set (x26_1 : Int).toNat y205) := ⟨_, rfl⟩
                    replace H : (impl_OpenSchedule.l1 k1 l0 y208 x5_1 x26_1 l0 (l0.length : Int) x26_1 (rd_L1 l0 x26_1) ((rd_L1 l0 x26_1).length : Int) 0) = some (r1, r2) := by first | (rw [hy208]; with_reducible exact H) | (have H2_ := (Option.bind_some _ _).symm.trans H; rw [hy208]; with_reducible exact H2_) | (have H2_ := (Option.bind_some _ _).symm.trans H; with_reducible exact H2_) | with_reducible exact H | (rw [hy208]; exact H) | exact H
                    have Ny208 := Aside0.mk hy208
                    clear hy208
                    have H' := Aside0.mk H
                    clear H
                    have p204 : 0 ≤ (x26_1 : Int) := of_decide_eq_true (by first | (with_reducible assumption) | assumption)
                    have q204 : x26_1 < (l0.length : Int) := of_decide_eq_true (by first | (with_reducible assumption) | assumption)
                    obtain ⟨ad204, A204_0, c204_0, e204, hx204_0, hl204_0, hi204_0⟩ := at_L1 HR0.out x26_1 p204 q204
                    cases e204
                    replace hx204_0 := (HB.out.cell (World.block_lt_of_cell? w _ hx204_0)).trans hx204_0
                    have HR204_0 := Aside0.mk hi204_0
                    have HC204_0 := Aside0.mk hl204_0
                    clear hi204_0 hl204_0
                    replace p204 := eq_true p204
                    replace q204 := eq_true q204
                    go_wp2_with (first | ((with_reducible refine gate_dst (N := 33) rfl ?_); refine Kd.R_lit (Kd.int .i64) _ 3 ?hg (N := 33) ?hd (xs := ([(-1), (-1)] : List Int)) (inner := [.int .i64 (-1), .int .i64 (-1)]) (ok := fun _ => True) (okp := fun _ => True) ?hr ?hp (fun _ hk => hk) trivial (Below.refl _ _) (Nat.le_refl _) (by simp) ?_; (case hd => rfl); (case hg => rfl); (case hr => first | (go_simp; done) | (go_simp; rfl)); (case hp => exact (Reps.one (show Kd.M (Kd.int .i64) _ _ _ (-1) [.int .i64 (-1)] from rfl) (Reps.one (show Kd.M (Kd.int .i64) _ _ _ (-1) [.int .i64 (-1)] from rfl) (Reps.none _ _)))); intro v206 w13 ho14 hb hg_ hnew_; clear hg_ hnew_; (first | rw [← Ny205.out] at ho14 | (simp only [Int.reduceToNat] at ho14; rw [← Ny205.out] at ho14)); have n0_ := Aside0.mk (Kd.S_elder' (by (with_reducible repeat (first | apply Kd.S_alloc | apply Kd.S_drewN | apply Kd.S_drew)); exact HO_4.out) (Kd.R_base ho14) hb); have n1_ := Aside0.mk (Kd.R_lower ho14 (below_size (by repeat (first | (with_reducible first | exact HB.out | apply below_alloc | apply pw_below_drewN | apply below_drew1) | exact HB.out)))); have n2_ := Aside0.mk (below_step (by repeat (first | (with_reducible first | exact HB.out | apply below_alloc | apply pw_below_drewN | apply below_drew1) | exact HB.out)) hb); clear HO_4; clear HB; have HO_4 := n0_; have HO207 := n1_; have HB := n2_; clear n0_ n1_ n2_; clear hb ho14; have p12 : 0 ≤ (x26_1 : Int) := of_decide_eq_true (by first | (with_reducible assumption) | assumption); have q12 : (x26_1 : Int) < ((x4_1.length : Int) : Int) := of_decide_eq_true (by first | (with_reducible assumption) | assumption); obtain ⟨go12, co12, eo12, gb12, gl12, cl12, HG12⟩ := Kd.S_form HO_4.out (by omega); (first | cases eo12 | (injection eo12 with ea_ en_ ec_; (first | subst ea_ | (injection ea_ with ea_; subst ea_)); subst ec_; clear en_)); have GB12 := Aside0.mk gb12; have GG12 := Aside0.mk HG12; clear gb12 gl12 HG12; obtain ⟨_, ce12, hcl12, hM12, hcc12, hfr12, _, _⟩ := Kd.S_elem HO_4.out [] (x26_1 : Int) p12 q12; obtain ⟨ve12_0, rfl, ge12_0⟩ := hM12; have hx12_0 := hcc12 0 _ rfl; have hf12_0 := hfr12 0; (try simp only [show ((Kd.slice 3 (Kd.int .i64))).sz = 1 from rfl, Nat.mul_one, Nat.add_zero] at hx12_0); (try simp only [show ((Kd.slice 3 (Kd.int .i64))).sz = 1 from rfl, Nat.mul_one, Nat.add_zero] at hf12_0); (clear hcl12 hcc12 hfr12; (try clear hM12)); replace p12 := eq_true p12; replace q12 := eq_true q12; have n_ := Aside0.mk (Kd.S_mono (ok' := (fun k_ => some k_ ≠ (v206 : Value).ownBlock)) HO_4.out (fun k_ hk => hk.2)); clear HO_4; have HO_4 := n_; clear n_; have HX15 := Aside0.mk (show Kd.S (Kd.slice 3 (Kd.int .i64)) 41 w13 w.heap.size (fun k_ => ((fun _ => True)) k_ ∧ ¬ ((fun k_ => some k_ = (v206 : Value).ownBlock)) k_) (.slice (some ⟨go12, 0, none⟩) x4_1.length co12) x4_1 from (by (with_reducible repeat (first | apply Kd.S_alloc | apply Kd.S_drewN | apply Kd.S_drew)); exact Kd.S_mono HO_4.out (fun k_ hk => ⟨trivial, fun e_ => hk e_⟩))); obtain ⟨oki15, ce15, hcl15, hM15, hcc15, hfr15, hoki15, hH15⟩ := Kd.S_elem HX15.out [] (x26_1 : Int) (of_decide_eq_true (by first | (with_reducible assumption) | assumption)) (by have h_ : (x26_1 : Int) < ((x4_1.length : Int) : Int) := of_decide_eq_true (by first | (with_reducible assumption) | assumption); first | exact h_ | (have e_ := (Kd.S_reads' HO_4.out).1; omega) | simpa using h_); obtain ⟨ve15_0, rfl, ge15_0⟩ := hM15; have HP15 := Kd.S_seg hH15 (of_decide_eq_true (by first | (with_reducible assumption) | assumption)) (by have h_ : (x26_1 : Int) < ((x4_1.length : Int) : Int) := of_decide_eq_true (by first | (with_reducible assumption) | assumption); first | exact h_ | (have e_ := (Kd.S_reads' HO_4.out).1; omega) | simpa using h_) (seg := [v206]) (j := 0) (show 1 ≤ 1 from by decide) (x' := y205) (Kd.M_row (Kd.R_mono (Kd.R_tight rfl (Kd.R_mono (ok' := fun k_ => ((fun _ => True)) k_ ∧ k_ ≠ go12) (Kd.R_apart' (HO207.out) (Kd.S_typed HO_4.out) (by decide)) (fun k_ hk => ⟨trivial, fun e_ => (hk.2) (by rw [e_]; rfl)⟩))) (fun _ h_ => Or.inr (h_)))) (fun _ hk => hk) (fun k_ hk_ => ((Kd.R_mono (ok' := fun k_ => ((fun _ => True)) k_ ∧ k_ ≠ go12) (Kd.R_apart' (HO207.out) (Kd.S_typed HO_4.out) (by decide)) (fun k_ hk => ⟨trivial, fun e_ => (hk.2) (by rw [e_]; rfl)⟩))).1 k_ hk_.symm); have hx15_0 := hcc15 0 _ rfl; (try simp only [show ((Kd.slice 3 (Kd.int .i64))).sz = 1 from rfl, Nat.mul_one, Nat.add_zero] at hx15_0); have hf15_0 := hfr15 0; (try simp only [show ((Kd.slice 3 (Kd.int .i64))).sz = 1 from rfl, Nat.mul_one, Nat.add_zero] at hf15_0); (clear hcl15 hcc15 hfr15; (try clear hM15); clear hoki15 hH15); (try simp only [show ((Kd.slice 3 (Kd.int .i64))).sz = 1 from rfl, Nat.mul_one, Nat.add_zero] at HP15)) | ((with_reducible refine gate_store (t := 41) (p := 34) rfl ?_); (try (rw [drewN_self w13]; generalize hq_ : World.drewN w13 _ = w13; have n0_ := Aside0.mk (Kd.S_at hq_ HO_4.out); have n1_ := Aside0.mk (below_at hq_ HB.out); (try replace hx12_0 := cell_at hq_ hx12_0); (try replace hf12_0 := (fun {W_ W2_ : World} {n_ : Nat} {a_ : Addr} {b_ : Bool} (h_ : W_.drewN n_ = W2_) (e_ : W_.frozen? a_ = b_) => (by subst h_; exact e_ : W2_.frozen? a_ = b_)) hq_ hf12_0); (try replace hx15_0 := cell_at hq_ hx15_0); (try replace hf15_0 := (fun {W_ W2_ : World} {n_ : Nat} {a_ : Addr} {b_ : Bool} (h_ : W_.drewN n_ = W2_) (e_ : W_.frozen? a_ = b_) => (by subst h_; exact e_ : W2_.frozen? a_ = b_)) hq_ hf15_0); clear hq_ HO_4 HB; have HO_4 := n0_; have HB := n1_; clear n0_ n1_; (try (have n_ := Aside0.mk (Kd.S_mono (ok' := (fun k_ => some k_ ≠ (v206 : Value).ownBlock)) HO_4.out (fun k_ hk => hk.2)); clear HO_4; have HO_4 := n_; clear n_)); (try (have HX15 := Aside0.mk (show Kd.S (Kd.slice 3 (Kd.int .i64)) 41 w13 w.heap.size (fun k_ => ((fun _ => True)) k_ ∧ ¬ ((fun k_ => some k_ = (v206 : Value).ownBlock)) k_) (.slice (some ⟨go12, 0, none⟩) x4_1.length co12) x4_1 from (by (with_reducible repeat (first | apply Kd.S_alloc | apply Kd.S_drewN | apply Kd.S_drew)); exact Kd.S_mono HO_4.out (fun k_ hk => ⟨trivial, fun e_ => hk e_⟩))))); (try (obtain ⟨oki15, ce15, hcl15, hM15, hcc15, hfr15, hoki15, hH15⟩ := Kd.S_elem HX15.out [] (x26_1 : Int) (of_decide_eq_true (by first | (with_reducible assumption) | assumption)) (by have h_ : (x26_1 : Int) < ((x4_1.length : Int) : Int) := of_decide_eq_true (by first | (with_reducible assumption) | assumption); first | exact h_ | (have e_ := (Kd.S_reads' HO_4.out).1; omega) | simpa using h_))); (try (obtain ⟨ve15_0, rfl, ge15_0⟩ := hM15)); (try (have HP15 := Kd.S_seg hH15 (of_decide_eq_true (by first | (with_reducible assumption) | assumption)) (by have h_ : (x26_1 : Int) < ((x4_1.length : Int) : Int) := of_decide_eq_true (by first | (with_reducible assumption) | assumption); first | exact h_ | (have e_ := (Kd.S_reads' HO_4.out).1; omega) | simpa using h_) (seg := [v206]) (j := 0) (show 1 ≤ 1 from by decide) (x' := y205) (Kd.M_row (Kd.R_mono (Kd.R_tight rfl (Kd.R_mono (ok' := fun k_ => ((fun _ => True)) k_ ∧ k_ ≠ go12) (Kd.R_apart' (HO207.out) (Kd.S_typed HO_4.out) (by decide)) (fun k_ hk => ⟨trivial, fun e_ => (hk.2) (by rw [e_]; rfl)⟩))) (fun _ h_ => Or.inr (h_)))) (fun _ hk => hk) (fun k_ hk_ => ((Kd.R_mono (ok' := fun k_ => ((fun _ => True)) k_ ∧ k_ ≠ go12) (Kd.R_apart' (HO207.out) (Kd.S_typed HO_4.out) (by decide)) (fun k_ hk => ⟨trivial, fun e_ => (hk.2) (by rw [e_]; rfl)⟩))).1 k_ hk_.symm))); (try (have hx15_0 := hcc15 0 _ rfl)); (try (try simp only [show ((Kd.slice 3 (Kd.int .i64))).sz = 1 from rfl, Nat.mul_one, Nat.add_zero] at hx15_0)); (try (have hf15_0 := hfr15 0)); (try (try simp only [show ((Kd.slice 3 (Kd.int .i64))).sz = 1 from rfl, Nat.mul_one, Nat.add_zero] at hf15_0)); (try (clear hcl15 hcc15 hfr15; (try clear hM15); clear hoki15 hH15)); (try (try simp only [show ((Kd.slice 3 (Kd.int .i64))).sz = 1 from rfl, Nat.mul_one, Nat.add_zero] at HP15)))); refine store_event (t := 41) (p := 34) (v := ?vo_w16) (w1 := (w13.setCell ⟨go12, (x26_1 : Int).toNat, none⟩ (v206))) ?hg ?ho ?hn ?hr ?_; (case ho => rfl); (case hg => rfl); (case hn => rfl); (case hr => first | (go_simp; done) | (go_simp; rfl) | (obtain ⟨Ag_, cg_, eg_⟩ := Kd.R_slice HO207.out; subst eg_; first | (go_simp; done) | (go_simp; rfl))); intro w16 hw; have hg : w13.grownBy w16 (some go12) := (by rw [hw]; exact HP15.2); have hp_ : Kd.S (Kd.slice 3 (Kd.int .i64)) 41 w16 w.heap.size (fun _ => True) (.slice (some ⟨go12, 0, none⟩) x4_1.length co12) y208 := (by rw [hw, Ny208.out]; exact HP15.1); clear HP15; have n0_ := Aside0.mk (hp_); have n1_ := Aside0.mk ((by rw [hw]; exact below_set (HB.out) GB12.out : Below w.heap.size w w16)); clear HO_4; clear HB; clear HO207; have HO_4 := n0_; have HB := n1_; clear n0_ n1_; clear hg hw hp_))
                    repeat (go_quiet (first | ((with_reducible refine gate_dst (N := 33) rfl ?_); refine Kd.R_lit (Kd.int .i64) _ 3 ?hg (N := 33) ?hd (xs := ([(-1), (-1)] : List Int)) (inner := [.int .i64 (-1), .int .i64 (-1)]) (ok := fun _ => True) (okp := fun _ => True) ?hr ?hp (fun _ hk => hk) trivial (Below.refl _ _) (Nat.le_refl _) (by simp) ?_; (case hd => rfl); (case hg => rfl); (case hr => first | (go_simp; done) | (go_simp; rfl)); (case hp => exact (Reps.one (show Kd.M (Kd.int .i64) _ _ _ (-1) [.int .i64 (-1)] from rfl) (Reps.one (show Kd.M (Kd.int .i64) _ _ _ (-1) [.int .i64 (-1)] from rfl) (Reps.none _ _)))); intro v206 w13 ho14 hb hg_ hnew_; clear hg_ hnew_; (first | rw [← Ny205.out] at ho14 | (simp only [Int.reduceToNat] at ho14; rw [← Ny205.out] at ho14)); have n0_ := Aside0.mk (Kd.S_elder' (by (with_reducible repeat (first | apply Kd.S_alloc | apply Kd.S_drewN | apply Kd.S_drew)); exact HO_4.out) (Kd.R_base ho14) hb); have n1_ := Aside0.mk (Kd.R_lower ho14 (below_size (by repeat (first | (with_reducible first | exact HB.out | apply below_alloc | apply pw_below_drewN | apply below_drew1) | exact HB.out)))); have n2_ := Aside0.mk (below_step (by repeat (first | (with_reducible first | exact HB.out | apply below_alloc | apply pw_below_drewN | apply below_drew1) | exact HB.out)) hb); clear HO_4; clear HB; have HO_4 := n0_; have HO207 := n1_; have HB := n2_; clear n0_ n1_ n2_; clear hb ho14; have p12 : 0 ≤ (x26_1 : Int) := of_decide_eq_true (by first | (with_reducible assumption) | assumption); have q12 : (x26_1 : Int) < ((x4_1.length : Int) : Int) := of_decide_eq_true (by first | (with_reducible assumption) | assumption); obtain ⟨go12, co12, eo12, gb12, gl12, cl12, HG12⟩ := Kd.S_form HO_4.out (by omega); (first | cases eo12 | (injection eo12 with ea_ en_ ec_; (first | subst ea_ | (injection ea_ with ea_; subst ea_)); subst ec_; clear en_)); have GB12 := Aside0.mk gb12; have GG12 := Aside0.mk HG12; clear gb12 gl12 HG12; obtain ⟨_, ce12, hcl12, hM12, hcc12, hfr12, _, _⟩ := Kd.S_elem HO_4.out [] (x26_1 : Int) p12 q12; obtain ⟨ve12_0, rfl, ge12_0⟩ := hM12; have hx12_0 := hcc12 0 _ rfl; have hf12_0 := hfr12 0; (try simp only [show ((Kd.slice 3 (Kd.int .i64))).sz = 1 from rfl, Nat.mul_one, Nat.add_zero] at hx12_0); (try simp only [show ((Kd.slice 3 (Kd.int .i64))).sz = 1 from rfl, Nat.mul_one, Nat.add_zero] at hf12_0); (clear hcl12 hcc12 hfr12; (try clear hM12)); replace p12 := eq_true p12; replace q12 := eq_true q12; have n_ := Aside0.mk (Kd.S_mono (ok' := (fun k_ => some k_ ≠ (v206 : Value).ownBlock)) HO_4.out (fun k_ hk => hk.2)); clear HO_4; have HO_4 := n_; clear n_; have HX15 := Aside0.mk (show Kd.S (Kd.slice 3 (Kd.int .i64)) 41 w13 w.heap.size (fun k_ => ((fun _ => True)) k_ ∧ ¬ ((fun k_ => some k_ = (v206 : Value).ownBlock)) k_) (.slice (some ⟨go12, 0, none⟩) x4_1.length co12) x4_1 from (by (with_reducible repeat (first | apply Kd.S_alloc | apply Kd.S_drewN | apply Kd.S_drew)); exact Kd.S_mono HO_4.out (fun k_ hk => ⟨trivial, fun e_ => hk e_⟩))); obtain ⟨oki15, ce15, hcl15, hM15, hcc15, hfr15, hoki15, hH15⟩ := Kd.S_elem HX15.out [] (x26_1 : Int) (of_decide_eq_true (by first | (with_reducible assumption) | assumption)) (by have h_ : (x26_1 : Int) < ((x4_1.length : Int) : Int) := of_decide_eq_true (by first | (with_reducible assumption) | assumption); first | exact h_ | (have e_ := (Kd.S_reads' HO_4.out).1; omega) | simpa using h_); obtain ⟨ve15_0, rfl, ge15_0⟩ := hM15; have HP15 := Kd.S_seg hH15 (of_decide_eq_true (by first | (with_reducible assumption) | assumption)) (by have h_ : (x26_1 : Int) < ((x4_1.length : Int) : Int) := of_decide_eq_true (by first | (with_reducible assumption) | assumption); first | exact h_ | (have e_ := (Kd.S_reads' HO_4.out).1; omega) | simpa using h_) (seg := [v206]) (j := 0) (show 1 ≤ 1 from by decide) (x' := y205) (Kd.M_row (Kd.R_mono (Kd.R_tight rfl (Kd.R_mono (ok' := fun k_ => ((fun _ => True)) k_ ∧ k_ ≠ go12) (Kd.R_apart' (HO207.out) (Kd.S_typed HO_4.out) (by decide)) (fun k_ hk => ⟨trivial, fun e_ => (hk.2) (by rw [e_]; rfl)⟩))) (fun _ h_ => Or.inr (h_)))) (fun _ hk => hk) (fun k_ hk_ => ((Kd.R_mono (ok' := fun k_ => ((fun _ => True)) k_ ∧ k_ ≠ go12) (Kd.R_apart' (HO207.out) (Kd.S_typed HO_4.out) (by decide)) (fun k_ hk => ⟨trivial, fun e_ => (hk.2) (by rw [e_]; rfl)⟩))).1 k_ hk_.symm); have hx15_0 := hcc15 0 _ rfl; (try simp only [show ((Kd.slice 3 (Kd.int .i64))).sz = 1 from rfl, Nat.mul_one, Nat.add_zero] at hx15_0); have hf15_0 := hfr15 0; (try simp only [show ((Kd.slice 3 (Kd.int .i64))).sz = 1 from rfl, Nat.mul_one, Nat.add_zero] at hf15_0); (clear hcl15 hcc15 hfr15; (try clear hM15); clear hoki15 hH15); (try simp only [show ((Kd.slice 3 (Kd.int .i64))).sz = 1 from rfl, Nat.mul_one, Nat.add_zero] at HP15)) | ((with_reducible refine gate_store (t := 41) (p := 34) rfl ?_); (try (rw [drewN_self w13]; generalize hq_ : World.drewN w13 _ = w13; have n0_ := Aside0.mk (Kd.S_at hq_ HO_4.out); have n1_ := Aside0.mk (below_at hq_ HB.out); (try replace hx12_0 := cell_at hq_ hx12_0); (try replace hf12_0 := (fun {W_ W2_ : World} {n_ : Nat} {a_ : Addr} {b_ : Bool} (h_ : W_.drewN n_ = W2_) (e_ : W_.frozen? a_ = b_) => (by subst h_; exact e_ : W2_.frozen? a_ = b_)) hq_ hf12_0); (try replace hx15_0 := cell_at hq_ hx15_0); (try replace hf15_0 := (fun {W_ W2_ : World} {n_ : Nat} {a_ : Addr} {b_ : Bool} (h_ : W_.drewN n_ = W2_) (e_ : W_.frozen? a_ = b_) => (by subst h_; exact e_ : W2_.frozen? a_ = b_)) hq_ hf15_0); clear hq_ HO_4 HB; have HO_4 := n0_; have HB := n1_; clear n0_ n1_; (try (have n_ := Aside0.mk (Kd.S_mono (ok' := (fun k_ => some k_ ≠ (v206 : Value).ownBlock)) HO_4.out (fun k_ hk => hk.2)); clear HO_4; have HO_4 := n_; clear n_)); (try (have HX15 := Aside0.mk (show Kd.S (Kd.slice 3 (Kd.int .i64)) 41 w13 w.heap.size (fun k_ => ((fun _ => True)) k_ ∧ ¬ ((fun k_ => some k_ = (v206 : Value).ownBlock)) k_) (.slice (some ⟨go12, 0, none⟩) x4_1.length co12) x4_1 from (by (with_reducible repeat (first | apply Kd.S_alloc | apply Kd.S_drewN | apply Kd.S_drew)); exact Kd.S_mono HO_4.out (fun k_ hk => ⟨trivial, fun e_ => hk e_⟩))))); (try (obtain ⟨oki15, ce15, hcl15, hM15, hcc15, hfr15, hoki15, hH15⟩ := Kd.S_elem HX15.out [] (x26_1 : Int) (of_decide_eq_true (by first | (with_reducible assumption) | assumption)) (by have h_ : (x26_1 : Int) < ((x4_1.length : Int) : Int) := of_decide_eq_true (by first | (with_reducible assumption) | assumption); first | exact h_ | (have e_ := (Kd.S_reads' HO_4.out).1; omega) | simpa using h_))); (try (obtain ⟨ve15_0, rfl, ge15_0⟩ := hM15)); (try (have HP15 := Kd.S_seg hH15 (of_decide_eq_true (by first | (with_reducible assumption) | assumption)) (by have h_ : (x26_1 : Int) < ((x4_1.length : Int) : Int) := of_decide_eq_true (by first | (with_reducible assumption) | assumption); first | exact h_ | (have e_ := (Kd.S_reads' HO_4.out).1; omega) | simpa using h_) (seg := [v206]) (j := 0) (show 1 ≤ 1 from by decide) (x' := y205) (Kd.M_row (Kd.R_mono (Kd.R_tight rfl (Kd.R_mono (ok' := fun k_ => ((fun _ => True)) k_ ∧ k_ ≠ go12) (Kd.R_apart' (HO207.out) (Kd.S_typed HO_4.out) (by decide)) (fun k_ hk => ⟨trivial, fun e_ => (hk.2) (by rw [e_]; rfl)⟩))) (fun _ h_ => Or.inr (h_)))) (fun _ hk => hk) (fun k_ hk_ => ((Kd.R_mono (ok' := fun k_ => ((fun _ => True)) k_ ∧ k_ ≠ go12) (Kd.R_apart' (HO207.out) (Kd.S_typed HO_4.out) (by decide)) (fun k_ hk => ⟨trivial, fun e_ => (hk.2) (by rw [e_]; rfl)⟩))).1 k_ hk_.symm))); (try (have hx15_0 := hcc15 0 _ rfl)); (try (try simp only [show ((Kd.slice 3 (Kd.int .i64))).sz = 1 from rfl, Nat.mul_one, Nat.add_zero] at hx15_0)); (try (have hf15_0 := hfr15 0)); (try (try simp only [show ((Kd.slice 3 (Kd.int .i64))).sz = 1 from rfl, Nat.mul_one, Nat.add_zero] at hf15_0)); (try (clear hcl15 hcc15 hfr15; (try clear hM15); clear hoki15 hH15)); (try (try simp only [show ((Kd.slice 3 (Kd.int .i64))).sz = 1 from rfl, Nat.mul_one, Nat.add_zero] at HP15)))); refine store_event (t := 41) (p := 34) (v := ?vo_w16) (w1 := (w13.setCell ⟨go12, (x26_1 : Int).toNat, none⟩ (v206))) ?hg ?ho ?hn ?hr ?_; (case ho => rfl); (case hg => rfl); (case hn => rfl); (case hr => first | (go_simp; done) | (go_simp; rfl) | (obtain ⟨Ag_, cg_, eg_⟩ := Kd.R_slice HO207.out; subst eg_; first | (go_simp; done) | (go_simp; rfl))); intro w16 hw; have hg : w13.grownBy w16 (some go12) := (by rw [hw]; exact HP15.2); have hp_ : Kd.S (Kd.slice 3 (Kd.int .i64)) 41 w16 w.heap.size (fun _ => True) (.slice (some ⟨go12, 0, none⟩) x4_1.length co12) y208 := (by rw [hw, Ny208.out]; exact HP15.1); clear HP15; have n0_ := Aside0.mk (hp_); have n1_ := Aside0.mk ((by rw [hw]; exact below_set (HB.out) GB12.out : Below w.heap.size w w16)); clear HO_4; clear HB; clear HO207; have HO_4 := n0_; have HB := n1_; clear n0_ n1_; clear hg hw hp_)); try go_wp2_with (first | ((with_reducible refine gate_dst (N := 33) rfl ?_); refine Kd.R_lit (Kd.int .i64) _ 3 ?hg (N := 33) ?hd (xs := ([(-1), (-1)] : List Int)) (inner := [.int .i64 (-1), .int .i64 (-1)]) (ok := fun _ => True) (okp := fun _ => True) ?hr ?hp (fun _ hk => hk) trivial (Below.refl _ _) (Nat.le_refl _) (by simp) ?_; (case hd => rfl); (case hg => rfl); (case hr => first | (go_simp; done) | (go_simp; rfl)); (case hp => exact (Reps.one (show Kd.M (Kd.int .i64) _ _ _ (-1) [.int .i64 (-1)] from rfl) (Reps.one (show Kd.M (Kd.int .i64) _ _ _ (-1) [.int .i64 (-1)] from rfl) (Reps.none _ _)))); intro v206 w13 ho14 hb hg_ hnew_; clear hg_ hnew_; (first | rw [← Ny205.out] at ho14 | (simp only [Int.reduceToNat] at ho14; rw [← Ny205.out] at ho14)); have n0_ := Aside0.mk (Kd.S_elder' (by (with_reducible repeat (first | apply Kd.S_alloc | apply Kd.S_drewN | apply Kd.S_drew)); exact HO_4.out) (Kd.R_base ho14) hb); have n1_ := Aside0.mk (Kd.R_lower ho14 (below_size (by repeat (first | (with_reducible first | exact HB.out | apply below_alloc | apply pw_below_drewN | apply below_drew1) | exact HB.out)))); have n2_ := Aside0.mk (below_step (by repeat (first | (with_reducible first | exact HB.out | apply below_alloc | apply pw_below_drewN | apply below_drew1) | exact HB.out)) hb); clear HO_4; clear HB; have HO_4 := n0_; have HO207 := n1_; have HB := n2_; clear n0_ n1_ n2_; clear hb ho14; have p12 : 0 ≤ (x26_1 : Int) := of_decide_eq_true (by first | (with_reducible assumption) | assumption); have q12 : (x26_1 : Int) < ((x4_1.length : Int) : Int) := of_decide_eq_true (by first | (with_reducible assumption) | assumption); obtain ⟨go12, co12, eo12, gb12, gl12, cl12, HG12⟩ := Kd.S_form HO_4.out (by omega); (first | cases eo12 | (injection eo12 with ea_ en_ ec_; (first | subst ea_ | (injection ea_ with ea_; subst ea_)); subst ec_; clear en_)); have GB12 := Aside0.mk gb12; have GG12 := Aside0.mk HG12; clear gb12 gl12 HG12; obtain ⟨_, ce12, hcl12, hM12, hcc12, hfr12, _, _⟩ := Kd.S_elem HO_4.out [] (x26_1 : Int) p12 q12; obtain ⟨ve12_0, rfl, ge12_0⟩ := hM12; have hx12_0 := hcc12 0 _ rfl; have hf12_0 := hfr12 0; (try simp only [show ((Kd.slice 3 (Kd.int .i64))).sz = 1 from rfl, Nat.mul_one, Nat.add_zero] at hx12_0); (try simp only [show ((Kd.slice 3 (Kd.int .i64))).sz = 1 from rfl, Nat.mul_one, Nat.add_zero] at hf12_0); (clear hcl12 hcc12 hfr12; (try clear hM12)); replace p12 := eq_true p12; replace q12 := eq_true q12; have n_ := Aside0.mk (Kd.S_mono (ok' := (fun k_ => some k_ ≠ (v206 : Value).ownBlock)) HO_4.out (fun k_ hk => hk.2)); clear HO_4; have HO_4 := n_; clear n_; have HX15 := Aside0.mk (show Kd.S (Kd.slice 3 (Kd.int .i64)) 41 w13 w.heap.size (fun k_ => ((fun _ => True)) k_ ∧ ¬ ((fun k_ => some k_ = (v206 : Value).ownBlock)) k_) (.slice (some ⟨go12, 0, none⟩) x4_1.length co12) x4_1 from (by (with_reducible repeat (first | apply Kd.S_alloc | apply Kd.S_drewN | apply Kd.S_drew)); exact Kd.S_mono HO_4.out (fun k_ hk => ⟨trivial, fun e_ => hk e_⟩))); obtain ⟨oki15, ce15, hcl15, hM15, hcc15, hfr15, hoki15, hH15⟩ := Kd.S_elem HX15.out [] (x26_1 : Int) (of_decide_eq_true (by first | (with_reducible assumption) | assumption)) (by have h_ : (x26_1 : Int) < ((x4_1.length : Int) : Int) := of_decide_eq_true (by first | (with_reducible assumption) | assumption); first | exact h_ | (have e_ := (Kd.S_reads' HO_4.out).1; omega) | simpa using h_); obtain ⟨ve15_0, rfl, ge15_0⟩ := hM15; have HP15 := Kd.S_seg hH15 (of_decide_eq_true (by first | (with_reducible assumption) | assumption)) (by have h_ : (x26_1 : Int) < ((x4_1.length : Int) : Int) := of_decide_eq_true (by first | (with_reducible assumption) | assumption); first | exact h_ | (have e_ := (Kd.S_reads' HO_4.out).1; omega) | simpa using h_) (seg := [v206]) (j := 0) (show 1 ≤ 1 from by decide) (x' := y205) (Kd.M_row (Kd.R_mono (Kd.R_tight rfl (Kd.R_mono (ok' := fun k_ => ((fun _ => True)) k_ ∧ k_ ≠ go12) (Kd.R_apart' (HO207.out) (Kd.S_typed HO_4.out) (by decide)) (fun k_ hk => ⟨trivial, fun e_ => (hk.2) (by rw [e_]; rfl)⟩))) (fun _ h_ => Or.inr (h_)))) (fun _ hk => hk) (fun k_ hk_ => ((Kd.R_mono (ok' := fun k_ => ((fun _ => True)) k_ ∧ k_ ≠ go12) (Kd.R_apart' (HO207.out) (Kd.S_typed HO_4.out) (by decide)) (fun k_ hk => ⟨trivial, fun e_ => (hk.2) (by rw [e_]; rfl)⟩))).1 k_ hk_.symm); have hx15_0 := hcc15 0 _ rfl; (try simp only [show ((Kd.slice 3 (Kd.int .i64))).sz = 1 from rfl, Nat.mul_one, Nat.add_zero] at hx15_0); have hf15_0 := hfr15 0; (try simp only [show ((Kd.slice 3 (Kd.int .i64))).sz = 1 from rfl, Nat.mul_one, Nat.add_zero] at hf15_0); (clear hcl15 hcc15 hfr15; (try clear hM15); clear hoki15 hH15); (try simp only [show ((Kd.slice 3 (Kd.int .i64))).sz = 1 from rfl, Nat.mul_one, Nat.add_zero] at HP15)) | ((with_reducible refine gate_store (t := 41) (p := 34) rfl ?_); (try (rw [drewN_self w13]; generalize hq_ : World.drewN w13 _ = w13; have n0_ := Aside0.mk (Kd.S_at hq_ HO_4.out); have n1_ := Aside0.mk (below_at hq_ HB.out); (try replace hx12_0 := cell_at hq_ hx12_0); (try replace hf12_0 := (fun {W_ W2_ : World} {n_ : Nat} {a_ : Addr} {b_ : Bool} (h_ : W_.drewN n_ = W2_) (e_ : W_.frozen? a_ = b_) => (by subst h_; exact e_ : W2_.frozen? a_ = b_)) hq_ hf12_0); (try replace hx15_0 := cell_at hq_ hx15_0); (try replace hf15_0 := (fun {W_ W2_ : World} {n_ : Nat} {a_ : Addr} {b_ : Bool} (h_ : W_.drewN n_ = W2_) (e_ : W_.frozen? a_ = b_) => (by subst h_; exact e_ : W2_.frozen? a_ = b_)) hq_ hf15_0); clear hq_ HO_4 HB; have HO_4 := n0_; have HB := n1_; clear n0_ n1_; (try (have n_ := Aside0.mk (Kd.S_mono (ok' := (fun k_ => some k_ ≠ (v206 : Value).ownBlock)) HO_4.out (fun k_ hk => hk.2)); clear HO_4; have HO_4 := n_; clear n_)); (try (have HX15 := Aside0.mk (show Kd.S (Kd.slice 3 (Kd.int .i64)) 41 w13 w.heap.size (fun k_ => ((fun _ => True)) k_ ∧ ¬ ((fun k_ => some k_ = (v206 : Value).ownBlock)) k_) (.slice (some ⟨go12, 0, none⟩) x4_1.length co12) x4_1 from (by (with_reducible repeat (first | apply Kd.S_alloc | apply Kd.S_drewN | apply Kd.S_drew)); exact Kd.S_mono HO_4.out (fun k_ hk => ⟨trivial, fun e_ => hk e_⟩))))); (try (obtain ⟨oki15, ce15, hcl15, hM15, hcc15, hfr15, hoki15, hH15⟩ := Kd.S_elem HX15.out [] (x26_1 : Int) (of_decide_eq_true (by first | (with_reducible assumption) | assumption)) (by have h_ : (x26_1 : Int) < ((x4_1.length : Int) : Int) := of_decide_eq_true (by first | (with_reducible assumption) | assumption); first | exact h_ | (have e_ := (Kd.S_reads' HO_4.out).1; omega) | simpa using h_))); (try (obtain ⟨ve15_0, rfl, ge15_0⟩ := hM15)); (try (have HP15 := Kd.S_seg hH15 (of_decide_eq_true (by first | (with_reducible assumption) | assumption)) (by have h_ : (x26_1 : Int) < ((x4_1.length : Int) : Int) := of_decide_eq_true (by first | (with_reducible assumption) | assumption); first | exact h_ | (have e_ := (Kd.S_reads' HO_4.out).1; omega) | simpa using h_) (seg := [v206]) (j := 0) (show 1 ≤ 1 from by decide) (x' := y205) (Kd.M_row (Kd.R_mono (Kd.R_tight rfl (Kd.R_mono (ok' := fun k_ => ((fun _ => True)) k_ ∧ k_ ≠ go12) (Kd.R_apart' (HO207.out) (Kd.S_typed HO_4.out) (by decide)) (fun k_ hk => ⟨trivial, fun e_ => (hk.2) (by rw [e_]; rfl)⟩))) (fun _ h_ => Or.inr (h_)))) (fun _ hk => hk) (fun k_ hk_ => ((Kd.R_mono (ok' := fun k_ => ((fun _ => True)) k_ ∧ k_ ≠ go12) (Kd.R_apart' (HO207.out) (Kd.S_typed HO_4.out) (by decide)) (fun k_ hk => ⟨trivial, fun e_ => (hk.2) (by rw [e_]; rfl)⟩))).1 k_ hk_.symm))); (try (have hx15_0 := hcc15 0 _ rfl)); (try (try simp only [show ((Kd.slice 3 (Kd.int .i64))).sz = 1 from rfl, Nat.mul_one, Nat.add_zero] at hx15_0)); (try (have hf15_0 := hfr15 0)); (try (try simp only [show ((Kd.slice 3 (Kd.int .i64))).sz = 1 from rfl, Nat.mul_one, Nat.add_zero] at hf15_0)); (try (clear hcl15 hcc15 hfr15; (try clear hM15); clear hoki15 hH15)); (try (try simp only [show ((Kd.slice 3 (Kd.int .i64))).sz = 1 from rfl, Nat.mul_one, Nat.add_zero] at HP15)))); refine store_event (t := 41) (p := 34) (v := ?vo_w16) (w1 := (w13.setCell ⟨go12, (x26_1 : Int).toNat, none⟩ (v206))) ?hg ?ho ?hn ?hr ?_; (case ho => rfl); (case hg => rfl); (case hn => rfl); (case hr => first | (go_simp; done) | (go_simp; rfl) | (obtain ⟨Ag_, cg_, eg_⟩ := Kd.R_slice HO207.out; subst eg_; first | (go_simp; done) | (go_simp; rfl))); intro w16 hw; have hg : w13.grownBy w16 (some go12) := (by rw [hw]; exact HP15.2); have hp_ : Kd.S (Kd.slice 3 (Kd.int .i64)) 41 w16 w.heap.size (fun _ => True) (.slice (some ⟨go12, 0, none⟩) x4_1.length co12) y208 := (by rw [hw, Ny208.out]; exact HP15.1); clear HP15; have n0_ := Aside0.mk (hp_); have n1_ := Aside0.mk ((by rw [hw]; exact below_set (HB.out) GB12.out : Below w.heap.size w w16)); clear HO_4; clear HB; clear HO207; have HO_4 := n0_; have HB := n1_; clear n0_ n1_; clear hg hw hp_)))
                    go_loopg [5, 37] k1 (fun kq v5 v37 w' => ∃ (x4_2 : List (List Int)) (x5_2 : Int) (x37_2 : Int), v5 = .int .i64 x5_2 ∧ v37 = .int .i64 x37_2 ∧ Aside0 (impl_OpenSchedule.l1 kq l0 x4_2 x5_2 x26_1 l0 (l0.length : Int) x26_1 (rd_L1 l0 x26_1) ((rd_L1 l0 x26_1).length : Int) x37_2 = some (r1, r2)) ∧ Aside0 (kq ≤ k1) ∧ Aside0 (Kd.S (Kd.slice 3 (Kd.int .i64)) 41 w' w.heap.size (fun _ => True) (.slice (some ⟨go12, 0, none⟩) x4_1.length co12) x4_2) ∧ Aside0 (Below w.heap.size w w'))
                    case atStart => exact ⟨(y208), (x5_1), (0), (by first | rfl | (simp; done) | (simp [*]; done)), (by first | rfl | (simp; done) | (simp [*]; done)), H', ⟨Nat.le_refl _⟩, ⟨by (with_reducible repeat (first | apply Kd.S_alloc | apply Kd.S_drewN | apply Kd.S_drew)); exact HO_4.out⟩, ⟨by repeat (first | (with_reducible first | exact HB.out | apply below_alloc | apply pw_below_drewN | apply below_drew1) | exact HB.out)⟩⟩
                    case round =>
                      clear H'
                      try clear c1
                      try clear p1
                      try clear q1
                      try clear hx1
                      try clear hf1
                      try clear c2
                      try clear p2
                      try clear q2
                      try clear hx2
                      try clear c3
                      try clear c4
                      try clear c4b0
                      try clear c4b1
                      try clear c5
                      try clear c5b0
                      try clear c5b1
                      try clear c8
                      try clear c8b0
                      try clear c9
                      try clear c9b0
                      try clear c10
                      try clear c10b0
                      try clear c11
                      try clear c11b0
                      try clear c12
                      try clear p12
                      try clear q12
                      try clear hx12
                      try clear hf12
                      try clear c15
                      try clear hx15
                      try clear hf15
                      try clear hx12_0
                      try clear hx15_0
                      try clear hx204_0
                      try clear p12
                      try clear p2
                      try clear p204
                      try clear q12
                      try clear q204
                      obtain ⟨x4_2, x5_2, x37_2, rfl, rfl, HA, HK2, HO_4, HB⟩ := hrel
                      have hl4_2 := (Kd.S_reads' HO_4.out).1
                      rw [hl4_2] at HO_4
                      (try simp only [hl4_2])
                      cases gk with
                      | zero => exact absurd HA.out (by simp [impl_OpenSchedule.l1])
                      | succ k2 =>
                        have H := HA.out
                        clear HA
                        simp only [impl_OpenSchedule.l1] at H
                        by_cases c17 : x37_2 < ((rd_L1 l0 x26_1).length : Int)
                        · rw [if_pos c17] at H
                          have c17b0 : decide (x37_2 < ((rd_L1 l0 x26_1).length : Int)) = true := decide_eq_true c17
                          clear c17
                          by_cases c18 : 0 ≤ x37_2
                          · rw [if_pos c18] at H
                            have c18b0 : decide (0 ≤ x37_2) = true := decide_eq_true c18
                            clear c18
                            by_cases c19 : x37_2 < ((rd_L1 l0 x26_1).length : Int)
                            · rw [if_pos c19] at H
                              have c19b0 : decide (x37_2 < ((rd_L1 l0 x26_1).length : Int)) = true := decide_eq_true c19
                              clear c19
                              by_cases c20 : (rd (rd_L1 l0 x26_1) x37_2) = 0
                              · rw [if_pos c20] at H
                                have c20b0 : ((rd (rd_L1 l0 x26_1) x37_2) == 0) = true := beq_iff_eq.mpr c20
                                have c20b1 : ((rd (rd_L1 l0 x26_1) x37_2) != 0) = false := bne_eq_false_iff_eq.mpr c20
                                clear c20
                                by_cases c21 : 0 ≤ x26_1
                                · rw [if_pos c21] at H
                                  have c21b0 : decide (0 ≤ x26_1) = true := decide_eq_true c21
                                  clear c21
                                  by_cases c22 : x26_1 < (x4_2.length : Int)
                                  · rw [if_pos c22] at H
                                    have c22b0 : decide (x26_1 < (x4_2.length : Int)) = true := decide_eq_true c22
                                    clear c22
                                    by_cases c23 : x37_2 < ((rd_L1 x4_2 x26_1).length : Int)
                                    · rw [if_pos c23] at H
                                      have c23b0 : decide (x37_2 < ((rd_L1 x4_2 x26_1).length : Int)) = true := decide_eq_true c23
                                      clear c23
                                      obtain ⟨y211, hy211⟩ : ∃ y_ : List Int, y_ = ((rd_L1 x4_2 x26_1).set (x37_2 : Int).toNat 0) := ⟨_, rfl⟩
                                      replace H : (impl_OpenSchedule.l1 k2 l0 (x4_2.set (x26_1 : Int).toNat y211) x5_2 x26_1 l0 (l0.length : Int) x26_1 (rd_L1 l0 x26_1) ((rd_L1 l0 x26_1).length : Int) (wrap64 (x37_2 + 1))) = some (r1, r2) := by first | (rw [hy211]; with_reducible exact H) | (have H2_ := (Option.bind_some _ _).symm.trans H; rw [hy211]; with_reducible exact H2_) | (have H2_ := (Option.bind_some _ _).symm.trans H; with_reducible exact H2_) | with_reducible exact H | (rw [hy211]; exact H) | exact H
                                      have Ny211 := Aside0.mk hy211
                                      clear hy211
                                      obtain ⟨y213, hy213⟩ : ∃ y_ : List (List Int), y_ = (x4_2.set (x26_1 : Int).toNat y211) := ⟨_, rfl⟩
                                      replace H : (impl_OpenSchedule.l1 k2 l0 y213 x5_2 x26_1 l0 (l0.length : Int) x26_1 (rd_L1 l0 x26_1) ((rd_L1 l0 x26_1).length : Int) (wrap64 (x37_2 + 1))) = some (r1, r2) := by first | (rw [hy213]; with_reducible exact H) | (have H2_ := (Option.bind_some _ _).symm.trans H; rw [hy213]; with_reducible exact H2_) | (have H2_ := (Option.bind_some _ _).symm.trans H; with_reducible exact H2_) | with_reducible exact H | (rw [hy213]; exact H) | exact H
                                      have Ny213 := Aside0.mk hy213
                                      clear hy213
                                      have H' := Aside0.mk H
                                      clear H
                                      have p209 : 0 ≤ (x37_2 : Int) := of_decide_eq_true (by first | (with_reducible assumption) | assumption)
                                      have q209 : x37_2 < ((rd_L1 l0 x26_1).length : Int) := of_decide_eq_true (by first | (with_reducible assumption) | assumption)
                                      obtain ⟨ad209, e209, hx209_0⟩ := Kd.at_int HR204_0.out x37_2 p209 q209
                                      cases e209
                                      replace hx209_0 := (HB.out.cell (World.block_lt_of_cell? w _ hx209_0)).trans hx209_0
                                      replace p209 := eq_true p209
                                      replace q209 := eq_true q209
                                      have p210 : 0 ≤ (x26_1 : Int) := of_decide_eq_true (by first | (with_reducible assumption) | assumption)
                                      have q210 : x26_1 < (x4_2.length : Int) := of_decide_eq_true (by first | (with_reducible assumption) | assumption)
                                      obtain ⟨ad210, A210_0, c210_0, e210, hx210_0, hl210_0, hi210_0⟩ := at_L1 (Kd.S_reads' HO_4.out).2.2 x26_1 p210 q210
                                      obtain rfl : (⟨go12, 0, none⟩ : Addr) = ad210 := (by injection e210)
                                      obtain ⟨ce210, hce210, hMe210, hcc210⟩ := Kd.S_get HO_4.out [] x26_1 p210 (by first | exact q210 | exact of_decide_eq_true (by first | (with_reducible assumption) | assumption) | (have e_ := (Kd.S_reads' HO_4.out).1; omega))
                                      obtain ⟨ve210_0, rfl, ge210_0⟩ := hMe210
                                      have hv210_0 := hcc210 0 _ rfl
                                      rw [Nat.add_zero, show ((Kd.slice 3 (Kd.int .i64))).sz = 1 from rfl, Nat.mul_one] at hv210_0
                                      replace hv210_0 := Option.some.inj (hv210_0.symm.trans hx210_0)
                                      rw [hv210_0] at ge210_0
                                      have HL210_0 := Aside0.mk (show Kd.R (Kd.int .i64) 3 _ _ _ _ (rd_L1 x4_2 x26_1) from ge210_0)
                                      clear hv210_0 ge210_0
                                      have HX210_0 := Aside0.mk hx210_0
                                      clear hcc210 hce210
                                      (first | simp only [add_plain] at hx210_0 | simp only [add_at] at hx210_0 | simp only [Addr.add, Nat.zero_add] at hx210_0 | skip)
                                      have HR210_0 := Aside0.mk hi210_0
                                      have HC210_0 := Aside0.mk hl210_0
                                      clear hi210_0 hl210_0
                                      replace p210 := eq_true p210
                                      replace q210 := eq_true q210
                                      have p24 : 0 ≤ (x37_2 : Int) := of_decide_eq_true (by first | (with_reducible assumption) | assumption)
                                      have q24 : (x37_2 : Int) < (((rd_L1 x4_2 x26_1).length : Int) : Int) := of_decide_eq_true (by first | (with_reducible assumption) | assumption)
                                      obtain ⟨go24, co24, eo24, gb24, gl24, cl24, HG24⟩ := Kd.R_form HL210_0.out (by omega)
                                      (first | cases eo24 | (injection eo24 with ea_ en_ ec_; (first | subst ea_ | (injection ea_ with ea_; subst ea_)); subst ec_; clear en_))
                                      have GB24 := Aside0.mk gb24
                                      have GG24 := Aside0.mk HG24
                                      clear gb24 gl24 HG24
                                      obtain ⟨hx24_0, hf24_0⟩ := Kd.R_celln 0 HL210_0.out (x37_2 : Int) p24 q24
                                      replace p24 := eq_true p24
                                      replace q24 := eq_true q24
                                      have hq25 : (x26_1 : Int) < (x4_2.length : Int) := (by have h_ : (x26_1 : Int) < ((x4_2.length : Int) : Int) := of_decide_eq_true (by first | (with_reducible assumption) | assumption); first | exact h_ | (have e_ := (Kd.S_reads' HO_4.out).1; omega) | simpa only [List.length_set, List.length_set] using h_)
                                      obtain ⟨oki25, ce25, hcl25, hM25, hcc25, hok25, hbk25⟩ := Kd.S_borrow HO_4.out [] (x26_1 : Int) (of_decide_eq_true (by first | (with_reducible assumption) | assumption)) hq25
                                      obtain ⟨ve25_0, rfl, ge25_0⟩ := hM25
                                      have hv25 := hcc25 0 _ rfl
                                      rw [Nat.add_zero, show ((Kd.slice 3 (Kd.int .i64))).sz = 1 from rfl, Nat.mul_one] at hv25
                                      replace hv25 := Option.some.inj (hv25.symm.trans HX210_0.out)
                                      subst hv25
                                      clear hcc25 hcl25
                                      replace ge25_0 := (show Kd.R (Kd.int .i64) 3 _ _ _ _ (rd_L1 x4_2 x26_1) from ge25_0)
                                      have HP25 := Kd.R_putg ge25_0 (x37_2 : Int) 0
                                      go_wp2_with (first | ((with_reducible refine gate_store (t := 3) (p := 49) rfl ?_); (try (rw [drewN_self wr]; generalize hq_ : World.drewN wr _ = wr; have n0_ := Aside0.mk (Kd.S_at hq_ HO_4.out); have n1_ := Aside0.mk (Kd.R_at hq_ HL239.out); have n2_ := Aside0.mk (below_at hq_ HB.out); (try replace hx24_0 := cell_at hq_ hx24_0); (try replace hf24_0 := (fun {W_ W2_ : World} {n_ : Nat} {a_ : Addr} {b_ : Bool} (h_ : W_.drewN n_ = W2_) (e_ : W_.frozen? a_ = b_) => (by subst h_; exact e_ : W2_.frozen? a_ = b_)) hq_ hf24_0); clear hq_ HO_4 HL239 HB; have HO_4 := n0_; have HL239 := n1_; have HB := n2_; clear n0_ n1_ n2_; (try (have hq25 : (x26_1 : Int) < (x4_2.length : Int) := (by have h_ : (x26_1 : Int) < ((x4_2.length : Int) : Int) := of_decide_eq_true (by first | (with_reducible assumption) | assumption); first | exact h_ | (have e_ := (Kd.S_reads' HO_4.out).1; omega) | simpa only [List.length_set, List.length_set] using h_))); (try (obtain ⟨oki25, ce25, hcl25, hM25, hcc25, hok25, hbk25⟩ := Kd.S_borrow HO_4.out [] (x26_1 : Int) (of_decide_eq_true (by first | (with_reducible assumption) | assumption)) hq25)); (try (obtain ⟨ve25_0, rfl, ge25_0⟩ := hM25)); (try (have hv25 := hcc25 0 _ rfl)); (try (rw [Nat.add_zero, show ((Kd.slice 3 (Kd.int .i64))).sz = 1 from rfl, Nat.mul_one] at hv25)); (try (replace hv25 := Option.some.inj (hv25.symm.trans HX210_0.out))); (try (subst hv25)); (try (clear hcc25 hcl25)); (try (replace ge25_0 := (show Kd.R (Kd.int .i64) 3 _ _ _ _ (rd_L1 x4_2 x26_1) from ge25_0))); (try (have HP25 := Kd.R_putg ge25_0 (x37_2 : Int) 0)))); refine store_event (t := 3) (p := 49) (v := ?vo_w26) (w1 := (wr.setCell ⟨go24, (x37_2 : Int).toNat, none⟩ (.int .i64 0))) ?hg ?ho ?hn ?hr ?_; (case ho => rfl); (case hg => rfl); (case hn => rfl); (case hr => first | (go_simp; done) | (go_simp; rfl)); intro w26 hw; have hg : wr.grownBy w26 (some go24) := (by rw [hw]; exact HP25.2); have hz_ : Kd.R (Kd.int .i64) 3 w26 w.heap.size oki25 (.slice (some ⟨go24, 0, none⟩) (rd_L1 x4_2 x26_1).length c210_0) y211 := (by rw [hw, Ny211.out]; exact HP25.1); have hp_ : Kd.S (Kd.slice 3 (Kd.int .i64)) 41 w26 w.heap.size (fun _ => True) (.slice (some ⟨go12, 0, none⟩) x4_2.length co12) y213 := (by rw [Ny213.out]; exact hbk25 hg (fun k_ e_ => by injection e_ with e_; subst e_; exact ge25_0.1 _ rfl) (Kd.M_row hz_)); have hm_ := Kd.R_mono hz_ hok25; clear HP25 hbk25; have n0_ := Aside0.mk (hp_); have n1_ := Aside0.mk ((by rw [hw]; exact below_set (HB.out) GB24.out : Below w.heap.size w w26)); have n2_ := Aside0.mk (hm_); have n3_ := Aside0.mk ((Kd.R_reads' hm_).2.1); clear HO_4; clear HB; clear HL210_0; have HO_4 := n0_; have HB := n1_; have HL239 := n2_; have HC212 := n3_; clear n0_ n1_ n2_ n3_; clear hg hw hp_ hz_ hm_ hok25))
                                      repeat (go_quiet (first | ((with_reducible refine gate_store (t := 3) (p := 49) rfl ?_); (try (rw [drewN_self wr]; generalize hq_ : World.drewN wr _ = wr; have n0_ := Aside0.mk (Kd.S_at hq_ HO_4.out); have n1_ := Aside0.mk (Kd.R_at hq_ HL239.out); have n2_ := Aside0.mk (below_at hq_ HB.out); (try replace hx24_0 := cell_at hq_ hx24_0); (try replace hf24_0 := (fun {W_ W2_ : World} {n_ : Nat} {a_ : Addr} {b_ : Bool} (h_ : W_.drewN n_ = W2_) (e_ : W_.frozen? a_ = b_) => (by subst h_; exact e_ : W2_.frozen? a_ = b_)) hq_ hf24_0); clear hq_ HO_4 HL239 HB; have HO_4 := n0_; have HL239 := n1_; have HB := n2_; clear n0_ n1_ n2_; (try (have hq25 : (x26_1 : Int) < (x4_2.length : Int) := (by have h_ : (x26_1 : Int) < ((x4_2.length : Int) : Int) := of_decide_eq_true (by first | (with_reducible assumption) | assumption); first | exact h_ | (have e_ := (Kd.S_reads' HO_4.out).1; omega) | simpa only [List.length_set, List.length_set] using h_))); (try (obtain ⟨oki25, ce25, hcl25, hM25, hcc25, hok25, hbk25⟩ := Kd.S_borrow HO_4.out [] (x26_1 : Int) (of_decide_eq_true (by first | (with_reducible assumption) | assumption)) hq25)); (try (obtain ⟨ve25_0, rfl, ge25_0⟩ := hM25)); (try (have hv25 := hcc25 0 _ rfl)); (try (rw [Nat.add_zero, show ((Kd.slice 3 (Kd.int .i64))).sz = 1 from rfl, Nat.mul_one] at hv25)); (try (replace hv25 := Option.some.inj (hv25.symm.trans HX210_0.out))); (try (subst hv25)); (try (clear hcc25 hcl25)); (try (replace ge25_0 := (show Kd.R (Kd.int .i64) 3 _ _ _ _ (rd_L1 x4_2 x26_1) from ge25_0))); (try (have HP25 := Kd.R_putg ge25_0 (x37_2 : Int) 0)))); refine store_event (t := 3) (p := 49) (v := ?vo_w26) (w1 := (wr.setCell ⟨go24, (x37_2 : Int).toNat, none⟩ (.int .i64 0))) ?hg ?ho ?hn ?hr ?_; (case ho => rfl); (case hg => rfl); (case hn => rfl); (case hr => first | (go_simp; done) | (go_simp; rfl)); intro w26 hw; have hg : wr.grownBy w26 (some go24) := (by rw [hw]; exact HP25.2); have hz_ : Kd.R (Kd.int .i64) 3 w26 w.heap.size oki25 (.slice (some ⟨go24, 0, none⟩) (rd_L1 x4_2 x26_1).length c210_0) y211 := (by rw [hw, Ny211.out]; exact HP25.1); have hp_ : Kd.S (Kd.slice 3 (Kd.int .i64)) 41 w26 w.heap.size (fun _ => True) (.slice (some ⟨go12, 0, none⟩) x4_2.length co12) y213 := (by rw [Ny213.out]; exact hbk25 hg (fun k_ e_ => by injection e_ with e_; subst e_; exact ge25_0.1 _ rfl) (Kd.M_row hz_)); have hm_ := Kd.R_mono hz_ hok25; clear HP25 hbk25; have n0_ := Aside0.mk (hp_); have n1_ := Aside0.mk ((by rw [hw]; exact below_set (HB.out) GB24.out : Below w.heap.size w w26)); have n2_ := Aside0.mk (hm_); have n3_ := Aside0.mk ((Kd.R_reads' hm_).2.1); clear HO_4; clear HB; clear HL210_0; have HO_4 := n0_; have HB := n1_; have HL239 := n2_; have HC212 := n3_; clear n0_ n1_ n2_ n3_; clear hg hw hp_ hz_ hm_ hok25)); try go_wp2_with (first | ((with_reducible refine gate_store (t := 3) (p := 49) rfl ?_); (try (rw [drewN_self wr]; generalize hq_ : World.drewN wr _ = wr; have n0_ := Aside0.mk (Kd.S_at hq_ HO_4.out); have n1_ := Aside0.mk (Kd.R_at hq_ HL239.out); have n2_ := Aside0.mk (below_at hq_ HB.out); (try replace hx24_0 := cell_at hq_ hx24_0); (try replace hf24_0 := (fun {W_ W2_ : World} {n_ : Nat} {a_ : Addr} {b_ : Bool} (h_ : W_.drewN n_ = W2_) (e_ : W_.frozen? a_ = b_) => (by subst h_; exact e_ : W2_.frozen? a_ = b_)) hq_ hf24_0); clear hq_ HO_4 HL239 HB; have HO_4 := n0_; have HL239 := n1_; have HB := n2_; clear n0_ n1_ n2_; (try (have hq25 : (x26_1 : Int) < (x4_2.length : Int) := (by have h_ : (x26_1 : Int) < ((x4_2.length : Int) : Int) := of_decide_eq_true (by first | (with_reducible assumption) | assumption); first | exact h_ | (have e_ := (Kd.S_reads' HO_4.out).1; omega) | simpa only [List.length_set, List.length_set] using h_))); (try (obtain ⟨oki25, ce25, hcl25, hM25, hcc25, hok25, hbk25⟩ := Kd.S_borrow HO_4.out [] (x26_1 : Int) (of_decide_eq_true (by first | (with_reducible assumption) | assumption)) hq25)); (try (obtain ⟨ve25_0, rfl, ge25_0⟩ := hM25)); (try (have hv25 := hcc25 0 _ rfl)); (try (rw [Nat.add_zero, show ((Kd.slice 3 (Kd.int .i64))).sz = 1 from rfl, Nat.mul_one] at hv25)); (try (replace hv25 := Option.some.inj (hv25.symm.trans HX210_0.out))); (try (subst hv25)); (try (clear hcc25 hcl25)); (try (replace ge25_0 := (show Kd.R (Kd.int .i64) 3 _ _ _ _ (rd_L1 x4_2 x26_1) from ge25_0))); (try (have HP25 := Kd.R_putg ge25_0 (x37_2 : Int) 0)))); refine store_event (t := 3) (p := 49) (v := ?vo_w26) (w1 := (wr.setCell ⟨go24, (x37_2 : Int).toNat, none⟩ (.int .i64 0))) ?hg ?ho ?hn ?hr ?_; (case ho => rfl); (case hg => rfl); (case hn => rfl); (case hr => first | (go_simp; done) | (go_simp; rfl)); intro w26 hw; have hg : wr.grownBy w26 (some go24) := (by rw [hw]; exact HP25.2); have hz_ : Kd.R (Kd.int .i64) 3 w26 w.heap.size oki25 (.slice (some ⟨go24, 0, none⟩) (rd_L1 x4_2 x26_1).length c210_0) y211 := (by rw [hw, Ny211.out]; exact HP25.1); have hp_ : Kd.S (Kd.slice 3 (Kd.int .i64)) 41 w26 w.heap.size (fun _ => True) (.slice (some ⟨go12, 0, none⟩) x4_2.length co12) y213 := (by rw [Ny213.out]; exact hbk25 hg (fun k_ e_ => by injection e_ with e_; subst e_; exact ge25_0.1 _ rfl) (Kd.M_row hz_)); have hm_ := Kd.R_mono hz_ hok25; clear HP25 hbk25; have n0_ := Aside0.mk (hp_); have n1_ := Aside0.mk ((by rw [hw]; exact below_set (HB.out) GB24.out : Below w.heap.size w w26)); have n2_ := Aside0.mk (hm_); have n3_ := Aside0.mk ((Kd.R_reads' hm_).2.1); clear HO_4; clear HB; clear HL210_0; have HO_4 := n0_; have HB := n1_; have HL239 := n2_; have HC212 := n3_; clear n0_ n1_ n2_ n3_; clear hg hw hp_ hz_ hm_ hok25)))
                                      (try simp only [← hl4_2])
                                      go_roundg k2
                                      case measure => have := HK1.out; have := HK2.out; omega
                                      case rel => exact ⟨(y213), (x5_2), (wrap64 (x37_2 + 1)), (by first | rfl | (simp; done) | (simp [*]; done)), (by first | rfl | (simp; done) | (simp [*]; done)), H', ⟨by have := HK1.out; have := HK2.out; omega⟩, ⟨by (try simp only [hl4_2]); (with_reducible repeat (first | apply Kd.S_alloc | apply Kd.S_drewN | apply Kd.S_drew)); exact HO_4.out⟩, ⟨by repeat (first | (with_reducible first | exact HB.out | apply below_alloc | apply pw_below_drewN | apply below_drew1) | exact HB.out)⟩⟩
                                    · rw [if_neg c23] at H
                                      exact absurd H (by simp)
                                  · rw [if_neg c22] at H
                                    exact absurd H (by simp)
                                · rw [if_neg c21] at H
                                  exact absurd H (by simp)
                              · rw [if_neg c20] at H
                                have c20b0 : ((rd (rd_L1 l0 x26_1) x37_2) == 0) = false := beq_eq_false_iff_ne.mpr c20
                                have c20b1 : ((rd (rd_L1 l0 x26_1) x37_2) != 0) = true := bne_iff_ne.mpr c20
                                have H' := Aside0.mk H
                                clear H
                                have p209 : 0 ≤ (x37_2 : Int) := of_decide_eq_true (by first | (with_reducible assumption) | assumption)
                                have q209 : x37_2 < ((rd_L1 l0 x26_1).length : Int) := of_decide_eq_true (by first | (with_reducible assumption) | assumption)
                                obtain ⟨ad209, e209, hx209_0⟩ := Kd.at_int HR204_0.out x37_2 p209 q209
                                cases e209
                                replace hx209_0 := (HB.out.cell (World.block_lt_of_cell? w _ hx209_0)).trans hx209_0
                                replace p209 := eq_true p209
                                replace q209 := eq_true q209
                                go_wp2
                                repeat (go_quiet (fail); try go_wp2)
                                (try simp only [← hl4_2])
                                go_roundg k2
                                case measure => have := HK1.out; have := HK2.out; omega
                                case rel => exact ⟨(x4_2), (wrap64 (x5_2 + 1)), (wrap64 (x37_2 + 1)), (by first | rfl | (simp; done) | (simp [*]; done)), (by first | rfl | (simp; done) | (simp [*]; done)), H', ⟨by have := HK1.out; have := HK2.out; omega⟩, ⟨by (try simp only [hl4_2]); (with_reducible repeat (first | apply Kd.S_alloc | apply Kd.S_drewN | apply Kd.S_drew)); exact HO_4.out⟩, ⟨by repeat (first | (with_reducible first | exact HB.out | apply below_alloc | apply pw_below_drewN | apply below_drew1) | exact HB.out)⟩⟩
                            · rw [if_neg c19] at H
                              exact absurd H (by simp)
                          · rw [if_neg c18] at H
                            exact absurd H (by simp)
                        · rw [if_neg c17] at H
                          have c17b0 : decide (x37_2 < ((rd_L1 l0 x26_1).length : Int)) = false := decide_eq_false c17
                          clear c17
                          have H' := Aside0.mk H
                          clear H
                          go_wp2
                          repeat (go_quiet (fail); try go_wp2)
                          (try simp only [← hl4_2])
                          go_roundg k2
                          case measure => have := HK1.out; have := HK2.out; omega
                          case rel => exact ⟨(x4_2), (x5_2), (wrap64 (x26_1 + 1)), (by first | rfl | (simp; done) | (simp [*]; done)), (by first | rfl | (simp; done) | (simp [*]; done)), H', ⟨by have := HK1.out; have := HK2.out; omega⟩, ⟨by (try simp only [hl4_2]); (with_reducible repeat (first | apply Kd.S_alloc | apply Kd.S_drewN | apply Kd.S_drew)); exact HO_4.out⟩, ⟨by repeat (first | (with_reducible first | exact HB.out | apply below_alloc | apply pw_below_drewN | apply below_drew1) | exact HB.out)⟩⟩
                  · rw [if_neg c11] at H
                    exact absurd H (by simp)
                · rw [if_neg c10] at H
                  exact absurd H (by simp)
              · rw [if_neg c9] at H
                exact absurd H (by simp)
            · rw [if_neg c8] at H
              have c8b0 : decide (x26_1 < (l0.length : Int)) = false := decide_eq_false c8
              clear c8
              obtain ⟨y214, hy214⟩ : ∃ y_ : List Int, y_ = (([0, 0] : List Int)) := ⟨_, rfl⟩
              replace H : (impl_OpenSchedule.l2 k1 l0 x4_1 x5_1 y214 0) = some (r1, r2) := by first | (rw [hy214]; with_reducible exact H) | (have H2_ := (Option.bind_some _ _).symm.trans H; rw [hy214]; with_reducible exact H2_) | (have H2_ := (Option.bind_some _ _).symm.trans H; with_reducible exact H2_) | with_reducible exact H | (rw [hy214]; exact H) | exact H
              have Ny214 := Aside0.mk hy214
              clear hy214
              have H' := Aside0.mk H
              clear H
              go_wp2_with (first | ((with_reducible refine gate_dst (N := 54) rfl ?_); refine Kd.R_lit (Kd.int .i64) _ 3 ?hg (N := 54) ?hd (xs := ([0, 0] : List Int)) (inner := [.int .i64 0, .int .i64 0]) (ok := fun _ => True) (okp := fun _ => True) ?hr ?hp (fun _ hk => hk) trivial (Below.refl _ _) (Nat.le_refl _) (by simp) ?_; (case hd => rfl); (case hg => rfl); (case hr => first | (go_simp; done) | (go_simp; rfl)); (case hp => exact (Reps.one (show Kd.M (Kd.int .i64) _ _ _ 0 [.int .i64 0] from rfl) (Reps.one (show Kd.M (Kd.int .i64) _ _ _ 0 [.int .i64 0] from rfl) (Reps.none _ _)))); intro v215 w27 ho28 hb hg_ hnew_; clear hg_ hnew_; (first | rw [← Ny214.out] at ho28 | (simp only [Int.reduceToNat] at ho28; rw [← Ny214.out] at ho28)); have n0_ := Aside0.mk (Kd.S_elder' (by (with_reducible repeat (first | apply Kd.S_alloc | apply Kd.S_drewN | apply Kd.S_drew)); exact HO_4.out) (Kd.R_base ho28) hb); have n1_ := Aside0.mk (Kd.R_lower ho28 (below_size (by repeat (first | (with_reducible first | exact HB.out | apply below_alloc | apply pw_below_drewN | apply below_drew1) | exact HB.out)))); have n2_ := Aside0.mk (below_step (by repeat (first | (with_reducible first | exact HB.out | apply below_alloc | apply pw_below_drewN | apply below_drew1) | exact HB.out)) hb); clear HO_4; clear HB; have HO_4 := n0_; have HO216 := n1_; have HB := n2_; clear n0_ n1_ n2_; clear hb ho28))
              repeat (go_quiet (first | ((with_reducible refine gate_dst (N := 54) rfl ?_); refine Kd.R_lit (Kd.int .i64) _ 3 ?hg (N := 54) ?hd (xs := ([0, 0] : List Int)) (inner := [.int .i64 0, .int .i64 0]) (ok := fun _ => True) (okp := fun _ => True) ?hr ?hp (fun _ hk => hk) trivial (Below.refl _ _) (Nat.le_refl _) (by simp) ?_; (case hd => rfl); (case hg => rfl); (case hr => first | (go_simp; done) | (go_simp; rfl)); (case hp => exact (Reps.one (show Kd.M (Kd.int .i64) _ _ _ 0 [.int .i64 0] from rfl) (Reps.one (show Kd.M (Kd.int .i64) _ _ _ 0 [.int .i64 0] from rfl) (Reps.none _ _)))); intro v215 w27 ho28 hb hg_ hnew_; clear hg_ hnew_; (first | rw [← Ny214.out] at ho28 | (simp only [Int.reduceToNat] at ho28; rw [← Ny214.out] at ho28)); have n0_ := Aside0.mk (Kd.S_elder' (by (with_reducible repeat (first | apply Kd.S_alloc | apply Kd.S_drewN | apply Kd.S_drew)); exact HO_4.out) (Kd.R_base ho28) hb); have n1_ := Aside0.mk (Kd.R_lower ho28 (below_size (by repeat (first | (with_reducible first | exact HB.out | apply below_alloc | apply pw_below_drewN | apply below_drew1) | exact HB.out)))); have n2_ := Aside0.mk (below_step (by repeat (first | (with_reducible first | exact HB.out | apply below_alloc | apply pw_below_drewN | apply below_drew1) | exact HB.out)) hb); clear HO_4; clear HB; have HO_4 := n0_; have HO216 := n1_; have HB := n2_; clear n0_ n1_ n2_; clear hb ho28)); try go_wp2_with (first | ((with_reducible refine gate_dst (N := 54) rfl ?_); refine Kd.R_lit (Kd.int .i64) _ 3 ?hg (N := 54) ?hd (xs := ([0, 0] : List Int)) (inner := [.int .i64 0, .int .i64 0]) (ok := fun _ => True) (okp := fun _ => True) ?hr ?hp (fun _ hk => hk) trivial (Below.refl _ _) (Nat.le_refl _) (by simp) ?_; (case hd => rfl); (case hg => rfl); (case hr => first | (go_simp; done) | (go_simp; rfl)); (case hp => exact (Reps.one (show Kd.M (Kd.int .i64) _ _ _ 0 [.int .i64 0] from rfl) (Reps.one (show Kd.M (Kd.int .i64) _ _ _ 0 [.int .i64 0] from rfl) (Reps.none _ _)))); intro v215 w27 ho28 hb hg_ hnew_; clear hg_ hnew_; (first | rw [← Ny214.out] at ho28 | (simp only [Int.reduceToNat] at ho28; rw [← Ny214.out] at ho28)); have n0_ := Aside0.mk (Kd.S_elder' (by (with_reducible repeat (first | apply Kd.S_alloc | apply Kd.S_drewN | apply Kd.S_drew)); exact HO_4.out) (Kd.R_base ho28) hb); have n1_ := Aside0.mk (Kd.R_lower ho28 (below_size (by repeat (first | (with_reducible first | exact HB.out | apply below_alloc | apply pw_below_drewN | apply below_drew1) | exact HB.out)))); have n2_ := Aside0.mk (below_step (by repeat (first | (with_reducible first | exact HB.out | apply below_alloc | apply pw_below_drewN | apply below_drew1) | exact HB.out)) hb); clear HO_4; clear HB; have HO_4 := n0_; have HO216 := n1_; have HB := n2_; clear n0_ n1_ n2_; clear hb ho28)))
              go_loopg [5, 11] k1 (fun kq v5 v11 w' => ∃ (x4_2 : List (List Int)) (x5_2 : Int) (x10_2 : List Int) (x11_2 : Int), v5 = .int .i64 x5_2 ∧ v11 = .int .i64 x11_2 ∧ Aside0 (impl_OpenSchedule.l2 kq l0 x4_2 x5_2 x10_2 x11_2 = some (r1, r2)) ∧ Aside0 (kq ≤ k1) ∧ Aside0 (Kd.S (Kd.slice 3 (Kd.int .i64)) 41 w' w.heap.size (fun k_ => some k_ ≠ (v215 : Value).ownBlock) v202 x4_2) ∧ Aside0 (Kd.R (Kd.int .i64) 3 w' w.heap.size (fun _ => True) v215 x10_2) ∧ Aside0 (Below w.heap.size w w'))
              case atStart => exact ⟨(x4_1), (x5_1), (y214), (0), (by first | rfl | (simp; done) | (simp [*]; done)), (by first | rfl | (simp; done) | (simp [*]; done)), H', ⟨Nat.le_refl _⟩, ⟨by (with_reducible repeat (first | apply Kd.S_alloc | apply Kd.S_drewN | apply Kd.S_drew)); exact Kd.S_mono HO_4.out (fun _ hk => hk.2)⟩, ⟨by (with_reducible repeat (first | apply Kd.R_alloc | apply Kd.R_drewN | apply Kd.R_drew)); exact HO216.out⟩, ⟨by repeat (first | (with_reducible first | exact HB.out | apply below_alloc | apply pw_below_drewN | apply below_drew1) | exact HB.out)⟩⟩
              case round =>
                clear H'
                try clear c1
                try clear p1
                try clear q1
                try clear hx1
                try clear hf1
                try clear c2
                try clear p2
                try clear q2
                try clear hx2
                try clear hf2
                try clear c3
                try clear c4
                try clear c4b0
                try clear c4b1
                try clear c5
                try clear c5b0
                try clear c5b1
                try clear p6
                try clear c8
                try clear c8b0
                try clear c9
                try clear c9b0
                try clear c10
                try clear c10b0
                try clear c11
                try clear c11b0
                try clear c12
                try clear p12
                try clear q12
                try clear hx12
                try clear hf12
                try clear c15
                try clear hx15
                try clear hf15
                try clear c17
                try clear c17b0
                try clear c18
                try clear c18b0
                try clear c19
                try clear c19b0
                try clear c20
                try clear c20b0
                try clear c20b1
                try clear p20
                try clear q20
                try clear hx20
                try clear c21
                try clear c21b0
                try clear p21
                try clear q21
                try clear hx21
                try clear c22
                try clear c22b0
                try clear c23
                try clear c23b0
                try clear p24
                try clear q24
                try clear hx24
                try clear hf24
                try clear c25
                try clear q25
                try clear hx12_0
                try clear hx15_0
                try clear hx204_0
                try clear hx209_0
                try clear hx210_0
                try clear hx24_0
                try clear p1
                try clear p12
                try clear p2
                try clear p204
                try clear p209
                try clear p210
                try clear p24
                try clear q1
                try clear q12
                try clear q2
                try clear q204
                try clear q209
                try clear q210
                try clear q24
                obtain ⟨x4_2, x5_2, x10_2, x11_2, rfl, rfl, HA, HK2, HO_4, HO_10, HB⟩ := hrel
                cases gk with
                | zero => exact absurd HA.out (by simp [impl_OpenSchedule.l2])
                | succ k2 =>
                  have H := HA.out
                  clear HA
                  simp only [impl_OpenSchedule.l2] at H
                  by_cases c29 : x5_2 > 0
                  · rw [if_pos c29] at H
                    have c29b0 : decide (0 < x5_2) = true := decide_eq_true c29
                    clear c29
                    have H' := Aside0.mk H
                    clear H
                    go_wp2
                    repeat (go_quiet (fail); try go_wp2)
                    go_loopg [5, 12] k2 (fun kq v5 v12 w' => ∃ (x4_3 : List (List Int)) (x5_3 : Int) (x10_3 : List Int) (x12_3 : Int), v5 = .int .i64 x5_3 ∧ v12 = .int .i64 x12_3 ∧ Aside0 (impl_OpenSchedule.l3 kq l0 x4_3 x5_3 x10_3 x11_2 x12_3 = some (r1, r2)) ∧ Aside0 (kq ≤ k2) ∧ Aside0 (Kd.S (Kd.slice 3 (Kd.int .i64)) 41 w' w.heap.size (fun k_ => some k_ ≠ (v215 : Value).ownBlock) v202 x4_3) ∧ Aside0 (Kd.R (Kd.int .i64) 3 w' w.heap.size (fun _ => True) v215 x10_3) ∧ Aside0 (Below w.heap.size w w'))
                    case atStart => exact ⟨(x4_2), (x5_2), (x10_2), (0), (by first | rfl | (simp; done) | (simp [*]; done)), (by first | rfl | (simp; done) | (simp [*]; done)), H', ⟨Nat.le_refl _⟩, ⟨by (with_reducible repeat (first | apply Kd.S_alloc | apply Kd.S_drewN | apply Kd.S_drew)); exact HO_4.out⟩, ⟨by (with_reducible repeat (first | apply Kd.R_alloc | apply Kd.R_drewN | apply Kd.R_drew)); exact HO_10.out⟩, ⟨by repeat (first | (with_reducible first | exact HB.out | apply below_alloc | apply pw_below_drewN | apply below_drew1) | exact HB.out)⟩⟩
                    case round =>
                      clear H'
                      try clear c1
                      try clear p1
                      try clear q1
                      try clear hx1
                      try clear hf1
                      try clear c2
                      try clear p2
                      try clear q2
                      try clear hx2
                      try clear hf2
                      try clear c3
                      try clear c4
                      try clear c4b0
                      try clear c4b1
                      try clear c5
                      try clear c5b0
                      try clear c5b1
                      try clear p6
                      try clear c8
                      try clear c8b0
                      try clear c9
                      try clear c9b0
                      try clear c10
                      try clear c10b0
                      try clear c11
                      try clear c11b0
                      try clear c12
                      try clear p12
                      try clear q12
                      try clear hx12
                      try clear hf12
                      try clear c15
                      try clear hx15
                      try clear hf15
                      try clear c17
                      try clear c17b0
                      try clear c18
                      try clear c18b0
                      try clear c19
                      try clear c19b0
                      try clear c20
                      try clear c20b0
                      try clear c20b1
                      try clear p20
                      try clear q20
                      try clear hx20
                      try clear c21
                      try clear c21b0
                      try clear p21
                      try clear q21
                      try clear hx21
                      try clear c22
                      try clear c22b0
                      try clear c23
                      try clear c23b0
                      try clear p24
                      try clear q24
                      try clear hx24
                      try clear hf24
                      try clear c25
                      try clear q25
                      try clear c29
                      try clear c29b0
                      try clear hx12_0
                      try clear hx15_0
                      try clear hx204_0
                      try clear hx209_0
                      try clear hx210_0
                      try clear hx24_0
                      try clear p1
                      try clear p12
                      try clear p2
                      try clear p20
                      try clear p204
                      try clear p209
                      try clear p21
                      try clear p210
                      try clear p24
                      try clear p6
                      try clear q1
                      try clear q12
                      try clear q2
                      try clear q20
                      try clear q204
                      try clear q209
                      try clear q21
                      try clear q210
                      try clear q24
                      try clear q25
                      obtain ⟨x4_3, x5_3, x10_3, x12_3, rfl, rfl, HA, HK3, HO_4, HO_10, HB⟩ := hrel
                      cases gk with
                      | zero => exact absurd HA.out (by simp [impl_OpenSchedule.l3])
                      | succ k3 =>
                        have H := HA.out
                        clear HA
                        simp only [impl_OpenSchedule.l3] at H
                        by_cases c30 : x12_3 < 2
                        · rw [if_pos c30] at H
                          have c30b0 : decide (x12_3 < 2) = true := decide_eq_true c30
                          clear c30
                          by_cases c31 : 0 ≤ x12_3
                          · rw [if_pos c31] at H
                            have c31b0 : decide (0 ≤ x12_3) = true := decide_eq_true c31
                            clear c31
                            by_cases c32 : x12_3 < (x10_3.length : Int)
                            · rw [if_pos c32] at H
                              have c32b0 : decide (x12_3 < (x10_3.length : Int)) = true := decide_eq_true c32
                              clear c32
                              by_cases c33 : (rd x10_3 x12_3) > x11_2
                              · rw [if_pos c33] at H
                                have c33b0 : decide (x11_2 < (rd x10_3 x12_3)) = true := decide_eq_true c33
                                clear c33
                                have H' := Aside0.mk H
                                clear H
                                obtain ⟨Ao34, co34, eo34⟩ := Kd.R_slice HO_10.out
                                subst eo34
                                have p217 : 0 ≤ (x12_3 : Int) := of_decide_eq_true (by first | (with_reducible assumption) | assumption)
                                have q217 : x12_3 < (x10_3.length : Int) := of_decide_eq_true (by first | (with_reducible assumption) | assumption)
                                obtain ⟨ad217, e217, hx217_0⟩ := Kd.at_int (Kd.R_reads' HO_10.out).2.2 x12_3 p217 q217
                                cases e217
                                replace p217 := eq_true p217
                                replace q217 := eq_true q217
                                go_wp2
                                repeat (go_quiet (fail); try go_wp2)
                                go_roundg k3
                                case measure => have := HK1.out; have := HK2.out; have := HK3.out; omega
                                case rel => exact ⟨(x4_3), (x5_3), (x10_3), (wrap64 (x12_3 + 1)), (by first | rfl | (simp; done) | (simp [*]; done)), (by first | rfl | (simp; done) | (simp [*]; done)), H', ⟨by have := HK1.out; have := HK2.out; have := HK3.out; omega⟩, ⟨by (with_reducible repeat (first | apply Kd.S_alloc | apply Kd.S_drewN | apply Kd.S_drew)); exact HO_4.out⟩, ⟨by (with_reducible repeat (first | apply Kd.R_alloc | apply Kd.R_drewN | apply Kd.R_drew)); exact HO_10.out⟩, ⟨by repeat (first | (with_reducible first | exact HB.out | apply below_alloc | apply pw_below_drewN | apply below_drew1) | exact HB.out)⟩⟩
                              · rw [if_neg c33] at H
                                have c33b0 : decide (x11_2 < (rd x10_3 x12_3)) = false := decide_eq_false c33
                                clear c33
                                have H' := Aside0.mk H
                                clear H
                                obtain ⟨Ao35, co35, eo35⟩ := Kd.R_slice HO_10.out
                                subst eo35
                                have p217 : 0 ≤ (x12_3 : Int) := of_decide_eq_true (by first | (with_reducible assumption) | assumption)
                                have q217 : x12_3 < (x10_3.length : Int) := of_decide_eq_true (by first | (with_reducible assumption) | assumption)
                                obtain ⟨ad217, e217, hx217_0⟩ := Kd.at_int (Kd.R_reads' HO_10.out).2.2 x12_3 p217 q217
                                cases e217
                                replace p217 := eq_true p217
                                replace q217 := eq_true q217
                                go_wp2
                                repeat (go_quiet (fail); try go_wp2)
                                go_loopg [14, 73] k3 (fun kq v14 v73 w' => ∃ (x14_4 : Int) (x73_4 : Int), v14 = .int .i64 x14_4 ∧ v73 = .int .i64 x73_4 ∧ Aside0 (impl_OpenSchedule.l4 kq l0 x4_3 x5_3 x10_3 x11_2 x12_3 (wrap64 (1 - x12_3)) x14_4 l0 (l0.length : Int) x73_4 = some (r1, r2)) ∧ Aside0 (kq ≤ k3) ∧ Aside0 (Kd.S (Kd.slice 3 (Kd.int .i64)) 41 w' w.heap.size (fun k_ => some k_ ≠ ((.slice (some ad217) x10_3.length co35) : Value).ownBlock) v202 x4_3) ∧ Aside0 (Kd.R (Kd.int .i64) 3 w' w.heap.size (fun _ => True) (.slice (some ad217) x10_3.length co35) x10_3) ∧ Aside0 (Below w.heap.size w w'))
                                case atStart => exact ⟨((-1)), (0), (by first | rfl | (simp; done) | (simp [*]; done)), (by first | rfl | (simp; done) | (simp [*]; done)), H', ⟨Nat.le_refl _⟩, ⟨by (with_reducible repeat (first | apply Kd.S_alloc | apply Kd.S_drewN | apply Kd.S_drew)); exact HO_4.out⟩, ⟨by (with_reducible repeat (first | apply Kd.R_alloc | apply Kd.R_drewN | apply Kd.R_drew)); exact HO_10.out⟩, ⟨by repeat (first | (with_reducible first | exact HB.out | apply below_alloc | apply pw_below_drewN | apply below_drew1) | exact HB.out)⟩⟩
                                case round =>
                                  clear H'
                                  try clear c1
                                  try clear p1
                                  try clear q1
                                  try clear hx1
                                  try clear hf1
                                  try clear c2
                                  try clear p2
                                  try clear q2
                                  try clear hx2
                                  try clear hf2
                                  try clear c3
                                  try clear c4
                                  try clear c4b0
                                  try clear c4b1
                                  try clear c5
                                  try clear c5b0
                                  try clear c5b1
                                  try clear p6
                                  try clear c8
                                  try clear c8b0
                                  try clear c9
                                  try clear c9b0
                                  try clear c10
                                  try clear c10b0
                                  try clear c11
                                  try clear c11b0
                                  try clear c12
                                  try clear p12
                                  try clear q12
                                  try clear hx12
                                  try clear hf12
                                  try clear c15
                                  try clear hx15
                                  try clear hf15
                                  try clear c17
                                  try clear c17b0
                                  try clear c18
                                  try clear c18b0
                                  try clear c19
                                  try clear c19b0
                                  try clear c20
                                  try clear c20b0
                                  try clear c20b1
                                  try clear p20
                                  try clear q20
                                  try clear hx20
                                  try clear c21
                                  try clear c21b0
                                  try clear p21
                                  try clear q21
                                  try clear hx21
                                  try clear c22
                                  try clear c22b0
                                  try clear c23
                                  try clear c23b0
                                  try clear p24
                                  try clear q24
                                  try clear hx24
                                  try clear hf24
                                  try clear c25
                                  try clear q25
                                  try clear c29
                                  try clear c29b0
                                  try clear c30
                                  try clear c30b0
                                  try clear c31
                                  try clear c31b0
                                  try clear c32
                                  try clear c32b0
                                  try clear c33
                                  try clear c33b0
                                  try clear hx12_0
                                  try clear hx15_0
                                  try clear hx204_0
                                  try clear hx209_0
                                  try clear hx210_0
                                  try clear hx217_0
                                  try clear hx24_0
                                  try clear p1
                                  try clear p12
                                  try clear p2
                                  try clear p20
                                  try clear p204
                                  try clear p209
                                  try clear p21
                                  try clear p210
                                  try clear p217
                                  try clear p24
                                  try clear p6
                                  try clear q1
                                  try clear q12
                                  try clear q2
                                  try clear q20
                                  try clear q204
                                  try clear q209
                                  try clear q21
                                  try clear q210
                                  try clear q217
                                  try clear q24
                                  try clear q25
                                  obtain ⟨x14_4, x73_4, rfl, rfl, HA, HK4, HO_4, HO_10, HB⟩ := hrel
                                  cases gk with
                                  | zero => exact absurd HA.out (by simp [impl_OpenSchedule.l4])
                                  | succ k4 =>
                                    have H := HA.out
                                    clear HA
                                    simp only [impl_OpenSchedule.l4] at H
                                    by_cases c36 : x73_4 < (l0.length : Int)
                                    · rw [if_pos c36] at H
                                      have c36b0 : decide (x73_4 < (l0.length : Int)) = true := decide_eq_true c36
                                      clear c36
                                      by_cases c37 : 0 ≤ x73_4
                                      · rw [if_pos c37] at H
                                        have c37b0 : decide (0 ≤ x73_4) = true := decide_eq_true c37
                                        clear c37
                                        by_cases c38 : x73_4 < (l0.length : Int)
                                        · rw [if_pos c38] at H
                                          have c38b0 : decide (x73_4 < (l0.length : Int)) = true := decide_eq_true c38
                                          clear c38
                                          by_cases c39 : x73_4 < (x4_3.length : Int)
                                          · rw [if_pos c39] at H
                                            have c39b0 : decide (x73_4 < (x4_3.length : Int)) = true := decide_eq_true c39
                                            clear c39
                                            by_cases c40 : 0 ≤ x12_3
                                            · rw [if_pos c40] at H
                                              have c40b0 : decide (0 ≤ x12_3) = true := decide_eq_true c40
                                              clear c40
                                              by_cases c41 : x12_3 < ((rd_L1 x4_3 x73_4).length : Int)
                                              · rw [if_pos c41] at H
                                                have c41b0 : decide (x12_3 < ((rd_L1 x4_3 x73_4).length : Int)) = true := decide_eq_true c41
                                                clear c41
                                                by_cases c42 : (rd (rd_L1 x4_3 x73_4) x12_3) ≥ 0
                                                · rw [if_pos c42] at H
                                                  have c42b0 : decide (0 ≤ (rd (rd_L1 x4_3 x73_4) x12_3)) = true := decide_eq_true c42
                                                  clear c42
                                                  have H' := Aside0.mk H
                                                  clear H
                                                  have p225 : 0 ≤ (x73_4 : Int) := of_decide_eq_true (by first | (with_reducible assumption) | assumption)
                                                  have q225 : x73_4 < (l0.length : Int) := of_decide_eq_true (by first | (with_reducible assumption) | assumption)
                                                  obtain ⟨ad225, A225_0, c225_0, e225, hx225_0, hl225_0, hi225_0⟩ := at_L1 HR0.out x73_4 p225 q225
                                                  cases e225
                                                  replace hx225_0 := (HB.out.cell (World.block_lt_of_cell? w _ hx225_0)).trans hx225_0
                                                  have HR225_0 := Aside0.mk hi225_0
                                                  have HC225_0 := Aside0.mk hl225_0
                                                  clear hi225_0 hl225_0
                                                  replace p225 := eq_true p225
                                                  replace q225 := eq_true q225
                                                  obtain ⟨Ao43, co43, eo43⟩ := Kd.S_slice HO_4.out
                                                  subst eo43
                                                  have p226 : 0 ≤ (x73_4 : Int) := of_decide_eq_true (by first | (with_reducible assumption) | assumption)
                                                  have q226 : x73_4 < (x4_3.length : Int) := of_decide_eq_true (by first | (with_reducible assumption) | assumption)
                                                  obtain ⟨ad226, A226_0, c226_0, e226, hx226_0, hl226_0, hi226_0⟩ := at_L1 (Kd.S_reads' HO_4.out).2.2 x73_4 p226 q226
                                                  cases e226
                                                  obtain ⟨ce226, hce226, hMe226, hcc226⟩ := Kd.S_get HO_4.out [] x73_4 p226 (by first | exact q226 | exact of_decide_eq_true (by first | (with_reducible assumption) | assumption) | (have e_ := (Kd.S_reads' HO_4.out).1; omega))
                                                  obtain ⟨ve226_0, rfl, ge226_0⟩ := hMe226
                                                  have hv226_0 := hcc226 0 _ rfl
                                                  rw [Nat.add_zero, show ((Kd.slice 3 (Kd.int .i64))).sz = 1 from rfl, Nat.mul_one] at hv226_0
                                                  replace hv226_0 := Option.some.inj (hv226_0.symm.trans hx226_0)
                                                  rw [hv226_0] at ge226_0
                                                  have HL226_0 := Aside0.mk (show Kd.R (Kd.int .i64) 3 _ _ _ _ (rd_L1 x4_3 x73_4) from ge226_0)
                                                  clear hv226_0 ge226_0
                                                  have HX226_0 := Aside0.mk hx226_0
                                                  clear hcc226 hce226
                                                  have HR226_0 := Aside0.mk hi226_0
                                                  have HC226_0 := Aside0.mk hl226_0
                                                  clear hi226_0 hl226_0
                                                  replace p226 := eq_true p226
                                                  replace q226 := eq_true q226
                                                  have p227 : 0 ≤ (x12_3 : Int) := of_decide_eq_true (by first | (with_reducible assumption) | assumption)
                                                  have q227 : x12_3 < ((rd_L1 x4_3 x73_4).length : Int) := of_decide_eq_true (by first | (with_reducible assumption) | assumption)
                                                  obtain ⟨ad227, e227, hx227_0⟩ := Kd.at_int (by repeat (first | (with_reducible exact HR226_0.out) | (with_reducible refine Kd.C_alloc ?_ _) | (with_reducible refine Kd.C_drewN ?_ _) | (with_reducible refine Kd.C_drew ?_) | exact HR226_0.out)) x12_3 p227 q227
                                                  cases e227
                                                  replace p227 := eq_true p227
                                                  replace q227 := eq_true q227
                                                  go_wp2
                                                  repeat (go_quiet (fail); try go_wp2)
                                                  go_roundg k4
                                                  case measure => have := HK1.out; have := HK2.out; have := HK3.out; have := HK4.out; omega
                                                  case rel => exact ⟨(x14_4), (wrap64 (x73_4 + 1)), (by first | rfl | (simp; done) | (simp [*]; done)), (by first | rfl | (simp; done) | (simp [*]; done)), H', ⟨by have := HK1.out; have := HK2.out; have := HK3.out; have := HK4.out; omega⟩, ⟨by (with_reducible repeat (first | apply Kd.S_alloc | apply Kd.S_drewN | apply Kd.S_drew)); exact HO_4.out⟩, ⟨by (with_reducible repeat (first | apply Kd.R_alloc | apply Kd.R_drewN | apply Kd.R_drew)); exact HO_10.out⟩, ⟨by repeat (first | (with_reducible first | exact HB.out | apply below_alloc | apply pw_below_drewN | apply below_drew1) | exact HB.out)⟩⟩
                                                · rw [if_neg c42] at H
                                                  have c42b0 : decide (0 ≤ (rd (rd_L1 x4_3 x73_4) x12_3)) = false := decide_eq_false c42
                                                  clear c42
                                                  obtain ⟨ji44, hji44⟩ : ∃ j_ : Int, (wrap64 (1 - x12_3)) = j_ := ⟨_, rfl⟩
                                                  replace H : (if 0 ≤ (ji44) then (if (ji44) < ((rd_L1 x4_3 x73_4).length : Int) then (if (rd (rd_L1 x4_3 x73_4) (ji44)) ≥ 0 then (if (ji44) < ((rd_L1 l0 x73_4).length : Int) then (if (rd (rd_L1 l0 x73_4) (ji44)) > 0 then (impl_OpenSchedule.j5 k4 l0 x4_3 x5_3 x10_3 x11_2 x12_3 (ji44) x14_4 x73_4 (rd_L1 l0 x73_4) (decide ((rd (rd_L1 x4_3 x73_4) (ji44)) ≥ 0)) l0 (l0.length : Int) x73_4 (decide ((wrap64 ((rd (rd_L1 x4_3 x73_4) (ji44)) + (rd (rd_L1 l0 x73_4) (ji44)))) > x11_2))) else (impl_OpenSchedule.j5 k4 l0 x4_3 x5_3 x10_3 x11_2 x12_3 (ji44) x14_4 x73_4 (rd_L1 l0 x73_4) (decide ((rd (rd_L1 x4_3 x73_4) (ji44)) ≥ 0)) l0 (l0.length : Int) x73_4 false)) else (none)) else (impl_OpenSchedule.j5 k4 l0 x4_3 x5_3 x10_3 x11_2 x12_3 (ji44) x14_4 x73_4 (rd_L1 l0 x73_4) (decide ((rd (rd_L1 x4_3 x73_4) (ji44)) ≥ 0)) l0 (l0.length : Int) x73_4 false)) else (none)) else (none)) = some (r1, r2) := by first | (rw [hji44] at H; exact H) | (simp only [hji44] at H ⊢; exact H)
                                                  have hji44w : (IntKind.i64.wrap (1 - x12_3)) = ji44 := (i64_w _).trans hji44
                                                  by_cases c45 : 0 ≤ (ji44)
                                                  · rw [if_pos c45] at H
                                                    have c45b0 : decide (0 ≤ (ji44)) = true := decide_eq_true c45
                                                    clear c45
                                                    by_cases c46 : (ji44) < ((rd_L1 x4_3 x73_4).length : Int)
                                                    · rw [if_pos c46] at H
                                                      have c46b0 : decide ((ji44) < ((rd_L1 x4_3 x73_4).length : Int)) = true := decide_eq_true c46
                                                      clear c46
                                                      have HC47 := Aside0.mk H
                                                      clear H
                                                      have p225 : 0 ≤ (x73_4 : Int) := of_decide_eq_true (by first | (with_reducible assumption) | assumption)
                                                      have q225 : x73_4 < (l0.length : Int) := of_decide_eq_true (by first | (with_reducible assumption) | assumption)
                                                      obtain ⟨ad225, A225_0, c225_0, e225, hx225_0, hl225_0, hi225_0⟩ := at_L1 HR0.out x73_4 p225 q225
                                                      cases e225
                                                      replace hx225_0 := (HB.out.cell (World.block_lt_of_cell? w _ hx225_0)).trans hx225_0
                                                      have HR225_0 := Aside0.mk hi225_0
                                                      have HC225_0 := Aside0.mk hl225_0
                                                      clear hi225_0 hl225_0
                                                      replace p225 := eq_true p225
                                                      replace q225 := eq_true q225
                                                      obtain ⟨Ao48, co48, eo48⟩ := Kd.S_slice HO_4.out
                                                      subst eo48
                                                      have p226 : 0 ≤ (x73_4 : Int) := of_decide_eq_true (by first | (with_reducible assumption) | assumption)
                                                      have q226 : x73_4 < (x4_3.length : Int) := of_decide_eq_true (by first | (with_reducible assumption) | assumption)
                                                      obtain ⟨ad226, A226_0, c226_0, e226, hx226_0, hl226_0, hi226_0⟩ := at_L1 (Kd.S_reads' HO_4.out).2.2 x73_4 p226 q226
                                                      cases e226
                                                      obtain ⟨ce226, hce226, hMe226, hcc226⟩ := Kd.S_get HO_4.out [] x73_4 p226 (by first | exact q226 | exact of_decide_eq_true (by first | (with_reducible assumption) | assumption) | (have e_ := (Kd.S_reads' HO_4.out).1; omega))
                                                      obtain ⟨ve226_0, rfl, ge226_0⟩ := hMe226
                                                      have hv226_0 := hcc226 0 _ rfl
                                                      rw [Nat.add_zero, show ((Kd.slice 3 (Kd.int .i64))).sz = 1 from rfl, Nat.mul_one] at hv226_0
                                                      replace hv226_0 := Option.some.inj (hv226_0.symm.trans hx226_0)
                                                      rw [hv226_0] at ge226_0
                                                      have HL226_0 := Aside0.mk (show Kd.R (Kd.int .i64) 3 _ _ _ _ (rd_L1 x4_3 x73_4) from ge226_0)
                                                      clear hv226_0 ge226_0
                                                      have HX226_0 := Aside0.mk hx226_0
                                                      clear hcc226 hce226
                                                      have HR226_0 := Aside0.mk hi226_0
                                                      have HC226_0 := Aside0.mk hl226_0
                                                      clear hi226_0 hl226_0
                                                      replace p226 := eq_true p226
                                                      replace q226 := eq_true q226
                                                      have p227 : 0 ≤ (x12_3 : Int) := of_decide_eq_true (by first | (with_reducible assumption) | assumption)
                                                      have q227 : x12_3 < ((rd_L1 x4_3 x73_4).length : Int) := of_decide_eq_true (by first | (with_reducible assumption) | assumption)
                                                      obtain ⟨ad227, e227, hx227_0⟩ := Kd.at_int (by repeat (first | (with_reducible exact HR226_0.out) | (with_reducible refine Kd.C_alloc ?_ _) | (with_reducible refine Kd.C_drewN ?_ _) | (with_reducible refine Kd.C_drew ?_) | exact HR226_0.out)) x12_3 p227 q227
                                                      cases e227
                                                      replace p227 := eq_true p227
                                                      replace q227 := eq_true q227
                                                      have p228 : 0 ≤ (x73_4 : Int) := of_decide_eq_true (by first | (with_reducible assumption) | assumption)
                                                      have q228 : x73_4 < (x4_3.length : Int) := of_decide_eq_true (by first | (with_reducible assumption) | assumption)
                                                      obtain ⟨ad228, A228_0, c228_0, e228, hx228_0, hl228_0, hi228_0⟩ := at_L1 (Kd.S_reads' HO_4.out).2.2 x73_4 p228 q228
                                                      obtain rfl : ad226 = ad228 := (by injection e228)
                                                      obtain ⟨ce228, hce228, hMe228, hcc228⟩ := Kd.S_get HO_4.out [] x73_4 p228 (by first | exact q228 | exact of_decide_eq_true (by first | (with_reducible assumption) | assumption) | (have e_ := (Kd.S_reads' HO_4.out).1; omega))
                                                      obtain ⟨ve228_0, rfl, ge228_0⟩ := hMe228
                                                      have hv228_0 := hcc228 0 _ rfl
                                                      rw [Nat.add_zero, show ((Kd.slice 3 (Kd.int .i64))).sz = 1 from rfl, Nat.mul_one] at hv228_0
                                                      replace hv228_0 := Option.some.inj (hv228_0.symm.trans hx228_0)
                                                      rw [hv228_0] at ge228_0
                                                      have HL228_0 := Aside0.mk (show Kd.R (Kd.int .i64) 3 _ _ _ _ (rd_L1 x4_3 x73_4) from ge228_0)
                                                      clear hv228_0 ge228_0
                                                      have HX228_0 := Aside0.mk hx228_0
                                                      clear hcc228 hce228
                                                      have HR228_0 := Aside0.mk hi228_0
                                                      have HC228_0 := Aside0.mk hl228_0
                                                      clear hi228_0 hl228_0
                                                      replace p228 := eq_true p228
                                                      replace q228 := eq_true q228
                                                      have ea_ := Option.some.inj (hx226_0.symm.trans hx228_0)
                                                      injection ea_ with ea_ en_ ec_
                                                      subst ea_
                                                      subst ec_
                                                      clear en_
                                                      have p229 : 0 ≤ ((ji44) : Int) := of_decide_eq_true (by first | (with_reducible assumption) | assumption)
                                                      have q229 : (ji44) < ((rd_L1 x4_3 x73_4).length : Int) := of_decide_eq_true (by first | (with_reducible assumption) | assumption)
                                                      obtain ⟨ad229, e229, hx229_0⟩ := Kd.at_int (by repeat (first | (with_reducible exact HR228_0.out) | (with_reducible refine Kd.C_alloc ?_ _) | (with_reducible refine Kd.C_drewN ?_ _) | (with_reducible refine Kd.C_drew ?_) | exact HR228_0.out)) (ji44) p229 q229
                                                      cases e229
                                                      replace p229 := eq_true p229
                                                      replace q229 := eq_true q229
                                                      go_upto_region 32 with (fail)
                                                      repeat (go_quiet (fail); go_upto_region 32 with (fail))
                                                      go_cut [117] (fun v117 wc => ∃ (kq : Nat) (x117_46 : Bool), v117 = .bool x117_46 ∧ Aside0 (impl_OpenSchedule.j5 kq l0 x4_3 x5_3 x10_3 x11_2 x12_3 (ji44) x14_4 x73_4 (rd_L1 l0 x73_4) (decide ((rd (rd_L1 x4_3 x73_4) (ji44)) ≥ 0)) l0 (l0.length : Int) x73_4 x117_46 = some (r1, r2)) ∧ Aside0 (kq ≤ k4) ∧ Aside0 (Kd.S (Kd.slice 3 (Kd.int .i64)) 41 wc w.heap.size (fun k_ => some k_ ≠ ((.slice (some ad217) x10_3.length co35) : Value).ownBlock) (.slice (some ad226) x4_3.length co48) x4_3) ∧ Aside0 (Kd.R (Kd.int .i64) 3 wc w.heap.size (fun _ => True) (.slice (some ad217) x10_3.length co35) x10_3) ∧ Aside0 (Kd.C (Kd.int .i64) wc (some ad227) (rd_L1 x4_3 x73_4).length (rd_L1 x4_3 x73_4)) ∧ Aside0 (Kd.C (Kd.int .i64) wc (some ad227) (rd_L1 x4_3 x73_4).length (rd_L1 x4_3 x73_4)) ∧ Aside0 (Below w.heap.size w wc))
                                                      case first =>
                                                        have H := HC47.out
                                                        clear HC47
                                                        by_cases c49 : (rd (rd_L1 x4_3 x73_4) (ji44)) ≥ 0
                                                        · rw [if_pos c49] at H
                                                          have c49b0 : decide (0 ≤ (rd (rd_L1 x4_3 x73_4) (ji44))) = true := decide_eq_true c49
                                                          clear c49
                                                          (first | rw [c49b0] | (simp only [i64_w, i32_w]; rw [c49b0]) | skip)
                                                          by_cases c50 : (ji44) < ((rd_L1 l0 x73_4).length : Int)
                                                          · rw [if_pos c50] at H
                                                            have c50b0 : decide ((ji44) < ((rd_L1 l0 x73_4).length : Int)) = true := decide_eq_true c50
                                                            clear c50
                                                            by_cases c51 : (rd (rd_L1 l0 x73_4) (ji44)) > 0
                                                            · rw [if_pos c51] at H
                                                              have c51b0 : decide (0 < (rd (rd_L1 l0 x73_4) (ji44))) = true := decide_eq_true c51
                                                              clear c51
                                                              have H' := Aside0.mk H
                                                              clear H
                                                              have p230 : 0 ≤ ((ji44) : Int) := of_decide_eq_true (by first | (with_reducible assumption) | assumption)
                                                              have q230 : (ji44) < ((rd_L1 l0 x73_4).length : Int) := of_decide_eq_true (by first | (with_reducible assumption) | assumption)
                                                              obtain ⟨ad230, e230, hx230_0⟩ := Kd.at_int HR225_0.out (ji44) p230 q230
                                                              cases e230
                                                              replace hx230_0 := (HB.out.cell (World.block_lt_of_cell? w _ hx230_0)).trans hx230_0
                                                              replace p230 := eq_true p230
                                                              replace q230 := eq_true q230
                                                              have p231 : 0 ≤ (x73_4 : Int) := of_decide_eq_true (by first | (with_reducible assumption) | assumption)
                                                              have q231 : x73_4 < (x4_3.length : Int) := of_decide_eq_true (by first | (with_reducible assumption) | assumption)
                                                              obtain ⟨ad231, A231_0, c231_0, e231, hx231_0, hl231_0, hi231_0⟩ := at_L1 (Kd.S_reads' HO_4.out).2.2 x73_4 p231 q231
                                                              obtain rfl : ad226 = ad231 := (by injection e231)
                                                              obtain ⟨ce231, hce231, hMe231, hcc231⟩ := Kd.S_get HO_4.out [] x73_4 p231 (by first | exact q231 | exact of_decide_eq_true (by first | (with_reducible assumption) | assumption) | (have e_ := (Kd.S_reads' HO_4.out).1; omega))
                                                              obtain ⟨ve231_0, rfl, ge231_0⟩ := hMe231
                                                              have hv231_0 := hcc231 0 _ rfl
                                                              rw [Nat.add_zero, show ((Kd.slice 3 (Kd.int .i64))).sz = 1 from rfl, Nat.mul_one] at hv231_0
                                                              replace hv231_0 := Option.some.inj (hv231_0.symm.trans hx231_0)
                                                              rw [hv231_0] at ge231_0
                                                              have HL231_0 := Aside0.mk (show Kd.R (Kd.int .i64) 3 _ _ _ _ (rd_L1 x4_3 x73_4) from ge231_0)
                                                              clear hv231_0 ge231_0
                                                              have HX231_0 := Aside0.mk hx231_0
                                                              clear hcc231 hce231
                                                              have HR231_0 := Aside0.mk hi231_0
                                                              have HC231_0 := Aside0.mk hl231_0
                                                              clear hi231_0 hl231_0
                                                              replace p231 := eq_true p231
                                                              replace q231 := eq_true q231
                                                              have p232 : 0 ≤ ((ji44) : Int) := of_decide_eq_true (by first | (with_reducible assumption) | assumption)
                                                              have q232 : (ji44) < ((rd_L1 x4_3 x73_4).length : Int) := of_decide_eq_true (by first | (with_reducible assumption) | assumption)
                                                              obtain ⟨ad232, e232, hx232_0⟩ := Kd.at_int (by repeat (first | (with_reducible exact HR231_0.out) | (with_reducible refine Kd.C_alloc ?_ _) | (with_reducible refine Kd.C_drewN ?_ _) | (with_reducible refine Kd.C_drew ?_) | exact HR231_0.out)) (ji44) p232 q232
                                                              cases e232
                                                              replace p232 := eq_true p232
                                                              replace q232 := eq_true q232
                                                              have p233 : 0 ≤ ((ji44) : Int) := of_decide_eq_true (by first | (with_reducible assumption) | assumption)
                                                              have q233 : (ji44) < ((rd_L1 l0 x73_4).length : Int) := of_decide_eq_true (by first | (with_reducible assumption) | assumption)
                                                              obtain ⟨ad233, e233, hx233_0⟩ := Kd.at_int HR225_0.out (ji44) p233 q233
                                                              obtain rfl : ad230 = ad233 := (by injection e233)
                                                              replace hx233_0 := (HB.out.cell (World.block_lt_of_cell? w _ hx233_0)).trans hx233_0
                                                              replace p233 := eq_true p233
                                                              replace q233 := eq_true q233
                                                              go_wp2
                                                              repeat (go_quiet (fail); try go_wp2)
                                                              refine Met.intro ?_
                                                              go_step
                                                              (repeat apply Exists.intro)
                                                              refine ⟨?rel, (by first | rfl | (rw [hji44]; rfl) | (rw [hji44, c49b0]) | (simp only [hji44, c49b0]) | (simp only [hji44, c49b0, ge_iff_le]))⟩
                                                              case rel => exact ⟨_, (decide ((wrap64 ((rd (rd_L1 x4_3 x73_4) (ji44)) + (rd (rd_L1 l0 x73_4) (ji44)))) > x11_2)), (by first | rfl | (simp; done) | (simp only [← hji44] <;> (first | rfl | simp)) | (simp [*]; done)), H', ⟨by have := HK1.out; have := HK2.out; have := HK3.out; have := HK4.out; first | omega | exact Nat.le_refl _⟩, ⟨by (with_reducible repeat (first | apply Kd.S_alloc | apply Kd.S_drewN | apply Kd.S_drew)); exact HO_4.out⟩, ⟨by (with_reducible repeat (first | apply Kd.R_alloc | apply Kd.R_drewN | apply Kd.R_drew)); exact HO_10.out⟩, ⟨by repeat (first | (with_reducible exact HR226_0.out) | (with_reducible refine Kd.C_alloc ?_ _) | (with_reducible refine Kd.C_drewN ?_ _) | (with_reducible refine Kd.C_drew ?_) | exact HR226_0.out)⟩, ⟨by repeat (first | (with_reducible exact HR228_0.out) | (with_reducible refine Kd.C_alloc ?_ _) | (with_reducible refine Kd.C_drewN ?_ _) | (with_reducible refine Kd.C_drew ?_) | exact HR228_0.out)⟩, ⟨by repeat (first | (with_reducible first | exact HB.out | apply below_alloc | apply pw_below_drewN | apply below_drew1) | exact HB.out)⟩⟩
                                                            · rw [if_neg c51] at H
                                                              have c51b0 : decide (0 < (rd (rd_L1 l0 x73_4) (ji44))) = false := decide_eq_false c51
                                                              clear c51
                                                              have H' := Aside0.mk H
                                                              clear H
                                                              have p230 : 0 ≤ ((ji44) : Int) := of_decide_eq_true (by first | (with_reducible assumption) | assumption)
                                                              have q230 : (ji44) < ((rd_L1 l0 x73_4).length : Int) := of_decide_eq_true (by first | (with_reducible assumption) | assumption)
                                                              obtain ⟨ad230, e230, hx230_0⟩ := Kd.at_int HR225_0.out (ji44) p230 q230
                                                              cases e230
                                                              replace hx230_0 := (HB.out.cell (World.block_lt_of_cell? w _ hx230_0)).trans hx230_0
                                                              replace p230 := eq_true p230
                                                              replace q230 := eq_true q230
                                                              go_wp2
                                                              repeat (go_quiet (fail); try go_wp2)
                                                              refine Met.intro ?_
                                                              go_step
                                                              (repeat apply Exists.intro)
                                                              refine ⟨?rel, (by first | rfl | (rw [hji44]; rfl) | (rw [hji44, c49b0]) | (simp only [hji44, c49b0]) | (simp only [hji44, c49b0, ge_iff_le]))⟩
                                                              case rel => exact ⟨_, (false), (by first | rfl | (simp; done) | (simp [*]; done)), H', ⟨by have := HK1.out; have := HK2.out; have := HK3.out; have := HK4.out; first | omega | exact Nat.le_refl _⟩, ⟨by (with_reducible repeat (first | apply Kd.S_alloc | apply Kd.S_drewN | apply Kd.S_drew)); exact HO_4.out⟩, ⟨by (with_reducible repeat (first | apply Kd.R_alloc | apply Kd.R_drewN | apply Kd.R_drew)); exact HO_10.out⟩, ⟨by repeat (first | (with_reducible exact HR226_0.out) | (with_reducible refine Kd.C_alloc ?_ _) | (with_reducible refine Kd.C_drewN ?_ _) | (with_reducible refine Kd.C_drew ?_) | exact HR226_0.out)⟩, ⟨by repeat (first | (with_reducible exact HR228_0.out) | (with_reducible refine Kd.C_alloc ?_ _) | (with_reducible refine Kd.C_drewN ?_ _) | (with_reducible refine Kd.C_drew ?_) | exact HR228_0.out)⟩, ⟨by repeat (first | (with_reducible first | exact HB.out | apply below_alloc | apply pw_below_drewN | apply below_drew1) | exact HB.out)⟩⟩
                                                          · rw [if_neg c50] at H
                                                            exact absurd H (by simp)
                                                        · rw [if_neg c49] at H
                                                          have c49b0 : decide (0 ≤ (rd (rd_L1 x4_3 x73_4) (ji44))) = false := decide_eq_false c49
                                                          clear c49
                                                          (first | rw [c49b0] | (simp only [i64_w, i32_w]; rw [c49b0]) | skip)
                                                          have H' := Aside0.mk H
                                                          clear H
                                                          go_wp2
                                                          repeat (go_quiet (fail); try go_wp2)
                                                          refine Met.intro ?_
                                                          go_step
                                                          (repeat apply Exists.intro)
                                                          refine ⟨?rel, (by first | rfl | (rw [hji44]; rfl) | (rw [hji44, c49b0]) | (simp only [hji44, c49b0]) | (simp only [hji44, c49b0, ge_iff_le]))⟩
                                                          case rel => exact ⟨_, (false), (by first | rfl | (simp; done) | (simp [*]; done)), H', ⟨by have := HK1.out; have := HK2.out; have := HK3.out; have := HK4.out; first | omega | exact Nat.le_refl _⟩, ⟨by (with_reducible repeat (first | apply Kd.S_alloc | apply Kd.S_drewN | apply Kd.S_drew)); exact HO_4.out⟩, ⟨by (with_reducible repeat (first | apply Kd.R_alloc | apply Kd.R_drewN | apply Kd.R_drew)); exact HO_10.out⟩, ⟨by repeat (first | (with_reducible exact HR226_0.out) | (with_reducible refine Kd.C_alloc ?_ _) | (with_reducible refine Kd.C_drewN ?_ _) | (with_reducible refine Kd.C_drew ?_) | exact HR226_0.out)⟩, ⟨by repeat (first | (with_reducible exact HR228_0.out) | (with_reducible refine Kd.C_alloc ?_ _) | (with_reducible refine Kd.C_drewN ?_ _) | (with_reducible refine Kd.C_drew ?_) | exact HR228_0.out)⟩, ⟨by repeat (first | (with_reducible first | exact HB.out | apply below_alloc | apply pw_below_drewN | apply below_drew1) | exact HB.out)⟩⟩
                                                      case rest =>
                                                        clear HC47
                                                        try clear c1
                                                        try clear p1
                                                        try clear q1
                                                        try clear hx1
                                                        try clear hf1
                                                        try clear c2
                                                        try clear p2
                                                        try clear q2
                                                        try clear hx2
                                                        try clear hf2
                                                        try clear c3
                                                        try clear c4
                                                        try clear c4b0
                                                        try clear c4b1
                                                        try clear c5
                                                        try clear c5b0
                                                        try clear c5b1
                                                        try clear p6
                                                        try clear c8
                                                        try clear c8b0
                                                        try clear c9
                                                        try clear c9b0
                                                        try clear c10
                                                        try clear c10b0
                                                        try clear c11
                                                        try clear c11b0
                                                        try clear c12
                                                        try clear p12
                                                        try clear q12
                                                        try clear hx12
                                                        try clear hf12
                                                        try clear c15
                                                        try clear hx15
                                                        try clear hf15
                                                        try clear c17
                                                        try clear c17b0
                                                        try clear c18
                                                        try clear c18b0
                                                        try clear c19
                                                        try clear c19b0
                                                        try clear c20
                                                        try clear c20b0
                                                        try clear c20b1
                                                        try clear p20
                                                        try clear q20
                                                        try clear hx20
                                                        try clear c21
                                                        try clear c21b0
                                                        try clear p21
                                                        try clear q21
                                                        try clear hx21
                                                        try clear c22
                                                        try clear c22b0
                                                        try clear p22
                                                        try clear q22
                                                        try clear hx22
                                                        try clear c23
                                                        try clear c23b0
                                                        try clear p23
                                                        try clear q23
                                                        try clear hx23
                                                        try clear p24
                                                        try clear q24
                                                        try clear hx24
                                                        try clear hf24
                                                        try clear c25
                                                        try clear q25
                                                        try clear c29
                                                        try clear c29b0
                                                        try clear c30
                                                        try clear c30b0
                                                        try clear c31
                                                        try clear c31b0
                                                        try clear c32
                                                        try clear c32b0
                                                        try clear c33
                                                        try clear c33b0
                                                        try clear c36
                                                        try clear c36b0
                                                        try clear c37
                                                        try clear c37b0
                                                        try clear c38
                                                        try clear c38b0
                                                        try clear c39
                                                        try clear c39b0
                                                        try clear c40
                                                        try clear c40b0
                                                        try clear c41
                                                        try clear c41b0
                                                        try clear c42
                                                        try clear c42b0
                                                        try clear c45
                                                        try clear c45b0
                                                        try clear c46
                                                        try clear c46b0
                                                        try clear c49
                                                        try clear c49b0
                                                        try clear c50
                                                        try clear c50b0
                                                        try clear c51
                                                        try clear c51b0
                                                        try clear hx12_0
                                                        try clear hx15_0
                                                        try clear hx204_0
                                                        try clear hx209_0
                                                        try clear hx210_0
                                                        try clear hx217_0
                                                        try clear hx225_0
                                                        try clear hx226_0
                                                        try clear hx227_0
                                                        try clear hx228_0
                                                        try clear hx229_0
                                                        try clear hx230_0
                                                        try clear hx231_0
                                                        try clear hx232_0
                                                        try clear hx233_0
                                                        try clear hx24_0
                                                        try clear p1
                                                        try clear p12
                                                        try clear p2
                                                        try clear p20
                                                        try clear p204
                                                        try clear p209
                                                        try clear p21
                                                        try clear p210
                                                        try clear p217
                                                        try clear p225
                                                        try clear p226
                                                        try clear p227
                                                        try clear p228
                                                        try clear p229
                                                        try clear p230
                                                        try clear p231
                                                        try clear p232
                                                        try clear p233
                                                        try clear p24
                                                        try clear p6
                                                        try clear q1
                                                        try clear q12
                                                        try clear q2
                                                        try clear q20
                                                        try clear q204
                                                        try clear q209
                                                        try clear q21
                                                        try clear q210
                                                        try clear q217
                                                        try clear q225
                                                        try clear q226
                                                        try clear q227
                                                        try clear q228
                                                        try clear q229
                                                        try clear q230
                                                        try clear q231
                                                        try clear q232
                                                        try clear q233
                                                        try clear q24
                                                        try clear q25
                                                        obtain ⟨kq, x117_46, rfl, HA, HJ46, HO_4, HO_10, HR226_0, HR228_0, HB⟩ := hcut
                                                        cases kq with
                                                        | zero => exact absurd HA.out (by simp [impl_OpenSchedule.j5])
                                                        | succ kj46 =>
                                                          have H := HA.out
                                                          clear HA
                                                          simp only [impl_OpenSchedule.j5] at H
                                                          by_cases c52 : x117_46 = true
                                                          · subst c52
                                                            have H1 : (impl_OpenSchedule.l4 kj46 l0 x4_3 x5_3 x10_3 x11_2 x12_3 (ji44) x14_4 l0 (l0.length : Int) (wrap64 (x73_4 + 1))) = some (r1, r2) := by rw [if_pos rfl] at H; exact H
                                                            clear H
                                                            have H := H1
                                                            clear H1
                                                            have H' := Aside0.mk H
                                                            clear H
                                                            go_wp2
                                                            repeat (go_quiet (fail); try go_wp2)
                                                            (try rw [← hji44])
                                                            (try rw [← hji44] at H')
                                                            go_roundg kj46
                                                            case measure => have := HK1.out; have := HK2.out; have := HK3.out; have := HK4.out; have := HJ46.out; omega
                                                            case rel => exact ⟨(x14_4), (wrap64 (x73_4 + 1)), (by first | rfl | (simp; done) | (simp [*]; done)), (by first | rfl | (simp; done) | (simp [*]; done)), H', ⟨by have := HK1.out; have := HK2.out; have := HK3.out; have := HK4.out; have := HJ46.out; omega⟩, ⟨by (with_reducible repeat (first | apply Kd.S_alloc | apply Kd.S_drewN | apply Kd.S_drew)); exact HO_4.out⟩, ⟨by (with_reducible repeat (first | apply Kd.R_alloc | apply Kd.R_drewN | apply Kd.R_drew)); exact HO_10.out⟩, ⟨by repeat (first | (with_reducible first | exact HB.out | apply below_alloc | apply pw_below_drewN | apply below_drew1) | exact HB.out)⟩⟩
                                                          · replace c52 := Bool.eq_false_iff.mpr c52
                                                            subst c52
                                                            have H1 : (if x14_4 < 0 then (impl_OpenSchedule.l4 kj46 l0 x4_3 x5_3 x10_3 x11_2 x12_3 (ji44) x73_4 l0 (l0.length : Int) (wrap64 (x73_4 + 1))) else (if (decide ((rd (rd_L1 x4_3 x73_4) (ji44)) ≥ 0)) = true then (impl_OpenSchedule.l4 kj46 l0 x4_3 x5_3 x10_3 x11_2 x12_3 (ji44) x14_4 l0 (l0.length : Int) (wrap64 (x73_4 + 1))) else (if 0 ≤ x14_4 then (if x14_4 < (x4_3.length : Int) then (if 0 ≤ (ji44) then (if (ji44) < ((rd_L1 x4_3 x14_4).length : Int) then (if (rd (rd_L1 x4_3 x14_4) (ji44)) ≥ 0 then (impl_OpenSchedule.l4 kj46 l0 x4_3 x5_3 x10_3 x11_2 x12_3 (ji44) x73_4 l0 (l0.length : Int) (wrap64 (x73_4 + 1))) else (if (ji44) < ((rd_L1 l0 x73_4).length : Int) then (if x14_4 < (l0.length : Int) then (if (ji44) < ((rd_L1 l0 x14_4).length : Int) then (if (rd (rd_L1 l0 x73_4) (ji44)) > (rd (rd_L1 l0 x14_4) (ji44)) then (impl_OpenSchedule.l4 kj46 l0 x4_3 x5_3 x10_3 x11_2 x12_3 (ji44) x73_4 l0 (l0.length : Int) (wrap64 (x73_4 + 1))) else (impl_OpenSchedule.l4 kj46 l0 x4_3 x5_3 x10_3 x11_2 x12_3 (ji44) x14_4 l0 (l0.length : Int) (wrap64 (x73_4 + 1)))) else (none)) else (none)) else (none))) else (none)) else (none)) else (none)) else (none)))) = some (r1, r2) := by rw [if_neg (show ¬ (false = true) by decide)] at H; exact H
                                                            clear H
                                                            have H := H1
                                                            clear H1
                                                            by_cases c53 : x14_4 < 0
                                                            · rw [if_pos c53] at H
                                                              have c53b0 : decide (x14_4 < 0) = true := decide_eq_true c53
                                                              clear c53
                                                              have H' := Aside0.mk H
                                                              clear H
                                                              go_wp2
                                                              repeat (go_quiet (fail); try go_wp2)
                                                              (try rw [← hji44])
                                                              (try rw [← hji44] at H')
                                                              go_roundg kj46
                                                              case measure => have := HK1.out; have := HK2.out; have := HK3.out; have := HK4.out; have := HJ46.out; omega
                                                              case rel => exact ⟨(x73_4), (wrap64 (x73_4 + 1)), (by first | rfl | (simp; done) | (simp [*]; done)), (by first | rfl | (simp; done) | (simp [*]; done)), H', ⟨by have := HK1.out; have := HK2.out; have := HK3.out; have := HK4.out; have := HJ46.out; omega⟩, ⟨by (with_reducible repeat (first | apply Kd.S_alloc | apply Kd.S_drewN | apply Kd.S_drew)); exact HO_4.out⟩, ⟨by (with_reducible repeat (first | apply Kd.R_alloc | apply Kd.R_drewN | apply Kd.R_drew)); exact HO_10.out⟩, ⟨by repeat (first | (with_reducible first | exact HB.out | apply below_alloc | apply pw_below_drewN | apply below_drew1) | exact HB.out)⟩⟩
                                                            · rw [if_neg c53] at H
                                                              have c53b0 : decide (x14_4 < 0) = false := decide_eq_false c53
                                                              clear c53
                                                              by_cases c54 : (decide ((rd (rd_L1 x4_3 x73_4) (ji44)) ≥ 0)) = true
                                                              · rw [if_pos c54] at H
                                                                have c54b0 : (decide ((rd (rd_L1 x4_3 x73_4) (ji44)) ≥ 0)) = true := c54
                                                                clear c54
                                                                have H' := Aside0.mk H
                                                                clear H
                                                                go_wp2
                                                                repeat (go_quiet (fail); try go_wp2)
                                                                (try rw [← hji44])
                                                                (try rw [← hji44] at H')
                                                                go_roundg kj46
                                                                case measure => have := HK1.out; have := HK2.out; have := HK3.out; have := HK4.out; have := HJ46.out; omega
                                                                case rel => exact ⟨(x14_4), (wrap64 (x73_4 + 1)), (by first | rfl | (simp; done) | (simp [*]; done)), (by first | rfl | (simp; done) | (simp [*]; done)), H', ⟨by have := HK1.out; have := HK2.out; have := HK3.out; have := HK4.out; have := HJ46.out; omega⟩, ⟨by (with_reducible repeat (first | apply Kd.S_alloc | apply Kd.S_drewN | apply Kd.S_drew)); exact HO_4.out⟩, ⟨by (with_reducible repeat (first | apply Kd.R_alloc | apply Kd.R_drewN | apply Kd.R_drew)); exact HO_10.out⟩, ⟨by repeat (first | (with_reducible first | exact HB.out | apply below_alloc | apply pw_below_drewN | apply below_drew1) | exact HB.out)⟩⟩
                                                              · rw [if_neg c54] at H
                                                                have c54b0 : (decide ((rd (rd_L1 x4_3 x73_4) (ji44)) ≥ 0)) = false := by simpa using c54
                                                                clear c54
                                                                by_cases c55 : 0 ≤ x14_4
                                                                · rw [if_pos c55] at H
                                                                  have c55b0 : decide (0 ≤ x14_4) = true := decide_eq_true c55
                                                                  clear c55
                                                                  by_cases c56 : x14_4 < (x4_3.length : Int)
                                                                  · rw [if_pos c56] at H
                                                                    have c56b0 : decide (x14_4 < (x4_3.length : Int)) = true := decide_eq_true c56
                                                                    clear c56
                                                                    by_cases c57 : 0 ≤ (ji44)
                                                                    · rw [if_pos c57] at H
                                                                      have c57b0 : decide (0 ≤ (ji44)) = true := decide_eq_true c57
                                                                      clear c57
                                                                      by_cases c58 : (ji44) < ((rd_L1 x4_3 x14_4).length : Int)
                                                                      · rw [if_pos c58] at H
                                                                        have c58b0 : decide ((ji44) < ((rd_L1 x4_3 x14_4).length : Int)) = true := decide_eq_true c58
                                                                        clear c58
                                                                        by_cases c59 : (rd (rd_L1 x4_3 x14_4) (ji44)) ≥ 0
                                                                        · rw [if_pos c59] at H
                                                                          have c59b0 : decide (0 ≤ (rd (rd_L1 x4_3 x14_4) (ji44))) = true := decide_eq_true c59
                                                                          clear c59
                                                                          have H' := Aside0.mk H
                                                                          clear H
                                                                          have p234 : 0 ≤ (x14_4 : Int) := of_decide_eq_true (by first | (with_reducible assumption) | assumption)
                                                                          have q234 : x14_4 < (x4_3.length : Int) := of_decide_eq_true (by first | (with_reducible assumption) | assumption)
                                                                          obtain ⟨ad234, A234_0, c234_0, e234, hx234_0, hl234_0, hi234_0⟩ := at_L1 (Kd.S_reads' HO_4.out).2.2 x14_4 p234 q234
                                                                          obtain rfl : ad226 = ad234 := (by injection e234)
                                                                          obtain ⟨ce234, hce234, hMe234, hcc234⟩ := Kd.S_get HO_4.out [] x14_4 p234 (by first | exact q234 | exact of_decide_eq_true (by first | (with_reducible assumption) | assumption) | (have e_ := (Kd.S_reads' HO_4.out).1; omega))
                                                                          obtain ⟨ve234_0, rfl, ge234_0⟩ := hMe234
                                                                          have hv234_0 := hcc234 0 _ rfl
                                                                          rw [Nat.add_zero, show ((Kd.slice 3 (Kd.int .i64))).sz = 1 from rfl, Nat.mul_one] at hv234_0
                                                                          replace hv234_0 := Option.some.inj (hv234_0.symm.trans hx234_0)
                                                                          rw [hv234_0] at ge234_0
                                                                          have HL234_0 := Aside0.mk (show Kd.R (Kd.int .i64) 3 _ _ _ _ (rd_L1 x4_3 x14_4) from ge234_0)
                                                                          clear hv234_0 ge234_0
                                                                          have HX234_0 := Aside0.mk hx234_0
                                                                          clear hcc234 hce234
                                                                          have HR234_0 := Aside0.mk hi234_0
                                                                          have HC234_0 := Aside0.mk hl234_0
                                                                          clear hi234_0 hl234_0
                                                                          replace p234 := eq_true p234
                                                                          replace q234 := eq_true q234
                                                                          have p235 : 0 ≤ ((ji44) : Int) := of_decide_eq_true (by first | (with_reducible assumption) | assumption)
                                                                          have q235 : (ji44) < ((rd_L1 x4_3 x14_4).length : Int) := of_decide_eq_true (by first | (with_reducible assumption) | assumption)
                                                                          obtain ⟨ad235, e235, hx235_0⟩ := Kd.at_int (by repeat (first | (with_reducible exact HR234_0.out) | (with_reducible refine Kd.C_alloc ?_ _) | (with_reducible refine Kd.C_drewN ?_ _) | (with_reducible refine Kd.C_drew ?_) | exact HR234_0.out)) (ji44) p235 q235
                                                                          cases e235
                                                                          replace p235 := eq_true p235
                                                                          replace q235 := eq_true q235
                                                                          go_wp2
                                                                          repeat (go_quiet (fail); try go_wp2)
                                                                          (try rw [← hji44])
                                                                          (try rw [← hji44] at H')
                                                                          go_roundg kj46
                                                                          case measure => have := HK1.out; have := HK2.out; have := HK3.out; have := HK4.out; have := HJ46.out; omega
                                                                          case rel => exact ⟨(x73_4), (wrap64 (x73_4 + 1)), (by first | rfl | (simp; done) | (simp [*]; done)), (by first | rfl | (simp; done) | (simp [*]; done)), H', ⟨by have := HK1.out; have := HK2.out; have := HK3.out; have := HK4.out; have := HJ46.out; omega⟩, ⟨by (with_reducible repeat (first | apply Kd.S_alloc | apply Kd.S_drewN | apply Kd.S_drew)); exact HO_4.out⟩, ⟨by (with_reducible repeat (first | apply Kd.R_alloc | apply Kd.R_drewN | apply Kd.R_drew)); exact HO_10.out⟩, ⟨by repeat (first | (with_reducible first | exact HB.out | apply below_alloc | apply pw_below_drewN | apply below_drew1) | exact HB.out)⟩⟩
                                                                        · rw [if_neg c59] at H
                                                                          have c59b0 : decide (0 ≤ (rd (rd_L1 x4_3 x14_4) (ji44))) = false := decide_eq_false c59
                                                                          clear c59
                                                                          by_cases c60 : (ji44) < ((rd_L1 l0 x73_4).length : Int)
                                                                          · rw [if_pos c60] at H
                                                                            have c60b0 : decide ((ji44) < ((rd_L1 l0 x73_4).length : Int)) = true := decide_eq_true c60
                                                                            clear c60
                                                                            by_cases c61 : x14_4 < (l0.length : Int)
                                                                            · rw [if_pos c61] at H
                                                                              have c61b0 : decide (x14_4 < (l0.length : Int)) = true := decide_eq_true c61
                                                                              clear c61
                                                                              by_cases c62 : (ji44) < ((rd_L1 l0 x14_4).length : Int)
                                                                              · rw [if_pos c62] at H
                                                                                have c62b0 : decide ((ji44) < ((rd_L1 l0 x14_4).length : Int)) = true := decide_eq_true c62
                                                                                clear c62
                                                                                by_cases c63 : (rd (rd_L1 l0 x73_4) (ji44)) > (rd (rd_L1 l0 x14_4) (ji44))
                                                                                · rw [if_pos c63] at H
                                                                                  have c63b0 : decide ((rd (rd_L1 l0 x14_4) (ji44)) < (rd (rd_L1 l0 x73_4) (ji44))) = true := decide_eq_true c63
                                                                                  clear c63
                                                                                  have H' := Aside0.mk H
                                                                                  clear H
                                                                                  have p234 : 0 ≤ (x14_4 : Int) := of_decide_eq_true (by first | (with_reducible assumption) | assumption)
                                                                                  have q234 : x14_4 < (x4_3.length : Int) := of_decide_eq_true (by first | (with_reducible assumption) | assumption)
                                                                                  obtain ⟨ad234, A234_0, c234_0, e234, hx234_0, hl234_0, hi234_0⟩ := at_L1 (Kd.S_reads' HO_4.out).2.2 x14_4 p234 q234
                                                                                  obtain rfl : ad226 = ad234 := (by injection e234)
                                                                                  obtain ⟨ce234, hce234, hMe234, hcc234⟩ := Kd.S_get HO_4.out [] x14_4 p234 (by first | exact q234 | exact of_decide_eq_true (by first | (with_reducible assumption) | assumption) | (have e_ := (Kd.S_reads' HO_4.out).1; omega))
                                                                                  obtain ⟨ve234_0, rfl, ge234_0⟩ := hMe234
                                                                                  have hv234_0 := hcc234 0 _ rfl
                                                                                  rw [Nat.add_zero, show ((Kd.slice 3 (Kd.int .i64))).sz = 1 from rfl, Nat.mul_one] at hv234_0
                                                                                  replace hv234_0 := Option.some.inj (hv234_0.symm.trans hx234_0)
                                                                                  rw [hv234_0] at ge234_0
                                                                                  have HL234_0 := Aside0.mk (show Kd.R (Kd.int .i64) 3 _ _ _ _ (rd_L1 x4_3 x14_4) from ge234_0)
                                                                                  clear hv234_0 ge234_0
                                                                                  have HX234_0 := Aside0.mk hx234_0
                                                                                  clear hcc234 hce234
                                                                                  have HR234_0 := Aside0.mk hi234_0
                                                                                  have HC234_0 := Aside0.mk hl234_0
                                                                                  clear hi234_0 hl234_0
                                                                                  replace p234 := eq_true p234
                                                                                  replace q234 := eq_true q234
                                                                                  have p235 : 0 ≤ ((ji44) : Int) := of_decide_eq_true (by first | (with_reducible assumption) | assumption)
                                                                                  have q235 : (ji44) < ((rd_L1 x4_3 x14_4).length : Int) := of_decide_eq_true (by first | (with_reducible assumption) | assumption)
                                                                                  obtain ⟨ad235, e235, hx235_0⟩ := Kd.at_int (by repeat (first | (with_reducible exact HR234_0.out) | (with_reducible refine Kd.C_alloc ?_ _) | (with_reducible refine Kd.C_drewN ?_ _) | (with_reducible refine Kd.C_drew ?_) | exact HR234_0.out)) (ji44) p235 q235
                                                                                  cases e235
                                                                                  replace p235 := eq_true p235
                                                                                  replace q235 := eq_true q235
                                                                                  have p236 : 0 ≤ ((ji44) : Int) := of_decide_eq_true (by first | (with_reducible assumption) | assumption)
                                                                                  have q236 : (ji44) < ((rd_L1 l0 x73_4).length : Int) := of_decide_eq_true (by first | (with_reducible assumption) | assumption)
                                                                                  obtain ⟨ad236, e236, hx236_0⟩ := Kd.at_int HR225_0.out (ji44) p236 q236
                                                                                  cases e236
                                                                                  replace hx236_0 := (HB.out.cell (World.block_lt_of_cell? w _ hx236_0)).trans hx236_0
                                                                                  replace p236 := eq_true p236
                                                                                  replace q236 := eq_true q236
                                                                                  have p237 : 0 ≤ (x14_4 : Int) := of_decide_eq_true (by first | (with_reducible assumption) | assumption)
                                                                                  have q237 : x14_4 < (l0.length : Int) := of_decide_eq_true (by first | (with_reducible assumption) | assumption)
                                                                                  obtain ⟨ad237, A237_0, c237_0, e237, hx237_0, hl237_0, hi237_0⟩ := at_L1 HR0.out x14_4 p237 q237
                                                                                  obtain rfl : ad225 = ad237 := (by injection e237)
                                                                                  replace hx237_0 := (HB.out.cell (World.block_lt_of_cell? w _ hx237_0)).trans hx237_0
                                                                                  have HR237_0 := Aside0.mk hi237_0
                                                                                  have HC237_0 := Aside0.mk hl237_0
                                                                                  clear hi237_0 hl237_0
                                                                                  replace p237 := eq_true p237
                                                                                  replace q237 := eq_true q237
                                                                                  have p238 : 0 ≤ ((ji44) : Int) := of_decide_eq_true (by first | (with_reducible assumption) | assumption)
                                                                                  have q238 : (ji44) < ((rd_L1 l0 x14_4).length : Int) := of_decide_eq_true (by first | (with_reducible assumption) | assumption)
                                                                                  obtain ⟨ad238, e238, hx238_0⟩ := Kd.at_int HR237_0.out (ji44) p238 q238
                                                                                  cases e238
                                                                                  replace hx238_0 := (HB.out.cell (World.block_lt_of_cell? w _ hx238_0)).trans hx238_0
                                                                                  replace p238 := eq_true p238
                                                                                  replace q238 := eq_true q238
                                                                                  go_wp2
                                                                                  repeat (go_quiet (fail); try go_wp2)
                                                                                  (try rw [← hji44])
                                                                                  (try rw [← hji44] at H')
                                                                                  go_roundg kj46
                                                                                  case measure => have := HK1.out; have := HK2.out; have := HK3.out; have := HK4.out; have := HJ46.out; omega
                                                                                  case rel => exact ⟨(x73_4), (wrap64 (x73_4 + 1)), (by first | rfl | (simp; done) | (simp [*]; done)), (by first | rfl | (simp; done) | (simp [*]; done)), H', ⟨by have := HK1.out; have := HK2.out; have := HK3.out; have := HK4.out; have := HJ46.out; omega⟩, ⟨by (with_reducible repeat (first | apply Kd.S_alloc | apply Kd.S_drewN | apply Kd.S_drew)); exact HO_4.out⟩, ⟨by (with_reducible repeat (first | apply Kd.R_alloc | apply Kd.R_drewN | apply Kd.R_drew)); exact HO_10.out⟩, ⟨by repeat (first | (with_reducible first | exact HB.out | apply below_alloc | apply pw_below_drewN | apply below_drew1) | exact HB.out)⟩⟩
                                                                                · rw [if_neg c63] at H
                                                                                  have c63b0 : decide ((rd (rd_L1 l0 x14_4) (ji44)) < (rd (rd_L1 l0 x73_4) (ji44))) = false := decide_eq_false c63
                                                                                  clear c63
                                                                                  have H' := Aside0.mk H
                                                                                  clear H
                                                                                  have p234 : 0 ≤ (x14_4 : Int) := of_decide_eq_true (by first | (with_reducible assumption) | assumption)
                                                                                  have q234 : x14_4 < (x4_3.length : Int) := of_decide_eq_true (by first | (with_reducible assumption) | assumption)
                                                                                  obtain ⟨ad234, A234_0, c234_0, e234, hx234_0, hl234_0, hi234_0⟩ := at_L1 (Kd.S_reads' HO_4.out).2.2 x14_4 p234 q234
                                                                                  obtain rfl : ad226 = ad234 := (by injection e234)
                                                                                  obtain ⟨ce234, hce234, hMe234, hcc234⟩ := Kd.S_get HO_4.out [] x14_4 p234 (by first | exact q234 | exact of_decide_eq_true (by first | (with_reducible assumption) | assumption) | (have e_ := (Kd.S_reads' HO_4.out).1; omega))
                                                                                  obtain ⟨ve234_0, rfl, ge234_0⟩ := hMe234
                                                                                  have hv234_0 := hcc234 0 _ rfl
                                                                                  rw [Nat.add_zero, show ((Kd.slice 3 (Kd.int .i64))).sz = 1 from rfl, Nat.mul_one] at hv234_0
                                                                                  replace hv234_0 := Option.some.inj (hv234_0.symm.trans hx234_0)
                                                                                  rw [hv234_0] at ge234_0
                                                                                  have HL234_0 := Aside0.mk (show Kd.R (Kd.int .i64) 3 _ _ _ _ (rd_L1 x4_3 x14_4) from ge234_0)
                                                                                  clear hv234_0 ge234_0
                                                                                  have HX234_0 := Aside0.mk hx234_0
                                                                                  clear hcc234 hce234
                                                                                  have HR234_0 := Aside0.mk hi234_0
                                                                                  have HC234_0 := Aside0.mk hl234_0
                                                                                  clear hi234_0 hl234_0
                                                                                  replace p234 := eq_true p234
                                                                                  replace q234 := eq_true q234
                                                                                  have p235 : 0 ≤ ((ji44) : Int) := of_decide_eq_true (by first | (with_reducible assumption) | assumption)
                                                                                  have q235 : (ji44) < ((rd_L1 x4_3 x14_4).length : Int) := of_decide_eq_true (by first | (with_reducible assumption) | assumption)
                                                                                  obtain ⟨ad235, e235, hx235_0⟩ := Kd.at_int (by repeat (first | (with_reducible exact HR234_0.out) | (with_reducible refine Kd.C_alloc ?_ _) | (with_reducible refine Kd.C_drewN ?_ _) | (with_reducible refine Kd.C_drew ?_) | exact HR234_0.out)) (ji44) p235 q235
                                                                                  cases e235
                                                                                  replace p235 := eq_true p235
                                                                                  replace q235 := eq_true q235
                                                                                  have p236 : 0 ≤ ((ji44) : Int) := of_decide_eq_true (by first | (with_reducible assumption) | assumption)
                                                                                  have q236 : (ji44) < ((rd_L1 l0 x73_4).length : Int) := of_decide_eq_true (by first | (with_reducible assumption) | assumption)
                                                                                  obtain ⟨ad236, e236, hx236_0⟩ := Kd.at_int HR225_0.out (ji44) p236 q236
                                                                                  cases e236
                                                                                  replace hx236_0 := (HB.out.cell (World.block_lt_of_cell? w _ hx236_0)).trans hx236_0
                                                                                  replace p236 := eq_true p236
                                                                                  replace q236 := eq_true q236
                                                                                  have p237 : 0 ≤ (x14_4 : Int) := of_decide_eq_true (by first | (with_reducible assumption) | assumption)
                                                                                  have q237 : x14_4 < (l0.length : Int) := of_decide_eq_true (by first | (with_reducible assumption) | assumption)
                                                                                  obtain ⟨ad237, A237_0, c237_0, e237, hx237_0, hl237_0, hi237_0⟩ := at_L1 HR0.out x14_4 p237 q237
                                                                                  obtain rfl : ad225 = ad237 := (by injection e237)
                                                                                  replace hx237_0 := (HB.out.cell (World.block_lt_of_cell? w _ hx237_0)).trans hx237_0
                                                                                  have HR237_0 := Aside0.mk hi237_0
                                                                                  have HC237_0 := Aside0.mk hl237_0
                                                                                  clear hi237_0 hl237_0
                                                                                  replace p237 := eq_true p237
                                                                                  replace q237 := eq_true q237
                                                                                  have p238 : 0 ≤ ((ji44) : Int) := of_decide_eq_true (by first | (with_reducible assumption) | assumption)
                                                                                  have q238 : (ji44) < ((rd_L1 l0 x14_4).length : Int) := of_decide_eq_true (by first | (with_reducible assumption) | assumption)
                                                                                  obtain ⟨ad238, e238, hx238_0⟩ := Kd.at_int HR237_0.out (ji44) p238 q238
                                                                                  cases e238
                                                                                  replace hx238_0 := (HB.out.cell (World.block_lt_of_cell? w _ hx238_0)).trans hx238_0
                                                                                  replace p238 := eq_true p238
                                                                                  replace q238 := eq_true q238
                                                                                  go_wp2
                                                                                  repeat (go_quiet (fail); try go_wp2)
                                                                                  (try rw [← hji44])
                                                                                  (try rw [← hji44] at H')
                                                                                  go_roundg kj46
                                                                                  case measure => have := HK1.out; have := HK2.out; have := HK3.out; have := HK4.out; have := HJ46.out; omega
                                                                                  case rel => exact ⟨(x14_4), (wrap64 (x73_4 + 1)), (by first | rfl | (simp; done) | (simp [*]; done)), (by first | rfl | (simp; done) | (simp [*]; done)), H', ⟨by have := HK1.out; have := HK2.out; have := HK3.out; have := HK4.out; have := HJ46.out; omega⟩, ⟨by (with_reducible repeat (first | apply Kd.S_alloc | apply Kd.S_drewN | apply Kd.S_drew)); exact HO_4.out⟩, ⟨by (with_reducible repeat (first | apply Kd.R_alloc | apply Kd.R_drewN | apply Kd.R_drew)); exact HO_10.out⟩, ⟨by repeat (first | (with_reducible first | exact HB.out | apply below_alloc | apply pw_below_drewN | apply below_drew1) | exact HB.out)⟩⟩
                                                                              · rw [if_neg c62] at H
                                                                                exact absurd H (by simp)
                                                                            · rw [if_neg c61] at H
                                                                              exact absurd H (by simp)
                                                                          · rw [if_neg c60] at H
                                                                            exact absurd H (by simp)
                                                                      · rw [if_neg c58] at H
                                                                        exact absurd H (by simp)
                                                                    · rw [if_neg c57] at H
                                                                      exact absurd H (by simp)
                                                                  · rw [if_neg c56] at H
                                                                    exact absurd H (by simp)
                                                                · rw [if_neg c55] at H
                                                                  exact absurd H (by simp)
                                                    · rw [if_neg c46] at H
                                                      exact absurd H (by simp)
                                                  · rw [if_neg c45] at H
                                                    exact absurd H (by simp)
                                              · rw [if_neg c41] at H
                                                exact absurd H (by simp)
                                            · rw [if_neg c40] at H
                                              exact absurd H (by simp)
                                          · rw [if_neg c39] at H
                                            exact absurd H (by simp)
                                        · rw [if_neg c38] at H
                                          exact absurd H (by simp)
                                      · rw [if_neg c37] at H
                                        exact absurd H (by simp)
                                    · rw [if_neg c36] at H
                                      have c36b0 : decide (x73_4 < (l0.length : Int)) = false := decide_eq_false c36
                                      clear c36
                                      by_cases c64 : x14_4 ≥ 0
                                      · rw [if_pos c64] at H
                                        have c64b0 : decide (0 ≤ x14_4) = true := decide_eq_true c64
                                        clear c64
                                        by_cases c65 : 0 ≤ x14_4
                                        · rw [if_pos c65] at H
                                          have c65b0 : decide (0 ≤ x14_4) = true := decide_eq_true c65
                                          clear c65
                                          by_cases c66 : x14_4 < (x4_3.length : Int)
                                          · rw [if_pos c66] at H
                                            have c66b0 : decide (x14_4 < (x4_3.length : Int)) = true := decide_eq_true c66
                                            clear c66
                                            by_cases c67 : 0 ≤ x12_3
                                            · rw [if_pos c67] at H
                                              have c67b0 : decide (0 ≤ x12_3) = true := decide_eq_true c67
                                              clear c67
                                              by_cases c68 : x12_3 < ((rd_L1 x4_3 x14_4).length : Int)
                                              · rw [if_pos c68] at H
                                                have c68b0 : decide (x12_3 < ((rd_L1 x4_3 x14_4).length : Int)) = true := decide_eq_true c68
                                                clear c68
                                                obtain ⟨y219, hy219⟩ : ∃ y_ : List Int, y_ = ((rd_L1 x4_3 x14_4).set (x12_3 : Int).toNat x11_2) := ⟨_, rfl⟩
                                                replace H : (if x14_4 < (l0.length : Int) then (if x12_3 < ((rd_L1 l0 x14_4).length : Int) then (if x12_3 < (x10_3.length : Int) then (impl_OpenSchedule.l3 k4 l0 (x4_3.set (x14_4 : Int).toNat y219) (wrap64 (x5_3 - 1)) (x10_3.set (x12_3 : Int).toNat (wrap64 (x11_2 + (rd (rd_L1 l0 x14_4) x12_3)))) x11_2 (wrap64 (x12_3 + 1))) else (none)) else (none)) else (none)) = some (r1, r2) := by first | (rw [hy219]; with_reducible exact H) | (have H2_ := (Option.bind_some _ _).symm.trans H; rw [hy219]; with_reducible exact H2_) | (have H2_ := (Option.bind_some _ _).symm.trans H; with_reducible exact H2_) | with_reducible exact H | (rw [hy219]; exact H) | exact H
                                                have Ny219 := Aside0.mk hy219
                                                clear hy219
                                                obtain ⟨y221, hy221⟩ : ∃ y_ : List (List Int), y_ = (x4_3.set (x14_4 : Int).toNat y219) := ⟨_, rfl⟩
                                                replace H : (if x14_4 < (l0.length : Int) then (if x12_3 < ((rd_L1 l0 x14_4).length : Int) then (if x12_3 < (x10_3.length : Int) then (impl_OpenSchedule.l3 k4 l0 y221 (wrap64 (x5_3 - 1)) (x10_3.set (x12_3 : Int).toNat (wrap64 (x11_2 + (rd (rd_L1 l0 x14_4) x12_3)))) x11_2 (wrap64 (x12_3 + 1))) else (none)) else (none)) else (none)) = some (r1, r2) := by first | (rw [hy221]; with_reducible exact H) | (have H2_ := (Option.bind_some _ _).symm.trans H; rw [hy221]; with_reducible exact H2_) | (have H2_ := (Option.bind_some _ _).symm.trans H; with_reducible exact H2_) | with_reducible exact H | (rw [hy221]; exact H) | exact H
                                                have Ny221 := Aside0.mk hy221
                                                clear hy221
                                                by_cases c70 : x14_4 < (l0.length : Int)
                                                · rw [if_pos c70] at H
                                                  have c70b0 : decide (x14_4 < (l0.length : Int)) = true := decide_eq_true c70
                                                  clear c70
                                                  by_cases c71 : x12_3 < ((rd_L1 l0 x14_4).length : Int)
                                                  · rw [if_pos c71] at H
                                                    have c71b0 : decide (x12_3 < ((rd_L1 l0 x14_4).length : Int)) = true := decide_eq_true c71
                                                    clear c71
                                                    by_cases c72 : x12_3 < (x10_3.length : Int)
                                                    · rw [if_pos c72] at H
                                                      have c72b0 : decide (x12_3 < (x10_3.length : Int)) = true := decide_eq_true c72
                                                      clear c72
                                                      obtain ⟨y224, hy224⟩ : ∃ y_ : List Int, y_ = (x10_3.set (x12_3 : Int).toNat (wrap64 (x11_2 + (rd (rd_L1 l0 x14_4) x12_3)))) := ⟨_, rfl⟩
                                                      replace H : (impl_OpenSchedule.l3 k4 l0 y221 (wrap64 (x5_3 - 1)) y224 x11_2 (wrap64 (x12_3 + 1))) = some (r1, r2) := by first | (rw [hy224]; with_reducible exact H) | (have H2_ := (Option.bind_some _ _).symm.trans H; rw [hy224]; with_reducible exact H2_) | (have H2_ := (Option.bind_some _ _).symm.trans H; with_reducible exact H2_) | with_reducible exact H | (rw [hy224]; exact H) | exact H
                                                      have Ny224 := Aside0.mk hy224
                                                      clear hy224
                                                      have H' := Aside0.mk H
                                                      clear H
                                                      obtain ⟨Ao74, co74, eo74⟩ := Kd.S_slice HO_4.out
                                                      subst eo74
                                                      have p218 : 0 ≤ (x14_4 : Int) := of_decide_eq_true (by first | (with_reducible assumption) | assumption)
                                                      have q218 : x14_4 < (x4_3.length : Int) := of_decide_eq_true (by first | (with_reducible assumption) | assumption)
                                                      obtain ⟨ad218, A218_0, c218_0, e218, hx218_0, hl218_0, hi218_0⟩ := at_L1 (Kd.S_reads' HO_4.out).2.2 x14_4 p218 q218
                                                      cases e218
                                                      obtain ⟨ce218, hce218, hMe218, hcc218⟩ := Kd.S_get HO_4.out [] x14_4 p218 (by first | exact q218 | exact of_decide_eq_true (by first | (with_reducible assumption) | assumption) | (have e_ := (Kd.S_reads' HO_4.out).1; omega))
                                                      obtain ⟨ve218_0, rfl, ge218_0⟩ := hMe218
                                                      have hv218_0 := hcc218 0 _ rfl
                                                      rw [Nat.add_zero, show ((Kd.slice 3 (Kd.int .i64))).sz = 1 from rfl, Nat.mul_one] at hv218_0
                                                      replace hv218_0 := Option.some.inj (hv218_0.symm.trans hx218_0)
                                                      rw [hv218_0] at ge218_0
                                                      have HL218_0 := Aside0.mk (show Kd.R (Kd.int .i64) 3 _ _ _ _ (rd_L1 x4_3 x14_4) from ge218_0)
                                                      clear hv218_0 ge218_0
                                                      have HX218_0 := Aside0.mk hx218_0
                                                      clear hcc218 hce218
                                                      have HR218_0 := Aside0.mk hi218_0
                                                      have HC218_0 := Aside0.mk hl218_0
                                                      clear hi218_0 hl218_0
                                                      replace p218 := eq_true p218
                                                      replace q218 := eq_true q218
                                                      have p69 : 0 ≤ (x12_3 : Int) := of_decide_eq_true (by first | (with_reducible assumption) | assumption)
                                                      have q69 : (x12_3 : Int) < (((rd_L1 x4_3 x14_4).length : Int) : Int) := of_decide_eq_true (by first | (with_reducible assumption) | assumption)
                                                      obtain ⟨go69, co69, eo69, gb69, gl69, cl69, HG69⟩ := Kd.R_form HL218_0.out (by omega)
                                                      (first | cases eo69 | (injection eo69 with ea_ en_ ec_; (first | subst ea_ | (injection ea_ with ea_; subst ea_)); subst ec_; clear en_))
                                                      have GB69 := Aside0.mk gb69
                                                      have GG69 := Aside0.mk HG69
                                                      clear gb69 gl69 HG69
                                                      obtain ⟨hx69_0, hf69_0⟩ := Kd.R_celln 0 HL218_0.out (x12_3 : Int) p69 q69
                                                      replace p69 := eq_true p69
                                                      replace q69 := eq_true q69
                                                      have hq75 : (x14_4 : Int) < (x4_3.length : Int) := (by have h_ : (x14_4 : Int) < ((x4_3.length : Int) : Int) := of_decide_eq_true (by first | (with_reducible assumption) | assumption); first | exact h_ | (have e_ := (Kd.S_reads' HO_4.out).1; omega) | simpa only [List.length_set, List.length_set] using h_)
                                                      obtain ⟨oki75, ce75, hcl75, hM75, hcc75, hok75, hbk75⟩ := Kd.S_borrow HO_4.out [] (x14_4 : Int) (of_decide_eq_true (by first | (with_reducible assumption) | assumption)) hq75
                                                      obtain ⟨ve75_0, rfl, ge75_0⟩ := hM75
                                                      have hv75 := hcc75 0 _ rfl
                                                      rw [Nat.add_zero, show ((Kd.slice 3 (Kd.int .i64))).sz = 1 from rfl, Nat.mul_one] at hv75
                                                      replace hv75 := Option.some.inj (hv75.symm.trans HX218_0.out)
                                                      subst hv75
                                                      clear hcc75 hcl75
                                                      replace ge75_0 := (show Kd.R (Kd.int .i64) 3 _ _ _ _ (rd_L1 x4_3 x14_4) from ge75_0)
                                                      have HP75 := Kd.R_putg ge75_0 (x12_3 : Int) x11_2
                                                      go_wp2_with (first | ((with_reducible refine gate_store (t := 3) (p := 159) rfl ?_); (try (rw [drewN_self wr]; generalize hq_ : World.drewN wr _ = wr; have n0_ := Aside0.mk (Kd.S_at hq_ HO_4.out); have n1_ := Aside0.mk (Kd.R_at hq_ HO_10.out); have n2_ := Aside0.mk (Kd.R_at hq_ HL240.out); have n3_ := Aside0.mk (below_at hq_ HB.out); (try replace hx69_0 := cell_at hq_ hx69_0); (try replace hf69_0 := (fun {W_ W2_ : World} {n_ : Nat} {a_ : Addr} {b_ : Bool} (h_ : W_.drewN n_ = W2_) (e_ : W_.frozen? a_ = b_) => (by subst h_; exact e_ : W2_.frozen? a_ = b_)) hq_ hf69_0); clear hq_ HO_4 HO_10 HL240 HB; have HO_4 := n0_; have HO_10 := n1_; have HL240 := n2_; have HB := n3_; clear n0_ n1_ n2_ n3_; (try (have hq75 : (x14_4 : Int) < (x4_3.length : Int) := (by have h_ : (x14_4 : Int) < ((x4_3.length : Int) : Int) := of_decide_eq_true (by first | (with_reducible assumption) | assumption); first | exact h_ | (have e_ := (Kd.S_reads' HO_4.out).1; omega) | simpa only [List.length_set, List.length_set] using h_))); (try (obtain ⟨oki75, ce75, hcl75, hM75, hcc75, hok75, hbk75⟩ := Kd.S_borrow HO_4.out [] (x14_4 : Int) (of_decide_eq_true (by first | (with_reducible assumption) | assumption)) hq75)); (try (obtain ⟨ve75_0, rfl, ge75_0⟩ := hM75)); (try (have hv75 := hcc75 0 _ rfl)); (try (rw [Nat.add_zero, show ((Kd.slice 3 (Kd.int .i64))).sz = 1 from rfl, Nat.mul_one] at hv75)); (try (replace hv75 := Option.some.inj (hv75.symm.trans HX218_0.out))); (try (subst hv75)); (try (clear hcc75 hcl75)); (try (replace ge75_0 := (show Kd.R (Kd.int .i64) 3 _ _ _ _ (rd_L1 x4_3 x14_4) from ge75_0))); (try (have HP75 := Kd.R_putg ge75_0 (x12_3 : Int) x11_2)))); refine store_event (t := 3) (p := 159) (v := ?vo_w76) (w1 := (wr.setCell ⟨go69, (x12_3 : Int).toNat, none⟩ (.int .i64 x11_2))) ?hg ?ho ?hn ?hr ?_; (case ho => rfl); (case hg => rfl); (case hn => rfl); (case hr => first | (go_simp; done) | (go_simp; rfl)); intro w76 hw; have hg : wr.grownBy w76 (some go69) := (by rw [hw]; exact HP75.2); have hz_ : Kd.R (Kd.int .i64) 3 w76 w.heap.size oki75 (.slice (some ⟨go69, 0, none⟩) (rd_L1 x4_3 x14_4).length c218_0) y219 := (by rw [hw, Ny219.out]; exact HP75.1); have hp_ : Kd.S (Kd.slice 3 (Kd.int .i64)) 41 w76 w.heap.size (fun k_ => some k_ ≠ (.slice (some ad217) x10_3.length co35 : Value).ownBlock) (.slice (some ad218) x4_3.length co74) y221 := (by rw [Ny221.out]; exact hbk75 hg (fun k_ e_ => by injection e_ with e_; subst e_; exact ge75_0.1 _ rfl) (Kd.M_row hz_)); have hm_ := Kd.R_mono hz_ hok75; clear HP75 hbk75; have n0_ := Aside0.mk (hp_); have n1_ := Aside0.mk (Kd.R_grown1 (by (with_reducible repeat (first | apply Kd.R_alloc | apply Kd.R_drewN | apply Kd.R_drew)); exact HO_10.out) rfl hg ((HL218_0.out.1 _ rfl).1)); have n2_ := Aside0.mk ((by rw [hw]; exact below_set (HB.out) GB69.out : Below w.heap.size w w76)); have n3_ := Aside0.mk (hm_); have n4_ := Aside0.mk ((Kd.R_reads' hm_).2.1); clear HO_4; clear HO_10; clear HB; clear HL218_0; have HO_4 := n0_; have HO_10 := n1_; have HB := n2_; have HL240 := n3_; have HC220 := n4_; clear n0_ n1_ n2_ n3_ n4_; clear hg hw hp_ hz_ hm_ hok75; have p222 : 0 ≤ (x14_4 : Int) := of_decide_eq_true (by first | (with_reducible assumption) | assumption); have q222 : x14_4 < (l0.length : Int) := of_decide_eq_true (by first | (with_reducible assumption) | assumption); obtain ⟨ad222, A222_0, c222_0, e222, hx222_0, hl222_0, hi222_0⟩ := at_L1 HR0.out x14_4 p222 q222; cases e222; replace hx222_0 := (HB.out.cell (World.block_lt_of_cell? w _ hx222_0)).trans hx222_0; have HR222_0 := Aside0.mk hi222_0; have HC222_0 := Aside0.mk hl222_0; clear hi222_0 hl222_0; replace p222 := eq_true p222; replace q222 := eq_true q222; have p223 : 0 ≤ (x12_3 : Int) := of_decide_eq_true (by first | (with_reducible assumption) | assumption); have q223 : x12_3 < ((rd_L1 l0 x14_4).length : Int) := of_decide_eq_true (by first | (with_reducible assumption) | assumption); obtain ⟨ad223, e223, hx223_0⟩ := Kd.at_int HR222_0.out x12_3 p223 q223; cases e223; replace hx223_0 := (HB.out.cell (World.block_lt_of_cell? w _ hx223_0)).trans hx223_0; replace p223 := eq_true p223; replace q223 := eq_true q223; have p73 : 0 ≤ (x12_3 : Int) := of_decide_eq_true (by first | (with_reducible assumption) | assumption); have q73 : (x12_3 : Int) < ((x10_3.length : Int) : Int) := of_decide_eq_true (by first | (with_reducible assumption) | assumption); obtain ⟨go73, co73, eo73, gb73, gl73, cl73, HG73⟩ := Kd.R_form HO_10.out (by omega); (first | cases eo73 | (injection eo73 with ea_ en_ ec_; (first | subst ea_ | (injection ea_ with ea_; subst ea_)); subst ec_; clear en_)); have GB73 := Aside0.mk gb73; have GG73 := Aside0.mk HG73; clear gb73 gl73 HG73; (first | simp only [add_plain] at hx217_0 | skip); obtain ⟨hx73_0, hf73_0⟩ := Kd.R_celln 0 HO_10.out (x12_3 : Int) p73 q73; replace p73 := eq_true p73; replace q73 := eq_true q73; obtain ⟨hy77_, hz77_⟩ := Kd.R_celln 0 HO_10.out (x12_3 : Int) (of_decide_eq_true (by first | (with_reducible assumption) | assumption)) (of_decide_eq_true (by first | (with_reducible assumption) | assumption)); have HP77 := Kd.R_putg HO_10.out (x12_3 : Int) (wrap64 (x11_2 + (rd (rd_L1 l0 x14_4) x12_3)))) | ((with_reducible refine gate_store (t := 3) (p := 171) rfl ?_); (try (rw [drewN_self w76]; generalize hq_ : World.drewN w76 _ = w76; have n0_ := Aside0.mk (Kd.S_at hq_ HO_4.out); have n1_ := Aside0.mk (Kd.R_at hq_ HO_10.out); have n2_ := Aside0.mk (Kd.R_at hq_ HL240.out); have n3_ := Aside0.mk (below_at hq_ HB.out); (try replace hx73_0 := cell_at hq_ hx73_0); (try replace hf73_0 := (fun {W_ W2_ : World} {n_ : Nat} {a_ : Addr} {b_ : Bool} (h_ : W_.drewN n_ = W2_) (e_ : W_.frozen? a_ = b_) => (by subst h_; exact e_ : W2_.frozen? a_ = b_)) hq_ hf73_0); clear hq_ HO_4 HO_10 HL240 HB; have HO_4 := n0_; have HO_10 := n1_; have HL240 := n2_; have HB := n3_; clear n0_ n1_ n2_ n3_; (try (obtain ⟨hy77_, hz77_⟩ := Kd.R_celln 0 HO_10.out (x12_3 : Int) (of_decide_eq_true (by first | (with_reducible assumption) | assumption)) (of_decide_eq_true (by first | (with_reducible assumption) | assumption)))); (try (have HP77 := Kd.R_putg HO_10.out (x12_3 : Int) (wrap64 (x11_2 + (rd (rd_L1 l0 x14_4) x12_3))))))); refine store_event (t := 3) (p := 171) (v := ?vo_w78) (w1 := (w76.setCell ⟨go73, (x12_3 : Int).toNat, none⟩ (.int .i64 (wrap64 (x11_2 + (rd (rd_L1 l0 x14_4) x12_3)))))) ?hg ?ho ?hn ?hr ?_; (case ho => rfl); (case hg => rfl); (case hn => rfl); (case hr => first | (go_simp; done) | (go_simp; rfl)); intro w78 hw; have hg : w76.grownBy w78 (some go73) := (by rw [hw]; exact HP77.2); have hp_ : Kd.R (Kd.int .i64) 3 w78 w.heap.size (fun _ => True) (.slice (some ⟨go73, 0, none⟩) x10_3.length co35) y224 := (by rw [hw, Ny224.out]; exact HP77.1); clear HP77; have n0_ := Aside0.mk (Kd.S_after (v := (.slice (some ⟨go73, 0, none⟩) x10_3.length co35)) (v1 := (.slice (some ⟨go73, 0, none⟩) x10_3.length co35)) (ok := (fun _ => True)) (by (with_reducible repeat (first | apply Kd.S_alloc | apply Kd.S_drewN | apply Kd.S_drew)); exact Kd.S_mono HO_4.out (fun _ hk => ⟨trivial, hk⟩)) hg (.inl rfl)); have n1_ := Aside0.mk (hp_); have n2_ := Aside0.mk (Kd.R_after (v := (.slice (some ⟨go73, 0, none⟩) x10_3.length co35)) (v1 := (.slice (some ⟨go73, 0, none⟩) x10_3.length co35)) (ok := (fun k_ => some k_ ≠ (.slice (some ad218) x4_3.length co74 : Value).ownBlock)) (by (with_reducible repeat (first | apply Kd.R_alloc | apply Kd.R_drewN | apply Kd.R_drew)); exact Kd.R_mono HL240.out (fun _ hk => ⟨hk.2, hk.1⟩)) hg (.inl rfl)); have n3_ := Aside0.mk ((by rw [hw]; exact below_set (HB.out) GB73.out : Below w.heap.size w w78)); clear HO_4; clear HO_10; clear HL240; clear HB; have HO_4 := n0_; have HO_10 := n1_; have HL240 := n2_; have HB := n3_; clear n0_ n1_ n2_ n3_; clear hg hw hp_))
                                                      repeat (go_quiet (first | ((with_reducible refine gate_store (t := 3) (p := 159) rfl ?_); (try (rw [drewN_self wr]; generalize hq_ : World.drewN wr _ = wr; have n0_ := Aside0.mk (Kd.S_at hq_ HO_4.out); have n1_ := Aside0.mk (Kd.R_at hq_ HO_10.out); have n2_ := Aside0.mk (Kd.R_at hq_ HL240.out); have n3_ := Aside0.mk (below_at hq_ HB.out); (try replace hx69_0 := cell_at hq_ hx69_0); (try replace hf69_0 := (fun {W_ W2_ : World} {n_ : Nat} {a_ : Addr} {b_ : Bool} (h_ : W_.drewN n_ = W2_) (e_ : W_.frozen? a_ = b_) => (by subst h_; exact e_ : W2_.frozen? a_ = b_)) hq_ hf69_0); clear hq_ HO_4 HO_10 HL240 HB; have HO_4 := n0_; have HO_10 := n1_; have HL240 := n2_; have HB := n3_; clear n0_ n1_ n2_ n3_; (try (have hq75 : (x14_4 : Int) < (x4_3.length : Int) := (by have h_ : (x14_4 : Int) < ((x4_3.length : Int) : Int) := of_decide_eq_true (by first | (with_reducible assumption) | assumption); first | exact h_ | (have e_ := (Kd.S_reads' HO_4.out).1; omega) | simpa only [List.length_set, List.length_set] using h_))); (try (obtain ⟨oki75, ce75, hcl75, hM75, hcc75, hok75, hbk75⟩ := Kd.S_borrow HO_4.out [] (x14_4 : Int) (of_decide_eq_true (by first | (with_reducible assumption) | assumption)) hq75)); (try (obtain ⟨ve75_0, rfl, ge75_0⟩ := hM75)); (try (have hv75 := hcc75 0 _ rfl)); (try (rw [Nat.add_zero, show ((Kd.slice 3 (Kd.int .i64))).sz = 1 from rfl, Nat.mul_one] at hv75)); (try (replace hv75 := Option.some.inj (hv75.symm.trans HX218_0.out))); (try (subst hv75)); (try (clear hcc75 hcl75)); (try (replace ge75_0 := (show Kd.R (Kd.int .i64) 3 _ _ _ _ (rd_L1 x4_3 x14_4) from ge75_0))); (try (have HP75 := Kd.R_putg ge75_0 (x12_3 : Int) x11_2)))); refine store_event (t := 3) (p := 159) (v := ?vo_w76) (w1 := (wr.setCell ⟨go69, (x12_3 : Int).toNat, none⟩ (.int .i64 x11_2))) ?hg ?ho ?hn ?hr ?_; (case ho => rfl); (case hg => rfl); (case hn => rfl); (case hr => first | (go_simp; done) | (go_simp; rfl)); intro w76 hw; have hg : wr.grownBy w76 (some go69) := (by rw [hw]; exact HP75.2); have hz_ : Kd.R (Kd.int .i64) 3 w76 w.heap.size oki75 (.slice (some ⟨go69, 0, none⟩) (rd_L1 x4_3 x14_4).length c218_0) y219 := (by rw [hw, Ny219.out]; exact HP75.1); have hp_ : Kd.S (Kd.slice 3 (Kd.int .i64)) 41 w76 w.heap.size (fun k_ => some k_ ≠ (.slice (some ad217) x10_3.length co35 : Value).ownBlock) (.slice (some ad218) x4_3.length co74) y221 := (by rw [Ny221.out]; exact hbk75 hg (fun k_ e_ => by injection e_ with e_; subst e_; exact ge75_0.1 _ rfl) (Kd.M_row hz_)); have hm_ := Kd.R_mono hz_ hok75; clear HP75 hbk75; have n0_ := Aside0.mk (hp_); have n1_ := Aside0.mk (Kd.R_grown1 (by (with_reducible repeat (first | apply Kd.R_alloc | apply Kd.R_drewN | apply Kd.R_drew)); exact HO_10.out) rfl hg ((HL218_0.out.1 _ rfl).1)); have n2_ := Aside0.mk ((by rw [hw]; exact below_set (HB.out) GB69.out : Below w.heap.size w w76)); have n3_ := Aside0.mk (hm_); have n4_ := Aside0.mk ((Kd.R_reads' hm_).2.1); clear HO_4; clear HO_10; clear HB; clear HL218_0; have HO_4 := n0_; have HO_10 := n1_; have HB := n2_; have HL240 := n3_; have HC220 := n4_; clear n0_ n1_ n2_ n3_ n4_; clear hg hw hp_ hz_ hm_ hok75; have p222 : 0 ≤ (x14_4 : Int) := of_decide_eq_true (by first | (with_reducible assumption) | assumption); have q222 : x14_4 < (l0.length : Int) := of_decide_eq_true (by first | (with_reducible assumption) | assumption); obtain ⟨ad222, A222_0, c222_0, e222, hx222_0, hl222_0, hi222_0⟩ := at_L1 HR0.out x14_4 p222 q222; cases e222; replace hx222_0 := (HB.out.cell (World.block_lt_of_cell? w _ hx222_0)).trans hx222_0; have HR222_0 := Aside0.mk hi222_0; have HC222_0 := Aside0.mk hl222_0; clear hi222_0 hl222_0; replace p222 := eq_true p222; replace q222 := eq_true q222; have p223 : 0 ≤ (x12_3 : Int) := of_decide_eq_true (by first | (with_reducible assumption) | assumption); have q223 : x12_3 < ((rd_L1 l0 x14_4).length : Int) := of_decide_eq_true (by first | (with_reducible assumption) | assumption); obtain ⟨ad223, e223, hx223_0⟩ := Kd.at_int HR222_0.out x12_3 p223 q223; cases e223; replace hx223_0 := (HB.out.cell (World.block_lt_of_cell? w _ hx223_0)).trans hx223_0; replace p223 := eq_true p223; replace q223 := eq_true q223; have p73 : 0 ≤ (x12_3 : Int) := of_decide_eq_true (by first | (with_reducible assumption) | assumption); have q73 : (x12_3 : Int) < ((x10_3.length : Int) : Int) := of_decide_eq_true (by first | (with_reducible assumption) | assumption); obtain ⟨go73, co73, eo73, gb73, gl73, cl73, HG73⟩ := Kd.R_form HO_10.out (by omega); (first | cases eo73 | (injection eo73 with ea_ en_ ec_; (first | subst ea_ | (injection ea_ with ea_; subst ea_)); subst ec_; clear en_)); have GB73 := Aside0.mk gb73; have GG73 := Aside0.mk HG73; clear gb73 gl73 HG73; (first | simp only [add_plain] at hx217_0 | skip); obtain ⟨hx73_0, hf73_0⟩ := Kd.R_celln 0 HO_10.out (x12_3 : Int) p73 q73; replace p73 := eq_true p73; replace q73 := eq_true q73; obtain ⟨hy77_, hz77_⟩ := Kd.R_celln 0 HO_10.out (x12_3 : Int) (of_decide_eq_true (by first | (with_reducible assumption) | assumption)) (of_decide_eq_true (by first | (with_reducible assumption) | assumption)); have HP77 := Kd.R_putg HO_10.out (x12_3 : Int) (wrap64 (x11_2 + (rd (rd_L1 l0 x14_4) x12_3)))) | ((with_reducible refine gate_store (t := 3) (p := 171) rfl ?_); (try (rw [drewN_self w76]; generalize hq_ : World.drewN w76 _ = w76; have n0_ := Aside0.mk (Kd.S_at hq_ HO_4.out); have n1_ := Aside0.mk (Kd.R_at hq_ HO_10.out); have n2_ := Aside0.mk (Kd.R_at hq_ HL240.out); have n3_ := Aside0.mk (below_at hq_ HB.out); (try replace hx73_0 := cell_at hq_ hx73_0); (try replace hf73_0 := (fun {W_ W2_ : World} {n_ : Nat} {a_ : Addr} {b_ : Bool} (h_ : W_.drewN n_ = W2_) (e_ : W_.frozen? a_ = b_) => (by subst h_; exact e_ : W2_.frozen? a_ = b_)) hq_ hf73_0); clear hq_ HO_4 HO_10 HL240 HB; have HO_4 := n0_; have HO_10 := n1_; have HL240 := n2_; have HB := n3_; clear n0_ n1_ n2_ n3_; (try (obtain ⟨hy77_, hz77_⟩ := Kd.R_celln 0 HO_10.out (x12_3 : Int) (of_decide_eq_true (by first | (with_reducible assumption) | assumption)) (of_decide_eq_true (by first | (with_reducible assumption) | assumption)))); (try (have HP77 := Kd.R_putg HO_10.out (x12_3 : Int) (wrap64 (x11_2 + (rd (rd_L1 l0 x14_4) x12_3))))))); refine store_event (t := 3) (p := 171) (v := ?vo_w78) (w1 := (w76.setCell ⟨go73, (x12_3 : Int).toNat, none⟩ (.int .i64 (wrap64 (x11_2 + (rd (rd_L1 l0 x14_4) x12_3)))))) ?hg ?ho ?hn ?hr ?_; (case ho => rfl); (case hg => rfl); (case hn => rfl); (case hr => first | (go_simp; done) | (go_simp; rfl)); intro w78 hw; have hg : w76.grownBy w78 (some go73) := (by rw [hw]; exact HP77.2); have hp_ : Kd.R (Kd.int .i64) 3 w78 w.heap.size (fun _ => True) (.slice (some ⟨go73, 0, none⟩) x10_3.length co35) y224 := (by rw [hw, Ny224.out]; exact HP77.1); clear HP77; have n0_ := Aside0.mk (Kd.S_after (v := (.slice (some ⟨go73, 0, none⟩) x10_3.length co35)) (v1 := (.slice (some ⟨go73, 0, none⟩) x10_3.length co35)) (ok := (fun _ => True)) (by (with_reducible repeat (first | apply Kd.S_alloc | apply Kd.S_drewN | apply Kd.S_drew)); exact Kd.S_mono HO_4.out (fun _ hk => ⟨trivial, hk⟩)) hg (.inl rfl)); have n1_ := Aside0.mk (hp_); have n2_ := Aside0.mk (Kd.R_after (v := (.slice (some ⟨go73, 0, none⟩) x10_3.length co35)) (v1 := (.slice (some ⟨go73, 0, none⟩) x10_3.length co35)) (ok := (fun k_ => some k_ ≠ (.slice (some ad218) x4_3.length co74 : Value).ownBlock)) (by (with_reducible repeat (first | apply Kd.R_alloc | apply Kd.R_drewN | apply Kd.R_drew)); exact Kd.R_mono HL240.out (fun _ hk => ⟨hk.2, hk.1⟩)) hg (.inl rfl)); have n3_ := Aside0.mk ((by rw [hw]; exact below_set (HB.out) GB73.out : Below w.heap.size w w78)); clear HO_4; clear HO_10; clear HL240; clear HB; have HO_4 := n0_; have HO_10 := n1_; have HL240 := n2_; have HB := n3_; clear n0_ n1_ n2_ n3_; clear hg hw hp_)); try go_wp2_with (first | ((with_reducible refine gate_store (t := 3) (p := 159) rfl ?_); (try (rw [drewN_self wr]; generalize hq_ : World.drewN wr _ = wr; have n0_ := Aside0.mk (Kd.S_at hq_ HO_4.out); have n1_ := Aside0.mk (Kd.R_at hq_ HO_10.out); have n2_ := Aside0.mk (Kd.R_at hq_ HL240.out); have n3_ := Aside0.mk (below_at hq_ HB.out); (try replace hx69_0 := cell_at hq_ hx69_0); (try replace hf69_0 := (fun {W_ W2_ : World} {n_ : Nat} {a_ : Addr} {b_ : Bool} (h_ : W_.drewN n_ = W2_) (e_ : W_.frozen? a_ = b_) => (by subst h_; exact e_ : W2_.frozen? a_ = b_)) hq_ hf69_0); clear hq_ HO_4 HO_10 HL240 HB; have HO_4 := n0_; have HO_10 := n1_; have HL240 := n2_; have HB := n3_; clear n0_ n1_ n2_ n3_; (try (have hq75 : (x14_4 : Int) < (x4_3.length : Int) := (by have h_ : (x14_4 : Int) < ((x4_3.length : Int) : Int) := of_decide_eq_true (by first | (with_reducible assumption) | assumption); first | exact h_ | (have e_ := (Kd.S_reads' HO_4.out).1; omega) | simpa only [List.length_set, List.length_set] using h_))); (try (obtain ⟨oki75, ce75, hcl75, hM75, hcc75, hok75, hbk75⟩ := Kd.S_borrow HO_4.out [] (x14_4 : Int) (of_decide_eq_true (by first | (with_reducible assumption) | assumption)) hq75)); (try (obtain ⟨ve75_0, rfl, ge75_0⟩ := hM75)); (try (have hv75 := hcc75 0 _ rfl)); (try (rw [Nat.add_zero, show ((Kd.slice 3 (Kd.int .i64))).sz = 1 from rfl, Nat.mul_one] at hv75)); (try (replace hv75 := Option.some.inj (hv75.symm.trans HX218_0.out))); (try (subst hv75)); (try (clear hcc75 hcl75)); (try (replace ge75_0 := (show Kd.R (Kd.int .i64) 3 _ _ _ _ (rd_L1 x4_3 x14_4) from ge75_0))); (try (have HP75 := Kd.R_putg ge75_0 (x12_3 : Int) x11_2)))); refine store_event (t := 3) (p := 159) (v := ?vo_w76) (w1 := (wr.setCell ⟨go69, (x12_3 : Int).toNat, none⟩ (.int .i64 x11_2))) ?hg ?ho ?hn ?hr ?_; (case ho => rfl); (case hg => rfl); (case hn => rfl); (case hr => first | (go_simp; done) | (go_simp; rfl)); intro w76 hw; have hg : wr.grownBy w76 (some go69) := (by rw [hw]; exact HP75.2); have hz_ : Kd.R (Kd.int .i64) 3 w76 w.heap.size oki75 (.slice (some ⟨go69, 0, none⟩) (rd_L1 x4_3 x14_4).length c218_0) y219 := (by rw [hw, Ny219.out]; exact HP75.1); have hp_ : Kd.S (Kd.slice 3 (Kd.int .i64)) 41 w76 w.heap.size (fun k_ => some k_ ≠ (.slice (some ad217) x10_3.length co35 : Value).ownBlock) (.slice (some ad218) x4_3.length co74) y221 := (by rw [Ny221.out]; exact hbk75 hg (fun k_ e_ => by injection e_ with e_; subst e_; exact ge75_0.1 _ rfl) (Kd.M_row hz_)); have hm_ := Kd.R_mono hz_ hok75; clear HP75 hbk75; have n0_ := Aside0.mk (hp_); have n1_ := Aside0.mk (Kd.R_grown1 (by (with_reducible repeat (first | apply Kd.R_alloc | apply Kd.R_drewN | apply Kd.R_drew)); exact HO_10.out) rfl hg ((HL218_0.out.1 _ rfl).1)); have n2_ := Aside0.mk ((by rw [hw]; exact below_set (HB.out) GB69.out : Below w.heap.size w w76)); have n3_ := Aside0.mk (hm_); have n4_ := Aside0.mk ((Kd.R_reads' hm_).2.1); clear HO_4; clear HO_10; clear HB; clear HL218_0; have HO_4 := n0_; have HO_10 := n1_; have HB := n2_; have HL240 := n3_; have HC220 := n4_; clear n0_ n1_ n2_ n3_ n4_; clear hg hw hp_ hz_ hm_ hok75; have p222 : 0 ≤ (x14_4 : Int) := of_decide_eq_true (by first | (with_reducible assumption) | assumption); have q222 : x14_4 < (l0.length : Int) := of_decide_eq_true (by first | (with_reducible assumption) | assumption); obtain ⟨ad222, A222_0, c222_0, e222, hx222_0, hl222_0, hi222_0⟩ := at_L1 HR0.out x14_4 p222 q222; cases e222; replace hx222_0 := (HB.out.cell (World.block_lt_of_cell? w _ hx222_0)).trans hx222_0; have HR222_0 := Aside0.mk hi222_0; have HC222_0 := Aside0.mk hl222_0; clear hi222_0 hl222_0; replace p222 := eq_true p222; replace q222 := eq_true q222; have p223 : 0 ≤ (x12_3 : Int) := of_decide_eq_true (by first | (with_reducible assumption) | assumption); have q223 : x12_3 < ((rd_L1 l0 x14_4).length : Int) := of_decide_eq_true (by first | (with_reducible assumption) | assumption); obtain ⟨ad223, e223, hx223_0⟩ := Kd.at_int HR222_0.out x12_3 p223 q223; cases e223; replace hx223_0 := (HB.out.cell (World.block_lt_of_cell? w _ hx223_0)).trans hx223_0; replace p223 := eq_true p223; replace q223 := eq_true q223; have p73 : 0 ≤ (x12_3 : Int) := of_decide_eq_true (by first | (with_reducible assumption) | assumption); have q73 : (x12_3 : Int) < ((x10_3.length : Int) : Int) := of_decide_eq_true (by first | (with_reducible assumption) | assumption); obtain ⟨go73, co73, eo73, gb73, gl73, cl73, HG73⟩ := Kd.R_form HO_10.out (by omega); (first | cases eo73 | (injection eo73 with ea_ en_ ec_; (first | subst ea_ | (injection ea_ with ea_; subst ea_)); subst ec_; clear en_)); have GB73 := Aside0.mk gb73; have GG73 := Aside0.mk HG73; clear gb73 gl73 HG73; (first | simp only [add_plain] at hx217_0 | skip); obtain ⟨hx73_0, hf73_0⟩ := Kd.R_celln 0 HO_10.out (x12_3 : Int) p73 q73; replace p73 := eq_true p73; replace q73 := eq_true q73; obtain ⟨hy77_, hz77_⟩ := Kd.R_celln 0 HO_10.out (x12_3 : Int) (of_decide_eq_true (by first | (with_reducible assumption) | assumption)) (of_decide_eq_true (by first | (with_reducible assumption) | assumption)); have HP77 := Kd.R_putg HO_10.out (x12_3 : Int) (wrap64 (x11_2 + (rd (rd_L1 l0 x14_4) x12_3)))) | ((with_reducible refine gate_store (t := 3) (p := 171) rfl ?_); (try (rw [drewN_self w76]; generalize hq_ : World.drewN w76 _ = w76; have n0_ := Aside0.mk (Kd.S_at hq_ HO_4.out); have n1_ := Aside0.mk (Kd.R_at hq_ HO_10.out); have n2_ := Aside0.mk (Kd.R_at hq_ HL240.out); have n3_ := Aside0.mk (below_at hq_ HB.out); (try replace hx73_0 := cell_at hq_ hx73_0); (try replace hf73_0 := (fun {W_ W2_ : World} {n_ : Nat} {a_ : Addr} {b_ : Bool} (h_ : W_.drewN n_ = W2_) (e_ : W_.frozen? a_ = b_) => (by subst h_; exact e_ : W2_.frozen? a_ = b_)) hq_ hf73_0); clear hq_ HO_4 HO_10 HL240 HB; have HO_4 := n0_; have HO_10 := n1_; have HL240 := n2_; have HB := n3_; clear n0_ n1_ n2_ n3_; (try (obtain ⟨hy77_, hz77_⟩ := Kd.R_celln 0 HO_10.out (x12_3 : Int) (of_decide_eq_true (by first | (with_reducible assumption) | assumption)) (of_decide_eq_true (by first | (with_reducible assumption) | assumption)))); (try (have HP77 := Kd.R_putg HO_10.out (x12_3 : Int) (wrap64 (x11_2 + (rd (rd_L1 l0 x14_4) x12_3))))))); refine store_event (t := 3) (p := 171) (v := ?vo_w78) (w1 := (w76.setCell ⟨go73, (x12_3 : Int).toNat, none⟩ (.int .i64 (wrap64 (x11_2 + (rd (rd_L1 l0 x14_4) x12_3)))))) ?hg ?ho ?hn ?hr ?_; (case ho => rfl); (case hg => rfl); (case hn => rfl); (case hr => first | (go_simp; done) | (go_simp; rfl)); intro w78 hw; have hg : w76.grownBy w78 (some go73) := (by rw [hw]; exact HP77.2); have hp_ : Kd.R (Kd.int .i64) 3 w78 w.heap.size (fun _ => True) (.slice (some ⟨go73, 0, none⟩) x10_3.length co35) y224 := (by rw [hw, Ny224.out]; exact HP77.1); clear HP77; have n0_ := Aside0.mk (Kd.S_after (v := (.slice (some ⟨go73, 0, none⟩) x10_3.length co35)) (v1 := (.slice (some ⟨go73, 0, none⟩) x10_3.length co35)) (ok := (fun _ => True)) (by (with_reducible repeat (first | apply Kd.S_alloc | apply Kd.S_drewN | apply Kd.S_drew)); exact Kd.S_mono HO_4.out (fun _ hk => ⟨trivial, hk⟩)) hg (.inl rfl)); have n1_ := Aside0.mk (hp_); have n2_ := Aside0.mk (Kd.R_after (v := (.slice (some ⟨go73, 0, none⟩) x10_3.length co35)) (v1 := (.slice (some ⟨go73, 0, none⟩) x10_3.length co35)) (ok := (fun k_ => some k_ ≠ (.slice (some ad218) x4_3.length co74 : Value).ownBlock)) (by (with_reducible repeat (first | apply Kd.R_alloc | apply Kd.R_drewN | apply Kd.R_drew)); exact Kd.R_mono HL240.out (fun _ hk => ⟨hk.2, hk.1⟩)) hg (.inl rfl)); have n3_ := Aside0.mk ((by rw [hw]; exact below_set (HB.out) GB73.out : Below w.heap.size w w78)); clear HO_4; clear HO_10; clear HL240; clear HB; have HO_4 := n0_; have HO_10 := n1_; have HL240 := n2_; have HB := n3_; clear n0_ n1_ n2_ n3_; clear hg hw hp_)))
                                                      go_roundg k4
                                                      case measure => have := HK1.out; have := HK2.out; have := HK3.out; have := HK4.out; omega
                                                      case rel => exact ⟨(y221), (wrap64 (x5_3 - 1)), (y224), (wrap64 (x12_3 + 1)), (by first | rfl | (simp; done) | (simp [*]; done)), (by first | rfl | (simp; done) | (simp [*]; done)), H', ⟨by have := HK1.out; have := HK2.out; have := HK3.out; have := HK4.out; omega⟩, ⟨by (with_reducible repeat (first | apply Kd.S_alloc | apply Kd.S_drewN | apply Kd.S_drew)); exact Kd.S_mono HO_4.out (fun _ hk => hk.2)⟩, ⟨by (with_reducible repeat (first | apply Kd.R_alloc | apply Kd.R_drewN | apply Kd.R_drew)); exact HO_10.out⟩, ⟨by repeat (first | (with_reducible first | exact HB.out | apply below_alloc | apply pw_below_drewN | apply below_drew1) | exact HB.out)⟩⟩
                                                    · rw [if_neg c72] at H
                                                      exact absurd H (by simp)
                                                  · rw [if_neg c71] at H
                                                    exact absurd H (by simp)
                                                · rw [if_neg c70] at H
                                                  exact absurd H (by simp)
                                              · rw [if_neg c68] at H
                                                exact absurd H (by simp)
                                            · rw [if_neg c67] at H
                                              exact absurd H (by simp)
                                          · rw [if_neg c66] at H
                                            exact absurd H (by simp)
                                        · rw [if_neg c65] at H
                                          exact absurd H (by simp)
                                      · rw [if_neg c64] at H
                                        have c64b0 : decide (0 ≤ x14_4) = false := decide_eq_false c64
                                        clear c64
                                        have H' := Aside0.mk H
                                        clear H
                                        go_wp2
                                        repeat (go_quiet (fail); try go_wp2)
                                        go_roundg k4
                                        case measure => have := HK1.out; have := HK2.out; have := HK3.out; have := HK4.out; omega
                                        case rel => exact ⟨(x4_3), (x5_3), (x10_3), (wrap64 (x12_3 + 1)), (by first | rfl | (simp; done) | (simp [*]; done)), (by first | rfl | (simp; done) | (simp [*]; done)), H', ⟨by have := HK1.out; have := HK2.out; have := HK3.out; have := HK4.out; omega⟩, ⟨by (with_reducible repeat (first | apply Kd.S_alloc | apply Kd.S_drewN | apply Kd.S_drew)); exact HO_4.out⟩, ⟨by (with_reducible repeat (first | apply Kd.R_alloc | apply Kd.R_drewN | apply Kd.R_drew)); exact HO_10.out⟩, ⟨by repeat (first | (with_reducible first | exact HB.out | apply below_alloc | apply pw_below_drewN | apply below_drew1) | exact HB.out)⟩⟩
                            · rw [if_neg c32] at H
                              exact absurd H (by simp)
                          · rw [if_neg c31] at H
                            exact absurd H (by simp)
                        · rw [if_neg c30] at H
                          have c30b0 : decide (x12_3 < 2) = false := decide_eq_false c30
                          clear c30
                          have H' := Aside0.mk H
                          clear H
                          go_wp2
                          repeat (go_quiet (fail); try go_wp2)
                          go_roundg k3
                          case measure => have := HK1.out; have := HK2.out; have := HK3.out; omega
                          case rel => exact ⟨(x4_3), (x5_3), (x10_3), (wrap64 (x11_2 + 1)), (by first | rfl | (simp; done) | (simp [*]; done)), (by first | rfl | (simp; done) | (simp [*]; done)), H', ⟨by have := HK1.out; have := HK2.out; have := HK3.out; omega⟩, ⟨by (with_reducible repeat (first | apply Kd.S_alloc | apply Kd.S_drewN | apply Kd.S_drew)); exact HO_4.out⟩, ⟨by (with_reducible repeat (first | apply Kd.R_alloc | apply Kd.R_drewN | apply Kd.R_drew)); exact HO_10.out⟩, ⟨by repeat (first | (with_reducible first | exact HB.out | apply below_alloc | apply pw_below_drewN | apply below_drew1) | exact HB.out)⟩⟩
                  · rw [if_neg c29] at H
                    have c29b0 : decide (0 < x5_2) = false := decide_eq_false c29
                    clear c29
                    simp only [Option.some.injEq, Prod.mk.injEq] at H
                    obtain ⟨rfl, rfl⟩ := H
                    go_wp2
                    repeat (go_quiet (fail); try go_wp2)
                    go_ret2
                    exact ⟨_, by first | rfl | (simp [errW_none, errW_some] <;> rfl) | (simp [*, errW_none, errW_some] <;> rfl), by (with_reducible repeat (first | apply Kd.S_alloc | apply Kd.S_drewN | apply Kd.S_drew)); exact Kd.S_mono HO_4.out (fun _ hk => trivial), by repeat (first | (with_reducible first | exact HB.out | apply below_alloc | apply pw_below_drewN | apply below_drew1) | exact HB.out)⟩
      · rw [if_neg c5] at H
        exact absurd H (by simp)
    · rw [if_neg c4] at H
      exact absurd H (by simp)
  · replace c3 := Bool.eq_false_iff.mpr c3
    subst c3
    have H1 : (some (([] : List (List Int)), false)) = some (r1, r2) := by rw [if_neg (show ¬ (false = true) by decide)] at H; exact H
    clear H
    have H := H1
    clear H1
    simp only [Option.some.injEq, Prod.mk.injEq] at H
    obtain ⟨rfl, rfl⟩ := H
    go_enter Try.func12, Try.ntmps12
    go_wp2_with (first | (go_at_call 46; (with_reducible refine (impl_isShopOf.calls k _ _ l0 2 false _ ?side1 ?side2 A2.out).mono ?_); (case side1 => repeat (first | exact HR0.out | (with_reducible refine Kd.C_alloc ?_ _) | (with_reducible refine Kd.C_drewN ?_ _) | (with_reducible refine Kd.C_drew ?_))); (case side2 => exact HC0.out); rintro e w' ⟨rfl, ⟨nd, rfl⟩⟩; (try first | exact ⟨rfl, _, World.drewN_drewN _ _ _⟩ | exact ⟨rfl, _, Eq.trans (World.drewN_drewN _ _ _) (congrArg (World.drewN _) (Nat.add_assoc _ _ _))⟩)))
    repeat (go_quiet (first | (go_at_call 46; (with_reducible refine (impl_isShopOf.calls k _ _ l0 2 false _ ?side1 ?side2 A2.out).mono ?_); (case side1 => repeat (first | exact HR0.out | (with_reducible refine Kd.C_alloc ?_ _) | (with_reducible refine Kd.C_drewN ?_ _) | (with_reducible refine Kd.C_drew ?_))); (case side2 => exact HC0.out); rintro e w' ⟨rfl, ⟨nd, rfl⟩⟩; (try first | exact ⟨rfl, _, World.drewN_drewN _ _ _⟩ | exact ⟨rfl, _, Eq.trans (World.drewN_drewN _ _ _) (congrArg (World.drewN _) (Nat.add_assoc _ _ _))⟩))); try go_wp2_with (first | (go_at_call 46; (with_reducible refine (impl_isShopOf.calls k _ _ l0 2 false _ ?side1 ?side2 A2.out).mono ?_); (case side1 => repeat (first | exact HR0.out | (with_reducible refine Kd.C_alloc ?_ _) | (with_reducible refine Kd.C_drewN ?_ _) | (with_reducible refine Kd.C_drew ?_))); (case side2 => exact HC0.out); rintro e w' ⟨rfl, ⟨nd, rfl⟩⟩; (try first | exact ⟨rfl, _, World.drewN_drewN _ _ _⟩ | exact ⟨rfl, _, Eq.trans (World.drewN_drewN _ _ _) (congrArg (World.drewN _) (Nat.add_assoc _ _ _))⟩))))
    go_ret2
    exact ⟨_, by first | rfl | (simp [errW_none, errW_some] <;> rfl) | (simp [*, errW_none, errW_some] <;> rfl), by first | exact Kd.S_nil _ _ _ _ _ | exact Kd.N_nil _ _ _ _ _ | exact Kd.V_nil _ _ _ _ _ | exact Kd.Q_nil _ _ _ _ _ | exact Kd.R_nil _ _ _ _ _, by repeat (first | (with_reducible first | exact HB.out | apply below_alloc | apply pw_below_drewN | apply below_drew1) | exact HB.out)⟩

end Go.Proofs.Ytbblhmpcpmamfaa.XFnExactOpenSchedule
