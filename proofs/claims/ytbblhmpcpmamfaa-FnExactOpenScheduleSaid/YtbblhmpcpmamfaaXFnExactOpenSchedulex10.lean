-- Written by a program of this session (the kit's print, widened). Proved here: what each function answers, for the arguments that its contract names.
import Derived.Test.YtbblhmpcpmamfaaXFnExactOpenSchedulex0
import Derived.Test.YtbblhmpcpmamfaaXFnExactOpenSchedulex9
namespace Go.Proofs.Ytbblhmpcpmamfaa.XFnExactOpenSchedule
open Go.RowKit Go.Proofs.YtbblhmpcpmamfaaW.PrintWords Go.Proofs.YtbblhmpcpmamfaaW.PrintLast Go.Proofs.YtbblhmpcpmamfaaW.PrintMore
attribute [local go_sem] max2_int min2_int max_two min_two max_three min_three max_four min_four   -- for this text's walks alone
attribute [local go_sem] idxA_77_0 idxA_77_1 fldS_68_0 fldS_68_1 fldS_73_0 fldS_73_1 fldS_73_2
set_option linter.unusedVariables false
set_option linter.unusedSimpArgs false

/-! ### laws_markIntSS: function 14, by hand -/
def laws_markIntSS.l0 : Nat → List (List Int) → Int → Int → Option (Int × List (List Int))
  | 0, _, _, _ => none
  | k + 1, x0, x1, x5 => if 0 ≤ x5 ∧ x5 < (x0.length : Int) then ((laws_markIntS.f k (rd_L1 x0 x5) x1).bind fun b => laws_markIntSS.l0 k (x0.set x5.toNat b.2) b.1 (wrap64 (x5 + 1))) else (if x5 < (x0.length : Int) then none else some (x1, x0))
def laws_markIntSS.f (k : Nat) (l0 : List (List Int)) (a1 : Int) : Option (Int × List (List Int)) := if l0.length ≤ 1048576 then laws_markIntSS.l0 k l0 a1 0 else none
theorem laws_markIntSS.mono_l : ∀ k, (∀ y0 y1 y2, LeO (laws_markIntSS.l0 k y0 y1 y2) (laws_markIntSS.l0 (k + 1) y0 y1 y2))
  | 0 => fun _ _ _ r h => by simp [laws_markIntSS.l0] at h
  | k + 1 => by
    have ih := laws_markIntSS.mono_l k
    intro y0 y1 y2
    unfold laws_markIntSS.l0
    refine LeO.ite ?_ (LeO.refl _)
    exact LeO.bind (laws_markIntS.mono _ _ _) (fun _ => ih _ _ _)
theorem laws_markIntSS.mono : ∀ a0 a1 k, LeO (laws_markIntSS.f k a0 a1) (laws_markIntSS.f (k + 1) a0 a1) := fun a0 a1 k => LeO.ite (laws_markIntSS.mono_l k a0 a1 0) (LeO.refl _)
set_option maxHeartbeats 8000000 in
set_option maxRecDepth 100000 in
theorem laws_markIntSS.calls (k : Nat) (P0_ : Nat → Prop) (u9000_ : Value) (l0 : List (List Int)) (a1 : Int) (r1 : Int) (r2 : List (List Int)) (w0 w : World) (hB : Below w0.heap.size w0 w) (ho0 : Kd.S (Kd.slice 3 (Kd.int .i64)) 41 w w0.heap.size P0_ u9000_ l0) (h : laws_markIntSS.f k l0 a1 = some (r1, r2)) :
    Calls Try.prog 14 #[u9000_, .int .i64 a1] w fun e w' => e = .returned (.int .i64 r1) ∧ Kd.S (Kd.slice 3 (Kd.int .i64)) 41 w' w0.heap.size P0_ u9000_ r2 ∧ Below w0.heap.size w0 w' ∧ Kept w w' (fun k_ => P0_ k_) := by
  obtain ⟨Au, cu, eu⟩ := Kd.S_slice ho0
  subst eu
  have HB := Aside0.mk hB
  have HS := Aside0.mk ho0
  have HK := Aside0.mk (Kept.refl w (fun k_ => P0_ k_))
  unfold laws_markIntSS.f at h
  split at h
  case isFalse => cases h
  case isTrue hlen =>
  have HLEN := Aside0.mk hlen
  have H' := Aside0.mk h
  clear hB ho0 h hlen
  go_enter Try.func14, Try.ntmps14
  go_wp2
  go_loopg [1, 5] k (fun kq v1 v5 w' => ∃ (x0 : List (List Int)) (x1 x5 : Int), v1 = .int .i64 x1 ∧ v5 = .int .i64 x5 ∧ Aside0 (laws_markIntSS.l0 kq x0 x1 x5 = some (r1, r2)) ∧ Aside0 (kq ≤ k) ∧ Aside0 (x0.length = l0.length ∧ 0 ≤ x5 ∧ x5 ≤ (l0.length : Int)) ∧ Aside0 (Kd.S (Kd.slice 3 (Kd.int .i64)) 41 w' w0.heap.size P0_ (.slice Au l0.length cu) x0) ∧ Aside0 (Below w0.heap.size w0 w') ∧ Aside0 (Kept w w' (fun k_ => P0_ k_)))
  case atStart => exact ⟨l0, a1, 0, rfl, rfl, H', ⟨Nat.le_refl _⟩, ⟨by omega⟩, HS, HB, HK⟩
  case round =>
    clear HS HB HK H'
    obtain ⟨x0, x1, x5, rfl, rfl, HA, HK1, HL, HS, HB, HK⟩ := hrel
    cases gk with
    | zero => exact absurd HA.out (by simp [laws_markIntSS.l0])
    | succ k1 =>
    have H := HA.out
    clear HA
    rw [laws_markIntSS.l0] at H
    by_cases c : x5 < (l0.length : Int)
    · rw [if_pos (by have := HL.out; omega)] at H
      obtain ⟨⟨b1, b2⟩, A1, H⟩ := Option.bind_eq_some_iff.1 H
      have A1' := Aside0.mk A1
      have H2 := Aside0.mk H
      clear A1 H
      have cb : decide (x5 < (l0.length : Int)) = true := decide_eq_true c
      have p1 : 0 ≤ x5 := HL.out.2.1
      obtain ⟨ad, Ai, ci, e1, hx, hl, hi⟩ := at_L1 (Kd.S_reads' HS.out).2.2 x5 p1 (by have := HL.out; omega)
      subst e1
      have HX := Aside0.mk hx
      obtain ⟨oki, ce, hcl, hM, hcc, hok, hbk⟩ := Kd.S_borrow HS.out [] x5 p1 c
      obtain ⟨ve, rfl, ge⟩ := hM
      have hv := hcc 0 _ rfl
      rw [Nat.add_zero, show ((Kd.slice 3 (Kd.int .i64))).sz = 1 from rfl, Nat.mul_one] at hv
      replace hv := Option.some.inj (hv.symm.trans HX.out)
      subst hv
      replace ge := (show Kd.R (Kd.int .i64) 3 _ _ _ _ (rd_L1 x0 x5) from ge)
      have GE := Aside0.mk ge
      have HOK := Aside0.mk hok
      have HBK := Aside0.mk (@hbk)
      have HW : Aside0 (wrap64 (x5 + 1) = x5 + 1) := ⟨by unfold wrap64; have := HL.out; have := HLEN.out; omega⟩
      have q1 := eq_true c
      clear hcl hcc hok hbk ge hl hi c
      replace p1 := eq_true p1
      go_wp2_with (fail)
      refine (laws_markIntS.calls k1 (fun k_ => some k_ = (Value.slice Ai (rd_L1 x0 x5).length ci).ownBlock) _ (rd_L1 x0 x5) x1 b1 b2 w0 _ HB.out (Kd.R_tight rfl GE.out) A1'.out).mono ?_
      rintro e w7 ⟨rfl, hR, hB7, hK7⟩
      dsimp only
      have gr : World.grownBy wr w7 (Value.slice Ai (rd_L1 x0 x5).length ci).ownBlock := ⟨hB7.os.trans HB.out.os.symm, hB7.tape.trans HB.out.tape.symm, hB7.output.trans HB.out.output.symm, hK7.1, fun i hi hne => hK7.2 i hi hne⟩
      have HS7 := Aside0.mk (HBK.out gr (fun k_ e_ => GE.out.1 k_ e_) (x' := b2) (Kd.M_row (Kd.R_mono (Kd.R_tight rfl hR) (fun k_ e_ => GE.out.1 k_ e_.symm))))
      have HB7 := Aside0.mk hB7
      have HK7 := Aside0.mk (Kept.then_ HK.out hK7 (fun k_ e_ => .inl (HOK.out k_ (GE.out.1 k_ e_.symm)).1))
      clear hR hB7 hK7 gr HS HB HK
      go_wp2
      go_roundg k1
      case measure => have := HK1.out; omega
      case rel => exact ⟨x0.set x5.toNat b2, b1, x5 + 1, (by first | rfl | (simp; done)), (by first | rfl | (rw [i64_w, HW.out]) | (simp [HW.out]; done)), ⟨by have := H2.out; rwa [HW.out] at this⟩, ⟨by have := HK1.out; omega⟩, ⟨by have := HL.out; have := of_decide_eq_true cb; simp; omega⟩, HS7, HB7, HK7⟩
    · rw [if_neg (by have := HL.out; omega), if_neg (by have := HL.out; omega)] at H
      have cb : decide (x5 < (l0.length : Int)) = false := decide_eq_false c
      simp only [Option.some.injEq, Prod.mk.injEq] at H
      obtain ⟨rfl, rfl⟩ := H
      clear c
      go_wp2
      go_ret
      exact ⟨rfl, HS.out, HB.out, HK.out⟩

end Go.Proofs.Ytbblhmpcpmamfaa.XFnExactOpenSchedule
