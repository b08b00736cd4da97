-- Written by a program of this session (the kit's print, widened). Proved here: what each function answers, for the arguments that its contract names.
import Derived.Test.YtplbabjigikgjaaXFnExactWrapAroundx0
import Derived.Test.YtplbabjigikgjaaXFnExactWrapAroundx14
namespace Go.Proofs.Ytplbabjigikgjaa.XFnExactWrapAround
open Go.RowKit Go.Proofs.YtplbabjigikgjaaW.PrintWords Go.Proofs.YtplbabjigikgjaaW.PrintLast Go.Proofs.YtplbabjigikgjaaW.PrintMore
attribute [local go_sem] max2_int min2_int max_two min_two max_three min_three max_four min_four   -- for this text's walks alone
attribute [local go_sem] idxA_45_0 idxA_45_1 fldS_94_0 fldS_94_1 fldS_94_2 fldS_125_0 fldS_125_1 fldS_125_2
set_option linter.unusedVariables false
set_option linter.unusedSimpArgs false

/-! ### laws_markSpanSS: function 44, by hand -/
def rowSpS (xs : List (List S120)) (i : Int) : List S120 := xs.getD i.toNat []
theorem at_rowSpS {w : World} {A : Option Addr} {n : Nat} {xs : List (List S120)} (h : Kd.C (Kd.slice 120 k120) w A n xs) (i : Int) (h0 : 0 ≤ i) (h1 : i < n) : ∃ ad A0 c0, A = some ad ∧ w.cell? (ad.add i.toNat) = some (.slice A0 (rowSpS xs i).length c0) ∧ (rowSpS xs i).length ≤ c0 ∧ Kd.C k120 w A0 (rowSpS xs i).length (rowSpS xs i) := by
 obtain ⟨ad, c, e, _, hK, hc0⟩ := Kd.C_get h ([] : List S120) i h0 h1
 have hc : ∀ j u, c[j]? = some u → w.cell? (ad.add (i.toNat * 1 + j)) = some u := hc0
 obtain ⟨A0, c0, rfl, l0, g0⟩ := hK
 exact ⟨ad, A0, c0, e, by have hq := hc 0 _ rfl; rwa [Nat.mul_one, Nat.add_zero] at hq, l0, g0⟩
def laws_markSpanSS.l0 : Nat → List (List S120) → Int → Int → Option (Int × List (List S120))
 | 0, _, _, _ => none
 | k + 1, x0, x1, x5 => if 0 ≤ x5 ∧ x5 < (x0.length : Int) then ((laws_markSpanS.f k (rowSpS x0 x5) x1).bind fun b => laws_markSpanSS.l0 k (x0.set x5.toNat b.2) b.1 (wrap64 (x5 + 1))) else (if x5 < (x0.length : Int) then none else some (x1, x0))
def laws_markSpanSS.f (k : Nat) (l0 : List (List S120)) (a1 : Int) : Option (Int × List (List S120)) := if l0.length ≤ 1048576 then laws_markSpanSS.l0 k l0 a1 0 else none
theorem laws_markSpanSS.mono_l : ∀ k, (∀ y0 y1 y2, LeO (laws_markSpanSS.l0 k y0 y1 y2) (laws_markSpanSS.l0 (k + 1) y0 y1 y2))
 | 0 => fun _ _ _ r h => by simp [laws_markSpanSS.l0] at h
 | k + 1 => by
  have ih := laws_markSpanSS.mono_l k
  intro y0 y1 y2
  unfold laws_markSpanSS.l0
  refine LeO.ite ?_ (LeO.refl _)
  exact LeO.bind (laws_markSpanS.mono _ _ _) (fun _ => ih _ _ _)
theorem laws_markSpanSS.mono : ∀ a0 a1 k, LeO (laws_markSpanSS.f k a0 a1) (laws_markSpanSS.f (k + 1) a0 a1) := fun a0 a1 k => LeO.ite (laws_markSpanSS.mono_l k a0 a1 0) (LeO.refl _)
set_option maxHeartbeats 8000000 in
set_option maxRecDepth 100000 in
theorem laws_markSpanSS.calls (k : Nat) (P0_ : Nat → Prop) (u9000_ : Value) (l0 : List (List S120)) (a1 : Int) (r1 : Int) (r2 : List (List S120)) (w0 w : World) (hB : Below w0.heap.size w0 w) (ho0 : Kd.S (Kd.slice 120 k120) 118 w w0.heap.size P0_ u9000_ l0) (h : laws_markSpanSS.f k l0 a1 = some (r1, r2)) :
  Calls Try.prog 44 #[u9000_, .int .i64 a1] w fun e w' => e = .returned (.int .i64 r1) ∧ Kd.S (Kd.slice 120 k120) 118 w' w0.heap.size P0_ u9000_ r2 ∧ Below w0.heap.size w0 w' ∧ Kept w w' (fun k_ => P0_ k_) := by
 obtain ⟨Au, cu, eu⟩ := Kd.S_slice ho0
 subst eu
 have HB := Aside0.mk hB
 have HS := Aside0.mk ho0
 have HK := Aside0.mk (Kept.refl w (fun k_ => P0_ k_))
 unfold laws_markSpanSS.f at h
 split at h
 case isFalse => cases h
 case isTrue hlen =>
 have HLEN := Aside0.mk hlen
 have H' := Aside0.mk h
 clear hB ho0 h hlen
 go_enter Try.func44, Try.ntmps44
 go_wp2
 go_loopg [1, 5] k (fun kq v1 v5 w' => ∃ (x0 : List (List S120)) (x1 x5 : Int), v1 = .int .i64 x1 ∧ v5 = .int .i64 x5 ∧ Aside0 (laws_markSpanSS.l0 kq x0 x1 x5 = some (r1, r2)) ∧ Aside0 (kq ≤ k) ∧ Aside0 (x0.length = l0.length ∧ 0 ≤ x5 ∧ x5 ≤ (l0.length : Int)) ∧ Aside0 (Kd.S (Kd.slice 120 k120) 118 w' w0.heap.size P0_ (.slice Au l0.length cu) x0) ∧ Aside0 (Below w0.heap.size w0 w') ∧ Aside0 (Kept w w' (fun k_ => P0_ k_)))
 case atStart => exact ⟨l0, a1, 0, rfl, rfl, H', ⟨Nat.le_refl _⟩, ⟨by omega⟩, HS, HB, HK⟩
 case round =>
  clear HS HB HK H'
  obtain ⟨x0, x1, x5, rfl, rfl, HA, HK1, HL, HS, HB, HK⟩ := hrel
  cases gk with
  | zero => exact absurd HA.out (by simp [laws_markSpanSS.l0])
  | succ k1 =>
  have H := HA.out
  clear HA
  rw [laws_markSpanSS.l0] at H
  by_cases c : x5 < (l0.length : Int)
  ·
   rw [if_pos (by have := HL.out; omega)] at H
   obtain ⟨⟨b1, b2⟩, A1, H⟩ := Option.bind_eq_some_iff.1 H
   have A1' := Aside0.mk A1
   have H2 := Aside0.mk H
   clear A1 H
   have cb : decide (x5 < (l0.length : Int)) = true := decide_eq_true c
   have p1 : 0 ≤ x5 := HL.out.2.1
   obtain ⟨ad, Ai, ci, e1, hx, hl, hi⟩ := at_rowSpS (Kd.S_reads' HS.out).2.2 x5 p1 (by have := HL.out; omega)
   subst e1
   have HX := Aside0.mk hx
   obtain ⟨oki, ce, hcl, hM, hcc, hok, hbk⟩ := Kd.S_borrow HS.out [] x5 p1 c
   obtain ⟨ve, rfl, ge⟩ := hM
   have hv := hcc 0 _ rfl
   rw [Nat.add_zero, show ((Kd.slice 120 k120)).sz = 1 from rfl, Nat.mul_one] at hv
   replace hv := Option.some.inj (hv.symm.trans HX.out)
   subst hv
   replace ge := (show Kd.R k120 120 _ _ _ _ (rowSpS x0 x5) from ge)
   have GE := Aside0.mk ge
   have HOK := Aside0.mk hok
   have HBK := Aside0.mk (@hbk)
   have HW : Aside0 (wrap64 (x5 + 1) = x5 + 1) := ⟨by unfold wrap64; have := HL.out; have := HLEN.out; omega⟩
   have q1 := eq_true c
   clear hcl hcc hok hbk ge hl hi c
   replace p1 := eq_true p1
   go_wp2_with (fail)
   refine (laws_markSpanS.calls k1 (fun k_ => some k_ = (Value.slice Ai (rowSpS x0 x5).length ci).ownBlock) _ (rowSpS x0 x5) x1 b1 b2 w0 _ HB.out (Kd.R_tight rfl GE.out) A1'.out).mono ?_
   rintro e w7 ⟨rfl, hR, hB7, hK7⟩
   dsimp only
   have gr : World.grownBy wr w7 (Value.slice Ai (rowSpS x0 x5).length ci).ownBlock := ⟨hB7.os.trans HB.out.os.symm, hB7.tape.trans HB.out.tape.symm, hB7.output.trans HB.out.output.symm, hK7.1, fun i hi hne => hK7.2 i hi hne⟩
   have HS7 := Aside0.mk (HBK.out gr (fun k_ e_ => GE.out.1 k_ e_) (x' := b2) (Kd.M_row (Kd.R_mono (Kd.R_tight rfl hR) (fun k_ e_ => GE.out.1 k_ e_.symm))))
   have HB7 := Aside0.mk hB7
   have HK7 := Aside0.mk (Kept.then_ HK.out hK7 (fun k_ e_ => .inl (HOK.out k_ (GE.out.1 k_ e_.symm)).1))
   clear hR hB7 hK7 gr HS HB HK
   go_wp2
   go_roundg k1
   case measure => have := HK1.out; omega
   case rel => exact ⟨x0.set x5.toNat b2, b1, x5 + 1, (by first | rfl | (simp; done)), (by first | rfl | (rw [i64_w, HW.out]) | (simp [HW.out]; done)), ⟨by have := H2.out; rwa [HW.out] at this⟩, ⟨by have := HK1.out; omega⟩, ⟨by have := HL.out; have := of_decide_eq_true cb; simp; omega⟩, HS7, HB7, HK7⟩
  ·
   rw [if_neg (by have := HL.out; omega), if_neg (by have := HL.out; omega)] at H
   have cb : decide (x5 < (l0.length : Int)) = false := decide_eq_false c
   simp only [Option.some.injEq, Prod.mk.injEq] at H
   obtain ⟨rfl, rfl⟩ := H
   clear c
   go_wp2
   go_ret
   exact ⟨rfl, HS.out, HB.out, HK.out⟩

end Go.Proofs.Ytplbabjigikgjaa.XFnExactWrapAround
