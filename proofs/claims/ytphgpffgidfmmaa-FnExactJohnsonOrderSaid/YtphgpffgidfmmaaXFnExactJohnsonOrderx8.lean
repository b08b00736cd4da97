-- Written by a program of this session (the kit's print, widened). Proved here: what each function answers, for the arguments that its contract names.
import Derived.Test.YtphgpffgidfmmaaXFnExactJohnsonOrderx0
import Derived.Test.YtphgpffgidfmmaaXFnExactJohnsonOrderx2
import Derived.Test.YtphgpffgidfmmaaXFnExactJohnsonOrderx5
import Derived.Test.YtphgpffgidfmmaaXFnExactJohnsonOrderx6
import Derived.Test.YtphgpffgidfmmaaXFnExactJohnsonOrderx7
namespace Go.Proofs.Ytphgpffgidfmmaa.XFnExactJohnsonOrder
open Go.RowKit Go.Proofs.YtphgpffgidfmmaaW.PrintWords Go.Proofs.YtphgpffgidfmmaaW.PrintLast Go.Proofs.YtphgpffgidfmmaaW.PrintMore
attribute [local go_sem] max2_int min2_int max_two min_two max_three min_three max_four min_four   -- for this text's walks alone
attribute [local go_sem] fldS_78_0 fldS_78_1 fldS_78_2
set_option linter.unusedVariables false
set_option linter.unusedSimpArgs false

/-! ### impl_JohnsonOrder: function 12, by hand -/
/-! ### impl_JohnsonOrder, by hand -/
theorem below_of_drawnJ {u v : World} (h : Drawn0 u v) : Below u.heap.size u v := by obtain ⟨n_, rfl⟩ := h; exact pw_below_drewN (Below.refl _ _) n_
theorem at_rowJ {w : World} {A : Option Addr} {n : Nat} {xs : List (List Int)} (h : Kd.C (Kd.slice 3 (Kd.int .i64)) w A n xs) (i : Int) (h0 : 0 ≤ i) (h1 : i < n) : ∃ ad A0 c0, A = some ad ∧ w.cell? (ad.add i.toNat) = some (.slice A0 (xs.getD i.toNat ([] : List Int)).length c0) ∧ (xs.getD i.toNat ([] : List Int)).length ≤ c0 ∧ (Kd.int .i64).C w A0 (xs.getD i.toNat ([] : List Int)).length (xs.getD i.toNat ([] : List Int)) := by
  obtain ⟨ad, c, e, _, hK, hc0⟩ := Kd.C_get h ([] : List Int) i h0 h1
  have hc : ∀ j u, c[j]? = some u → w.cell? (ad.add (i.toNat * 1 + j)) = some u := hc0
  obtain ⟨A0, c0, rfl, l0, g0⟩ := hK
  exact ⟨ad, A0, c0, e, by have hq := hc 0 _ rfl; rwa [Nat.mul_one, Nat.add_zero] at hq, l0, g0⟩
theorem drawn_exJ {u v : World} (h : Drawn0 u v) : ∃ n, v = u.drewN n := by obtain ⟨⟨n, h⟩⟩ := h; exact ⟨n, h⟩
def johnLt (l0 : List (List Int)) : Int → Int → Bool := fun a b => bif decide (rd (l0.getD a.toNat []) 0 ≤ rd (l0.getD a.toNat []) 1) == decide (rd (l0.getD b.toNat []) 0 ≤ rd (l0.getD b.toNat []) 1) then (bif decide (rd (l0.getD a.toNat []) 0 ≤ rd (l0.getD a.toNat []) 1) then decide (rd (l0.getD a.toNat []) 0 < rd (l0.getD b.toNat []) 0) else decide (rd (l0.getD b.toNat []) 1 < rd (l0.getD a.toNat []) 1)) else decide (rd (l0.getD a.toNat []) 0 ≤ rd (l0.getD a.toNat []) 1)
set_option maxHeartbeats 8000000 in
set_option maxRecDepth 100000 in
theorem impl_JohnsonOrder1.cmp (box : Addr) (A0 : Option Addr) (c0 : Nat) (l0 : List (List Int)) (W : World) (hbox : W.cell? box = some (.slice A0 l0.length c0)) (hr : Kd.C (Kd.slice 3 (Kd.int .i64)) W A0 l0.length l0) (hrows : ∀ r ∈ l0, r.length = 2) (a b : Int) (ha : 0 ≤ a ∧ a < l0.length) (hb : 0 ≤ b ∧ b < l0.length) :
    Calls Try.prog 49 #[.int .i64 a, .int .i64 b, .pointer (some box)] W fun e W' => e = .returned (.bool (johnLt l0 a b)) ∧ ∃ n, W' = W.drewN n := by
  have la : (l0.getD a.toNat []).length = 2 := by
    have hh : a.toNat < l0.length := by omega
    rw [List.getD_eq_getElem?_getD, List.getElem?_eq_getElem hh]; exact hrows _ (List.getElem_mem hh)
  have lb : (l0.getD b.toNat []).length = 2 := by
    have hh : b.toNat < l0.length := by omega
    rw [List.getD_eq_getElem?_getD, List.getElem?_eq_getElem hh]; exact hrows _ (List.getElem_mem hh)
  obtain ⟨ad1, X, cX, e1, hx1, _, hiX⟩ := at_rowJ hr a ha.1 ha.2
  obtain ⟨ad2, Y, cY, e2, hx2, _, hiY⟩ := at_rowJ hr b hb.1 hb.2
  subst e1
  obtain rfl : ad1 = ad2 := by injection e2
  obtain ⟨adX, eX, hX0⟩ := Kd.at_int hiX 0 (by omega) (by omega)
  obtain ⟨adX2, eX2, hX1⟩ := Kd.at_int hiX 1 (by omega) (by omega)
  obtain ⟨adY, eY, hY0⟩ := Kd.at_int hiY 0 (by omega) (by omega)
  obtain ⟨adY2, eY2, hY1⟩ := Kd.at_int hiY 1 (by omega) (by omega)
  subst eX
  obtain rfl : adX = adX2 := by injection eX2
  subst eY
  obtain rfl : adY = adY2 := by injection eY2
  unfold johnLt
  rw [la] at hx1
  rw [lb] at hx2
  clear hr hrows e2 eX2 eY2 hiX hiY la lb
  rw [show ((0 : Int)).toNat = 0 from rfl, Addr.add_zero'] at hX0 hY0
  simp only [show (1 : Int).toNat = 1 from rfl, Nat.reduceMul, Nat.reduceEqDiff, Go.Addr.add, ↓reduceIte] at hX1 hY1
  generalize rd (l0.getD a.toNat []) 0 = x0 at *
  generalize rd (l0.getD a.toNat []) 1 = x1 at *
  generalize rd (l0.getD b.toNat []) 0 = y0 at *
  generalize rd (l0.getD b.toNat []) 1 = y1 at *
  have p1 := eq_true ha.1
  have q1 := eq_true ha.2
  have p2 := eq_true hb.1
  have q2 := eq_true hb.2
  clear ha hb
  obtain ⟨d1, hd1⟩ : ∃ d, decide (x0 ≤ x1) = d := ⟨_, rfl⟩
  obtain ⟨d2, hd2⟩ : ∃ d, decide (y0 ≤ y1) = d := ⟨_, rfl⟩
  rw [hd1, hd2]
  go_enter Try.func49, Try.ntmps49
  cases d1 <;> cases d2 <;> go_wp2
  all_goals
    repeat (go_quiet (fail); try go_wp2)
    go_ret
    exact ⟨by simp, drawn_exJ (by repeat (first | exact Drawn0.refl _ | apply Drawn0.step))⟩
def impl_JohnsonOrder.f (k : Nat) (l0 : List (List Int)) : Option (List Int × Bool) := (impl_isShopOf.f k l0 2).bind fun t1 => if t1 = true then (if ∀ r ∈ l0, r.length = 2 then (impl_numbersTo.f k (l0.length : Int)).bind fun r1 => if r1.length ≤ 1048576 ∧ ∀ x ∈ r1, 0 ≤ x ∧ x < (l0.length : Int) then some (insAll (johnLt l0) r1 [], true) else none else none) else some ([], false)
theorem impl_JohnsonOrder.mono : ∀ l0 k, LeO (impl_JohnsonOrder.f k l0) (impl_JohnsonOrder.f (k + 1) l0) := by
  intro l0 k r h
  unfold impl_JohnsonOrder.f at h ⊢
  obtain ⟨t1, h1, h⟩ := Option.bind_eq_some_iff.1 h
  rw [impl_isShopOf.mono _ _ _ _ h1, Option.bind_some]
  split at h
  · rename_i c1
    rw [if_pos c1]
    split at h
    · rename_i c2
      rw [if_pos c2]
      obtain ⟨r1, h1, h2⟩ := Option.bind_eq_some_iff.1 h
      rw [impl_numbersTo.mono _ _ _ h1]
      exact h2
    · cases h
  · rename_i c1; rw [if_neg c1]; exact h
set_option maxHeartbeats 8000000 in
set_option maxRecDepth 100000 in
theorem impl_JohnsonOrder.calls (k : Nat) (A0 : Option Addr) (c0 : Nat) (l0 : List (List Int)) (r : List Int) (rb : Bool) (w : World) (hr0 : Kd.C (Kd.slice 3 (Kd.int .i64)) w A0 l0.length l0) (hc0 : l0.length ≤ c0) (h : impl_JohnsonOrder.f k l0 = some (r, rb)) :
    Calls Try.prog 12 #[.slice A0 l0.length c0] w fun e w' => ∃ v0_ : Value, e = .returned (.tuple #[v0_, .bool rb]) ∧ Kd.R (Kd.int .i64) 3 w' w.heap.size (fun _ => True) v0_ r ∧ Below w.heap.size w w' := by
  unfold impl_JohnsonOrder.f at h
  obtain ⟨t1, h1, h_⟩ := Option.bind_eq_some_iff.1 h
  clear h
  have HR0 := Aside0.mk hr0
  have HC0 := Aside0.mk hc0
  have H1 := Aside0.mk h1
  have H := Aside0.mk h_
  have HB := Aside0.mk (Below.refl w.heap.size w)
  clear hr0 hc0 h1 h_
  go_enter Try.func12, Try.ntmps12
  go_wp2_with (fail)
  refine (impl_isShopOf.calls k _ _ l0 2 t1 _ (Kd.C_below HR0.out (by repeat (first | exact HB.out | apply below_alloc | apply pw_below_drewN | apply below_drew1))) HC0.out H1.out).mono ?_
  rintro e w6 ⟨rfl, hb_⟩
  dsimp only
  have hb := below_of_drawnJ hb_
  clear hb_
  have Ys : Aside0 (Boxed w6 (w.heap.size) 22 (.slice A0 l0.length c0)) := ⟨boxed_below (by repeat (first | exact boxed_alloc (by first | rfl | (simp only [alloc_size]; done)) | apply Boxed.alloc)) hb⟩
  have n1_ := Aside0.mk (below_step (show Below w.heap.size w _ from by repeat (first | exact HB.out | apply below_alloc | apply pw_below_drewN | apply below_drew1)) hb)
  clear HB hb
  have HB := n1_
  clear n1_
  have hH := H.out
  clear H
  cases t1 with
  | false =>
    obtain ⟨rfl, rfl⟩ : ([] : List Int) = r ∧ false = rb := by simpa using hH
    go_wp2
    go_ret2
    exact ⟨_, rfl, Kd.R_nil _ _ _ _ _, HB.out⟩
  | true =>
    rw [if_pos rfl] at hH
    split at hH
    case isFalse => cases hH
    case isTrue hrows =>
    obtain ⟨r1, h4, h_⟩ := Option.bind_eq_some_iff.1 hH
    clear hH
    split at h_
    case isFalse => cases h_
    case isTrue h3 =>
    obtain ⟨rfl, rfl⟩ : insAll (johnLt l0) r1 [] = r ∧ true = rb := by simpa using h_
    clear h_
    have HROWS := Aside0.mk hrows
    have H3 := Aside0.mk h3
    have H4 := Aside0.mk h4
    clear hrows h3 h4
    have cs := Ys.out.cell
    go_wp2_with (fail)
    refine (impl_numbersTo.calls k _ r1 _ H4.out).mono ?_
    rintro e w2 ⟨v2, rfl, ho0, hb⟩
    dsimp only
    have HBox := Aside0.mk (boxed_below Ys.out hb).cell
    have n1_ := Aside0.mk (below_step HB.out hb)
    have HO_2 := Aside0.mk ho0
    clear HB ho0 hb cs
    have HB := n1_
    clear n1_
    obtain ⟨Ao2, co2, eo2⟩ := Kd.R_slice HO_2.out
    subst eo2
    go_wp2_with (fail)
    refine (impl_sortedBy.calls 49 ?eg #[.pointer (some ⟨w.heap.size, 0, none⟩)] (johnLt l0) (fun x => 0 ≤ x ∧ x < (l0.length : Int)) Ao2 co2 r1 w2 (Kd.R_reads' HO_2.out).2.2 (Kd.R_reads' HO_2.out).2.1 H3.out.2 H3.out.1 ?cmp).mono ?_
    case eg => intro args w; go_simp
    case cmp => intro W hW a b ha hb; exact impl_JohnsonOrder1.cmp _ A0 c0 l0 W ((hW.cell (World.block_lt_of_cell? w2 _ HBox.out)).trans HBox.out) (Kd.C_below HR0.out (below_step HB.out hW)) HROWS.out a b ha hb
    rintro e w4 ⟨v4, rfl, ho0, hb⟩
    dsimp only
    have n1_ := Aside0.mk (below_step HB.out hb)
    have HO_4 := Aside0.mk (Kd.R_lower ho0 (below_size HB.out))
    clear HB HO_2 HBox ho0 hb
    have HB := n1_
    clear n1_
    go_wp2
    go_ret2
    exact ⟨_, rfl, by (with_reducible repeat (first | apply Kd.R_alloc | apply Kd.R_drewN | apply Kd.R_drew)); exact HO_4.out, (by repeat (first | (with_reducible first | exact HB.out | apply below_alloc | apply pw_below_drewN | apply below_drew1) | exact HB.out))⟩

end Go.Proofs.Ytphgpffgidfmmaa.XFnExactJohnsonOrder
