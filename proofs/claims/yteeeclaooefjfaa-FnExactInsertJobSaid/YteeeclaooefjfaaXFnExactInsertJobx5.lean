-- Written by a program of this session (the kit's print, widened). Proved here: what each function answers, for the arguments that its contract names.
import Derived.Test.YteeeclaooefjfaaXFnExactInsertJobx0
import Derived.Test.YteeeclaooefjfaaXFnExactInsertJobx2
import Derived.Test.YteeeclaooefjfaaXFnExactInsertJobx3
import Derived.Test.YteeeclaooefjfaaXFnExactInsertJobx4
namespace Go.Proofs.Yteeeclaooefjfaa.XFnExactInsertJob
open Go.RowKit Go.Proofs.YteeeclaooefjfaaW.PrintWords Go.Proofs.YteeeclaooefjfaaW.PrintLast Go.Proofs.YteeeclaooefjfaaW.PrintMore
attribute [local go_sem] max2_int min2_int max_two min_two max_three min_three max_four min_four   -- for this text's walks alone
set_option linter.unusedVariables false
set_option linter.unusedSimpArgs false

/-! ### impl_InsertJob: function 23, by hand -/
def insJob (l0 : List Int) (a1 a2 : Int) : List Int := (l0.eraseIdx a1.toNat).take a2.toNat ++ rd l0 a1 :: (l0.eraseIdx a1.toNat).drop a2.toNat
def impl_InsertJob.f (k : Nat) (l0 : List Int) (a1 : Int) (a2 : Int) : Option (List Int × Bool) :=
  (impl_IsOrder.f k (l0.length : Int) l0).bind fun b0 => if b0 = true then ((impl_isNumber.f a1 (l0.length : Int)).bind fun b1 => if b1 = true then ((impl_isNumber.f a2 (l0.length : Int)).bind fun b2 => if b2 = true then (if l0.length ≤ 1048576 ∧ (0 ≤ a1 ∧ a1 < (l0.length : Int)) ∧ (0 ≤ a2 ∧ a2 < (l0.length : Int)) then some (insJob l0 a1 a2, true) else none) else some ([], false)) else some ([], false)) else some ([], false)
theorem impl_InsertJob.mono : ∀ l0 a1 a2 k, LeO (impl_InsertJob.f k l0 a1 a2) (impl_InsertJob.f (k + 1) l0 a1 a2) := by
  intro l0 a1 a2 k r h
  unfold impl_InsertJob.f at h ⊢
  obtain ⟨b0, h0, h1⟩ := Option.bind_eq_some_iff.1 h
  rw [impl_IsOrder.mono _ _ _ _ h0]
  exact h1
set_option maxHeartbeats 8000000 in
set_option maxRecDepth 100000 in
theorem impl_InsertJob.calls (k : Nat) (A0 : Option Addr) (c0 : Nat) (l0 : List Int) (a1 : Int) (a2 : Int) (r1 : List Int) (r2 : Bool) (w : World) (hr0 : Kd.C (Kd.int .i64) w A0 l0.length l0) (hc0 : l0.length ≤ c0) (h : impl_InsertJob.f k l0 a1 a2 = some (r1, r2)) :
    Calls Try.prog 23 #[.slice A0 l0.length c0, .int .i64 a1, .int .i64 a2] w fun e w' => ∃ v0_ : Value, e = .returned (.tuple #[v0_, .bool r2]) ∧ Kd.R (Kd.int .i64) 3 w' w.heap.size (fun _ => True) v0_ r1 ∧ Below w.heap.size w w' := by
  have HR0 := Aside0.mk hr0
  have HC0 := Aside0.mk hc0
  have HB := Aside0.mk (Below.refl w.heap.size w)
  clear hr0 hc0
  unfold impl_InsertJob.f at h
  replace h := Option.bind_eq_some_iff.1 h
  obtain ⟨b0, h0, h⟩ := h
  have H0 := Aside0.mk h0
  clear h0
  go_enter Try.func23, Try.ntmps23
  go_wp2_with (fail)
  refine (impl_IsOrder.calls k _ _ _ _ b0 _ HR0.out HC0.out H0.out).mono ?_
  rintro e w2 ⟨rfl, ⟨n2, rfl⟩⟩
  dsimp only
  cases b0 with
  | false =>
    simp only [Bool.false_eq_true, if_false, Option.some.injEq, Prod.mk.injEq] at h
    obtain ⟨rfl, rfl⟩ := h
    go_wp2
    go_ret2
    exact ⟨_, rfl, Kd.R_nil _ _ _ _ _, (by repeat (first | (with_reducible first | exact HB.out | apply below_alloc | apply pw_below_drewN | apply below_drew1) | exact HB.out))⟩
  | true =>
  simp only [if_true] at h
  replace h := Option.bind_eq_some_iff.1 h
  obtain ⟨b1, h1, h⟩ := h
  have H1 := Aside0.mk h1
  clear h1 H0
  go_wp2_with (fail)
  refine (impl_isNumber.calls _ _ b1 _ H1.out).mono ?_
  rintro e w2 ⟨rfl, ⟨n3, rfl⟩⟩
  dsimp only
  cases b1 with
  | false =>
    simp only [Bool.false_eq_true, if_false, Option.some.injEq, Prod.mk.injEq] at h
    obtain ⟨rfl, rfl⟩ := h
    go_wp2
    go_ret2
    exact ⟨_, rfl, Kd.R_nil _ _ _ _ _, (by repeat (first | (with_reducible first | exact HB.out | apply below_alloc | apply pw_below_drewN | apply below_drew1) | exact HB.out))⟩
  | true =>
  simp only [if_true] at h
  replace h := Option.bind_eq_some_iff.1 h
  obtain ⟨b2, h2, h⟩ := h
  have H2 := Aside0.mk h2
  clear h2 H1
  go_wp2_with (fail)
  refine (impl_isNumber.calls _ _ b2 _ H2.out).mono ?_
  rintro e w2 ⟨rfl, ⟨n4, rfl⟩⟩
  dsimp only
  cases b2 with
  | false =>
    simp only [Bool.false_eq_true, if_false, Option.some.injEq, Prod.mk.injEq] at h
    obtain ⟨rfl, rfl⟩ := h
    go_wp2
    go_ret2
    exact ⟨_, rfl, Kd.R_nil _ _ _ _ _, (by repeat (first | (with_reducible first | exact HB.out | apply below_alloc | apply pw_below_drewN | apply below_drew1) | exact HB.out))⟩
  | true =>
  simp only [if_true] at h
  split at h
  case isFalse => cases h
  case isTrue h3 =>
  simp only [Option.some.injEq, Prod.mk.injEq] at h
  obtain ⟨rfl, rfl⟩ := h
  have H3 := Aside0.mk h3
  clear h3 H2
  have HB3 : Below w.heap.size w ((w.drewN (n2 + n3)).drewN n4) := by repeat (first | (with_reducible first | exact HB.out | apply below_alloc | apply pw_below_drewN | apply below_drew1) | exact HB.out)
  generalize ((w.drewN (n2 + n3)).drewN n4) = w3 at HB3 ⊢
  clear HB
  have HB := Aside0.mk HB3
  clear HB3
  have HO_9 : Aside0 (Kd.R (Kd.int .i64) 3 w3 w.heap.size (fun _ => True) (.slice none 0 0) ([] : List Int)) := ⟨Kd.R_nil _ _ _ _ _⟩
  go_wp2
  go_loopg [9, 32] l0.length (fun kq v9 v32 w' => ∃ (x5 : List Int) (i : Int), v32 = .int .i64 i ∧ Aside0 (x5 = (l0.take i.toNat).eraseIdx a1.toNat) ∧ Aside0 (0 ≤ i ∧ i.toNat + kq = l0.length) ∧ Aside0 (x5.length ≤ i.toNat) ∧ Aside0 (Kd.R (Kd.int .i64) 3 w' w.heap.size (fun _ => True) v9 x5) ∧ Aside0 (Below w.heap.size w w'))
  case atStart => exact ⟨[], 0, (by first | rfl | (simp; done)), ⟨by simp⟩, ⟨by omega⟩, ⟨by simp⟩, HO_9, HB⟩
  case round =>
    clear HO_9 HB
    obtain ⟨x5, i, rfl, HX, HK1, HL, HO_5, HB⟩ := hrel
    obtain ⟨A5, c5, ev5⟩ := Kd.R_slice HO_5.out
    subst ev5
    by_cases c : i < (l0.length : Int)
    · have cb : decide (i < (l0.length : Int)) = true := decide_eq_true c
      have p1 : 0 ≤ i := HK1.out.1
      have q1 : i < (l0.length : Int) := c
      obtain ⟨ad1, e1, hx1_0⟩ := Kd.at_int HR0.out i p1 q1
      cases e1
      replace hx1_0 := (HB.out.cell (World.block_lt_of_cell? w _ hx1_0)).trans hx1_0
      obtain ⟨x, hx⟩ : ∃ x : Int, rd l0 i = x := ⟨_, rfl⟩
      have HXG : Aside0 (l0[i.toNat]? = some x) := ⟨by rw [List.getElem?_eq_getElem (by omega), ← rd_int p1 q1, hx]⟩
      rw [hx] at hx1_0
      have HW : Aside0 (wrap64 (i + 1) = i + 1) := ⟨by unfold wrap64; have h1 := HK1.out; have := H3.out.1; omega⟩
      clear c
      replace p1 := eq_true p1
      replace q1 := eq_true q1
      by_cases e : i = a1
      · have eb0 : (i == a1) = true := beq_iff_eq.mpr e
        have eb1 : (i != a1) = false := bne_eq_false_iff_eq.mpr e
        have HE := Aside0.mk e
        clear e
        go_wp2
        go_roundg (l0.length - (i.toNat + 1))
        case measure => have := HK1.out; have := of_decide_eq_true cb; omega
        case rel =>
          refine ⟨x5, i + 1, (by first | rfl | (rw [i64_w, HW.out]) | (simp [HW.out]; done) | (simp [*]; done)), ⟨?_⟩, ⟨?_⟩, ⟨?_⟩, ⟨?_⟩, ⟨?_⟩⟩
          · have h1 := HK1.out
            have h2 := of_decide_eq_true cb
            rw [HX.out, show (i + 1).toNat = i.toNat + 1 by omega, ← HE.out, List.take_add_one, HXG.out, Option.toList_some, List.eraseIdx_append_of_length_le (by simp; omega), List.eraseIdx_of_length_le (by simp; omega)]
            simp [show min i.toNat l0.length = i.toNat by omega]
          · have h1 := HK1.out; have := of_decide_eq_true cb; omega
          · have h1 := HK1.out; have := HL.out; omega
          · (with_reducible repeat (first | apply Kd.R_alloc | apply Kd.R_drewN | apply Kd.R_drew)); exact HO_5.out
          · repeat (first | (with_reducible first | exact HB.out | apply below_alloc | apply pw_below_drewN | apply below_drew1) | exact HB.out)
      · have eb0 : (i == a1) = false := beq_eq_false_iff_ne.mpr e
        have eb1 : (i != a1) = true := bne_iff_ne.mpr e
        have HE := Aside0.mk e
        go_wp2_with (first | ((with_reducible refine gate_builtin (b := .append) (xs := #[.tmp 40, .tmp 42]) rfl ?_); at_builtin; refine Kd.R_append (Kd.int .i64) (w0 := w) w.heap.size rfl (.tmp 40) (.tmp 42) 22 3 (.int .i64 0) 8 rfl Try.underlying22 info3 rfl (by decide) (by omega) (.slice A5 x5.length c5) x5 x [.int .i64 x] (fun _ => True) (fun _ => False) rfl rfl ?aP (fun _ hk => hk.elim) ?aF ?aO ?aB ?aS ?aL ?_; (case aP => exact rfl); (case aB => exact (by repeat (first | (with_reducible first | exact HB.out | apply below_alloc | apply pw_below_drewN | apply below_drew1) | exact HB.out))); (case aF => exact (fun _ _ => trivial)); (case aO => exact (by (with_reducible repeat (first | apply Kd.R_alloc | apply Kd.R_drewN | apply Kd.R_drew)); exact HO_5.out)); (case aS => exact (below_size (by repeat (first | (with_reducible first | exact HB.out | apply below_alloc | apply pw_below_drewN | apply below_drew1) | exact HB.out)))); (case aL => have := HL.out; have := HK1.out; have := H3.out.1; omega); intro v6 w4 ho hb hg hat; have n0_ := Aside0.mk hb; have n1_ := Aside0.mk ho; clear HB HO_5; have HB := n0_; have HO_6 := n1_; clear n0_ n1_ ho hb hg hat; skip))
        go_roundg (l0.length - (i.toNat + 1))
        case measure => have := HK1.out; have := of_decide_eq_true cb; omega
        case rel =>
          refine ⟨x5 ++ [x], i + 1, (by first | rfl | (rw [i64_w, HW.out]) | (simp [HW.out]; done) | (simp [*]; done)), ⟨?_⟩, ⟨?_⟩, ⟨?_⟩, ⟨?_⟩, ⟨?_⟩⟩
          · have h1 := HK1.out
            have h2 := of_decide_eq_true cb
            have h4 := H3.out.2.1
            have h5 := HE.out
            rw [HX.out, show (i + 1).toNat = i.toNat + 1 by omega, List.take_add_one, HXG.out, Option.toList_some]
            by_cases q : a1.toNat < i.toNat
            · rw [List.eraseIdx_append_of_lt_length (by simp; omega)]
            · rw [List.eraseIdx_of_length_le (by simp; omega), List.eraseIdx_of_length_le (by simp; omega)]
          · have h1 := HK1.out; have := of_decide_eq_true cb; omega
          · have h1 := HK1.out; have := HL.out; simp; omega
          · (with_reducible repeat (first | apply Kd.R_alloc | apply Kd.R_drewN | apply Kd.R_drew)); exact HO_6.out
          · repeat (first | (with_reducible first | exact HB.out | apply below_alloc | apply pw_below_drewN | apply below_drew1) | exact HB.out)
    · have cb : decide (i < (l0.length : Int)) = false := decide_eq_false c
      have HX5 : Aside0 (x5 = l0.eraseIdx a1.toNat) := ⟨by rw [HX.out, List.take_of_length_le (by have := HK1.out; omega)]⟩
      have HL5 : Aside0 (x5.length + 1 = l0.length) := ⟨by rw [HX5.out, List.length_eraseIdx]; have := H3.out.2.1; split <;> omega⟩
      clear c HX
      have HPK : Aside0 (x5.length = x5.length ∧ 0 ≤ a2 ∧ a2 ≤ x5.length) := ⟨by have := HL5.out; have := H3.out.2.2; omega⟩
      have p1 : 0 ≤ a1 := H3.out.2.1.1
      have q1' : a1 < (l0.length : Int) := H3.out.2.1.2
      obtain ⟨ad1, e1, hx1_0⟩ := Kd.at_int HR0.out a1 p1 q1'
      cases e1
      obtain ⟨y, hy1⟩ : ∃ y : Int, rd l0 a1 = y := ⟨_, rfl⟩
      rw [hy1] at hx1_0
      have HX1 := Aside0.mk hx1_0
      clear hx1_0
      replace p1 := eq_true p1
      replace q1' := eq_true q1'
      go_wp2_with (first | ((with_reducible refine gate_builtin (b := .append) (xs := #[.tmp 45, .tmp 46]) rfl ?_); at_builtin; refine Kd.R_append (Kd.int .i64) (w0 := w) w.heap.size rfl (.tmp 45) (.tmp 46) 22 3 (.int .i64 0) 8 rfl Try.underlying22 info3 rfl (by decide) (by omega) (.slice A5 x5.length c5) x5 0 [.int .i64 0] (fun _ => True) (fun _ => False) rfl rfl ?aP (fun _ hk => hk.elim) ?aF ?aO ?aB ?aS ?aL ?_; (case aP => exact rfl); (case aB => exact (by repeat (first | (with_reducible first | exact HB.out | apply below_alloc | apply pw_below_drewN | apply below_drew1) | exact HB.out))); (case aF => exact (fun _ _ => trivial)); (case aO => exact (by (with_reducible repeat (first | apply Kd.R_alloc | apply Kd.R_drewN | apply Kd.R_drew)); exact HO_5.out)); (case aS => exact (below_size (by repeat (first | (with_reducible first | exact HB.out | apply below_alloc | apply pw_below_drewN | apply below_drew1) | exact HB.out)))); (case aL => have := HL5.out; have := H3.out.1; omega); intro v6 w4 ho hb hg hat; have n0_ := Aside0.mk hb; have n1_ := Aside0.mk ho; clear HB HO_5; have HB := n0_; have HO_6 := n1_; clear n0_ n1_ ho hb hg hat; obtain ⟨g6, c6, ev6, gb6, gl6, cl6, hg6⟩ := Kd.R_form HO_6.out (by simp); subst ev6; have GB6 := Aside0.mk gb6; have HG6 := Aside0.mk hg6; clear gb6 gl6 hg6))
      obtain ⟨q1, hq1⟩ : ∃ q : Int, wrap64 (a2 + 1) = q := ⟨_, rfl⟩
      have HQ : Aside0 (q1 = a2 + 1) := ⟨by rw [← hq1]; unfold wrap64; have := HPK.out; have := HL5.out; have := H3.out.1; omega⟩
      have hqw : IntKind.i64.wrap (a2 + 1) = q1 := (i64_w _).trans hq1
      obtain ⟨i0_, hi0_, _, hsz_, _⟩ := info_parts info3
      have hlen6 : x5.length + 1 ≤ c6 := by have := (Kd.R_reads' HO_6.out).2.1; simpa using this
      have hcutA := cut_from (P := Try.prog) 22 3 .i64 Try.underlying22 hi0_ 1 hsz_ (some ⟨g6, 0, none⟩) (x5.length + 1) c6 q1 (by have := HPK.out; have := HQ.out; omega) (by have := HPK.out; have := HQ.out; omega)
      have hcutB := cut_from (P := Try.prog) 22 3 .i64 Try.underlying22 hi0_ 1 hsz_ (some ⟨g6, 0, none⟩) (x5.length + 1) c6 a2 (by have := HPK.out; omega) (by have := HPK.out; omega)
      obtain ⟨DA, hDA⟩ : ∃ A1 : Option Addr, A1 = (if c6 = q1.toNat then some (⟨g6, 0, none⟩ : Addr) else (some (⟨g6, 0, none⟩ : Addr)).map (·.add (q1.toNat * 1))) := ⟨_, rfl⟩
      obtain ⟨DB, hDB⟩ : ∃ A1 : Option Addr, A1 = (if c6 = a2.toNat then some (⟨g6, 0, none⟩ : Addr) else (some (⟨g6, 0, none⟩ : Addr)).map (·.add (a2.toNat * 1))) := ⟨_, rfl⟩
      rw [← hDA] at hcutA
      rw [← hDB] at hcutB
      have HDA := Aside0.mk hDA
      have HDB := Aside0.mk hDB
      clear hDA hDB
      obtain ⟨ys, hys⟩ : ∃ ys : List Int, ys = x5.drop a2.toNat := ⟨_, rfl⟩
      have HYS := Aside0.mk hys
      obtain ⟨cs, hcs⟩ : ∃ cs : List Value, cs = ys.map (fun y => Value.int .i64 y) := ⟨_, rfl⟩
      have HCS := Aside0.mk hcs
      clear hys hcs
      clear HR0 HC0
      go_region_law (refine step_copy_splice (by rfl) (.tmp 51) (.tmp 54) 22 22 (by rfl) 3 Try.underlying22 (by rw [hi0_]; exact congrArg some hsz_) DA DB (x5.length + 1 - q1.toNat) (c6 - q1.toNat) (x5.length + 1 - a2.toNat) (c6 - a2.toNat) (by go_simp) (by go_simp) g6 q1.toNat cl6.toList 3 (by rw [Array.toArray_toList]; exact HG6.out) cs (sb_hn HPK.out.2.1 HPK.out.2.2 HQ.out HCS.out HYS.out) (sb_hpos HO_6.out HPK.out.2.1 HQ.out hlen6 (HCS.out.trans (by rw [HYS.out])) HDA.out HDB.out) (sb_fit HPK.out.2.1 HPK.out.2.2 HQ.out HCS.out HYS.out hlen6 (sb_size HO_6.out HG6.out)) (sb_one HCS.out) w.heap.size w (by repeat (first | (with_reducible first | exact HB.out | apply below_alloc | apply pw_below_drewN | apply below_drew1) | exact HB.out)) GB6.out ?_; intro w7 hg7 hb7)
      have HO_7 : Aside0 (Kd.R (Kd.int .i64) 3 w7 w.heap.size (fun _ => True) (.slice (some ⟨g6, 0, none⟩) (x5.length + 1) c6) (splice (x5 ++ [0]) q1.toNat ys)) := ⟨by
        have h6 := R_splice HO_6.out HG6.out (off := q1.toNat) (ys := ys) (by have h1 := HPK.out; have h2 := HQ.out; rw [HYS.out]; simp; omega) (by rw [← HCS.out]; exact hg7)
        have h8 : (x5 ++ [(0 : Int)]).length = x5.length + 1 := by simp
        rw [h8] at h6
        exact h6⟩
      have HX7 : Aside0 ((splice (x5 ++ [0]) q1.toNat ys).set a2.toNat y = insJob l0 a1 a2) := ⟨by rw [HQ.out, HYS.out, sb_set HPK.out.2.1 HPK.out.2.2, insJob, ← HX5.out, hy1]⟩
      obtain ⟨xs7, hxs7⟩ : ∃ xs7 : List Int, xs7 = splice (x5 ++ [0]) q1.toNat ys := ⟨_, rfl⟩
      rw [← hxs7] at HO_7 HX7
      have HB7 := Aside0.mk hb7
      clear hb7 hg7 hxs7 HB HO_6 HG6 hcutA hcutB HDA HDB HYS HCS
      have HB := HB7
      clear HB7
      have p8 : 0 ≤ a2 := HPK.out.2.1
      have q8 : a2 < ((x5.length + 1 : Nat) : Int) := by have := HPK.out; omega
      have hx1_0 := (HB.out.cell (World.block_lt_of_cell? w _ HX1.out)).trans HX1.out
      obtain ⟨hx9_0, hf9_0⟩ := Kd.R_celln 0 HO_7.out a2 p8 q8
      replace p8 := eq_true p8
      replace q8 := eq_true q8
      have q8c : (a2 < (x5.length : Int) + 1) = True := eq_true (by have := of_eq_true q8; omega)
      have HP10 := Kd.R_putg HO_7.out a2 y
      go_wp2_with (first | ((with_reducible refine gate_store (t := 3) (p := 62) rfl ?_); refine store_event (t := 3) (p := 62) (v := ?vo_w11) (w1 := (w7.setCell ⟨g6, a2.toNat, none⟩ (.int .i64 y))) ?hg ?ho ?hn ?hr ?_; (case ho => rfl); (case hg => rfl); (case hn => rfl); (case hr => first | (go_simp; done) | (go_simp; rfl)); intro w11 hw; have hg : w7.grownBy w11 (some g6) := (by rw [hw]; exact HP10.2); have hp_ : Kd.R (Kd.int .i64) 3 w11 w.heap.size (fun _ => True) (.slice (some ⟨g6, 0, none⟩) (x5.length + 1) c6) (insJob l0 a1 a2) := (by rw [hw, ← HX7.out]; exact HP10.1); clear HP10; have n0_ := Aside0.mk (hp_); have n1_ := Aside0.mk ((by rw [hw]; exact below_set (HB.out) GB6.out : Below w.heap.size w w11)); clear HO_7; clear HB; have HO_3 := n0_; have HB := n1_; clear n0_ n1_; clear hg hw hp_))
      go_wp2
      go_ret2
      exact ⟨_, rfl, by (with_reducible repeat (first | apply Kd.R_alloc | apply Kd.R_drewN | apply Kd.R_drew)); exact HO_3.out, by repeat (first | (with_reducible first | exact HB.out | apply below_alloc | apply pw_below_drewN | apply below_drew1) | exact HB.out)⟩

end Go.Proofs.Yteeeclaooefjfaa.XFnExactInsertJob
