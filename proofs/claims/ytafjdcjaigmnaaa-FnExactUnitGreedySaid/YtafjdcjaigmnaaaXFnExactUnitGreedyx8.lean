-- Written by a program of this session (the kit's print, widened). Proved here: what each function answers, for the arguments that its contract names.
import Derived.Test.YtafjdcjaigmnaaaXFnExactUnitGreedyx0
import Derived.Test.YtafjdcjaigmnaaaXFnExactUnitGreedyx2
import Derived.Test.YtafjdcjaigmnaaaXFnExactUnitGreedyx3
import Derived.Test.YtafjdcjaigmnaaaXFnExactUnitGreedyx6
namespace Go.Proofs.Ytafjdcjaigmnaaa.XFnExactUnitGreedy
open Go.RowKit Go.Proofs.YtafjdcjaigmnaaaW.PrintWords Go.Proofs.YtafjdcjaigmnaaaW.PrintLast Go.Proofs.YtafjdcjaigmnaaaW.PrintMore
attribute [local go_sem] max2_int min2_int max_two min_two max_three min_three max_four min_four   -- for this text's walks alone
attribute [local go_sem] idxA_75_0 idxA_75_1 fldS_65_0 fldS_65_1 fldS_65_2
set_option linter.unusedVariables false
set_option linter.unusedSimpArgs false

/-! ### spec_UnitGreedy: function 27, by hand -/
/-! ### spec_UnitGreedy, by hand -/
def spec_UnitGreedy.inn (k : Nat) (l0 : List S54) (w : Int) : Nat → Int → List Int → Option (List Int)
  | 0, _, t => some t
  | c + 1, i, t => if (rd_T54 l0 i).f1 = w then (spec_l1Put.f k t i).bind fun more => (spec_l6Timely.f k l0 more).bind fun b => spec_UnitGreedy.inn k l0 w c (wrap64 (i + 1)) (if b = true then more else t) else spec_UnitGreedy.inn k l0 w c (wrap64 (i + 1)) t
def spec_UnitGreedy.out (k : Nat) (l0 : List S54) : Nat → Int → List Int → Option (List Int)
  | 0, _, t => some t
  | c + 1, w, t => (spec_UnitGreedy.inn k l0 w l0.length 0 t).bind fun t1 => spec_UnitGreedy.out k l0 c (wrap64 (w - 1)) t1
def spec_UnitGreedy.f (k : Nat) (l0 : List S54) : Option (List Int × Bool) := (spec_l10Unit.f k l0).bind fun b => if b = true then (if l0.length ≤ 1048576 then (spec_UnitGreedy.out k l0 51 50 []).bind fun r => some (r, true) else none) else some ([], false)
theorem spec_UnitGreedy.inn_mono : ∀ l0 w c i t k, LeO (spec_UnitGreedy.inn k l0 w c i t) (spec_UnitGreedy.inn (k + 1) l0 w c i t)
  | _, _, 0, _, _, _, _, h => h
  | l0, w, c + 1, i, t, k, r, h => by
    rw [spec_UnitGreedy.inn] at h ⊢
    split at h
    · rename_i q
      rw [if_pos q]
      obtain ⟨m, h1, h2⟩ := Option.bind_eq_some_iff.1 h
      obtain ⟨b, h3, h4⟩ := Option.bind_eq_some_iff.1 h2
      rw [spec_l1Put.mono _ _ _ _ h1, Option.bind_some, spec_l6Timely.mono _ _ _ _ h3, Option.bind_some]
      exact spec_UnitGreedy.inn_mono _ _ _ _ _ _ _ h4
    · rename_i q
      rw [if_neg q]
      exact spec_UnitGreedy.inn_mono _ _ _ _ _ _ _ h
theorem spec_UnitGreedy.out_mono : ∀ l0 c w t k, LeO (spec_UnitGreedy.out k l0 c w t) (spec_UnitGreedy.out (k + 1) l0 c w t)
  | _, 0, _, _, _, _, h => h
  | l0, c + 1, w, t, k, r, h => by
    rw [spec_UnitGreedy.out] at h ⊢
    obtain ⟨m, h1, h2⟩ := Option.bind_eq_some_iff.1 h
    rw [spec_UnitGreedy.inn_mono _ _ _ _ _ _ _ h1, Option.bind_some]
    exact spec_UnitGreedy.out_mono _ _ _ _ _ _ h2
theorem spec_UnitGreedy.mono : ∀ l0 k, LeO (spec_UnitGreedy.f k l0) (spec_UnitGreedy.f (k + 1) l0) := by
  intro l0 k r h
  unfold spec_UnitGreedy.f at h ⊢
  obtain ⟨b, h1, h2⟩ := Option.bind_eq_some_iff.1 h
  rw [spec_l10Unit.mono _ _ _ h1, Option.bind_some]
  split at h2
  · rename_i c
    rw [if_pos c]
    split at h2
    · rename_i c2
      rw [if_pos c2]
      obtain ⟨r2, h5, h6⟩ := Option.bind_eq_some_iff.1 h2
      rw [spec_UnitGreedy.out_mono _ _ _ _ _ _ h5, Option.bind_some]
      exact h6
    · cases h2
  · rename_i c
    rw [if_neg c]
    exact h2
set_option maxHeartbeats 8000000 in
set_option maxRecDepth 100000 in
theorem spec_UnitGreedy.calls (k : Nat) (A0 : Option Addr) (c0 : Nat) (l0 : List (S54)) (r1 : List Int) (r2 : Bool) (w : World) (hr0 : Kd.C k54 w A0 l0.length l0) (hc0 : l0.length ≤ c0) (h : spec_UnitGreedy.f k l0 = some (r1, r2)) :
    Calls Try.prog 27 #[.slice A0 l0.length c0] w fun e w' => ∃ v0_ : Value, e = .returned (.tuple #[v0_, .bool r2]) ∧ Kd.R (Kd.int .i64) 3 w' w.heap.size (fun _ => True) v0_ r1 ∧ Below w.heap.size w w' := by
  unfold spec_UnitGreedy.f at h
  obtain ⟨b, h1, h2⟩ := Option.bind_eq_some_iff.1 h
  clear h
  have HR0 := Aside0.mk hr0
  have HC0 := Aside0.mk hc0
  have H1 := Aside0.mk h1
  have H2 := Aside0.mk h2
  have HB := Aside0.mk (Below.refl w.heap.size w)
  clear hr0 hc0 h1 h2
  go_enter Try.func27, Try.ntmps27
  go_wp2_with (first | ((with_reducible refine gate_dst (N := 8) rfl ?_); refine Kd.R_lit (Kd.int .i64) _ 3 ?hg (N := 8) ?hd (xs := ([] : List Int)) (inner := []) (ok := fun _ => True) (okp := fun _ => True) ?hr ?hp (fun _ hk => hk) trivial (Below.refl _ _) (Nat.le_refl _) (by simp) ?_; (case hd => rfl); (case hg => rfl); (case hr => first | (go_simp; done) | (go_simp; rfl)); (case hp => exact (Reps.none _ _)); intro v8 w1 ho4 hb hg_ hnew_; clear hg_ hnew_; have n0_ := Aside0.mk (Kd.R_lower ho4 (below_size (by repeat (first | exact HB.out | apply below_alloc | apply pw_below_drewN | apply below_drew1)))); have n1_ := Aside0.mk (below_step (by repeat (first | exact HB.out | apply below_alloc | apply pw_below_drewN | apply below_drew1)) hb); clear HB; have HO := n0_; have HB := n1_; clear n0_ n1_; clear hb ho4))
  refine (spec_l10Unit.calls k _ _ l0 b _ (Kd.C_below HR0.out (by repeat (first | exact HB.out | apply below_alloc | apply pw_below_drewN | apply below_drew1))) HC0.out H1.out).mono ?_
  rintro e w2 ⟨rfl, hb⟩
  dsimp only
  have HB2 := Aside0.mk (below_step (by repeat (first | exact HB.out | apply below_alloc | apply pw_below_drewN | apply below_drew1)) hb)
  have HO2 := Aside0.mk (Kd.R_below HO.out (below_step (by repeat (first | exact Below.refl _ _ | apply below_alloc | apply pw_below_drewN | apply below_drew1)) hb))
  clear HB hb HO
  cases b with
  | false =>
    obtain ⟨rfl, rfl⟩ : ([] : List Int) = r1 ∧ false = r2 := by have := H2.out; simpa using this
    go_wp2
    go_ret2
    exact ⟨_, rfl, by (with_reducible repeat (first | apply Kd.R_alloc | apply Kd.R_drewN | apply Kd.R_drew)); exact HO2.out, by repeat (first | exact HB2.out | apply below_alloc | apply pw_below_drewN | apply below_drew1)⟩
  | true =>
    have h2 := H2.out
    rw [if_pos rfl] at h2
    split at h2
    case isFalse => cases h2
    case isTrue hg =>
    obtain ⟨p1, h5, h6⟩ := Option.bind_eq_some_iff.1 h2
    obtain ⟨rfl, rfl⟩ : p1 = r1 ∧ true = r2 := by simpa using h6
    have H5 := Aside0.mk h5
    have HG := Aside0.mk hg
    clear h2 h5 h6 hg H2
    go_wp2
    go_loopg [4, 5] 51 (fun kq v4 v5 w' => ∃ (wt : Int) (t : List Int), v5 = .int .i64 wt ∧ Aside0 (wt + 1 = (kq : Int) ∧ kq ≤ 51) ∧ Aside0 (spec_UnitGreedy.out k l0 kq wt t = some p1) ∧ Aside0 (Kd.R (Kd.int .i64) 3 w' w.heap.size (fun _ => True) v4 t) ∧ Aside0 (Below w.heap.size w w'))
    case atStart => exact ⟨50, [], (by first | rfl | (simp; done)), ⟨by simp⟩, ⟨H5.out⟩, ⟨by (with_reducible repeat (first | apply Kd.R_alloc | apply Kd.R_drewN | apply Kd.R_drew)); exact HO2.out⟩, ⟨by repeat (first | exact HB2.out | apply below_alloc | apply pw_below_drewN | apply below_drew1)⟩⟩
    case round =>
      obtain ⟨wt, t, rfl, HK1, HLP, HO, HB⟩ := hrel
      clear H5 HB2 HO2
      cases gk with
      | zero =>
        have cb : decide (0 ≤ wt) = false := decide_eq_false (by have := HK1.out; omega)
        have HX : Aside0 (t = p1) := ⟨by have h8 := HLP.out; rw [spec_UnitGreedy.out] at h8; injection h8⟩
        go_wp2
        go_ret2
        exact ⟨_, rfl, by (with_reducible repeat (first | apply Kd.R_alloc | apply Kd.R_drewN | apply Kd.R_drew)); rw [← HX.out]; exact HO.out, by repeat (first | exact HB.out | apply below_alloc | apply pw_below_drewN | apply below_drew1)⟩
      | succ gc =>
        have cb : decide (0 ≤ wt) = true := decide_eq_true (by have := HK1.out; omega)
        have hlp := HLP.out
        rw [spec_UnitGreedy.out] at hlp
        obtain ⟨t1, h6, h7⟩ := Option.bind_eq_some_iff.1 hlp
        have H6 := Aside0.mk h6
        have H7 := Aside0.mk h7
        have HW : Aside0 (wrap64 (wt - 1) = wt - 1) := ⟨by unfold wrap64; have := HK1.out; omega⟩
        have hw1 : IntKind.i64.wrap (wt - 1) = wt - 1 := (i64_w _).trans HW.out
        clear hlp h6 h7 HLP
        go_wp2
        go_loopg [4, 6] l0.length (fun kq v4 v6 w' => ∃ (i : Int) (t : List Int), v6 = .int .i64 i ∧ Aside0 (0 ≤ i ∧ i.toNat + kq = l0.length) ∧ Aside0 (spec_UnitGreedy.inn k l0 wt kq i t = some t1) ∧ Aside0 (Kd.R (Kd.int .i64) 3 w' w.heap.size (fun _ => True) v4 t) ∧ Aside0 (Below w.heap.size w w'))
        case atStart => exact ⟨0, t, (by first | rfl | (simp; done)), ⟨by simp⟩, ⟨H6.out⟩, ⟨by (with_reducible repeat (first | apply Kd.R_alloc | apply Kd.R_drewN | apply Kd.R_drew)); exact HO.out⟩, ⟨by repeat (first | exact HB.out | apply below_alloc | apply pw_below_drewN | apply below_drew1)⟩⟩
        case round =>
          clear HO HB H6
          obtain ⟨i, t, rfl, HK2, HLP, HO, HB⟩ := hrel
          cases gk with
          | zero =>
            have cb2 : decide (i < (l0.length : Int)) = false := decide_eq_false (by have := HK2.out; omega)
            have HX : Aside0 (t = t1) := ⟨by have h8 := HLP.out; rw [spec_UnitGreedy.inn] at h8; injection h8⟩
            go_wp2
            go_roundg gc
            case measure => omega
            case rel => exact ⟨wt - 1, t, (by first | rfl | (rw [hw1]) | (simp [HW.out]; done)), ⟨by have := HK1.out; omega⟩, ⟨by rw [HX.out, ← HW.out]; exact H7.out⟩, ⟨by (with_reducible repeat (first | apply Kd.R_alloc | apply Kd.R_drewN | apply Kd.R_drew)); exact HO.out⟩, ⟨by repeat (first | exact HB.out | apply below_alloc | apply pw_below_drewN | apply below_drew1)⟩⟩
          | succ gd =>
            have c2 : i < (l0.length : Int) := by have := HK2.out; omega
            have cb2 : decide (i < (l0.length : Int)) = true := decide_eq_true c2
            have pi : 0 ≤ i := HK2.out.1
            obtain ⟨ad1, e1, _, hx1, _, _⟩ := at_T54 (Kd.C_below HR0.out HB.out) i pi c2
            subst e1
            obtain ⟨wv, hwv⟩ : ∃ q, (rd_T54 l0 i).f1 = q := ⟨_, rfl⟩
            rw [hwv] at hx1
            have HI : Aside0 (i < (l0.length : Int)) := ⟨c2⟩
            have HW2 : Aside0 (wrap64 (i + 1) = i + 1 ∧ (i + 1).toNat = i.toNat + 1) := ⟨by unfold wrap64; have := HG.out; omega, by omega⟩
            have hw2 : IntKind.i64.wrap (i + 1) = i + 1 := (i64_w _).trans HW2.out.1
            have hlp := HLP.out
            rw [spec_UnitGreedy.inn, hwv] at hlp
            have qi := eq_true c2
            replace pi := eq_true pi
            clear c2 hwv HLP
            by_cases q : wv = wt
            · rw [if_pos q] at hlp
              obtain ⟨more, h6, h8⟩ := Option.bind_eq_some_iff.1 hlp
              obtain ⟨b, h9, h10⟩ := Option.bind_eq_some_iff.1 h8
              have H6 := Aside0.mk h6
              have H9 := Aside0.mk h9
              have H10 := Aside0.mk h10
              have qb : decide (wv = wt) = true := decide_eq_true q
              have qc : (wv == wt) = true := by simpa using q
              clear q hlp h6 h8 h9 h10
              go_wp2_with (fail)
              refine (spec_l1Put.callsK k (fun _ => True) _ t i more w _ (by repeat (first | exact HB.out | apply below_alloc | apply pw_below_drewN | apply below_drew1)) (by (with_reducible repeat (first | apply Kd.R_alloc | apply Kd.R_drewN | apply Kd.R_drew)); exact HO.out) H6.out).mono ?_
              rintro e w6 ⟨v6, rfl, ho6, hb6, _, ho7⟩
              dsimp only
              obtain ⟨Ao6, co6, eo6⟩ := Kd.R_slice ho6
              subst eo6
              have HO6 : Aside0 (Kd.R (Kd.int .i64) 3 w6 w.heap.size (fun _ => True) (.slice Ao6 more.length co6) more) := ⟨Kd.R_mono ho6 (fun _ _ => trivial)⟩
              have HO7 : Aside0 (Kd.R (Kd.int .i64) 3 w6 w.heap.size (fun _ => True) u4 t) := ⟨Kd.R_mono ho7 (fun _ _ => trivial)⟩
              have HB7 := Aside0.mk hb6
              clear ho6 ho7 hb6 HO HB hx1
              go_wp2_with (fail)
              refine (spec_l6Timely.calls k (some ad1) c0 l0 Ao6 co6 more b _ (Kd.C_below HR0.out (by repeat (first | exact HB7.out | apply below_alloc | apply pw_below_drewN | apply below_drew1))) HC0.out (Kd.C_below (Kd.R_reads' HO6.out).2.2 (by repeat (first | exact Below.refl _ _ | apply below_alloc | apply pw_below_drewN | apply below_drew1))) (Kd.R_reads' HO6.out).2.1 H9.out).mono ?_
              rintro e w8 ⟨rfl, hb8⟩
              dsimp only
              have HBw8 : Aside0 (Below w6.heap.size w6 w8) := ⟨below_step (by repeat (first | exact Below.refl _ _ | apply below_alloc | apply pw_below_drewN | apply below_drew1)) hb8⟩
              have HB8 := Aside0.mk (below_step HB7.out HBw8.out)
              have HO8 := Aside0.mk (Kd.R_below HO6.out HBw8.out)
              have HO9 := Aside0.mk (Kd.R_below HO7.out HBw8.out)
              clear hb8 HBw8 HB7 HO6 HO7
              cases b with
              | true =>
                have HN1 : Aside0 (spec_UnitGreedy.inn k l0 wt gd (i + 1) more = some t1) := ⟨by have := H10.out; rw [HW2.out.1] at this; simpa using this⟩
                go_wp2
                go_roundg gd
                case measure => omega
                case rel => exact ⟨i + 1, more, (by first | rfl | (rw [hw2]) | (simp [HW2.out.1]; done)), ⟨by have := HK2.out; have := HW2.out.2; omega⟩, ⟨HN1.out⟩, ⟨by (with_reducible repeat (first | apply Kd.R_alloc | apply Kd.R_drewN | apply Kd.R_drew)); exact HO8.out⟩, ⟨by repeat (first | exact HB8.out | apply below_alloc | apply pw_below_drewN | apply below_drew1)⟩⟩
              | false =>
                have HN1 : Aside0 (spec_UnitGreedy.inn k l0 wt gd (i + 1) t = some t1) := ⟨by have := H10.out; rw [HW2.out.1] at this; simpa using this⟩
                go_wp2
                go_roundg gd
                case measure => omega
                case rel => exact ⟨i + 1, t, (by first | rfl | (rw [hw2]) | (simp [HW2.out.1]; done)), ⟨by have := HK2.out; have := HW2.out.2; omega⟩, ⟨HN1.out⟩, ⟨by (with_reducible repeat (first | apply Kd.R_alloc | apply Kd.R_drewN | apply Kd.R_drew)); exact HO9.out⟩, ⟨by repeat (first | exact HB8.out | apply below_alloc | apply pw_below_drewN | apply below_drew1)⟩⟩
            · rw [if_neg q] at hlp
              have HN1 : Aside0 (spec_UnitGreedy.inn k l0 wt gd (i + 1) t = some t1) := ⟨by rw [HW2.out.1] at hlp; exact hlp⟩
              have qb : decide (wv = wt) = false := decide_eq_false q
              have qc : (wv == wt) = false := by simpa using q
              clear q hlp
              go_wp2
              go_roundg gd
              case measure => omega
              case rel => exact ⟨i + 1, t, (by first | rfl | (rw [hw2]) | (simp [HW2.out.1]; done)), ⟨by have := HK2.out; have := HW2.out.2; omega⟩, ⟨HN1.out⟩, ⟨by (with_reducible repeat (first | apply Kd.R_alloc | apply Kd.R_drewN | apply Kd.R_drew)); exact HO.out⟩, ⟨by repeat (first | exact HB.out | apply below_alloc | apply pw_below_drewN | apply below_drew1)⟩⟩

end Go.Proofs.Ytafjdcjaigmnaaa.XFnExactUnitGreedy
