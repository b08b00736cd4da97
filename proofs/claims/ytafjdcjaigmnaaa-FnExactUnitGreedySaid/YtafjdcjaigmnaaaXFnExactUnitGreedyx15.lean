-- Written by a program of this session (the kit's print, widened). Proved here: what each function answers, for the arguments that its contract names.
import Derived.Test.YtafjdcjaigmnaaaXFnExactUnitGreedyx0
import Derived.Test.YtafjdcjaigmnaaaXFnExactUnitGreedyx7
import Derived.Test.YtafjdcjaigmnaaaXFnExactUnitGreedyx9
import Derived.Test.YtafjdcjaigmnaaaXFnExactUnitGreedyx10
import Derived.Test.YtafjdcjaigmnaaaXFnExactUnitGreedyx12
import Derived.Test.YtafjdcjaigmnaaaXFnExactUnitGreedyx14
namespace Go.Proofs.Ytafjdcjaigmnaaa.XFnExactUnitGreedy
open Go.RowKit Go.Proofs.YtafjdcjaigmnaaaW.PrintWords Go.Proofs.YtafjdcjaigmnaaaW.PrintLast Go.Proofs.YtafjdcjaigmnaaaW.PrintMore
attribute [local go_sem] max2_int min2_int max_two min_two max_three min_three max_four min_four   -- for this text's walks alone
attribute [local go_sem] idxA_75_0 idxA_75_1 fldS_65_0 fldS_65_1 fldS_65_2
set_option linter.unusedVariables false
set_option linter.unusedSimpArgs false

/-! ### impl_UnitGreedy: function 28, by hand -/
/-! ### impl_UnitGreedy, by hand -/
set_option maxHeartbeats 8000000 in
set_option maxRecDepth 100000 in
theorem impl_UnitGreedy1.cmp (box : Addr) (A0 : Option Addr) (c0 : Nat) (l0 : List (S54)) (W : World) (hbox : W.cell? box = some (.slice A0 l0.length c0)) (hr : Kd.C k54 W A0 l0.length l0) (a b : Int) (ha : 0 ≤ a ∧ a < l0.length) (hb : 0 ≤ b ∧ b < l0.length) :
    Calls Try.prog 65 #[.int .i64 a, .int .i64 b, .pointer (some box)] W fun e W' => e = .returned (.bool (decide ((rd_T54 l0 b).f1 < (rd_T54 l0 a).f1))) ∧ ∃ n, W' = W.drewN n := by
  obtain ⟨ad1, e1, _, hx1, _, _⟩ := at_T54 hr a ha.1 ha.2
  obtain ⟨ad2, e2, _, hx2, _, _⟩ := at_T54 hr b hb.1 hb.2
  subst e1
  obtain rfl : ad1 = ad2 := by injection e2
  clear hr e2
  have p1 := eq_true ha.1
  have q1 := eq_true ha.2
  have p2 := eq_true hb.1
  have q2 := eq_true hb.2
  clear ha hb
  go_enter Try.func65, Try.ntmps65
  go_wp2
  go_region
  all_goals (go_wp2; go_ret; exact ⟨rfl, 1, rfl⟩)
def impl_UnitGreedy.lp (k : Nat) (l0 : List S54) : List Int → List Int → Option (List Int)
  | [], out => some out
  | i :: l, out => if impl_copyInts.f out = some out ∧ out.length ≤ 1048576 ∧ i ∉ out then (impl_onTime.f k l0 (insAt (fun a b => decide (a < b)) i out)).bind fun b => impl_UnitGreedy.lp k l0 l (if b = true then insAt (fun a b => decide (a < b)) i out else out) else none
def impl_UnitGreedy.f (k : Nat) (l0 : List S54) : Option (List Int × Bool) := (impl_areUnit.f k l0).bind fun b => if b = true then ((impl_numbersTo.f k (l0.length : Int)).bind fun r1 => if r1.length ≤ 1048576 ∧ ∀ x ∈ r1, 0 ≤ x ∧ x < (l0.length : Int) then (impl_UnitGreedy.lp k l0 (insAll (fun a b => decide ((rd_T54 l0 b).f1 < (rd_T54 l0 a).f1)) r1 []) []).bind fun r => some (r, true) else none) else some ([], false)
theorem impl_UnitGreedy.lp_mono : ∀ l0 l out k, LeO (impl_UnitGreedy.lp k l0 l out) (impl_UnitGreedy.lp (k + 1) l0 l out)
  | _, [], _, _, _, h => h
  | l0, i :: l, out, k, r, h => by
    rw [impl_UnitGreedy.lp] at h ⊢
    split at h
    · rename_i c
      rw [if_pos c]
      obtain ⟨b, h1, h2⟩ := Option.bind_eq_some_iff.1 h
      rw [impl_onTime.mono _ _ _ _ h1, Option.bind_some]
      exact impl_UnitGreedy.lp_mono _ _ _ _ _ h2
    · cases h
theorem impl_UnitGreedy.mono : ∀ l0 k, LeO (impl_UnitGreedy.f k l0) (impl_UnitGreedy.f (k + 1) l0) := by
  intro l0 k r h
  unfold impl_UnitGreedy.f at h ⊢
  obtain ⟨b, h1, h2⟩ := Option.bind_eq_some_iff.1 h
  rw [impl_areUnit.mono _ _ _ h1, Option.bind_some]
  split at h2
  · rename_i c
    rw [if_pos c]
    obtain ⟨r1, h3, h4⟩ := Option.bind_eq_some_iff.1 h2
    rw [impl_numbersTo.mono _ _ _ h3, Option.bind_some]
    split at h4
    · rename_i c2
      rw [if_pos c2]
      obtain ⟨r2, h5, h6⟩ := Option.bind_eq_some_iff.1 h4
      rw [impl_UnitGreedy.lp_mono _ _ _ _ _ h5, Option.bind_some]
      exact h6
    · cases h4
  · rename_i c
    rw [if_neg c]
    exact h2
theorem drop_cons' {l : List Int} {i : Nat} (h : i < l.length) : l.drop i = rd l (i : Int) :: l.drop (i + 1) := by
  rw [List.drop_eq_getElem_cons h, rd_int (by omega) (by omega)]; simp
set_option maxHeartbeats 8000000 in
set_option maxRecDepth 100000 in
theorem impl_UnitGreedy.calls (k : Nat) (A0 : Option Addr) (c0 : Nat) (l0 : List (S54)) (r1 : List Int) (r2 : Bool) (w : World) (hr0 : Kd.C k54 w A0 l0.length l0) (hc0 : l0.length ≤ c0) (h : impl_UnitGreedy.f k l0 = some (r1, r2)) :
    Calls Try.prog 28 #[.slice A0 l0.length c0] w fun e w' => ∃ v0_ : Value, e = .returned (.tuple #[v0_, .bool r2]) ∧ Kd.R (Kd.int .i64) 3 w' w.heap.size (fun _ => True) v0_ r1 ∧ Below w.heap.size w w' := by
  unfold impl_UnitGreedy.f at h
  obtain ⟨b, h1, h2⟩ := Option.bind_eq_some_iff.1 h
  clear h
  have HR0 := Aside0.mk hr0
  have HC0 := Aside0.mk hc0
  have H1 := Aside0.mk h1
  have H2 := Aside0.mk h2
  have HB := Aside0.mk (Below.refl w.heap.size w)
  clear hr0 hc0 h1 h2
  go_enter Try.func28, Try.ntmps28
  go_wp2_with (fail)
  refine (impl_areUnit.calls k _ _ l0 b _ (Kd.C_below HR0.out (by repeat (first | exact HB.out | apply below_alloc | apply pw_below_drewN | apply below_drew1))) HC0.out H1.out).mono ?_
  rintro e w2 ⟨rfl, hb⟩
  dsimp only
  have BXJ : Aside0 (Boxed w2 w.heap.size 27 (.slice A0 l0.length c0)) := ⟨boxed_below (boxed_alloc rfl) hb⟩
  have HB2 := Aside0.mk (below_step (by repeat (first | exact HB.out | apply below_alloc | apply pw_below_drewN | apply below_drew1)) hb)
  clear HB hb
  have XJ := BXJ.out.cell
  cases b with
  | false =>
    obtain ⟨rfl, rfl⟩ : ([] : List Int) = r1 ∧ false = r2 := by have := H2.out; simpa using this
    go_wp2
    go_ret2
    exact ⟨_, rfl, Kd.R_nil _ _ _ _ _, by repeat (first | exact HB2.out | apply below_alloc | apply pw_below_drewN | apply below_drew1)⟩
  | true =>
    have h2 := H2.out
    rw [if_pos rfl] at h2
    obtain ⟨n1, h3, h4⟩ := Option.bind_eq_some_iff.1 h2
    split at h4
    case isFalse => cases h4
    case isTrue hg =>
    obtain ⟨p1, h5, h6⟩ := Option.bind_eq_some_iff.1 h4
    obtain ⟨rfl, rfl⟩ : p1 = r1 ∧ true = r2 := by simpa using h6
    have H3 := Aside0.mk h3
    have H5 := Aside0.mk h5
    have HG := Aside0.mk hg
    clear h2 h3 h4 h5 h6 hg H2
    go_wp2_with (fail)
    refine (impl_numbersTo.calls k _ n1 _ H3.out).mono ?_
    rintro e w3 ⟨v3, rfl, ho0, hb⟩
    dsimp only
    have BX3 := Aside0.mk (boxed_below BXJ.out (below_step (by repeat (first | exact Below.refl _ _ | apply below_alloc | apply pw_below_drewN | apply below_drew1)) hb))
    have HB3 := Aside0.mk (below_step (by repeat (first | exact HB2.out | apply below_alloc | apply pw_below_drewN | apply below_drew1)) hb)
    have HO3 := Aside0.mk ho0
    clear BXJ HB2 XJ ho0 hb
    have XJ := BX3.out.cell
    obtain ⟨Ao3, co3, eo3⟩ := Kd.R_slice HO3.out
    subst eo3
    go_wp2_with (fail)
    refine (impl_sortedBy.calls 65 ?eg #[.pointer (some ⟨w.heap.size, 0, none⟩)] (fun a b => decide ((rd_T54 l0 b).f1 < (rd_T54 l0 a).f1)) (fun x => 0 ≤ x ∧ x < (l0.length : Int)) Ao3 co3 n1 _ (Kd.R_reads' HO3.out).2.2 (Kd.R_reads' HO3.out).2.1 HG.out.2 HG.out.1 ?cmp).mono ?_
    case eg => intro args w; go_simp
    case cmp => intro W hW a b ha hb; exact impl_UnitGreedy1.cmp _ A0 c0 l0 W (boxed_below BX3.out hW).cell (Kd.C_below HR0.out (below_step HB3.out hW)) a b ha hb
    rintro e w4 ⟨v4, rfl, ho0, hb⟩
    dsimp only
    have BX4 := Aside0.mk (boxed_below BX3.out hb)
    have HB4 := Aside0.mk (below_step HB3.out hb)
    obtain ⟨ord, hord⟩ : ∃ o_, o_ = (insAll (fun a b => decide ((rd_T54 l0 b).f1 < (rd_T54 l0 a).f1)) n1 []) := ⟨_, rfl⟩
    rw [← hord] at ho0
    have h5 := H5.out
    rw [← hord] at h5
    have H5' := Aside0.mk h5
    have HOL : Aside0 (ord.length ≤ 1048576) := ⟨by rw [hord, insAll_length]; simpa using HG.out.1⟩
    have HO4 := Aside0.mk ho0
    clear BX3 HB3 HO3 XJ ho0 hb H5 h5 hord
    obtain ⟨Ao4, co4, eo4⟩ := Kd.R_slice HO4.out
    subst eo4
    have CF := Aside0.mk (Kd.R_reads' HO4.out).2.2
    clear HO4
    go_wp2
    go_loopg [4, 17] ord.length (fun kq v4 v17 w' => ∃ (i : Int) (out : List Int), v17 = .int .i64 i ∧ Aside0 (0 ≤ i ∧ i.toNat + kq = ord.length) ∧ Aside0 (impl_UnitGreedy.lp k l0 (ord.drop i.toNat) out = some p1) ∧ Aside0 (Kd.R (Kd.int .i64) 3 w' w4.heap.size (fun _ => True) v4 out) ∧ Aside0 (Below w4.heap.size w4 w'))
    case atStart => exact ⟨0, [], (by first | rfl | (simp; done)), ⟨by simp⟩, ⟨by simpa using H5'.out⟩, ⟨Kd.R_nil _ _ _ _ _⟩, ⟨by repeat (first | exact Below.refl _ _ | apply below_drew1 | apply pw_below_drewN)⟩⟩
    case round =>
      obtain ⟨i, out, rfl, HK1, HLP, HO, HB⟩ := hrel
      obtain ⟨n0, rfl⟩ := Int.eq_ofNat_of_zero_le HK1.out.1
      replace HK1 : Aside0 (n0 + gk = ord.length) := ⟨by have := HK1.out; omega⟩
      replace HLP : Aside0 (impl_UnitGreedy.lp k l0 (ord.drop n0) out = some p1) := ⟨HLP.out⟩
      obtain ⟨Ao, co, eo⟩ := Kd.R_slice HO.out
      subst eo
      by_cases c : (n0 : Int) < (ord.length : Int)
      · have cb : decide ((n0 : Int) < (ord.length : Int)) = true := decide_eq_true c
        have pi : 0 ≤ (n0 : Int) := by omega
        obtain ⟨ad1, e1, hx0⟩ := Kd.at_int (Kd.C_below CF.out HB.out) (n0 : Int) pi c
        subst e1
        obtain ⟨x, hx⟩ : ∃ q, rd ord (n0 : Int) = q := ⟨_, rfl⟩
        rw [hx] at hx0
        replace hx0 : wr.cell? (ad1.add n0) = some (.int .i64 x) := hx0
        have HI : Aside0 ((n0 : Int) < (ord.length : Int)) := ⟨c⟩
        have HW : Aside0 (wrap64 ((n0 : Int) + 1) = (n0 : Int) + 1 ∧ ((n0 : Int) + 1).toNat = n0 + 1) := ⟨by unfold wrap64; have := HOL.out; omega, by omega⟩
        have hlp := HLP.out
        rw [drop_cons' (by omega), hx, impl_UnitGreedy.lp] at hlp
        split at hlp
        case isFalse => cases hlp
        case isTrue hg2 =>
        obtain ⟨b, h6, h7⟩ := Option.bind_eq_some_iff.1 hlp
        have H6 := Aside0.mk h6
        have H7 := Aside0.mk h7
        have HG2 := Aside0.mk hg2
        have qi := eq_true c
        replace pi := eq_true pi
        have BXW := Aside0.mk (boxed_below BX4.out HB.out)
        clear c hx hlp h6 h7 hg2 HLP
        go_wp2_with (fail)
        refine (impl_copyInts.calls Ao co out out _ (Kd.C_below (Kd.R_reads' HO.out).2.2 (by repeat (first | exact Below.refl _ _ | apply below_alloc | apply pw_below_drewN | apply below_drew1))) (Kd.R_reads' HO.out).2.1 HG2.out.1).mono ?_
        rintro e w5 ⟨v5, rfl, ho5, hb5⟩
        dsimp only
        obtain ⟨Ao5, co5, eo5⟩ := Kd.R_slice ho5
        subst eo5
        have HO5 := Aside0.mk ho5
        have HB5 := Aside0.mk hb5
        clear ho5 hb5
        have XJ : True := trivial
        go_wp2_with (fail)
        refine (impl_putInt.calls Ao5 co5 out x wr _ (below_step HB5.out (by repeat (first | exact Below.refl _ _ | apply below_alloc | apply pw_below_drewN | apply below_drew1))) (by (with_reducible repeat (first | apply Kd.R_alloc | apply Kd.R_drewN | apply Kd.R_drew)); exact HO5.out) HG2.out.2.1 HG2.out.2.2).mono ?_
        rintro e w6 ⟨v6, rfl, ho6, hb6⟩
        dsimp only
        obtain ⟨more, hmore⟩ : ∃ o_, o_ = insAt (fun a b => decide (a < b)) x out := ⟨_, rfl⟩
        rw [← hmore] at ho6
        have h6 := H6.out
        have h7 := H7.out
        rw [← hmore] at h6 h7
        replace H6 := Aside0.mk h6
        replace H7 := Aside0.mk h7
        obtain ⟨Ao6, co6, eo6⟩ := Kd.R_slice ho6
        subst eo6
        have HBw6 : Aside0 (Below wr.heap.size wr w6) := ⟨below_step (by repeat (first | exact Below.refl _ _ | apply below_alloc | apply pw_below_drewN | apply below_drew1)) hb6⟩
        have HO6 : Aside0 (Kd.R (Kd.int .i64) 3 w6 w4.heap.size (fun _ => True) (.slice Ao6 more.length co6) more) := ⟨Kd.R_lower ho6 (below_size (by repeat (first | exact HB.out | apply below_alloc | apply pw_below_drewN | apply below_drew1)))⟩
        have HO7 := Aside0.mk (Kd.R_below HO.out HBw6.out)
        have HB7 := Aside0.mk (below_step HB.out HBw6.out)
        have BX7 := Aside0.mk (boxed_below BXW.out HBw6.out)
        have HM := Aside0.mk hmore
        clear ho6 hb6 h6 h7 hmore HO5 HB5 HO HB BXW HBw6 XJ
        have XJ := BX7.out.cell
        go_wp2_with (fail)
        refine (impl_onTime.calls k A0 c0 l0 Ao6 co6 more b _ (Kd.C_below HR0.out (below_step HB4.out (by repeat (first | exact HB7.out | apply below_alloc | apply pw_below_drewN | apply below_drew1)))) HC0.out (Kd.C_below (Kd.R_reads' HO6.out).2.2 (by repeat (first | exact Below.refl _ _ | apply below_alloc | apply pw_below_drewN | apply below_drew1))) (Kd.R_reads' HO6.out).2.1 H6.out).mono ?_
        rintro e w8 ⟨rfl, hb8⟩
        dsimp only
        have HBw8 : Aside0 (Below w6.heap.size w6 w8) := ⟨below_step (by repeat (first | exact Below.refl _ _ | apply below_alloc | apply pw_below_drewN | apply below_drew1)) hb8⟩
        have HB8 := Aside0.mk (below_step HB7.out HBw8.out)
        have HO8 := Aside0.mk (Kd.R_below HO6.out HBw8.out)
        have HO9 := Aside0.mk (Kd.R_below HO7.out HBw8.out)
        clear hb8 HBw8 HB7 HO6 HO7 BX7 XJ
        have hw1 : IntKind.i64.wrap ((n0 : Int) + 1) = (n0 : Int) + 1 := (i64_w _).trans HW.out.1
        cases b with
        | true =>
          have HN1 : Aside0 (impl_UnitGreedy.lp k l0 (ord.drop (n0 + 1)) more = some p1) := ⟨by simpa using H7.out⟩
          go_wp2
          go_roundg (ord.length - (n0 + 1))
          case measure => have := HK1.out; have := HI.out; omega
          case rel => exact ⟨(n0 : Int) + 1, more, (by first | rfl | (rw [i64_w, HW.out.1]) | (simp [HW.out.1]; done)), ⟨by have := HK1.out; have := HW.out.2; have := HI.out; omega⟩, ⟨by rw [HW.out.2]; exact HN1.out⟩, ⟨by (with_reducible repeat (first | apply Kd.R_alloc | apply Kd.R_drewN | apply Kd.R_drew)); exact HO8.out⟩, ⟨by repeat (first | exact HB8.out | apply below_alloc | apply pw_below_drewN | apply below_drew1)⟩⟩
        | false =>
          have HN1 : Aside0 (impl_UnitGreedy.lp k l0 (ord.drop (n0 + 1)) out = some p1) := ⟨by simpa using H7.out⟩
          go_wp2
          go_roundg (ord.length - (n0 + 1))
          case measure => have := HK1.out; have := HI.out; omega
          case rel => exact ⟨(n0 : Int) + 1, out, (by first | rfl | (rw [i64_w, HW.out.1]) | (simp [HW.out.1]; done)), ⟨by have := HK1.out; have := HW.out.2; have := HI.out; omega⟩, ⟨by rw [HW.out.2]; exact HN1.out⟩, ⟨by (with_reducible repeat (first | apply Kd.R_alloc | apply Kd.R_drewN | apply Kd.R_drew)); exact HO9.out⟩, ⟨by repeat (first | exact HB8.out | apply below_alloc | apply pw_below_drewN | apply below_drew1)⟩⟩
      · have cb : decide ((n0 : Int) < (ord.length : Int)) = false := decide_eq_false c
        have cbn : decide (n0 < ord.length) = false := decide_eq_false (by omega)
        have HIE : Aside0 (n0 = ord.length) := ⟨by have := HK1.out; omega⟩
        have HX : Aside0 (out = p1) := ⟨by have h8 := HLP.out; rw [List.drop_of_length_le (by rw [HIE.out]; exact Nat.le_refl _), impl_UnitGreedy.lp] at h8; injection h8⟩
        clear c
        go_wp2
        go_ret2
        exact ⟨_, rfl, by (with_reducible repeat (first | apply Kd.R_alloc | apply Kd.R_drewN | apply Kd.R_drew)); rw [← HX.out]; exact Kd.R_lower HO.out (below_size HB4.out), below_step HB4.out (by repeat (first | exact HB.out | apply below_alloc | apply pw_below_drewN | apply below_drew1))⟩


end Go.Proofs.Ytafjdcjaigmnaaa.XFnExactUnitGreedy
