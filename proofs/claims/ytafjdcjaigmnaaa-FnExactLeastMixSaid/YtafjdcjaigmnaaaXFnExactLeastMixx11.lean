-- Written by a program of this session (the kit's print, widened). Proved here: what each function answers, for the arguments that its contract names.
import Derived.Test.YtafjdcjaigmnaaaXFnExactLeastMixx0
import Derived.Test.YtafjdcjaigmnaaaXFnExactLeastMixx4
import Derived.Test.YtafjdcjaigmnaaaXFnExactLeastMixx7
import Derived.Test.YtafjdcjaigmnaaaXFnExactLeastMixx8
import Derived.Test.YtafjdcjaigmnaaaXFnExactLeastMixx9
import Derived.Test.YtafjdcjaigmnaaaXFnExactLeastMixx10
namespace Go.Proofs.Ytafjdcjaigmnaaa.XFnExactLeastMix
open Go.RowKit Go.Proofs.YtafjdcjaigmnaaaW.PrintWords Go.Proofs.YtafjdcjaigmnaaaW.PrintLast Go.Proofs.YtafjdcjaigmnaaaW.PrintMore
attribute [local go_sem] max2_int min2_int max_two min_two max_three min_three max_four min_four   -- for this text's walks alone
attribute [local go_sem] idxA_75_0 idxA_75_1 fldS_65_0 fldS_65_1 fldS_65_2
set_option linter.unusedVariables false
set_option linter.unusedSimpArgs false

/-! ### impl_LeastMix: function 30, by hand -/
/-! ### impl_LeastMix, by hand -/
def impl_LeastMix1.post (a3 a4 p1 p2 least : Int) (found : Bool) (bl bd : Nat) (W : World) : Ending → World → Prop := fun e W' => e = .returned (.tuple #[]) ∧ ∃ W1, Below W.heap.size W W1 ∧ W' = if found = false ∨ wrap64 (wrap64 (a3 * p1) + wrap64 (a4 * p2)) < least then (W1.setCell ⟨bl, 0, none⟩ (.int .i64 (wrap64 (wrap64 (a3 * p1) + wrap64 (a4 * p2))))).setCell ⟨bd, 0, none⟩ (.bool true) else W1
set_option maxHeartbeats 8000000 in
set_option maxRecDepth 100000 in
theorem impl_LeastMix1.calls (k : Nat) (bj bf bg bx by_ bl bd : Nat) (A0 : Option Addr) (c0 : Nat) (l0 : List (S54)) (a1 a2 a3 a4 : Int) (A : Option Addr) (c : Nat) (l : List Int) (least : Int) (found : Bool) (p1 p2 : Int) (W : World) (hc0 : l0.length ≤ c0) (hc : l.length ≤ c) (hne : bl ≠ bd)
    (hr0 : Kd.C k54 W A0 l0.length l0) (hr : Kd.C (Kd.int .i64) W A l.length l)
    (xj : Boxed W bj 27 (.slice A0 l0.length c0)) (xf : Boxed W bf 3 (.int .i64 a1)) (xg : Boxed W bg 3 (.int .i64 a2)) (xx : Boxed W bx 3 (.int .i64 a3)) (xy : Boxed W by_ 3 (.int .i64 a4)) (xl : Boxed W bl 3 (.int .i64 least)) (xd : Boxed W bd 4 (.bool found))
    (h : impl_pointOf.f k l0 l a1 a2 = some (p1, p2)) :
    Calls Try.prog 72 #[.slice A l.length c, .pointer (some ⟨bj, 0, none⟩), .pointer (some ⟨bf, 0, none⟩), .pointer (some ⟨bg, 0, none⟩), .pointer (some ⟨bx, 0, none⟩), .pointer (some ⟨by_, 0, none⟩), .pointer (some ⟨bd, 0, none⟩), .pointer (some ⟨bl, 0, none⟩)] W (impl_LeastMix1.post a3 a4 p1 p2 least found bl bd W) := by
  have HR0 := Aside0.mk hr0
  have HR := Aside0.mk hr
  have H := Aside0.mk h
  have XJ := xj.cell
  have XF := xf.cell
  have XG := xg.cell
  have BJ := Aside0.mk xj
  have BX := Aside0.mk xx
  have BY := Aside0.mk xy
  have BL := Aside0.mk xl
  have BD := Aside0.mk xd
  clear hr0 hr h xj xf xg xx xy xl xd
  go_enter Try.func72, Try.ntmps72
  go_wp2_with (fail)
  refine (impl_pointOf.calls k _ _ l0 _ _ l a1 a2 p1 p2 _ HR0.out hc0 HR.out hc H.out).mono ?_
  rintro e w2 ⟨rfl, hb⟩
  dsimp only
  clear XJ XF XG
  obtain ⟨w3, hw3⟩ : ∃ w3, w3 = w2.alloc (Obj.cells #[Value.int .i64 p1, Value.int .i64 p2] 75) := ⟨_, rfl⟩
  have hb3 : Below W.heap.size W w3 := by rw [hw3]; exact below_alloc hb _
  have CX := (boxed_below BX.out hb3).cell
  have CY := (boxed_below BY.out hb3).cell
  have CL := (boxed_below BL.out hb3).cell
  have FL := (boxed_below BL.out hb3).frozen
  have CD := (boxed_below BD.out hb3).cell
  have HB := Aside0.mk hb3
  have BL3 := Aside0.mk (boxed_below BL.out hb3)
  have BD3 := Aside0.mk (boxed_below BD.out hb3)
  have HW3 := Aside0.mk hw3
  rw [hw3] at CX CY CL FL CD
  clear hb hb3 hw3
  have HN := Aside0.mk hne
  clear hne
  obtain ⟨n, hn⟩ : ∃ n, wrap64 (wrap64 (a3 * p1) + wrap64 (a4 * p2)) = n := ⟨_, rfl⟩
  have FD : ((w2.alloc (Obj.cells #[Value.int .i64 p1, Value.int .i64 p2] 75)).setCell ⟨bl, 0, none⟩ (.int .i64 n)).frozen? ⟨bd, 0, none⟩ = false := by rw [← HW3.out]; exact (BD3.out.kept (grownBy_setCell' w3 bl _) (by intro e_; exact HN.out (Option.some.inj e_).symm)).frozen
  have CD2 : ((w2.alloc (Obj.cells #[Value.int .i64 p1, Value.int .i64 p2] 75)).setCell ⟨bl, 0, none⟩ (.int .i64 n)).cell? ⟨bd, 0, none⟩ = some (.bool found) := by rw [← HW3.out]; exact (BD3.out.kept (grownBy_setCell' w3 bl _) (by intro e_; exact HN.out (Option.some.inj e_).symm)).cell
  by_cases hu : found = false
  · subst hu
    go_wp2
    refine bodyPost_end (results_none rfl _ _ _) rfl ?_
    exact ⟨rfl, w3, HB.out, by rw [hn, if_pos (Or.inl rfl), HW3.out]⟩
  · obtain rfl : found = true := by simpa using hu
    by_cases hu2 : n < least
    · have hd : decide (n < least) = true := decide_eq_true hu2
      go_wp2
      refine bodyPost_end (results_none rfl _ _ _) rfl ?_
      exact ⟨rfl, w3, HB.out, by rw [hn, if_pos (.inr hu2), HW3.out]⟩
    · have hd : decide (n < least) = false := decide_eq_false hu2
      have hu3 : ¬ (true = false ∨ n < least) := by simpa using hu2
      go_wp2
      refine bodyPost_end (results_none rfl _ _ _) rfl ?_
      exact ⟨rfl, w3, HB.out, by rw [hn, if_neg hu3, HW3.out]⟩
def impl_LeastMix.step (l0 : List (S54)) (a1 a2 a3 a4 : Int) (k : Nat) (l : List Int) (s : Int × Bool) : Option (Int × Bool) := (impl_pointOf.f k l0 l a1 a2).bind fun p => some (if s.2 = false ∨ wrap64 (wrap64 (a3 * p.1) + wrap64 (a4 * p.2)) < s.1 then (wrap64 (wrap64 (a3 * p.1) + wrap64 (a4 * p.2)), true) else s)
def impl_LeastMix.f (k : Nat) (l0 : List (S54)) (a1 a2 a3 a4 : Int) : Option (Int × Bool) := (impl_areTwo.f k l0 a1 a2).bind fun t1 => if t1 = true then (impl_within.f a3 0 99).bind fun t2 => if t2 = true then (impl_within.f a4 0 99).bind fun t3 => if t3 = true then (impl_eachOrder.f (impl_LeastMix.step l0 a1 a2 a3 a4) k (l0.length : Int) (0, false)).bind fun s => some (s.1, true) else some (0, false) else some (0, false) else some (0, false)
theorem impl_LeastMix.mono : ∀ a0 a1 a2 a3 a4 k, LeO (impl_LeastMix.f k a0 a1 a2 a3 a4) (impl_LeastMix.f (k + 1) a0 a1 a2 a3 a4) := by
  intro a0 a1 a2 a3 a4 k r h
  unfold impl_LeastMix.f at h ⊢
  obtain ⟨t1, h1, h⟩ := Option.bind_eq_some_iff.1 h
  rw [impl_areTwo.mono _ _ _ _ _ h1, Option.bind_some]
  split at h
  · rename_i c1
    rw [if_pos c1]
    obtain ⟨t2, h2, h⟩ := Option.bind_eq_some_iff.1 h
    rw [h2, Option.bind_some]
    split at h
    · rename_i c2
      rw [if_pos c2]
      obtain ⟨t3, h3, h⟩ := Option.bind_eq_some_iff.1 h
      rw [h3, Option.bind_some]
      split at h
      · rename_i c3
        rw [if_pos c3]
        obtain ⟨s, h4, h⟩ := Option.bind_eq_some_iff.1 h
        rw [impl_eachOrder.mono _ (fun k l s r h => by
          unfold impl_LeastMix.step at h ⊢
          obtain ⟨p, h5, h⟩ := Option.bind_eq_some_iff.1 h
          rw [impl_pointOf.mono _ _ _ _ _ _ h5, Option.bind_some]
          exact h) _ _ _ _ h4, Option.bind_some]
        exact h
      · rename_i c3; rw [if_neg c3]; exact h
    · rename_i c2; rw [if_neg c2]; exact h
  · rename_i c1; rw [if_neg c1]; exact h
def impl_LeastMix.inv (w : World) (l0 : List (S54)) (A0 : Option Addr) (c0 : Nat) (a1 a2 a3 a4 : Int) (bj bf bg bx by_ bl bd : Nat) (s : Int × Bool) (W : World) : Prop := Below w.heap.size w W ∧ Boxed W bj 27 (.slice A0 l0.length c0) ∧ Boxed W bf 3 (.int .i64 a1) ∧ Boxed W bg 3 (.int .i64 a2) ∧ Boxed W bx 3 (.int .i64 a3) ∧ Boxed W by_ 3 (.int .i64 a4) ∧ Boxed W bl 3 (.int .i64 s.1) ∧ Boxed W bd 4 (.bool s.2)
theorem impl_LeastMix.inv_move {w : World} {l0 : List (S54)} {A0 : Option Addr} {c0 : Nat} {a1 a2 a3 a4 : Int} {bj bf bg bx by_ bl bd : Nat} {s : Int × Bool} {W W' : World} {B : Nat} (h : impl_LeastMix.inv w l0 A0 c0 a1 a2 a3 a4 bj bf bg bx by_ bl bd s W) (hB : Below B W W') (hw : w.heap.size ≤ B) (hj : bj < B ∧ bf < B ∧ bg < B ∧ bx < B ∧ by_ < B ∧ bl < B ∧ bd < B) : impl_LeastMix.inv w l0 A0 c0 a1 a2 a3 a4 bj bf bg bx by_ bl bd s W' :=
  ⟨h.1.trans (hB.mono hw), (hB.block _ hj.1).trans h.2.1, (hB.block _ hj.2.1).trans h.2.2.1, (hB.block _ hj.2.2.1).trans h.2.2.2.1, (hB.block _ hj.2.2.2.1).trans h.2.2.2.2.1, (hB.block _ hj.2.2.2.2.1).trans h.2.2.2.2.2.1, (hB.block _ hj.2.2.2.2.2.1).trans h.2.2.2.2.2.2.1, (hB.block _ hj.2.2.2.2.2.2).trans h.2.2.2.2.2.2.2⟩
theorem impl_LeastMix.tell {w : World} {l0 : List (S54)} {A0 : Option Addr} {c0 : Nat} {a1 a2 a3 a4 : Int} {bj bf bg bx by_ bl bd : Nat} {s s' : Int × Bool} {W : World} {B k : Nat} {A : Option Addr} {c : Nat} {l : List Int} (h : impl_LeastMix.inv w l0 A0 c0 a1 a2 a3 a4 bj bf bg bx by_ bl bd s W) (hr0 : Kd.C k54 w A0 l0.length l0) (hc0 : l0.length ≤ c0) (hd : bl ≠ bd ∧ bl ≠ bj ∧ bl ≠ bf ∧ bl ≠ bg ∧ bl ≠ bx ∧ bl ≠ by_ ∧ bd ≠ bj ∧ bd ≠ bf ∧ bd ≠ bg ∧ bd ≠ bx ∧ bd ≠ by_) (hl : bl < B ∧ bd < B ∧ w.heap.size ≤ bl ∧ w.heap.size ≤ bd)
    (hr : Kd.C (Kd.int .i64) W A l.length l) (hc : l.length ≤ c) (hs : impl_LeastMix.step l0 a1 a2 a3 a4 k l s = some s') :
    Calls Try.prog 72 #[.slice A l.length c, .pointer (some ⟨bj, 0, none⟩), .pointer (some ⟨bf, 0, none⟩), .pointer (some ⟨bg, 0, none⟩), .pointer (some ⟨bx, 0, none⟩), .pointer (some ⟨by_, 0, none⟩), .pointer (some ⟨bd, 0, none⟩), .pointer (some ⟨bl, 0, none⟩)] W fun e W' => e = .returned (.tuple #[]) ∧ impl_LeastMix.inv w l0 A0 c0 a1 a2 a3 a4 bj bf bg bx by_ bl bd s' W' ∧ Kept W W' (fun k_ => k_ < B) := by
  obtain ⟨p, hp, hs⟩ := Option.bind_eq_some_iff.1 hs
  obtain rfl := Option.some.inj hs
  obtain ⟨i0, ij, jf, ig, ix, iy, il, id_⟩ := h
  refine (impl_LeastMix1.calls k bj bf bg bx by_ bl bd A0 c0 l0 a1 a2 a3 a4 A c l s.1 s.2 p.1 p.2 W hc0 hc hd.1 (Kd.C_below hr0 i0) hr ij jf ig ix iy il id_ hp).mono ?_
  rintro e W' ⟨rfl, W1, hb, rfl⟩
  have z := fun {b : Nat} {t : TypeId} {v : Value} (h : Boxed W b t v) => boxed_below h hb
  have k1 : Below w.heap.size w W1 := below_step i0 hb
  refine ⟨rfl, ?_, ?_⟩
  · by_cases q : s.2 = false ∨ wrap64 (wrap64 (a3 * p.1) + wrap64 (a4 * p.2)) < s.1
    · rw [if_pos q, if_pos q]
      exact ⟨below_set (below_set k1 hl.2.2.1) hl.2.2.2, boxed_set (boxed_set (z ij) (Ne.symm hd.2.1)) (Ne.symm hd.2.2.2.2.2.2.1), boxed_set (boxed_set (z jf) (Ne.symm hd.2.2.1)) (Ne.symm hd.2.2.2.2.2.2.2.1), boxed_set (boxed_set (z ig) (Ne.symm hd.2.2.2.1)) (Ne.symm hd.2.2.2.2.2.2.2.2.1), boxed_set (boxed_set (z ix) (Ne.symm hd.2.2.2.2.1)) (Ne.symm hd.2.2.2.2.2.2.2.2.2.1), boxed_set (boxed_set (z iy) (Ne.symm hd.2.2.2.2.2.1)) (Ne.symm hd.2.2.2.2.2.2.2.2.2.2), boxed_set (Boxed.set _ (z il)) hd.1, Boxed.set _ (boxed_set (z id_) (Ne.symm hd.1))⟩
    · rw [if_neg q, if_neg q]
      exact ⟨k1, z ij, z jf, z ig, z ix, z iy, z il, z id_⟩
  · split
    · exact Kept.setCell (Kept.setCell (Kept.of_below hb _) (.inl hl.1) _) (.inl hl.2.1) _
    · exact Kept.of_below hb _
set_option maxHeartbeats 8000000 in
set_option maxRecDepth 100000 in
theorem impl_LeastMix.calls (k : Nat) (A0 : Option Addr) (c0 : Nat) (l0 : List (S54)) (a1 a2 a3 a4 : Int) (r1 : Int) (r2 : Bool) (w : World) (hr0 : Kd.C k54 w A0 l0.length l0) (hc0 : l0.length ≤ c0) (h : impl_LeastMix.f k l0 a1 a2 a3 a4 = some (r1, r2)) :
    Calls Try.prog 30 #[.slice A0 l0.length c0, .int .i64 a1, .int .i64 a2, .int .i64 a3, .int .i64 a4] w fun e w' => e = .returned (.tuple #[.int .i64 r1, .bool r2]) ∧ Below w.heap.size w w' := by
  unfold impl_LeastMix.f at h
  obtain ⟨t1, h1, h_⟩ := Option.bind_eq_some_iff.1 h
  clear h
  have HR0 := Aside0.mk hr0
  have HC0 := Aside0.mk hc0
  have H1 := Aside0.mk h1
  have H := Aside0.mk h_
  have HB := Aside0.mk (Below.refl w.heap.size w)
  clear hr0 hc0 h1 h_
  go_enter Try.func30, Try.ntmps30
  go_wp2_with (fail)
  refine (impl_areTwo.calls k _ _ l0 a1 a2 t1 _ (Kd.C_below HR0.out (by repeat (first | exact HB.out | apply below_alloc | apply pw_below_drewN | apply below_drew1))) HC0.out H1.out).mono ?_
  rintro e w6 ⟨rfl, hb⟩
  dsimp only
  have Yj : Aside0 (Boxed w6 (w.heap.size) 27 (.slice A0 l0.length c0)) := ⟨boxed_below (by repeat (first | exact boxed_alloc (by first | rfl | (simp only [alloc_size]; done)) | apply Boxed.alloc)) hb⟩
  have Yf : Aside0 (Boxed w6 (w.heap.size + 1) 3 (.int .i64 a1)) := ⟨boxed_below (by repeat (first | exact boxed_alloc (by first | rfl | (simp only [alloc_size]; done)) | apply Boxed.alloc)) hb⟩
  have Yg : Aside0 (Boxed w6 (w.heap.size + 1 + 1) 3 (.int .i64 a2)) := ⟨boxed_below (by repeat (first | exact boxed_alloc (by first | rfl | (simp only [alloc_size]; done)) | apply Boxed.alloc)) hb⟩
  have Yx : Aside0 (Boxed w6 (w.heap.size + 1 + 1 + 1) 3 (.int .i64 a3)) := ⟨boxed_below (by repeat (first | exact boxed_alloc (by first | rfl | (simp only [alloc_size]; done)) | apply Boxed.alloc)) hb⟩
  have Yy : Aside0 (Boxed w6 (w.heap.size + 1 + 1 + 1 + 1) 3 (.int .i64 a4)) := ⟨boxed_below (by repeat (first | exact boxed_alloc (by first | rfl | (simp only [alloc_size]; done)) | apply Boxed.alloc)) hb⟩
  have n1_ := Aside0.mk (below_step (by repeat (first | exact HB.out | apply below_alloc | apply pw_below_drewN | apply below_drew1)) hb)
  clear HB hb
  have HB := n1_
  clear n1_
  have CJ := Yj.out.cell
  have CX := Yx.out.cell
  have CY := Yy.out.cell
  have hH := H.out
  clear H
  cases t1 with
  | false =>
    obtain ⟨rfl, rfl⟩ : (0 : Int) = r1 ∧ false = r2 := by simpa using hH
    go_wp2
    go_ret2
    exact ⟨rfl, HB.out⟩
  | true =>
    rw [if_pos rfl] at hH
    obtain ⟨t2, h2, h_⟩ := Option.bind_eq_some_iff.1 hH
    clear hH
    have H2 := Aside0.mk h2
    have H := Aside0.mk h_
    clear h2 h_
    go_wp2_with (fail)
    refine (impl_within.calls a3 0 99 t2 _ H2.out).mono ?_
    rintro e w7 ⟨rfl, hd7⟩
    dsimp only
    have hb67 : Below w6.heap.size w6 w7 := by obtain ⟨nd, rfl⟩ := hd7; exact pw_below_drewN (Below.refl _ _) nd
    clear hd7
    have n1_ := Aside0.mk (below_step HB.out hb67)
    clear HB
    have HB := n1_
    clear n1_
    have CY := (boxed_below Yy.out hb67).cell
    have hH := H.out
    clear H CX CJ
    cases t2 with
    | false =>
      obtain ⟨rfl, rfl⟩ : (0 : Int) = r1 ∧ false = r2 := by simpa using hH
      go_wp2
      go_ret2
      exact ⟨rfl, HB.out⟩
    | true =>
      rw [if_pos rfl] at hH
      obtain ⟨t3, h3, h_⟩ := Option.bind_eq_some_iff.1 hH
      clear hH
      have H3 := Aside0.mk h3
      have H := Aside0.mk h_
      clear h3 h_
      go_wp2_with (fail)
      refine (impl_within.calls a4 0 99 t3 _ H3.out).mono ?_
      rintro e w8 ⟨rfl, hd7⟩
      dsimp only
      have hb7 : Below w7.heap.size w7 w8 := by obtain ⟨nd, rfl⟩ := hd7; exact pw_below_drewN (Below.refl _ _) nd
      have hb78 := below_step hb67 hb7
      clear hd7 hb67
      have n1_ := Aside0.mk (below_step HB.out hb7)
      clear HB hb7
      have HB := n1_
      clear n1_
      have hH := H.out
      clear H CY
      cases t3 with
      | false =>
        obtain ⟨rfl, rfl⟩ : (0 : Int) = r1 ∧ false = r2 := by simpa using hH
        go_wp2
        go_ret2
        exact ⟨rfl, HB.out⟩
      | true =>
        rw [if_pos rfl] at hH
        obtain ⟨s, h4, h_⟩ := Option.bind_eq_some_iff.1 hH
        clear hH
        have H4 := Aside0.mk h4
        have H := Aside0.mk h_
        clear h4 h_
        have U1 : Boxed ((w8.alloc (.cells #[.int .i64 0] 3)).alloc (.cells #[.bool false] 4)) w8.heap.size 3 (.int .i64 0) := (boxed_alloc rfl).alloc _
        have U2 : Boxed ((w8.alloc (.cells #[.int .i64 0] 3)).alloc (.cells #[.bool false] 4)) (w8.heap.size + 1) 4 (.bool false) := boxed_alloc (alloc_size _ _).symm
        have Zj : Boxed ((w8.alloc (.cells #[.int .i64 0] 3)).alloc (.cells #[.bool false] 4)) (w.heap.size) 27 (.slice A0 l0.length c0) := ((boxed_below Yj.out hb78).alloc _).alloc _
        have Zf : Boxed ((w8.alloc (.cells #[.int .i64 0] 3)).alloc (.cells #[.bool false] 4)) (w.heap.size + 1) 3 (.int .i64 a1) := ((boxed_below Yf.out hb78).alloc _).alloc _
        have Zg : Boxed ((w8.alloc (.cells #[.int .i64 0] 3)).alloc (.cells #[.bool false] 4)) (w.heap.size + 1 + 1) 3 (.int .i64 a2) := ((boxed_below Yg.out hb78).alloc _).alloc _
        have Zx : Boxed ((w8.alloc (.cells #[.int .i64 0] 3)).alloc (.cells #[.bool false] 4)) (w.heap.size + 1 + 1 + 1) 3 (.int .i64 a3) := ((boxed_below Yx.out hb78).alloc _).alloc _
        have Zy : Boxed ((w8.alloc (.cells #[.int .i64 0] 3)).alloc (.cells #[.bool false] 4)) (w.heap.size + 1 + 1 + 1 + 1) 3 (.int .i64 a4) := ((boxed_below Yy.out hb78).alloc _).alloc _
        have c1 := U1.cell
        have f1 := U1.frozen
        have c2 := U2.cell
        have f2 := U2.frozen
        have cj := Zj.cell
        have hb9 : Below w.heap.size w ((w8.alloc (.cells #[.int .i64 0] 3)).alloc (.cells #[.bool false] 4)) := below_alloc (below_alloc HB.out _) _
        have Z := Aside0.mk (show impl_LeastMix.inv w l0 A0 c0 a1 a2 a3 a4 (w.heap.size) (w.heap.size + 1) (w.heap.size + 1 + 1) (w.heap.size + 1 + 1 + 1) (w.heap.size + 1 + 1 + 1 + 1) w8.heap.size (w8.heap.size + 1) (0, false) ((w8.alloc (.cells #[.int .i64 0] 3)).alloc (.cells #[.bool false] 4)) from ⟨hb9, Zj, Zf, Zg, Zx, Zy, U1, U2⟩)
        have HY8 : Aside0 (w.heap.size + 1 + 1 + 1 + 1 < w8.heap.size) := ⟨by have := (boxed_below Yy.out hb78).lt; omega⟩
        clear U1 U2 Zj Zf Zg Zx Zy hb9 hb78
        go_wp2_with (fail)
        have hsz : ((w8.alloc (.cells #[.int .i64 0] 3)).alloc (.cells #[.bool false] 4)).heap.size = w8.heap.size + 1 + 1 := by rw [alloc_size, alloc_size]
        have HLT : Aside0 (w.heap.size < ((w8.alloc (.cells #[.int .i64 0] 3)).alloc (.cells #[.bool false] 4)).heap.size ∧ w.heap.size + 1 < ((w8.alloc (.cells #[.int .i64 0] 3)).alloc (.cells #[.bool false] 4)).heap.size ∧ w.heap.size + 1 + 1 < ((w8.alloc (.cells #[.int .i64 0] 3)).alloc (.cells #[.bool false] 4)).heap.size ∧ w.heap.size + 1 + 1 + 1 < ((w8.alloc (.cells #[.int .i64 0] 3)).alloc (.cells #[.bool false] 4)).heap.size ∧ w.heap.size + 1 + 1 + 1 + 1 < ((w8.alloc (.cells #[.int .i64 0] 3)).alloc (.cells #[.bool false] 4)).heap.size ∧ w8.heap.size < ((w8.alloc (.cells #[.int .i64 0] 3)).alloc (.cells #[.bool false] 4)).heap.size ∧ w8.heap.size + 1 < ((w8.alloc (.cells #[.int .i64 0] 3)).alloc (.cells #[.bool false] 4)).heap.size ∧ w.heap.size + 1 + 1 + 1 + 1 < w8.heap.size) := ⟨by have h5 := HY8.out; omega⟩
        clear hsz
        refine (impl_eachOrder.calls (impl_LeastMix.step l0 a1 a2 a3 a4) 72 ?eg #[.pointer (some ⟨w.heap.size, 0, none⟩), .pointer (some ⟨w.heap.size + 1, 0, none⟩), .pointer (some ⟨w.heap.size + 1 + 1, 0, none⟩), .pointer (some ⟨w.heap.size + 1 + 1 + 1, 0, none⟩), .pointer (some ⟨w.heap.size + 1 + 1 + 1 + 1, 0, none⟩), .pointer (some ⟨w8.heap.size + 1, 0, none⟩), .pointer (some ⟨w8.heap.size, 0, none⟩)] ((w8.alloc (.cells #[.int .i64 0] 3)).alloc (.cells #[.bool false] 4)) (fun _ s_ W_ => impl_LeastMix.inv w l0 A0 c0 a1 a2 a3 a4 (w.heap.size) (w.heap.size + 1) (w.heap.size + 1 + 1) (w.heap.size + 1 + 1 + 1) (w.heap.size + 1 + 1 + 1 + 1) w8.heap.size (w8.heap.size + 1) s_ W_) k _ (0, false) s ?init ?move ?step H4.out).mono ?_
        case eg => intro args w; go_simp
        case init => intro W_ hW_; exact impl_LeastMix.inv_move Z.out hW_ (by have := HLT.out; omega) (by have := HLT.out; omega)
        case move => intro hi_ s_ W_ W2_ _ hi2_ hb_ _; exact impl_LeastMix.inv_move hi2_ hb_ (by have := HLT.out; omega) (by have := HLT.out; omega)
        case step => intro hi_ k_ s_ s2_ W_ A_ c_ l_ _ _ hi2_ hC_ hc_ hs_; exact impl_LeastMix.tell hi2_ HR0.out HC0.out (by have := HLT.out; omega) (by have := HLT.out; omega) hC_ hc_ hs_
        rintro e w9 ⟨rfl, hi_, _, _, hz⟩
        dsimp only
        have cl := hz.2.2.2.2.2.2.1.cell
        have HB9 := Aside0.mk hz.1
        clear hz Z HLT cj c1 c2 f1 f2
        obtain ⟨rfl, rfl⟩ : s.1 = r1 ∧ true = r2 := by simpa using H.out
        go_wp2
        go_ret2
        exact ⟨rfl, HB9.out⟩

end Go.Proofs.Ytafjdcjaigmnaaa.XFnExactLeastMix
