-- Written by a program of this session (the kit's print, widened). Proved here: what each function answers, for the arguments that its contract names.
import Derived.Test.YtbblhmpcpmamfaaXFnExactBestUnderx0
import Derived.Test.YtbblhmpcpmamfaaXFnExactBestUnderx5
import Derived.Test.YtbblhmpcpmamfaaXFnExactBestUnderx7
import Derived.Test.YtbblhmpcpmamfaaXFnExactBestUnderx8
import Derived.Test.YtbblhmpcpmamfaaXFnExactBestUnderx9
namespace Go.Proofs.Ytbblhmpcpmamfaa.XFnExactBestUnder
open Go.RowKit Go.Proofs.YtbblhmpcpmamfaaW.PrintWords Go.Proofs.YtbblhmpcpmamfaaW.PrintLast Go.Proofs.YtbblhmpcpmamfaaW.PrintMore
attribute [local go_sem] max2_int min2_int max_two min_two max_three min_three max_four min_four   -- for this text's walks alone
attribute [local go_sem] idxA_77_0 idxA_77_1 fldS_68_0 fldS_68_1 fldS_73_0 fldS_73_1 fldS_73_2
set_option linter.unusedVariables false
set_option linter.unusedSimpArgs false

/-! ### impl_BestUnder: function 26, by hand -/
/-! ### impl_BestUnder, by hand -/
theorem cell_far_bu {w : World} {b B i : Nat} {u v : Value} (h : w.cell? ⟨B, i, none⟩ = some v) (hne : B ≠ b) : (w.setCell ⟨b, 0, none⟩ u).cell? ⟨B, i, none⟩ = some v := by
 unfold World.cell? at h ⊢
 rw [Below.heap_setCell w ⟨b, 0, none⟩ u B hne]
 exact h
theorem impl_BestUnder1.copied (w3 : World) (bp bd bl bo : Nat) (A : Option Addr) (c : Nat) (l : List Int) (least : Int) (found : Bool) (vo : Value) (p1 : Int) (W w3' : World) (hd : Below w3.heap.size w3 w3') (hc : l.length ≤ c) (hne : bl ≠ bd ∧ bl ≠ bo ∧ bd ≠ bo) (hr : Kd.C (Kd.int .i64) W A l.length l)
  (xd : Boxed W bd 4 (.bool found)) (xl : Boxed W bl 3 (.int .i64 least)) (xo : Boxed W bo 41 vo) (hB : Below W.heap.size W w3) (cp : w3.cell? ⟨bp, 0, none⟩ = some (.int .i64 p1)) (lp : bp < w3.heap.size) (np : bo ≠ bp ∧ bl ≠ bp ∧ bd ≠ bp) (hcp : impl_copyInts.f l = some l) :
  Calls Try.prog 64 #[.slice A l.length c] w3' fun e w4 => ∃ A3 c3, e = .returned (.slice A3 l.length c3) ∧ Aside0 (Kd.R (Kd.int .i64) 3 w4 W.heap.size (fun _ => True) (.slice A3 l.length c3) l) ∧ Aside0 (Below W.heap.size W w4) ∧ w4.cell? ⟨bo, 0, none⟩ = some vo ∧ w4.frozen? ⟨bo, 0, none⟩ = false ∧ (w4.setCell ⟨bo, 0, none⟩ (.slice A3 l.length c3)).cell? ⟨bl, 0, none⟩ = some (.int .i64 least) ∧ (w4.setCell ⟨bo, 0, none⟩ (.slice A3 l.length c3)).frozen? ⟨bl, 0, none⟩ = false ∧ ((w4.setCell ⟨bo, 0, none⟩ (.slice A3 l.length c3)).setCell ⟨bl, 0, none⟩ (.int .i64 p1)).cell? ⟨bd, 0, none⟩ = some (.bool found) ∧ ((w4.setCell ⟨bo, 0, none⟩ (.slice A3 l.length c3)).setCell ⟨bl, 0, none⟩ (.int .i64 p1)).frozen? ⟨bd, 0, none⟩ = false ∧ w4.cell? ⟨bp, 0, none⟩ = some (.int .i64 p1) ∧ (w4.setCell ⟨bo, 0, none⟩ (.slice A3 l.length c3)).cell? ⟨bp, 0, none⟩ = some (.int .i64 p1) ∧ ((w4.setCell ⟨bo, 0, none⟩ (.slice A3 l.length c3)).setCell ⟨bl, 0, none⟩ (.int .i64 p1)).cell? ⟨bp, 0, none⟩ = some (.int .i64 p1) ∧ (((w4.setCell ⟨bo, 0, none⟩ (.slice A3 l.length c3)).setCell ⟨bl, 0, none⟩ (.int .i64 p1)).setCell ⟨bd, 0, none⟩ (.bool true)).cell? ⟨bp, 0, none⟩ = some (.int .i64 p1) := by
 have hBd := below_step hB hd
 refine (impl_copyInts.calls _ _ l l _ (Kd.C_below hr hBd) hc hcp).mono ?_
 rintro e w4 ⟨v3, rfl, ho3, hb4⟩
 obtain ⟨A3, c3, e3⟩ := Kd.R_slice ho3
 subst e3
 have hb := below_step hd hb4
 have hB4 := below_step hB hb
 have zl := boxed_below xl hB4
 have zd := boxed_below xd hB4
 have zo := boxed_below xo hB4
 have n7_ : w4.cell? ⟨bp, 0, none⟩ = some (.int .i64 p1) := (hb.cell (p := ⟨bp, 0, none⟩) lp).trans cp
 exact ⟨A3, c3, rfl, ⟨Kd.R_lower ho3 (below_size hBd)⟩, ⟨hB4⟩, zo.cell, zo.frozen, (boxed_set zl hne.2.1).cell, (boxed_set zl hne.2.1).frozen, (boxed_set (boxed_set zd hne.2.2) (Ne.symm hne.1)).cell, (boxed_set (boxed_set zd hne.2.2) (Ne.symm hne.1)).frozen, n7_, cell_far_bu n7_ (Ne.symm np.1), cell_far_bu (cell_far_bu n7_ (Ne.symm np.1)) (Ne.symm np.2.1), cell_far_bu (cell_far_bu (cell_far_bu n7_ (Ne.symm np.1)) (Ne.symm np.2.1)) (Ne.symm np.2.2)⟩
set_option maxHeartbeats 8000000 in
set_option maxRecDepth 100000 in
theorem impl_BestUnder1.calls (k : Nat) (bj bf bg bm bd bl bo : Nat) (A0 : Option Addr) (c0 : Nat) (l0 : List (S62)) (a1 a2 a3 : Int) (A : Option Addr) (c : Nat) (l : List Int) (least : Int) (found : Bool) (vo : Value) (p1 p2 : Int) (W : World) (hc0 : l0.length ≤ c0) (hc : l.length ≤ c) (hne : bl ≠ bd ∧ bl ≠ bo ∧ bd ≠ bo)
  (hr0 : Kd.C k62 W A0 l0.length l0) (hr : Kd.C (Kd.int .i64) W A l.length l)
  (xj : Boxed W bj 34 (.slice A0 l0.length c0)) (xf : Boxed W bf 3 (.int .i64 a1)) (xg : Boxed W bg 3 (.int .i64 a2)) (xm : Boxed W bm 3 (.int .i64 a3)) (xd : Boxed W bd 4 (.bool found)) (xl : Boxed W bl 3 (.int .i64 least)) (xo : Boxed W bo 41 vo)
  (h : impl_pointOf.f k l0 l a1 a2 = some (p1, p2)) (hcp : impl_copyInts.f l = some l) :
  Calls Try.prog 62 #[.slice A l.length c, .pointer (some ⟨bj, 0, none⟩), .pointer (some ⟨bf, 0, none⟩), .pointer (some ⟨bg, 0, none⟩), .pointer (some ⟨bm, 0, none⟩), .pointer (some ⟨bd, 0, none⟩), .pointer (some ⟨bl, 0, none⟩), .pointer (some ⟨bo, 0, none⟩)] W fun e W' => e = .returned (.tuple #[]) ∧ ∃ W1, Below W.heap.size W W1 ∧ (¬ (p2 ≤ a3 ∧ (found = false ∨ p1 < least)) → W' = W1) ∧ ((p2 ≤ a3 ∧ (found = false ∨ p1 < least)) → ∃ v, Kd.R (Kd.int .i64) 3 W1 W.heap.size (fun _ => True) v l ∧ W' = ((W1.setCell ⟨bo, 0, none⟩ v).setCell ⟨bl, 0, none⟩ (.int .i64 p1)).setCell ⟨bd, 0, none⟩ (.bool true)) := by
 have HR0 := Aside0.mk hr0
 have HR := Aside0.mk hr
 have H := Aside0.mk h
 have HCP := Aside0.mk hcp
 have HN := Aside0.mk hne
 have XJ := xj.cell
 have XF := xf.cell
 have XG := xg.cell
 have BM := Aside0.mk xm
 have BD := Aside0.mk xd
 have BL := Aside0.mk xl
 have BO := Aside0.mk xo
 clear hr0 hr h hcp xj xf xg xm xd xl xo hne
 go_enter Try.func62, Try.ntmps62
 go_wp2_with (fail)
 refine (impl_pointOf.calls k _ _ l0 _ _ l a1 a2 p1 p2 _ HR0.out hc0 HR.out hc H.out).mono ?_
 rintro e w2 ⟨rfl, hb⟩
 dsimp only
 clear XJ XF XG
 obtain ⟨w3, hw3⟩ : ∃ w3, w3 = w2.alloc (Obj.cells #[Value.int .i64 p1, Value.int .i64 p2] 77) := ⟨_, rfl⟩
 have hb3 : Below W.heap.size W w3 := by rw [hw3]; exact below_alloc hb _
 have CM := (boxed_below BM.out hb3).cell
 have CD := (boxed_below BD.out hb3).cell
 have CL := (boxed_below BL.out hb3).cell
 have HB := Aside0.mk hb3
 have HB2 := Aside0.mk hb
 have HW3 := Aside0.mk hw3
 rw [hw3] at CM CD CL
 clear hb hb3 hw3
 by_cases hu : p2 ≤ a3 ∧ (found = false ∨ p1 < least)
 ·
  have q0 : decide (p2 ≤ a3) = true := decide_eq_true hu.1
  have hs1 : found = false ∨ found = true ∧ decide (p1 < least) = true := by
   cases found with
   | false => exact .inl rfl
   | true => exact .inr ⟨rfl, decide_eq_true (hu.2.resolve_left (by simp))⟩
  have HU := Aside0.mk hu
  clear hu
  have CP0 : Aside0 (w3.cell? ⟨w2.heap.size, 0, none⟩ = some (.int .i64 p1) ∧ w2.heap.size < w3.heap.size ∧ (bo ≠ w2.heap.size ∧ bl ≠ w2.heap.size ∧ bd ≠ w2.heap.size)) := ⟨by rw [HW3.out]; go_simp, by rw [HW3.out, alloc_size]; omega, by have h1_ := BO.out.lt; have h3_ := BL.out.lt; have h4_ := BD.out.lt; have h2_ := below_size HB2.out; omega⟩
  rcases hs1 with q1 | ⟨q1, q2⟩
  all_goals
   subst q1
   go_wp2_with (fail)
   rw [← HW3.out]
   have cp0 := CP0.out.1
   go_region_held3 (fun w' => w'.cell? ⟨w2.heap.size, 0, none⟩ = some (.int .i64 p1)) (first | go_keep | exact n7_ | exact n8_ | exact n9_ | exact n10_) (first | (go_at_call 64; refine (impl_BestUnder1.copied w3 w2.heap.size bd bl bo A c l least _ vo p1 W _ ?hd hc HN.out HR.out BD.out BL.out BO.out HB.out CP0.out.1 CP0.out.2.1 CP0.out.2.2 HCP.out).mono ?_; (case hd => repeat (first | exact Below.refl _ _ | apply below_drew1 | apply pw_below_drewN)); rintro e w4 ⟨A3, c3, rfl, HO3, HB4, n1_, n2_, n3_, n4_, n5_, n6_, n7_, n8_, n9_, n10_⟩))
   all_goals
    go_wp2
    refine bodyPost_end (results_none rfl _ _ _) rfl ?_
    refine ⟨rfl, w4, HB4.out, fun hn => ?_, fun _ => ⟨_, HO3.out, rfl⟩⟩
    first | exact absurd HU.out hn | (exfalso; have h_ := HU.out.1; have h2_ := HU.out.2; simp at hn; omega) | (exfalso; have h_ := HU.out.1; omega)
 ·
  have HU := Aside0.mk hu
  clear hu
  by_cases q : p2 ≤ a3
  ·
   have q0 : decide (p2 ≤ a3) = true := decide_eq_true q
   have q1 : found = true := by
    cases found with
    | false => exact absurd ⟨q, .inl rfl⟩ HU.out
    | true => rfl
   have q2 : decide (p1 < least) = false := decide_eq_false (fun z => HU.out ⟨q, .inr z⟩)
   clear q
   subst q1
   go_wp2
   refine bodyPost_end (results_none rfl _ _ _) rfl ?_
   exact ⟨rfl, w3, HB.out, fun _ => HW3.out.symm, fun hn => absurd hn HU.out⟩
  ·
   have q0 : decide (p2 ≤ a3) = false := decide_eq_false q
   clear q
   go_wp2
   refine bodyPost_end (results_none rfl _ _ _) rfl ?_
   exact ⟨rfl, w3, HB.out, fun _ => HW3.out.symm, fun hn => absurd hn HU.out⟩
def impl_BestUnder.step (l0 : List (S62)) (a1 a2 a3 : Int) (k : Nat) (l : List Int) (s : List Int × Int × Bool) : Option (List Int × Int × Bool) := if impl_copyInts.f l = some l then (impl_pointOf.f k l0 l a1 a2).bind fun p => some (if p.2 ≤ a3 ∧ (s.2.2 = false ∨ p.1 < s.2.1) then (l, p.1, true) else s) else none
def impl_BestUnder.f (k : Nat) (l0 : List (S62)) (a1 a2 a3 : Int) : Option (List Int × Bool) := (impl_areTwo.f k l0 a1 a2).bind fun t1 => if t1 = true then (impl_eachOrder.f (impl_BestUnder.step l0 a1 a2 a3) k (l0.length : Int) ([], 0, false)).bind fun s => some (s.1, s.2.2) else some ([], false)
theorem impl_BestUnder.mono : ∀ a0 a1 a2 a3 k, LeO (impl_BestUnder.f k a0 a1 a2 a3) (impl_BestUnder.f (k + 1) a0 a1 a2 a3) := by
 intro a0 a1 a2 a3 k r h
 unfold impl_BestUnder.f at h ⊢
 obtain ⟨t1, h1, h⟩ := Option.bind_eq_some_iff.1 h
 rw [impl_areTwo.mono _ _ _ _ _ h1, Option.bind_some]
 split at h
 ·
  rename_i c1
  rw [if_pos c1]
  obtain ⟨s, h4, h⟩ := Option.bind_eq_some_iff.1 h
  rw [impl_eachOrder.mono _ (fun k l s r h => by
   unfold impl_BestUnder.step at h ⊢
   split at h
   ·
    rename_i c2
    rw [if_pos c2]
    obtain ⟨p, h5, h⟩ := Option.bind_eq_some_iff.1 h
    rw [impl_pointOf.mono _ _ _ _ _ _ h5, Option.bind_some]
    exact h
   ·
    cases h) _ _ _ _ h4, Option.bind_some]
  exact h
 ·
  rename_i c1; rw [if_neg c1]; exact h
def impl_BestUnder.inv (w : World) (l0 : List (S62)) (A0 : Option Addr) (c0 : Nat) (a1 a2 a3 : Int) (bj bf bg bm bd bl bo : Nat) (hi : Nat) (s : List Int × Int × Bool) (W : World) : Prop := Below w.heap.size w W ∧ Boxed W bj 34 (.slice A0 l0.length c0) ∧ Boxed W bf 3 (.int .i64 a1) ∧ Boxed W bg 3 (.int .i64 a2) ∧ Boxed W bm 3 (.int .i64 a3) ∧ Boxed W bd 4 (.bool s.2.2) ∧ Boxed W bl 3 (.int .i64 s.2.1) ∧ ∃ v, Boxed W bo 41 v ∧ Kd.R (Kd.int .i64) 3 W hi (fun k_ => hi ≤ k_) v s.1
theorem impl_BestUnder.inv_move {w : World} {l0 : List (S62)} {A0 : Option Addr} {c0 : Nat} {a1 a2 a3 : Int} {bj bf bg bm bd bl bo hi : Nat} {s : List Int × Int × Bool} {W W' : World} {B : Nat} (h : impl_BestUnder.inv w l0 A0 c0 a1 a2 a3 bj bf bg bm bd bl bo hi s W) (hB : Below B W W') (hw : w.heap.size ≤ B) (hj : bj < B ∧ bf < B ∧ bg < B ∧ bm < B ∧ bd < B ∧ bl < B ∧ bo < B) (hk : Kept W W' (fun k_ => B ≤ k_ ∧ k_ < hi)) : impl_BestUnder.inv w l0 A0 c0 a1 a2 a3 bj bf bg bm bd bl bo hi s W' := by
 obtain ⟨h1, h2, h3, h4, h5, h6, h7, v, h8, h9⟩ := h
 exact ⟨h1.trans (hB.mono hw), (hB.block _ hj.1).trans h2, (hB.block _ hj.2.1).trans h3, (hB.block _ hj.2.2.1).trans h4, (hB.block _ hj.2.2.2.1).trans h5, (hB.block _ hj.2.2.2.2.1).trans h6, (hB.block _ hj.2.2.2.2.2.1).trans h7, v, (hB.block _ hj.2.2.2.2.2.2).trans h8, Kd.R_kept h9 hk (fun k_ a b => by omega)⟩
theorem impl_BestUnder.tell {w : World} {l0 : List (S62)} {A0 : Option Addr} {c0 : Nat} {a1 a2 a3 : Int} {bj bf bg bm bd bl bo hi : Nat} {s s' : List Int × Int × Bool} {W : World} {B k : Nat} {A : Option Addr} {c : Nat} {l : List Int} (h : impl_BestUnder.inv w l0 A0 c0 a1 a2 a3 bj bf bg bm bd bl bo hi s W) (hr0 : Kd.C k62 w A0 l0.length l0) (hc0 : l0.length ≤ c0) (hd : bl ≠ bd ∧ bl ≠ bo ∧ bd ≠ bo) (hd2 : ∀ b ∈ [bj, bf, bg, bm], b ≠ bd ∧ b ≠ bl ∧ b ≠ bo) (hl : bl < B ∧ bd < B ∧ bo < B ∧ w.heap.size ≤ bl ∧ w.heap.size ≤ bd ∧ w.heap.size ≤ bo) (hB : B ≤ hi) (hW : hi ≤ W.heap.size)
  (hr : Kd.C (Kd.int .i64) W A l.length l) (hc : l.length ≤ c) (hs : impl_BestUnder.step l0 a1 a2 a3 k l s = some s') :
  Calls Try.prog 62 #[.slice A l.length c, .pointer (some ⟨bj, 0, none⟩), .pointer (some ⟨bf, 0, none⟩), .pointer (some ⟨bg, 0, none⟩), .pointer (some ⟨bm, 0, none⟩), .pointer (some ⟨bd, 0, none⟩), .pointer (some ⟨bl, 0, none⟩), .pointer (some ⟨bo, 0, none⟩)] W fun e W' => e = .returned (.tuple #[]) ∧ impl_BestUnder.inv w l0 A0 c0 a1 a2 a3 bj bf bg bm bd bl bo hi s' W' ∧ Kept W W' (fun k_ => k_ < B) := by
 unfold impl_BestUnder.step at hs
 split at hs
 case isFalse => cases hs
 case isTrue hcp =>
 obtain ⟨p, hp, hs⟩ := Option.bind_eq_some_iff.1 hs
 obtain rfl := Option.some.inj hs
 obtain ⟨i0, ij, jf, ig, im, id_, il, v0, io, ir⟩ := h
 refine (impl_BestUnder1.calls k bj bf bg bm bd bl bo A0 c0 l0 a1 a2 a3 A c l s.2.1 s.2.2 v0 p.1 p.2 W hc0 hc hd (Kd.C_below hr0 i0) hr ij jf ig im id_ il io hp hcp).mono ?_
 rintro e W' ⟨rfl, W1, hb, hno, hyes⟩
 have z := fun {b : Nat} {t : TypeId} {v : Value} (h : Boxed W b t v) => boxed_below h hb
 have k1 : Below w.heap.size w W1 := below_step i0 hb
 have dj := hd2 bj (by simp)
 have df := hd2 bf (by simp)
 have dg := hd2 bg (by simp)
 have dm := hd2 bm (by simp)
 refine ⟨rfl, ?_, ?_⟩
 ·
  by_cases q : p.2 ≤ a3 ∧ (s.2.2 = false ∨ p.1 < s.2.1)
  ·
   rw [if_pos q]
   obtain ⟨v, hv, rfl⟩ := hyes q
   have y := fun {b : Nat} {t : TypeId} {u : Value} (h : Boxed W b t u) (d : b ≠ bd ∧ b ≠ bl ∧ b ≠ bo) => boxed_set (u := .bool true) (boxed_set (u := .int .i64 p.1) (boxed_set (u := v) (z h) d.2.2) d.2.1) d.1
   refine ⟨below_set (below_set (below_set k1 hl.2.2.2.2.2) hl.2.2.2.1) hl.2.2.2.2.1, y ij dj, y jf df, y ig dg, y im dm, Boxed.set _ (boxed_set (boxed_set (z id_) hd.2.2) (Ne.symm hd.1)), boxed_set (Boxed.set _ (boxed_set (z il) hd.2.1)) hd.1, v, boxed_set (boxed_set (Boxed.set _ (z io)) (Ne.symm hd.2.1)) (Ne.symm hd.2.2), ?_⟩
   have h1 := Kd.R_bound hv
   exact Kd.R_far (Kd.R_far (Kd.R_far (Kd.R_lower (Kd.R_mono h1 (fun k_ hk_ => show hi ≤ k_ by have := hk_.2.1; omega)) hW) (fun k_ hk_ e_ => by have e2 : k_ = bo := e_; omega) _) (fun k_ hk_ e_ => by have e2 : k_ = bl := e_; omega) _) (fun k_ hk_ e_ => by have e2 : k_ = bd := e_; omega) _
  ·
   rw [if_neg q, hno q]
   exact ⟨k1, z ij, z jf, z ig, z im, z id_, z il, v0, z io, Kd.R_below ir hb⟩
 ·
  by_cases q : p.2 ≤ a3 ∧ (s.2.2 = false ∨ p.1 < s.2.1)
  ·
   obtain ⟨v, hv, rfl⟩ := hyes q
   exact Kept.setCell (Kept.setCell (Kept.setCell (Kept.of_below hb _) (.inl hl.2.2.1) _) (.inl hl.1) _) (.inl hl.2.1) _
  ·
   rw [hno q]
   exact Kept.of_below hb _
set_option maxHeartbeats 8000000 in
set_option maxRecDepth 100000 in
theorem impl_BestUnder.calls (k : Nat) (A0 : Option Addr) (c0 : Nat) (l0 : List (S62)) (a1 a2 a3 : Int) (r1 : List Int) (r2 : Bool) (w : World) (hr0 : Kd.C k62 w A0 l0.length l0) (hc0 : l0.length ≤ c0) (h : impl_BestUnder.f k l0 a1 a2 a3 = some (r1, r2)) :
  Calls Try.prog 26 #[.slice A0 l0.length c0, .int .i64 a1, .int .i64 a2, .int .i64 a3] w fun e w' => ∃ v0_ : Value, e = .returned (.tuple #[v0_, .bool r2]) ∧ Kd.R (Kd.int .i64) 3 w' w.heap.size (fun _ => True) v0_ r1 ∧ Below w.heap.size w w' := by
 unfold impl_BestUnder.f at h
 obtain ⟨t1, h1, h_⟩ := Option.bind_eq_some_iff.1 h
 clear h
 have HR0 := Aside0.mk hr0
 have HC0 := Aside0.mk hc0
 have H1 := Aside0.mk h1
 have H := Aside0.mk h_
 have HB := Aside0.mk (Below.refl w.heap.size w)
 clear hr0 hc0 h1 h_
 go_enter Try.func26, Try.ntmps26
 go_wp2_with (fail)
 refine (impl_areTwo.calls k _ _ l0 a1 a2 t1 _ (Kd.C_below HR0.out (by repeat (first | exact HB.out | apply below_alloc | apply pw_below_drewN | apply below_drew1))) HC0.out H1.out).mono ?_
 rintro e w6 ⟨rfl, hb⟩
 dsimp only
 have Yj : Aside0 (Boxed w6 (w.heap.size) 34 (.slice A0 l0.length c0)) := ⟨boxed_below (by repeat (first | exact boxed_alloc (by first | rfl | (simp only [alloc_size]; done)) | apply Boxed.alloc)) hb⟩
 have Yf : Aside0 (Boxed w6 (w.heap.size + 1) 3 (.int .i64 a1)) := ⟨boxed_below (by repeat (first | exact boxed_alloc (by first | rfl | (simp only [alloc_size]; done)) | apply Boxed.alloc)) hb⟩
 have Yg : Aside0 (Boxed w6 (w.heap.size + 1 + 1) 3 (.int .i64 a2)) := ⟨boxed_below (by repeat (first | exact boxed_alloc (by first | rfl | (simp only [alloc_size]; done)) | apply Boxed.alloc)) hb⟩
 have Ym : Aside0 (Boxed w6 (w.heap.size + 1 + 1 + 1) 3 (.int .i64 a3)) := ⟨boxed_below (by repeat (first | exact boxed_alloc (by first | rfl | (simp only [alloc_size]; done)) | apply Boxed.alloc)) hb⟩
 have n1_ := Aside0.mk (below_step (by repeat (first | exact HB.out | apply below_alloc | apply pw_below_drewN | apply below_drew1)) hb)
 clear HB hb
 have HB := n1_
 clear n1_
 have hH := H.out
 clear H
 cases t1 with
 | false =>
  obtain ⟨rfl, rfl⟩ : ([] : List Int) = r1 ∧ false = r2 := by simpa using hH
  go_wp2
  go_ret2
  exact ⟨_, rfl, Kd.R_nil _ _ _ _ _, HB.out⟩
 | true =>
  rw [if_pos rfl] at hH
  obtain ⟨s, h4, h_⟩ := Option.bind_eq_some_iff.1 hH
  clear hH
  have H4 := Aside0.mk h4
  have H := Aside0.mk h_
  clear h4 h_
  obtain ⟨W0, hW0⟩ : ∃ W0, W0 = ((w6.alloc (.cells #[.slice none 0 0] 41)).alloc (.cells #[.int .i64 0] 3)).alloc (.cells #[.bool false] 4) := ⟨_, rfl⟩
  have U1 : Boxed W0 w6.heap.size 41 (.slice none 0 0) := by rw [hW0]; exact ((boxed_alloc rfl).alloc _).alloc _
  have U2 : Boxed W0 (w6.heap.size + 1) 3 (.int .i64 0) := by rw [hW0]; exact (boxed_alloc (alloc_size _ _).symm).alloc _
  have U3 : Boxed W0 (w6.heap.size + 1 + 1) 4 (.bool false) := by rw [hW0]; exact boxed_alloc (by simp only [alloc_size])
  have Zj : Boxed W0 (w.heap.size) 34 (.slice A0 l0.length c0) := by rw [hW0]; exact ((Yj.out.alloc _).alloc _).alloc _
  have Zf : Boxed W0 (w.heap.size + 1) 3 (.int .i64 a1) := by rw [hW0]; exact ((Yf.out.alloc _).alloc _).alloc _
  have Zg : Boxed W0 (w.heap.size + 1 + 1) 3 (.int .i64 a2) := by rw [hW0]; exact ((Yg.out.alloc _).alloc _).alloc _
  have Zm : Boxed W0 (w.heap.size + 1 + 1 + 1) 3 (.int .i64 a3) := by rw [hW0]; exact ((Ym.out.alloc _).alloc _).alloc _
  have hb9 : Below w.heap.size w W0 := by rw [hW0]; exact below_alloc (below_alloc (below_alloc HB.out _) _) _
  have HLT : Aside0 (w.heap.size + 1 + 1 + 1 < w6.heap.size ∧ W0.heap.size = w6.heap.size + 1 + 1 + 1) := ⟨Ym.out.lt, by rw [hW0, alloc_size, alloc_size, alloc_size]⟩
  have Z := Aside0.mk (show Below w.heap.size w W0 ∧ Boxed W0 (w.heap.size) 34 (.slice A0 l0.length c0) ∧ Boxed W0 (w.heap.size + 1) 3 (.int .i64 a1) ∧ Boxed W0 (w.heap.size + 1 + 1) 3 (.int .i64 a2) ∧ Boxed W0 (w.heap.size + 1 + 1 + 1) 3 (.int .i64 a3) ∧ Boxed W0 (w6.heap.size + 1 + 1) 4 (.bool false) ∧ Boxed W0 (w6.heap.size + 1) 3 (.int .i64 0) ∧ Boxed W0 w6.heap.size 41 (.slice none 0 0) from ⟨hb9, Zj, Zf, Zg, Zm, U3, U2, U1⟩)
  have HW0 := Aside0.mk hW0
  have cj := Zj.cell
  rw [hW0] at cj
  clear U1 U2 U3 Zj Zf Zg Zm hb9 hW0 Yj Yf Yg Ym
  go_wp2_with (fail)
  rw [← HW0.out]
  refine (impl_eachOrder.calls (impl_BestUnder.step l0 a1 a2 a3) 62 ?eg #[.pointer (some ⟨w.heap.size, 0, none⟩), .pointer (some ⟨w.heap.size + 1, 0, none⟩), .pointer (some ⟨w.heap.size + 1 + 1, 0, none⟩), .pointer (some ⟨w.heap.size + 1 + 1 + 1, 0, none⟩), .pointer (some ⟨w6.heap.size + 1 + 1, 0, none⟩), .pointer (some ⟨w6.heap.size + 1, 0, none⟩), .pointer (some ⟨w6.heap.size, 0, none⟩)] W0 (fun hi_ s_ W_ => impl_BestUnder.inv w l0 A0 c0 a1 a2 a3 (w.heap.size) (w.heap.size + 1) (w.heap.size + 1 + 1) (w.heap.size + 1 + 1 + 1) (w6.heap.size + 1 + 1) (w6.heap.size + 1) w6.heap.size hi_ s_ W_) k _ ([], 0, false) s ?init ?move ?step H4.out).mono ?_
  case eg => intro args w; go_simp
  case init =>
   intro W_ hW_
   have hl := HLT.out
   obtain ⟨z1, z2, z3, z4, z5, z6, z7, z8⟩ := Z.out
   exact ⟨z1.trans (hW_.mono (by omega)), (hW_.block _ (by omega)).trans z2, (hW_.block _ (by omega)).trans z3, (hW_.block _ (by omega)).trans z4, (hW_.block _ (by omega)).trans z5, (hW_.block _ (by omega)).trans z6, (hW_.block _ (by omega)).trans z7, _, (hW_.block _ (by omega)).trans z8, Kd.R_nil _ _ _ _ _⟩
  case move => intro hi_ s_ W_ W2_ hle_ hi2_ hb_ hk_; exact impl_BestUnder.inv_move hi2_ hb_ (by have := HLT.out; omega) (by have := HLT.out; omega) hk_
  case step => intro hi_ k_ s_ s2_ W_ A_ c_ l_ hle_ hW_ hi2_ hC_ hc_ hs_; exact impl_BestUnder.tell hi2_ HR0.out HC0.out (by have := HLT.out; omega) (by have := HLT.out; simp only [List.mem_cons, List.not_mem_nil, or_false]; omega) (by have := HLT.out; omega) hle_ hW_ hC_ hc_ hs_
  rintro e w9 ⟨rfl, hi_, hle_, _, hz⟩
  dsimp only
  obtain ⟨z1, z2, z3, z4, z5, z6, z7, v9, z8, z9⟩ := hz
  obtain ⟨A9, c9, e9⟩ := Kd.R_slice z9
  subst e9
  have cd := z6.cell
  have cf := z8.cell
  have HB9 := Aside0.mk z1
  have HO9 := Aside0.mk (Kd.R_lower (Kd.R_mono z9 (fun _ _ => trivial) (ok' := fun _ => True)) (show w.heap.size ≤ hi_ by have := HLT.out; omega))
  clear z1 z2 z3 z4 z5 z6 z7 z8 z9 Z HLT cj hle_ HW0
  obtain ⟨rfl, rfl⟩ : s.1 = r1 ∧ s.2.2 = r2 := by simpa using H.out
  go_wp2
  go_region
  all_goals
   go_wp2
   go_ret2
   exact ⟨_, rfl, by (with_reducible repeat (first | apply Kd.R_alloc | apply Kd.R_drewN | apply Kd.R_drew)); exact HO9.out, by repeat (first | exact HB9.out | apply below_alloc | apply pw_below_drewN | apply below_drew1)⟩

end Go.Proofs.Ytbblhmpcpmamfaa.XFnExactBestUnder
