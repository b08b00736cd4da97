-- Written by a program of this session (the kit's print, widened). Proved here: what each function answers, for the arguments that its contract names.
import Derived.Test.YtbcfmegepkhlpaaXFnExactLeastRegretx0
import Derived.Test.YtbcfmegepkhlpaaXFnExactLeastRegretx11
import Derived.Test.YtbcfmegepkhlpaaXFnExactLeastRegretx12
import Derived.Test.YtbcfmegepkhlpaaXFnExactLeastRegretx13
import Derived.Test.YtbcfmegepkhlpaaXFnExactLeastRegretx14
namespace Go.Proofs.Ytbcfmegepkhlpaa.XFnExactLeastRegret
open Go.RowKit Go.Proofs.YtbcfmegepkhlpaaW.PrintWords Go.Proofs.YtbcfmegepkhlpaaW.PrintLast Go.Proofs.YtbcfmegepkhlpaaW.PrintMore
attribute [local go_sem] max2_int min2_int max_two min_two max_three min_three max_four min_four   -- for this text's walks alone
attribute [local go_sem] idxA_72_0 idxA_72_1 fldS_96_0 fldS_96_1 fldS_96_2 fldS_111_0 fldS_111_1 fldS_111_2
set_option linter.unusedVariables false
set_option linter.unusedSimpArgs false

/-! ### impl_leastGreatest: function 74, by hand -/
/-! ### impl_leastGreatest, by hand -/
theorem lg_row {w : World} {A : Option Addr} {n : Nat} {xs : List (List S76)} (h : Kd.C (Kd.slice 76 k76) w A n xs) (h1 : 0 < n) : ∃ ad A0 c0, A = some ad ∧ w.cell? ad = some (.slice A0 (xs.getD 0 []).length c0) := by
 obtain ⟨ad, c, e, _, hK, hc0⟩ := Kd.C_get h ([] : List S76) 0 (by omega) (by omega)
 have hc : ∀ j u, c[j]? = some u → w.cell? (ad.add ((0 : Int).toNat * 1 + j)) = some u := hc0
 obtain ⟨A0, c0, rfl, l0, g0⟩ := hK
 exact ⟨ad, A0, c0, e, by have h2 := hc 0 _ rfl; rwa [show ad.add ((0 : Int).toNat * 1 + 0) = ad from by cases ad; rfl] at h2⟩
/-- What holds behind 'copyInts' inside the function value. -/
theorem impl_leastGreatest1.copied (w3 : World) (bd bl bo : Nat) (A : Option Addr) (c : Nat) (l : List Int) (least : Int) (found : Bool) (vo : Value) (p1 : Int) (W w3' : World) (hd : Below w3.heap.size w3 w3') (hc : l.length ≤ c) (hne : bl ≠ bd ∧ bl ≠ bo ∧ bd ≠ bo) (hr : Kd.C (Kd.int .i64) W A l.length l)
  (xd : Boxed W bd 4 (.bool found)) (xl : Boxed W bl 3 (.int .i64 least)) (xo : Boxed W bo 43 vo) (hB : Below W.heap.size W w3) (hcp : impl_copyInts.f l = some l) :
  Calls Try.prog 130 #[.slice A l.length c] w3' fun e w4 => ∃ A3 c3, e = .returned (.slice A3 l.length c3) ∧ Aside0 (Kd.R (Kd.int .i64) 3 w4 W.heap.size (fun _ => True) (.slice A3 l.length c3) l) ∧ Aside0 (Below W.heap.size W w4) ∧ w4.cell? ⟨bo, 0, none⟩ = some vo ∧ w4.frozen? ⟨bo, 0, none⟩ = false ∧ (w4.setCell ⟨bo, 0, none⟩ (.slice A3 l.length c3)).cell? ⟨bl, 0, none⟩ = some (.int .i64 least) ∧ (w4.setCell ⟨bo, 0, none⟩ (.slice A3 l.length c3)).frozen? ⟨bl, 0, none⟩ = false ∧ ((w4.setCell ⟨bo, 0, none⟩ (.slice A3 l.length c3)).setCell ⟨bl, 0, none⟩ (.int .i64 p1)).cell? ⟨bd, 0, none⟩ = some (.bool found) ∧ ((w4.setCell ⟨bo, 0, none⟩ (.slice A3 l.length c3)).setCell ⟨bl, 0, none⟩ (.int .i64 p1)).frozen? ⟨bd, 0, none⟩ = false := by
 have hBd := below_step hB hd
 refine (impl_copyInts.calls _ _ l l _ (Kd.C_below hr hBd) hc hcp).mono ?_
 rintro e w4 ⟨v3, rfl, ho3, hb4⟩
 obtain ⟨A3, c3, e3⟩ := Kd.R_slice ho3
 subst e3
 have hB4 := below_step hB (below_step hd hb4)
 have zl := boxed_below xl hB4
 have zd := boxed_below xd hB4
 have zo := boxed_below xo hB4
 exact ⟨A3, c3, rfl, ⟨Kd.R_lower ho3 (below_size hBd)⟩, ⟨hB4⟩, zo.cell, zo.frozen, (boxed_set zl hne.2.1).cell, (boxed_set zl hne.2.1).frozen, (boxed_set (boxed_set zd hne.2.2) (Ne.symm hne.1)).cell, (boxed_set (boxed_set zd hne.2.2) (Ne.symm hne.1)).frozen⟩
theorem impl_leastGreatest1.values (k : Nat) (bj bm bb : Nat) (A0 : Option Addr) (c0 : Nat) (l0 : List (List S76)) (A : Option Addr) (c : Nat) (l : List Int) (a2 : Int) (vs : List Int) (vj vb : Value) (W w3' : World) (hd : Below W.heap.size W w3') (hc0 : l0.length ≤ c0) (hc : l.length ≤ c)
  (hr0 : Kd.C (Kd.slice 76 k76) W A0 l0.length l0) (hr : Kd.C (Kd.int .i64) W A l.length l) (xj : Boxed W bj 46 vj) (xm : Boxed W bm 3 (.int .i64 a2)) (xb : Boxed W bb 43 vb) (h : impl_scenarioValues.f k l0 l a2 = some vs) :
  Calls Try.prog 129 #[.slice A0 l0.length c0, .slice A l.length c, .int .i64 a2] w3' fun e w4 => ∃ Av cv, e = .returned (.slice Av vs.length cv) ∧ Aside0 (Kd.C (Kd.int .i64) w4 Av vs.length vs) ∧ Aside0 (vs.length ≤ cv) ∧ Aside0 (Below W.heap.size W w4) ∧ w4.cell? ⟨bj, 0, none⟩ = some vj ∧ w4.cell? ⟨bm, 0, none⟩ = some (.int .i64 a2) ∧ w4.cell? ⟨bb, 0, none⟩ = some vb := by
 refine (impl_scenarioValues.calls k _ _ l0 _ _ l a2 vs _ (Kd.C_below hr0 hd) hc0 (Kd.C_below hr hd) hc h).mono ?_
 rintro e w4 ⟨v3, rfl, ho3, hb4⟩
 obtain ⟨A3, c3, e3⟩ := Kd.R_slice ho3
 subst e3
 have hB4 := below_step hd hb4
 exact ⟨A3, c3, rfl, ⟨(Kd.R_reads' ho3).2.2⟩, ⟨(Kd.R_reads' ho3).2.1⟩, ⟨hB4⟩, (boxed_below xj hB4).cell, (boxed_below xm hB4).cell, (boxed_below xb hB4).cell⟩
theorem impl_leastGreatest1.great (k : Nat) (bj bm bb bd bl bo : Nat) (Av : Option Addr) (cv : Nat) (A1 : Option Addr) (c1 : Nat) (l1 : List Int) (a2 : Int) (vs : List Int) (vj vb vo : Value) (least : Int) (found : Bool) (p1 p2 : Int) (W w4 w4' : World) (hB : Below W.heap.size W w4) (hd : Below w4.heap.size w4 w4') (hcv : vs.length ≤ cv) (hc1 : l1.length ≤ c1)
  (hv : Kd.C (Kd.int .i64) w4 Av vs.length vs) (hr1 : Kd.C (Kd.int .i64) W A1 l1.length l1) (xj : Boxed W bj 46 vj) (xm : Boxed W bm 3 (.int .i64 a2)) (xb : Boxed W bb 43 vb) (xd : Boxed W bd 4 (.bool found)) (xl : Boxed W bl 3 (.int .i64 least)) (h : impl_greatest.f k vs l1 = some (p1, p2)) :
  Calls Try.prog 128 #[.slice Av vs.length cv, .slice A1 l1.length c1] w4' fun e w5 => e = .returned (.tuple #[.int .i64 p1, .int .i64 p2]) ∧ Aside0 (Below W.heap.size W w5) ∧ w5.cell? ⟨bj, 0, none⟩ = some vj ∧ w5.cell? ⟨bm, 0, none⟩ = some (.int .i64 a2) ∧ w5.cell? ⟨bb, 0, none⟩ = some vb ∧ w5.cell? ⟨bd, 0, none⟩ = some (.bool found) ∧ w5.cell? ⟨bl, 0, none⟩ = some (.int .i64 least) := by
 refine (impl_greatest.calls k _ _ vs _ _ l1 p1 p2 _ (Kd.C_below hv hd) hcv (Kd.C_below hr1 (below_step hB hd)) hc1 h).mono ?_
 rintro e w5 ⟨rfl, hd5⟩
 have hb5 : Below w4'.heap.size w4' w5 := by obtain ⟨n_, rfl⟩ := hd5; exact pw_below_drewN (Below.refl _ _) n_
 have hB5 := below_step hB (below_step hd hb5)
 exact ⟨rfl, ⟨hB5⟩, (boxed_below xj hB5).cell, (boxed_below xm hB5).cell, (boxed_below xb hB5).cell, (boxed_below xd hB5).cell, (boxed_below xl hB5).cell⟩
set_option maxHeartbeats 8000000 in
set_option maxRecDepth 100000 in
theorem impl_leastGreatest1.calls (k : Nat) (bj bm bb bd bl bo : Nat) (A0 : Option Addr) (c0 : Nat) (l0 : List (List S76)) (A1 : Option Addr) (c1 : Nat) (l1 : List Int) (a2 : Int) (A : Option Addr) (c : Nat) (l : List Int) (least : Int) (found : Bool) (vo : Value) (vs : List Int) (p1 p2 : Int) (W : World) (hc0 : l0.length ≤ c0) (hc1 : l1.length ≤ c1) (hc : l.length ≤ c) (hne : bl ≠ bd ∧ bl ≠ bo ∧ bd ≠ bo)
  (hr0 : Kd.C (Kd.slice 76 k76) W A0 l0.length l0) (hr1 : Kd.C (Kd.int .i64) W A1 l1.length l1) (hr : Kd.C (Kd.int .i64) W A l.length l)
  (xj : Boxed W bj 46 (.slice A0 l0.length c0)) (xm : Boxed W bm 3 (.int .i64 a2)) (xb : Boxed W bb 43 (.slice A1 l1.length c1)) (xd : Boxed W bd 4 (.bool found)) (xl : Boxed W bl 3 (.int .i64 least)) (xo : Boxed W bo 43 vo)
  (h : impl_scenarioValues.f k l0 l a2 = some vs) (hg : impl_greatest.f k vs l1 = some (p1, p2)) (hcp : impl_copyInts.f l = some l) :
  Calls Try.prog 127 #[.slice A l.length c, .pointer (some ⟨bj, 0, none⟩), .pointer (some ⟨bm, 0, none⟩), .pointer (some ⟨bb, 0, none⟩), .pointer (some ⟨bd, 0, none⟩), .pointer (some ⟨bl, 0, none⟩), .pointer (some ⟨bo, 0, none⟩)] W fun e W' => e = .returned (.tuple #[]) ∧ ∃ W1, Below W.heap.size W W1 ∧ (¬ (found = false ∨ p1 < least) → W' = W1) ∧ ((found = false ∨ p1 < least) → ∃ v, Kd.R (Kd.int .i64) 3 W1 W.heap.size (fun _ => True) v l ∧ W' = ((W1.setCell ⟨bo, 0, none⟩ v).setCell ⟨bl, 0, none⟩ (.int .i64 p1)).setCell ⟨bd, 0, none⟩ (.bool true)) := by
 have HR0 := Aside0.mk hr0
 have HR1 := Aside0.mk hr1
 have HR := Aside0.mk hr
 have H := Aside0.mk h
 have HG := Aside0.mk hg
 have HCP := Aside0.mk hcp
 have HN := Aside0.mk hne
 have XJ := xj.cell
 have XM := xm.cell
 have XB := xb.cell
 have BJ := Aside0.mk xj
 have BM := Aside0.mk xm
 have BB := Aside0.mk xb
 have BD := Aside0.mk xd
 have BL := Aside0.mk xl
 have BO := Aside0.mk xo
 clear hr0 hr1 hr h hg hcp xj xm xb xd xl xo hne
 go_enter Try.func127, Try.ntmps127
 go_wp2_with (fail)
 go_region_held3 (fun w' => w'.cell? ⟨bj, 0, none⟩ = some (.slice A0 l0.length c0) ∧ w'.cell? ⟨bm, 0, none⟩ = some (.int .i64 a2) ∧ w'.cell? ⟨bb, 0, none⟩ = some (.slice A1 l1.length c1)) (first | go_keep | exact ⟨n1_, n2_, n3_⟩ | exact ⟨n4_, n5_, n6_⟩) (first | (go_at_call 129; refine (impl_leastGreatest1.values k bj bm bb A0 c0 l0 A c l a2 vs _ _ W _ ?hd hc0 hc HR0.out HR.out BJ.out BM.out BB.out H.out).mono ?_; (case hd => repeat (first | exact Below.refl _ _ | apply below_drew1 | apply pw_below_drewN)); rintro e w4 ⟨Av, cv, rfl, HV, HCV, HB4, n1_, n2_, n3_⟩) | (go_at_call 128; refine (impl_leastGreatest1.great k bj bm bb bd bl bo Av cv A1 c1 l1 a2 vs _ _ vo least found p1 p2 W w4 _ HB4.out ?hd HCV.out hc1 HV.out HR1.out BJ.out BM.out BB.out BD.out BL.out HG.out).mono ?_; (case hd => repeat (first | exact Below.refl _ _ | apply below_drew1 | apply pw_below_drewN)); rintro e w5 ⟨rfl, HB5, n4_, n5_, n6_, CD, CL⟩))
 all_goals
  clear n1_ n2_ n3_ n4_ n5_ n6_ XJ XM XB HV HCV HB4 H HG
  by_cases hu : found = false ∨ p1 < least
  ·
   have hs1 : found = false ∨ found = true ∧ decide (p1 < least) = true := by
    cases found with
    | false => exact .inl rfl
    | true => exact .inr ⟨rfl, decide_eq_true (hu.resolve_left (by simp))⟩
   have HU := Aside0.mk hu
   clear hu
   rcases hs1 with q1 | ⟨q1, q2⟩
   all_goals
    subst q1
    go_wp2_with (fail)
    refine (impl_leastGreatest1.copied w5 bd bl bo A c l least _ vo p1 W _ ?hd hc HN.out HR.out BD.out BL.out BO.out HB5.out HCP.out).mono ?_
    case hd => repeat (first | exact Below.refl _ _ | apply below_drew1 | apply pw_below_drewN)
    rintro e w4 ⟨A3, c3, rfl, HO3, HB4, n1_, n2_, n3_, n4_, n5_, n6_⟩
    dsimp only
    go_wp2
    refine bodyPost_end (results_none rfl _ _ _) rfl ?_
    first | exact ⟨rfl, w4, HB4.out, fun hn => absurd HU.out hn, fun _ => ⟨_, HO3.out, rfl⟩⟩ | exact ⟨rfl, w4, HB4.out, _, HO3.out, rfl⟩ | (simp; exact ⟨w4, HB4.out, by first | exact ⟨_, HO3.out, rfl⟩ | exact ⟨fun hn => by omega, fun _ => ⟨_, HO3.out, rfl⟩⟩⟩)
  ·
   have q1 : found = true := by
    cases found with
    | false => exact absurd (.inl rfl) hu
    | true => rfl
   have q2 : decide (p1 < least) = false := decide_eq_false (fun z => hu (.inr z))
   have HU := Aside0.mk hu
   clear hu
   subst q1
   go_wp2
   refine bodyPost_end (results_none rfl _ _ _) rfl ?_
   exact ⟨rfl, w5, HB5.out, fun _ => rfl, fun hn => absurd hn HU.out⟩
def impl_leastGreatest.step (l0 : List (List S76)) (l1 : List Int) (a2 : Int) (k : Nat) (l : List Int) (s : List Int × Int × Bool) : Option (List Int × Int × Bool) := if impl_copyInts.f l = some l then (impl_scenarioValues.f k l0 l a2).bind fun vs => (impl_greatest.f k vs l1).bind fun p => some (if s.2.2 = false ∨ p.1 < s.2.1 then (l, p.1, true) else s) else none
def impl_leastGreatest.f (k : Nat) (l0 : List (List S76)) (l1 : List Int) (a2 : Int) : Option (List Int × Int) := if 0 < l0.length then (impl_eachOrder.f (impl_leastGreatest.step l0 l1 a2) k ((l0.getD 0 []).length : Int) ([], 0, false)).bind fun s => some (s.1, s.2.1) else none
theorem impl_leastGreatest.mono : ∀ a0 a1 a2 k, LeO (impl_leastGreatest.f k a0 a1 a2) (impl_leastGreatest.f (k + 1) a0 a1 a2) := by
 intro a0 a1 a2 k r h
 unfold impl_leastGreatest.f at h ⊢
 split at h
 ·
  rename_i c1
  rw [if_pos c1]
  obtain ⟨s, h4, h⟩ := Option.bind_eq_some_iff.1 h
  rw [impl_eachOrder.mono _ (fun k l s r h => by
   unfold impl_leastGreatest.step at h ⊢
   split at h
   ·
    rename_i c2
    rw [if_pos c2]
    obtain ⟨p, h5, h⟩ := Option.bind_eq_some_iff.1 h
    obtain ⟨q, h6, h⟩ := Option.bind_eq_some_iff.1 h
    rw [impl_scenarioValues.mono _ _ _ _ _ h5, Option.bind_some, impl_greatest.mono _ _ _ _ h6, Option.bind_some]
    exact h
   ·
    cases h) _ _ _ _ h4, Option.bind_some]
  exact h
 ·
  cases h
def impl_leastGreatest.inv (w : World) (l0 : List (List S76)) (A0 : Option Addr) (c0 : Nat) (l1 : List Int) (A1 : Option Addr) (c1 : Nat) (a2 : Int) (bj bm bb bd bl bo : Nat) (hi : Nat) (s : List Int × Int × Bool) (W : World) : Prop := Below w.heap.size w W ∧ Boxed W bj 46 (.slice A0 l0.length c0) ∧ Boxed W bm 3 (.int .i64 a2) ∧ Boxed W bb 43 (.slice A1 l1.length c1) ∧ Boxed W bd 4 (.bool s.2.2) ∧ Boxed W bl 3 (.int .i64 s.2.1) ∧ ∃ v, Boxed W bo 43 v ∧ Kd.R (Kd.int .i64) 3 W hi (fun k_ => hi ≤ k_) v s.1
theorem impl_leastGreatest.inv_move {w : World} {l0 : List (List S76)} {A0 : Option Addr} {c0 : Nat} {l1 : List Int} {A1 : Option Addr} {c1 : Nat} {a2 : Int} {bj bm bb bd bl bo hi : Nat} {s : List Int × Int × Bool} {W W' : World} {B : Nat} (h : impl_leastGreatest.inv w l0 A0 c0 l1 A1 c1 a2 bj bm bb bd bl bo hi s W) (hB : Below B W W') (hw : w.heap.size ≤ B) (hj : bj < B ∧ bm < B ∧ bb < B ∧ bd < B ∧ bl < B ∧ bo < B) (hk : Kept W W' (fun k_ => B ≤ k_ ∧ k_ < hi)) : impl_leastGreatest.inv w l0 A0 c0 l1 A1 c1 a2 bj bm bb bd bl bo hi s W' := by
 obtain ⟨h1, h2, h3, h4, h6, h7, v, h8, h9⟩ := h
 exact ⟨h1.trans (hB.mono hw), (hB.block _ hj.1).trans h2, (hB.block _ hj.2.1).trans h3, (hB.block _ hj.2.2.1).trans h4, (hB.block _ hj.2.2.2.1).trans h6, (hB.block _ hj.2.2.2.2.1).trans h7, v, (hB.block _ hj.2.2.2.2.2).trans h8, Kd.R_kept h9 hk (fun k_ a b => by omega)⟩
theorem impl_leastGreatest.tell {w : World} {l0 : List (List S76)} {A0 : Option Addr} {c0 : Nat} {l1 : List Int} {A1 : Option Addr} {c1 : Nat} {a2 : Int} {bj bm bb bd bl bo hi : Nat} {s s' : List Int × Int × Bool} {W : World} {B k : Nat} {A : Option Addr} {c : Nat} {l : List Int} (h : impl_leastGreatest.inv w l0 A0 c0 l1 A1 c1 a2 bj bm bb bd bl bo hi s W) (hr0 : Kd.C (Kd.slice 76 k76) w A0 l0.length l0) (hc0 : l0.length ≤ c0) (hr1 : Kd.C (Kd.int .i64) w A1 l1.length l1) (hc1 : l1.length ≤ c1) (hd : bl ≠ bd ∧ bl ≠ bo ∧ bd ≠ bo) (hd2 : ∀ b ∈ [bj, bm, bb], b ≠ bd ∧ b ≠ bl ∧ b ≠ bo) (hl : bl < B ∧ bd < B ∧ bo < B ∧ w.heap.size ≤ bl ∧ w.heap.size ≤ bd ∧ w.heap.size ≤ bo) (hB : B ≤ hi) (hW : hi ≤ W.heap.size)
  (hr : Kd.C (Kd.int .i64) W A l.length l) (hc : l.length ≤ c) (hs : impl_leastGreatest.step l0 l1 a2 k l s = some s') :
  Calls Try.prog 127 #[.slice A l.length c, .pointer (some ⟨bj, 0, none⟩), .pointer (some ⟨bm, 0, none⟩), .pointer (some ⟨bb, 0, none⟩), .pointer (some ⟨bd, 0, none⟩), .pointer (some ⟨bl, 0, none⟩), .pointer (some ⟨bo, 0, none⟩)] W fun e W' => e = .returned (.tuple #[]) ∧ impl_leastGreatest.inv w l0 A0 c0 l1 A1 c1 a2 bj bm bb bd bl bo hi s' W' ∧ Kept W W' (fun k_ => k_ < B) := by
 unfold impl_leastGreatest.step at hs
 split at hs
 case isFalse => cases hs
 case isTrue hcp =>
 obtain ⟨vs, hv, hs⟩ := Option.bind_eq_some_iff.1 hs
 obtain ⟨p, hp, hs⟩ := Option.bind_eq_some_iff.1 hs
 obtain rfl := Option.some.inj hs
 obtain ⟨i0, ij, im, ib, id_, il, v0, io, ir⟩ := h
 refine (impl_leastGreatest1.calls k bj bm bb bd bl bo A0 c0 l0 A1 c1 l1 a2 A c l s.2.1 s.2.2 v0 vs p.1 p.2 W hc0 hc1 hc hd (Kd.C_below hr0 i0) (Kd.C_below hr1 i0) hr ij im ib id_ il io hv hp hcp).mono ?_
 rintro e W' ⟨rfl, W1, hb, hno, hyes⟩
 have z := fun {b : Nat} {t : TypeId} {v : Value} (h : Boxed W b t v) => boxed_below h hb
 have k1 : Below w.heap.size w W1 := below_step i0 hb
 have dj := hd2 bj (by simp)
 have dm := hd2 bm (by simp)
 have db := hd2 bb (by simp)
 refine ⟨rfl, ?_, ?_⟩
 ·
  by_cases q : s.2.2 = false ∨ p.1 < s.2.1
  ·
   rw [if_pos q]
   obtain ⟨v, hv, rfl⟩ := hyes q
   have y := fun {b : Nat} {t : TypeId} {u : Value} (h : Boxed W b t u) (d : b ≠ bd ∧ b ≠ bl ∧ b ≠ bo) => boxed_set (u := .bool true) (boxed_set (u := .int .i64 p.1) (boxed_set (u := v) (z h) d.2.2) d.2.1) d.1
   refine ⟨below_set (below_set (below_set k1 hl.2.2.2.2.2) hl.2.2.2.1) hl.2.2.2.2.1, y ij dj, y im dm, y ib db, Boxed.set _ (boxed_set (boxed_set (z id_) hd.2.2) (Ne.symm hd.1)), boxed_set (Boxed.set _ (boxed_set (z il) hd.2.1)) hd.1, v, boxed_set (boxed_set (Boxed.set _ (z io)) (Ne.symm hd.2.1)) (Ne.symm hd.2.2), ?_⟩
   have h1 := Kd.R_bound hv
   exact Kd.R_far (Kd.R_far (Kd.R_far (Kd.R_lower (Kd.R_mono h1 (fun k_ hk_ => show hi ≤ k_ by have := hk_.2.1; omega)) hW) (fun k_ hk_ e_ => by have e2 : k_ = bo := e_; omega) _) (fun k_ hk_ e_ => by have e2 : k_ = bl := e_; omega) _) (fun k_ hk_ e_ => by have e2 : k_ = bd := e_; omega) _
  ·
   rw [if_neg q, hno q]
   exact ⟨k1, z ij, z im, z ib, z id_, z il, v0, z io, Kd.R_below ir hb⟩
 ·
  by_cases q : s.2.2 = false ∨ p.1 < s.2.1
  ·
   obtain ⟨v, hv, rfl⟩ := hyes q
   exact Kept.setCell (Kept.setCell (Kept.setCell (Kept.of_below hb _) (.inl hl.2.2.1) _) (.inl hl.1) _) (.inl hl.2.1) _
  ·
   rw [hno q]
   exact Kept.of_below hb _
set_option maxHeartbeats 8000000 in
set_option maxRecDepth 100000 in
theorem impl_leastGreatest.calls (k : Nat) (A0 : Option Addr) (c0 : Nat) (l0 : List (List S76)) (A1 : Option Addr) (c1 : Nat) (l1 : List Int) (a2 : Int) (r1 : List Int) (r2 : Int) (w : World) (hr0 : Kd.C (Kd.slice 76 k76) w A0 l0.length l0) (hc0 : l0.length ≤ c0) (hr1 : Kd.C (Kd.int .i64) w A1 l1.length l1) (hc1 : l1.length ≤ c1) (h : impl_leastGreatest.f k l0 l1 a2 = some (r1, r2)) :
  Calls Try.prog 74 #[.slice A0 l0.length c0, .slice A1 l1.length c1, .int .i64 a2] w fun e w' => ∃ v0_ : Value, e = .returned (.tuple #[v0_, .int .i64 r2]) ∧ Kd.R (Kd.int .i64) 3 w' w.heap.size (fun _ => True) v0_ r1 ∧ Below w.heap.size w w' := by
 unfold impl_leastGreatest.f at h
 split at h
 case isFalse => cases h
 case isTrue hpos =>
 obtain ⟨s, h4, h_⟩ := Option.bind_eq_some_iff.1 h
 clear h
 obtain ⟨ad, Ar, cr, rfl, hrow⟩ := lg_row hr0 hpos
 obtain ⟨row, hrw⟩ : ∃ r_, r_ = l0.getD 0 [] := ⟨_, rfl⟩
 rw [← hrw] at hrow h4
 have HR0 := Aside0.mk hr0
 have HC0 := Aside0.mk hc0
 have HR1 := Aside0.mk hr1
 have HC1 := Aside0.mk hc1
 have H4 := Aside0.mk h4
 have H := Aside0.mk h_
 have HB := Aside0.mk (Below.refl w.heap.size w)
 have HROW := Aside0.mk hrow
 have hp0 : decide (0 < l0.length) = true := decide_eq_true hpos
 have hp1 : decide (0 < (l0.length : Int)) = true := decide_eq_true (by omega)
 have hp2 := eq_true hpos
 have hp3 := eq_true (show 0 < (l0.length : Int) by omega)
 clear hr0 hc0 hr1 hc1 h4 h_ hpos hrow hrw
 obtain ⟨W0, hW0⟩ : ∃ W0, W0 = (((((w.alloc (.cells #[.slice (some ad) l0.length c0] 46)).alloc (.cells #[.slice A1 l1.length c1] 43)).alloc (.cells #[.int .i64 a2] 3)).alloc (.cells #[.slice none 0 0] 43)).alloc (.cells #[.int .i64 0] 3)).alloc (.cells #[.bool false] 4) := ⟨_, rfl⟩
 have Yj : Boxed W0 (w.heap.size) 46 (.slice (some ad) l0.length c0) := by rw [hW0]; exact (((((boxed_alloc rfl).alloc _).alloc _).alloc _).alloc _).alloc _
 have Yb : Boxed W0 (w.heap.size + 1) 43 (.slice A1 l1.length c1) := by rw [hW0]; exact ((((boxed_alloc (by simp only [alloc_size])).alloc _).alloc _).alloc _).alloc _
 have Ym : Boxed W0 (w.heap.size + 1 + 1) 3 (.int .i64 a2) := by rw [hW0]; exact (((boxed_alloc (by simp only [alloc_size])).alloc _).alloc _).alloc _
 have U1 : Boxed W0 (w.heap.size + 1 + 1 + 1) 43 (.slice none 0 0) := by rw [hW0]; exact ((boxed_alloc (by simp only [alloc_size])).alloc _).alloc _
 have U2 : Boxed W0 (w.heap.size + 1 + 1 + 1 + 1) 3 (.int .i64 0) := by rw [hW0]; exact (boxed_alloc (by simp only [alloc_size])).alloc _
 have U3 : Boxed W0 (w.heap.size + 1 + 1 + 1 + 1 + 1) 4 (.bool false) := by rw [hW0]; exact boxed_alloc (by simp only [alloc_size])
 have hb9 : Below w.heap.size w W0 := by rw [hW0]; exact below_alloc (below_alloc (below_alloc (below_alloc (below_alloc (below_alloc HB.out _) _) _) _) _) _
 have HLT : Aside0 (W0.heap.size = w.heap.size + 1 + 1 + 1 + 1 + 1 + 1) := ⟨by rw [hW0]; simp only [alloc_size]⟩
 have cj := Yj.cell
 have cr_ : W0.cell? ad = some (.slice Ar row.length cr) := (hb9.cell (World.block_lt_of_cell? w _ HROW.out)).trans HROW.out
 have Z := Aside0.mk (show Below w.heap.size w W0 ∧ Boxed W0 (w.heap.size) 46 (.slice (some ad) l0.length c0) ∧ Boxed W0 (w.heap.size + 1 + 1) 3 (.int .i64 a2) ∧ Boxed W0 (w.heap.size + 1) 43 (.slice A1 l1.length c1) ∧ Boxed W0 (w.heap.size + 1 + 1 + 1 + 1 + 1) 4 (.bool false) ∧ Boxed W0 (w.heap.size + 1 + 1 + 1 + 1) 3 (.int .i64 0) ∧ Boxed W0 (w.heap.size + 1 + 1 + 1) 43 (.slice none 0 0) from ⟨hb9, Yj, Ym, Yb, U3, U2, U1⟩)
 have HW0 := Aside0.mk hW0
 rw [hW0] at cj cr_
 clear U1 U2 U3 Yj Yb Ym hb9 hW0
 go_enter Try.func74, Try.ntmps74
 go_wp2_with (fail)
 rw [← HW0.out]
 refine (impl_eachOrder.calls (impl_leastGreatest.step l0 l1 a2) 127 ?eg #[.pointer (some ⟨w.heap.size, 0, none⟩), .pointer (some ⟨w.heap.size + 1 + 1, 0, none⟩), .pointer (some ⟨w.heap.size + 1, 0, none⟩), .pointer (some ⟨w.heap.size + 1 + 1 + 1 + 1 + 1, 0, none⟩), .pointer (some ⟨w.heap.size + 1 + 1 + 1 + 1, 0, none⟩), .pointer (some ⟨w.heap.size + 1 + 1 + 1, 0, none⟩)] W0 (fun hi_ s_ W_ => impl_leastGreatest.inv w l0 (some ad) c0 l1 A1 c1 a2 (w.heap.size) (w.heap.size + 1 + 1) (w.heap.size + 1) (w.heap.size + 1 + 1 + 1 + 1 + 1) (w.heap.size + 1 + 1 + 1 + 1) (w.heap.size + 1 + 1 + 1) hi_ s_ W_) k _ ([], 0, false) s ?init ?move ?step H4.out).mono ?_
 case eg => intro args w; go_simp
 case init =>
  intro W_ hW_
  have hl := HLT.out
  obtain ⟨z1, z2, z3, z4, z6, z7, z8⟩ := Z.out
  exact ⟨z1.trans (hW_.mono (by omega)), (hW_.block _ (by omega)).trans z2, (hW_.block _ (by omega)).trans z3, (hW_.block _ (by omega)).trans z4, (hW_.block _ (by omega)).trans z6, (hW_.block _ (by omega)).trans z7, _, (hW_.block _ (by omega)).trans z8, Kd.R_nil _ _ _ _ _⟩
 case move => intro hi_ s_ W_ W2_ hle_ hi2_ hb_ hk_; exact impl_leastGreatest.inv_move hi2_ hb_ (by have := HLT.out; omega) (by have := HLT.out; omega) hk_
 case step => intro hi_ k_ s_ s2_ W_ A_ c_ l_ hle_ hW_ hi2_ hC_ hc_ hs_; exact impl_leastGreatest.tell hi2_ HR0.out HC0.out HR1.out HC1.out (by have := HLT.out; omega) (by have := HLT.out; simp only [List.mem_cons, List.not_mem_nil, or_false]; omega) (by have := HLT.out; omega) hle_ hW_ hC_ hc_ hs_
 rintro e w9 ⟨rfl, hi_, hle_, _, hz⟩
 dsimp only
 obtain ⟨z1, z2, z3, z4, z6, z7, v9, z8, z9⟩ := hz
 obtain ⟨A9, c9, e9⟩ := Kd.R_slice z9
 subst e9
 have cd := z7.cell
 have cf := z8.cell
 have HB9 := Aside0.mk z1
 have HO9 := Aside0.mk (Kd.R_lower (Kd.R_mono z9 (fun _ _ => trivial) (ok' := fun _ => True)) (show w.heap.size ≤ hi_ by have := HLT.out; omega))
 clear z1 z2 z3 z4 z6 z7 z8 z9 Z HLT cj hle_ HW0 cr_
 obtain ⟨rfl, rfl⟩ : s.1 = r1 ∧ s.2.1 = r2 := by simpa using H.out
 go_wp2
 go_region
 all_goals
  go_wp2
  go_ret2
  exact ⟨_, rfl, by (with_reducible repeat (first | apply Kd.R_alloc | apply Kd.R_drewN | apply Kd.R_drew)); exact HO9.out, by repeat (first | exact HB9.out | apply below_alloc | apply pw_below_drewN | apply below_drew1)⟩

end Go.Proofs.Ytbcfmegepkhlpaa.XFnExactLeastRegret
