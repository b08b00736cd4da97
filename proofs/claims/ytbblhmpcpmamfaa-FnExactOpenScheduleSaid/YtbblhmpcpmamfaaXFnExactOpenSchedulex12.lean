-- Written by a program of this session (the kit's print, widened). Proved here: what each function answers, for the arguments that its contract names.
import Derived.Test.YtbblhmpcpmamfaaXFnExactOpenSchedulex0
import Derived.Test.YtbblhmpcpmamfaaXFnExactOpenSchedulex1
import Derived.Test.YtbblhmpcpmamfaaXFnExactOpenSchedulex6
import Derived.Test.YtbblhmpcpmamfaaXFnExactOpenSchedulex8
import Derived.Test.YtbblhmpcpmamfaaXFnExactOpenSchedulex9
import Derived.Test.YtbblhmpcpmamfaaXFnExactOpenSchedulex10
import Derived.Test.YtbblhmpcpmamfaaXFnExactOpenSchedulex11
namespace Go.Proofs.Ytbblhmpcpmamfaa.XFnExactOpenSchedule
open Go.RowKit Go.Proofs.YtbblhmpcpmamfaaW.PrintWords Go.Proofs.YtbblhmpcpmamfaaW.PrintLast Go.Proofs.YtbblhmpcpmamfaaW.PrintMore
attribute [local go_sem] max2_int min2_int max_two min_two max_three min_three max_four min_four   -- for this text's walks alone
attribute [local go_sem] idxA_77_0 idxA_77_1 fldS_68_0 fldS_68_1 fldS_73_0 fldS_73_1 fldS_73_2
set_option linter.unusedVariables false
set_option linter.unusedSimpArgs false

/-! ### laws_FnExactOpenSchedule: function 3, by hand -/
/-- What the law needs: each call's answer. -/
def FnExactOpenSchedule_rest (k : Nat) (l0 : List (List Int)) : Prop := ∃ (r : List (List Int)) (b : Bool) (m0 : Int) (y0 : List (List Int)) (mr : Int) (z : List (List Int)), laws_toIntSS.f k l0 = some l0 ∧ spec_OpenSchedule.f k l0 = some (r, b) ∧ impl_OpenSchedule.f k l0 = some (r, b) ∧ laws_eqIntSS.f k r r = some true ∧ laws_eqIntSS.f k l0 l0 = some true ∧ laws_markIntSS.f k l0 1 = some (m0, y0) ∧ ¬ m0 < 0 ∧ laws_markIntSS.f k r 1 = some (mr, z) ∧ laws_heldIntSS.f k z 1 = some mr ∧ ¬ mr < 0
def FnExactOpenSchedule_ok (k : Nat) (l0 : List (List Int)) : Prop := ∃ n0, laws_szIntSS.f k l0 1048576 = some n0 ∧ (n0 < 0 ∨ ¬ n0 < 0 ∧ FnExactOpenSchedule_rest k l0)
open Classical in
noncomputable def laws_FnExactOpenSchedule.f (k : Nat) (l0 : List (List Int)) : Option Bool := if FnExactOpenSchedule_ok k l0 then some true else none
set_option maxHeartbeats 16000000 in
set_option maxRecDepth 100000 in
theorem laws_FnExactOpenSchedule.calls (k : Nat) (A0 : Option Addr) (c0 : Nat) (l0 : List (List Int)) (r_ : Bool) (w : World) (hr0 : Kd.C (Kd.slice 3 (Kd.int .i64)) w A0 l0.length l0) (hc0 : l0.length ≤ c0) (h : laws_FnExactOpenSchedule.f k l0 = some r_) :
    Calls Try.prog 3 #[.slice A0 l0.length c0] w fun e w' => e = .returned (.bool r_) ∧ Below w.heap.size w w' := by
  unfold laws_FnExactOpenSchedule.f at h
  split at h
  case isFalse => cases h
  case isTrue hok =>
  obtain rfl := Option.some.inj h
  clear h
  have HR0 := Aside0.mk hr0
  have HC0 := Aside0.mk hc0
  clear hr0 hc0
  have HB := Aside0.mk (Below.refl w.heap.size w)
  unfold FnExactOpenSchedule_ok at hok
  go_enter Try.func3, Try.ntmps3
  obtain ⟨n0, E90, hok⟩ := hok
  have E80 := Aside0.mk E90
  clear E90
  go_wp2_with (fail)
  refine (laws_szIntSS.calls k A0 c0 l0 1048576 n0 _ (Kd.C_below HR0.out HB.out) HC0.out E80.out).mono ?_
  rintro e w1 ⟨rfl, hd⟩
  dsimp only
  have hb : Below w.heap.size w w1 := by first | exact hd | (obtain ⟨n_, rfl⟩ := hd; exact pw_below_drewN (Below.refl _ _) n_)
  have N_ := Aside0.mk (below_step HB.out hb)
  clear HB
  have HB := N_
  clear N_
  clear hb hd
  rcases hok with hn | ⟨hn, hok⟩
  · have hn0 : decide (n0 < 0) = true := decide_eq_true hn
    clear hn
    go_wp2
    go_ret
    exact ⟨by first | rfl | (simp [*]; done), by repeat (first | (with_reducible first | exact HB.out | apply below_alloc | apply pw_below_drewN | apply below_drew1) | exact HB.out)⟩
  have hn0 : decide (n0 < 0) = false := decide_eq_false (by omega)
  clear hn
  obtain ⟨r, b, m0, y0, mr, z, e0, e1, e2, e3, e4, e5, e6, e7, e8, e9⟩ := hok
  have E0 := Aside0.mk e0
  clear e0
  have E1 := Aside0.mk e1
  clear e1
  have E2 := Aside0.mk e2
  clear e2
  have E3 := Aside0.mk e3
  clear e3
  have E4 := Aside0.mk e4
  clear e4
  have E5 := Aside0.mk e5
  clear e5
  have E7 := Aside0.mk e7
  clear e7
  have E8 := Aside0.mk e8
  clear e8
  have hm : decide (m0 < 0) = false := decide_eq_false (by omega)
  have hmr : decide (mr < 0) = false := decide_eq_false (by omega)
  clear e6 e9
  try clear SZ PT
  have SZ := Aside0.mk (below_size HB.out)
  go_wp2_with (fail)
  refine (laws_toIntSS.calls k A0 c0 l0 l0 _ (Kd.C_below HR0.out HB.out) HC0.out E0.out).mono ?_
  rintro e w2 ⟨v2, rfl, ho, hb⟩
  dsimp only
  obtain ⟨As0, cs0, e_⟩ := Kd.S_slice ho
  subst e_
  have N_ := Aside0.mk (below_step HB.out hb)
  clear HB
  have HB := N_
  clear N_
  obtain ⟨bs0, hbs0⟩ : ∃ n_, n_ = w1.heap.size := ⟨_, rfl⟩
  obtain ⟨ts0, hts0⟩ : ∃ n_, n_ = w2.heap.size := ⟨_, rfl⟩
  have Fs0 := Aside0.mk (Kd.S_mono (Kd.S_lower (Kd.S_bound ho) (show w.heap.size ≤ w1.heap.size from SZ.out)) (ok' := fun k_ => bs0 ≤ k_ ∧ k_ < ts0) (fun k_ hk_ => ⟨by rw [hbs0]; exact hk_.2.1, by rw [hts0]; exact hk_.2.2.1⟩))
  have Qs0 := Aside0.mk (show w.heap.size ≤ bs0 ∧ bs0 ≤ ts0 from ⟨by rw [hbs0]; exact SZ.out, by rw [hbs0, hts0]; exact hb.size⟩)
  try clear HT
  have HT := Aside0.mk (show ts0 ≤ w2.heap.size from by rw [hts0]; exact Nat.le_refl _)
  clear ho hb hbs0 hts0
  try clear SZ PT
  have SZ := Aside0.mk (below_size HB.out)
  have PT := HT
  go_wp2_with (fail)
  refine (spec_OpenSchedule.calls k As0 cs0 l0 r b _ (Kd.S_reads' Fs0.out).2.2 (Kd.S_reads' Fs0.out).2.1 E1.out).mono ?_
  rintro e w3 ⟨v3, rfl, ho, hb⟩
  dsimp only
  obtain ⟨Awr, cwr, e_⟩ := Kd.S_slice ho
  subst e_
  have N_ := Aside0.mk (Kd.S_below Fs0.out hb)
  clear Fs0
  have Fs0 := N_
  clear N_
  have N_ := Aside0.mk (below_step HB.out hb)
  clear HB
  have HB := N_
  clear N_
  have N_ := Aside0.mk (Nat.le_trans HT.out hb.size)
  clear HT
  have HT := N_
  clear N_
  obtain ⟨bwr, hbwr⟩ : ∃ n_, n_ = w2.heap.size := ⟨_, rfl⟩
  obtain ⟨twr, htwr⟩ : ∃ n_, n_ = w3.heap.size := ⟨_, rfl⟩
  have Fwr := Aside0.mk (Kd.S_mono (Kd.S_lower (Kd.S_bound ho) (show w.heap.size ≤ w2.heap.size from SZ.out)) (ok' := fun k_ => bwr ≤ k_ ∧ k_ < twr) (fun k_ hk_ => ⟨by rw [hbwr]; exact hk_.2.1, by rw [htwr]; exact hk_.2.2.1⟩))
  have Qwr := Aside0.mk (show ts0 ≤ bwr ∧ bwr ≤ twr from ⟨by rw [hbwr]; exact PT.out, by rw [hbwr, htwr]; exact hb.size⟩)
  try clear HT
  have HT := Aside0.mk (show twr ≤ w3.heap.size from by rw [htwr]; exact Nat.le_refl _)
  clear ho hb hbwr htwr
  try clear SZ PT
  have SZ := Aside0.mk (below_size HB.out)
  have PT := HT
  go_wp2_with (fail)
  refine (laws_toIntSS.calls k A0 c0 l0 l0 _ (Kd.C_below HR0.out HB.out) HC0.out E0.out).mono ?_
  rintro e w4 ⟨v4, rfl, ho, hb⟩
  dsimp only
  obtain ⟨Ax0, cx0, e_⟩ := Kd.S_slice ho
  subst e_
  have N_ := Aside0.mk (Kd.S_below Fs0.out hb)
  clear Fs0
  have Fs0 := N_
  clear N_
  have N_ := Aside0.mk (Kd.S_below Fwr.out hb)
  clear Fwr
  have Fwr := N_
  clear N_
  have N_ := Aside0.mk (below_step HB.out hb)
  clear HB
  have HB := N_
  clear N_
  have N_ := Aside0.mk (Nat.le_trans HT.out hb.size)
  clear HT
  have HT := N_
  clear N_
  obtain ⟨bx0, hbx0⟩ : ∃ n_, n_ = w3.heap.size := ⟨_, rfl⟩
  obtain ⟨tx0, htx0⟩ : ∃ n_, n_ = w4.heap.size := ⟨_, rfl⟩
  have Fx0 := Aside0.mk (Kd.S_mono (Kd.S_lower (Kd.S_bound ho) (show w.heap.size ≤ w3.heap.size from SZ.out)) (ok' := fun k_ => bx0 ≤ k_ ∧ k_ < tx0) (fun k_ hk_ => ⟨by rw [hbx0]; exact hk_.2.1, by rw [htx0]; exact hk_.2.2.1⟩))
  have Qx0 := Aside0.mk (show twr ≤ bx0 ∧ bx0 ≤ tx0 from ⟨by rw [hbx0]; exact PT.out, by rw [hbx0, htx0]; exact hb.size⟩)
  try clear HT
  have HT := Aside0.mk (show tx0 ≤ w4.heap.size from by rw [htx0]; exact Nat.le_refl _)
  clear ho hb hbx0 htx0
  try clear SZ PT
  have SZ := Aside0.mk (below_size HB.out)
  have PT := HT
  go_wp2_with (fail)
  refine (impl_OpenSchedule.calls k Ax0 cx0 l0 r b _ (Kd.S_reads' Fx0.out).2.2 (Kd.S_reads' Fx0.out).2.1 E2.out).mono ?_
  rintro e w5 ⟨v5, rfl, ho, hb⟩
  dsimp only
  obtain ⟨Ag, cg, e_⟩ := Kd.S_slice ho
  subst e_
  have N_ := Aside0.mk (Kd.S_below Fs0.out hb)
  clear Fs0
  have Fs0 := N_
  clear N_
  have N_ := Aside0.mk (Kd.S_below Fwr.out hb)
  clear Fwr
  have Fwr := N_
  clear N_
  have N_ := Aside0.mk (Kd.S_below Fx0.out hb)
  clear Fx0
  have Fx0 := N_
  clear N_
  have N_ := Aside0.mk (below_step HB.out hb)
  clear HB
  have HB := N_
  clear N_
  have N_ := Aside0.mk (Nat.le_trans HT.out hb.size)
  clear HT
  have HT := N_
  clear N_
  obtain ⟨bg, hbg⟩ : ∃ n_, n_ = w4.heap.size := ⟨_, rfl⟩
  obtain ⟨tg, htg⟩ : ∃ n_, n_ = w5.heap.size := ⟨_, rfl⟩
  have Fg := Aside0.mk (Kd.S_mono (Kd.S_lower (Kd.S_bound ho) (show w.heap.size ≤ w4.heap.size from SZ.out)) (ok' := fun k_ => bg ≤ k_ ∧ k_ < tg) (fun k_ hk_ => ⟨by rw [hbg]; exact hk_.2.1, by rw [htg]; exact hk_.2.2.1⟩))
  have Qg := Aside0.mk (show tx0 ≤ bg ∧ bg ≤ tg from ⟨by rw [hbg]; exact PT.out, by rw [hbg, htg]; exact hb.size⟩)
  try clear HT
  have HT := Aside0.mk (show tg ≤ w5.heap.size from by rw [htg]; exact Nat.le_refl _)
  clear ho hb hbg htg
  go_wp2_with (fail)
  refine (laws_eqIntSS.calls k Ag cg r Awr cwr r true _ (Kd.S_reads' Fg.out).2.2 (Kd.S_reads' Fg.out).2.1 (Kd.S_reads' Fwr.out).2.2 (Kd.S_reads' Fwr.out).2.1 E3.out).mono ?_
  rintro e w6 ⟨rfl, hd⟩
  dsimp only
  have hb : Below w5.heap.size w5 w6 := by first | exact hd | (obtain ⟨n_, rfl⟩ := hd; exact pw_below_drewN (Below.refl _ _) n_)
  have N_ := Aside0.mk (Kd.S_below Fs0.out hb)
  clear Fs0
  have Fs0 := N_
  clear N_
  have N_ := Aside0.mk (Kd.S_below Fwr.out hb)
  clear Fwr
  have Fwr := N_
  clear N_
  have N_ := Aside0.mk (Kd.S_below Fx0.out hb)
  clear Fx0
  have Fx0 := N_
  clear N_
  have N_ := Aside0.mk (Kd.S_below Fg.out hb)
  clear Fg
  have Fg := N_
  clear N_
  have N_ := Aside0.mk (below_step HB.out hb)
  clear HB
  have HB := N_
  clear N_
  have N_ := Aside0.mk (Nat.le_trans HT.out hb.size)
  clear HT
  have HT := N_
  clear N_
  clear hb hd
  try clear SZ PT
  have SZ := Aside0.mk (below_size HB.out)
  have PT := HT
  go_wp2_with (fail)
  refine (laws_toIntSS.calls k A0 c0 l0 l0 _ (Kd.C_below HR0.out HB.out) HC0.out E0.out).mono ?_
  rintro e w7 ⟨v7, rfl, ho, hb⟩
  dsimp only
  obtain ⟨Aq0, cq0, e_⟩ := Kd.S_slice ho
  subst e_
  have N_ := Aside0.mk (Kd.S_below Fs0.out hb)
  clear Fs0
  have Fs0 := N_
  clear N_
  have N_ := Aside0.mk (Kd.S_below Fwr.out hb)
  clear Fwr
  have Fwr := N_
  clear N_
  have N_ := Aside0.mk (Kd.S_below Fx0.out hb)
  clear Fx0
  have Fx0 := N_
  clear N_
  have N_ := Aside0.mk (Kd.S_below Fg.out hb)
  clear Fg
  have Fg := N_
  clear N_
  have N_ := Aside0.mk (below_step HB.out hb)
  clear HB
  have HB := N_
  clear N_
  have N_ := Aside0.mk (Nat.le_trans HT.out hb.size)
  clear HT
  have HT := N_
  clear N_
  obtain ⟨bq0, hbq0⟩ : ∃ n_, n_ = w6.heap.size := ⟨_, rfl⟩
  obtain ⟨tq0, htq0⟩ : ∃ n_, n_ = w7.heap.size := ⟨_, rfl⟩
  have Fq0 := Aside0.mk (Kd.S_mono (Kd.S_lower (Kd.S_bound ho) (show w.heap.size ≤ w6.heap.size from SZ.out)) (ok' := fun k_ => bq0 ≤ k_ ∧ k_ < tq0) (fun k_ hk_ => ⟨by rw [hbq0]; exact hk_.2.1, by rw [htq0]; exact hk_.2.2.1⟩))
  have Qq0 := Aside0.mk (show tg ≤ bq0 ∧ bq0 ≤ tq0 from ⟨by rw [hbq0]; exact PT.out, by rw [hbq0, htq0]; exact hb.size⟩)
  try clear HT
  have HT := Aside0.mk (show tq0 ≤ w7.heap.size from by rw [htq0]; exact Nat.le_refl _)
  clear ho hb hbq0 htq0
  go_wp2_with (fail)
  refine (laws_eqIntSS.calls k Ax0 cx0 l0 Aq0 cq0 l0 true _ (Kd.S_reads' Fx0.out).2.2 (Kd.S_reads' Fx0.out).2.1 (Kd.S_reads' Fq0.out).2.2 (Kd.S_reads' Fq0.out).2.1 E4.out).mono ?_
  rintro e w8 ⟨rfl, hd⟩
  dsimp only
  have hb : Below w7.heap.size w7 w8 := by first | exact hd | (obtain ⟨n_, rfl⟩ := hd; exact pw_below_drewN (Below.refl _ _) n_)
  have N_ := Aside0.mk (Kd.S_below Fs0.out hb)
  clear Fs0
  have Fs0 := N_
  clear N_
  have N_ := Aside0.mk (Kd.S_below Fwr.out hb)
  clear Fwr
  have Fwr := N_
  clear N_
  have N_ := Aside0.mk (Kd.S_below Fx0.out hb)
  clear Fx0
  have Fx0 := N_
  clear N_
  have N_ := Aside0.mk (Kd.S_below Fg.out hb)
  clear Fg
  have Fg := N_
  clear N_
  have N_ := Aside0.mk (Kd.S_below Fq0.out hb)
  clear Fq0
  have Fq0 := N_
  clear N_
  have N_ := Aside0.mk (below_step HB.out hb)
  clear HB
  have HB := N_
  clear N_
  have N_ := Aside0.mk (Nat.le_trans HT.out hb.size)
  clear HT
  have HT := N_
  clear N_
  clear hb hd
  go_wp2_with (fail)
  refine (laws_markIntSS.calls k (fun k_ => bx0 ≤ k_ ∧ k_ < tx0) _ l0 1 m0 y0 w _ HB.out Fx0.out E5.out).mono ?_
  rintro e w9 ⟨rfl, ho, hB_, hk⟩
  dsimp only
  have N_ := Aside0.mk (Kd.S_kept Fs0.out hk (fun k_ h1_ h2_ => by have h3_ := h1_; have h4_ := h2_; (try dsimp only at h3_); (try dsimp only at h4_); have := Qs0.out; have := Qwr.out; have := Qx0.out; have := Qg.out; have := Qq0.out; omega))
  clear Fs0
  have Fs0 := N_
  clear N_
  have N_ := Aside0.mk (Kd.S_kept Fwr.out hk (fun k_ h1_ h2_ => by have h3_ := h1_; have h4_ := h2_; (try dsimp only at h3_); (try dsimp only at h4_); have := Qs0.out; have := Qwr.out; have := Qx0.out; have := Qg.out; have := Qq0.out; omega))
  clear Fwr
  have Fwr := N_
  clear N_
  have N_ := Aside0.mk (Kd.S_kept Fg.out hk (fun k_ h1_ h2_ => by have h3_ := h1_; have h4_ := h2_; (try dsimp only at h3_); (try dsimp only at h4_); have := Qs0.out; have := Qwr.out; have := Qx0.out; have := Qg.out; have := Qq0.out; omega))
  clear Fg
  have Fg := N_
  clear N_
  have N_ := Aside0.mk (Kd.S_kept Fq0.out hk (fun k_ h1_ h2_ => by have h3_ := h1_; have h4_ := h2_; (try dsimp only at h3_); (try dsimp only at h4_); have := Qs0.out; have := Qwr.out; have := Qx0.out; have := Qg.out; have := Qq0.out; omega))
  clear Fq0
  have Fq0 := N_
  clear N_
  clear HB Fx0
  have HB := Aside0.mk hB_
  have N_ := Aside0.mk (Nat.le_trans HT.out hk.1)
  clear HT
  have HT := N_
  clear N_
  have Fx0 := Aside0.mk ho
  clear ho hB_ hk
  go_wp2_with (fail)
  refine (laws_eqIntSS.calls k Ag cg r Awr cwr r true _ (Kd.S_reads' Fg.out).2.2 (Kd.S_reads' Fg.out).2.1 (Kd.S_reads' Fwr.out).2.2 (Kd.S_reads' Fwr.out).2.1 E3.out).mono ?_
  rintro e w10 ⟨rfl, hd⟩
  dsimp only
  have hb : Below w9.heap.size w9 w10 := by first | exact hd | (obtain ⟨n_, rfl⟩ := hd; exact pw_below_drewN (Below.refl _ _) n_)
  have N_ := Aside0.mk (Kd.S_below Fs0.out hb)
  clear Fs0
  have Fs0 := N_
  clear N_
  have N_ := Aside0.mk (Kd.S_below Fwr.out hb)
  clear Fwr
  have Fwr := N_
  clear N_
  have N_ := Aside0.mk (Kd.S_below Fx0.out hb)
  clear Fx0
  have Fx0 := N_
  clear N_
  have N_ := Aside0.mk (Kd.S_below Fg.out hb)
  clear Fg
  have Fg := N_
  clear N_
  have N_ := Aside0.mk (Kd.S_below Fq0.out hb)
  clear Fq0
  have Fq0 := N_
  clear N_
  have N_ := Aside0.mk (below_step HB.out hb)
  clear HB
  have HB := N_
  clear N_
  have N_ := Aside0.mk (Nat.le_trans HT.out hb.size)
  clear HT
  have HT := N_
  clear N_
  clear hb hd
  go_wp2_with (fail)
  refine (laws_markIntSS.calls k (fun k_ => bg ≤ k_ ∧ k_ < tg) _ r 1 mr z w _ HB.out Fg.out E7.out).mono ?_
  rintro e w11 ⟨rfl, ho, hB_, hk⟩
  dsimp only
  have N_ := Aside0.mk (Kd.S_kept Fs0.out hk (fun k_ h1_ h2_ => by have h3_ := h1_; have h4_ := h2_; (try dsimp only at h3_); (try dsimp only at h4_); have := Qs0.out; have := Qwr.out; have := Qx0.out; have := Qg.out; have := Qq0.out; omega))
  clear Fs0
  have Fs0 := N_
  clear N_
  have N_ := Aside0.mk (Kd.S_kept Fwr.out hk (fun k_ h1_ h2_ => by have h3_ := h1_; have h4_ := h2_; (try dsimp only at h3_); (try dsimp only at h4_); have := Qs0.out; have := Qwr.out; have := Qx0.out; have := Qg.out; have := Qq0.out; omega))
  clear Fwr
  have Fwr := N_
  clear N_
  have N_ := Aside0.mk (Kd.S_kept Fx0.out hk (fun k_ h1_ h2_ => by have h3_ := h1_; have h4_ := h2_; (try dsimp only at h3_); (try dsimp only at h4_); have := Qs0.out; have := Qwr.out; have := Qx0.out; have := Qg.out; have := Qq0.out; omega))
  clear Fx0
  have Fx0 := N_
  clear N_
  have N_ := Aside0.mk (Kd.S_kept Fq0.out hk (fun k_ h1_ h2_ => by have h3_ := h1_; have h4_ := h2_; (try dsimp only at h3_); (try dsimp only at h4_); have := Qs0.out; have := Qwr.out; have := Qx0.out; have := Qg.out; have := Qq0.out; omega))
  clear Fq0
  have Fq0 := N_
  clear N_
  clear HB Fg
  have HB := Aside0.mk hB_
  have N_ := Aside0.mk (Nat.le_trans HT.out hk.1)
  clear HT
  have HT := N_
  clear N_
  have Fg := Aside0.mk ho
  clear ho hB_ hk
  have LZ := Aside0.mk (Kd.S_reads' Fg.out).1
  rw [LZ.out] at Fg
  rw [show (Value.slice Ag r.length cg) = Value.slice Ag z.length cg from by rw [LZ.out]]
  go_wp2_with (fail)
  refine (laws_heldIntSS.calls k Ag cg z 1 mr _ (Kd.S_reads' Fg.out).2.2 (Kd.S_reads' Fg.out).2.1 E8.out).mono ?_
  rintro e w12 ⟨rfl, hd⟩
  dsimp only
  have hb : Below w11.heap.size w11 w12 := by first | exact hd | (obtain ⟨n_, rfl⟩ := hd; exact pw_below_drewN (Below.refl _ _) n_)
  have N_ := Aside0.mk (Kd.S_below Fs0.out hb)
  clear Fs0
  have Fs0 := N_
  clear N_
  have N_ := Aside0.mk (Kd.S_below Fwr.out hb)
  clear Fwr
  have Fwr := N_
  clear N_
  have N_ := Aside0.mk (Kd.S_below Fx0.out hb)
  clear Fx0
  have Fx0 := N_
  clear N_
  have N_ := Aside0.mk (Kd.S_below Fg.out hb)
  clear Fg
  have Fg := N_
  clear N_
  have N_ := Aside0.mk (Kd.S_below Fq0.out hb)
  clear Fq0
  have Fq0 := N_
  clear N_
  have N_ := Aside0.mk (below_step HB.out hb)
  clear HB
  have HB := N_
  clear N_
  have N_ := Aside0.mk (Nat.le_trans HT.out hb.size)
  clear HT
  have HT := N_
  clear N_
  clear hb hd
  try clear SZ PT
  have SZ := Aside0.mk (below_size HB.out)
  have PT := HT
  go_wp2_with (fail)
  refine (laws_toIntSS.calls k A0 c0 l0 l0 _ (Kd.C_below HR0.out HB.out) HC0.out E0.out).mono ?_
  rintro e w13 ⟨v13, rfl, ho, hb⟩
  dsimp only
  obtain ⟨Ah0, ch0, e_⟩ := Kd.S_slice ho
  subst e_
  have N_ := Aside0.mk (Kd.S_below Fs0.out hb)
  clear Fs0
  have Fs0 := N_
  clear N_
  have N_ := Aside0.mk (Kd.S_below Fwr.out hb)
  clear Fwr
  have Fwr := N_
  clear N_
  have N_ := Aside0.mk (Kd.S_below Fx0.out hb)
  clear Fx0
  have Fx0 := N_
  clear N_
  have N_ := Aside0.mk (Kd.S_below Fg.out hb)
  clear Fg
  have Fg := N_
  clear N_
  have N_ := Aside0.mk (Kd.S_below Fq0.out hb)
  clear Fq0
  have Fq0 := N_
  clear N_
  have N_ := Aside0.mk (below_step HB.out hb)
  clear HB
  have HB := N_
  clear N_
  have N_ := Aside0.mk (Nat.le_trans HT.out hb.size)
  clear HT
  have HT := N_
  clear N_
  obtain ⟨bh0, hbh0⟩ : ∃ n_, n_ = w12.heap.size := ⟨_, rfl⟩
  obtain ⟨th0, hth0⟩ : ∃ n_, n_ = w13.heap.size := ⟨_, rfl⟩
  have Fh0 := Aside0.mk (Kd.S_mono (Kd.S_lower (Kd.S_bound ho) (show w.heap.size ≤ w12.heap.size from SZ.out)) (ok' := fun k_ => bh0 ≤ k_ ∧ k_ < th0) (fun k_ hk_ => ⟨by rw [hbh0]; exact hk_.2.1, by rw [hth0]; exact hk_.2.2.1⟩))
  have Qh0 := Aside0.mk (show tq0 ≤ bh0 ∧ bh0 ≤ th0 from ⟨by rw [hbh0]; exact PT.out, by rw [hbh0, hth0]; exact hb.size⟩)
  try clear HT
  have HT := Aside0.mk (show th0 ≤ w13.heap.size from by rw [hth0]; exact Nat.le_refl _)
  clear ho hb hbh0 hth0
  try clear SZ PT
  have SZ := Aside0.mk (below_size HB.out)
  have PT := HT
  go_wp2_with (fail)
  refine (impl_OpenSchedule.calls k Ah0 ch0 l0 r b _ (Kd.S_reads' Fh0.out).2.2 (Kd.S_reads' Fh0.out).2.1 E2.out).mono ?_
  rintro e w14 ⟨v14, rfl, ho, hb⟩
  dsimp only
  obtain ⟨Ahh, chh, e_⟩ := Kd.S_slice ho
  subst e_
  have N_ := Aside0.mk (Kd.S_below Fs0.out hb)
  clear Fs0
  have Fs0 := N_
  clear N_
  have N_ := Aside0.mk (Kd.S_below Fwr.out hb)
  clear Fwr
  have Fwr := N_
  clear N_
  have N_ := Aside0.mk (Kd.S_below Fx0.out hb)
  clear Fx0
  have Fx0 := N_
  clear N_
  have N_ := Aside0.mk (Kd.S_below Fg.out hb)
  clear Fg
  have Fg := N_
  clear N_
  have N_ := Aside0.mk (Kd.S_below Fq0.out hb)
  clear Fq0
  have Fq0 := N_
  clear N_
  have N_ := Aside0.mk (Kd.S_below Fh0.out hb)
  clear Fh0
  have Fh0 := N_
  clear N_
  have N_ := Aside0.mk (below_step HB.out hb)
  clear HB
  have HB := N_
  clear N_
  have N_ := Aside0.mk (Nat.le_trans HT.out hb.size)
  clear HT
  have HT := N_
  clear N_
  obtain ⟨bhh, hbhh⟩ : ∃ n_, n_ = w13.heap.size := ⟨_, rfl⟩
  obtain ⟨thh, hthh⟩ : ∃ n_, n_ = w14.heap.size := ⟨_, rfl⟩
  have Fhh := Aside0.mk (Kd.S_mono (Kd.S_lower (Kd.S_bound ho) (show w.heap.size ≤ w13.heap.size from SZ.out)) (ok' := fun k_ => bhh ≤ k_ ∧ k_ < thh) (fun k_ hk_ => ⟨by rw [hbhh]; exact hk_.2.1, by rw [hthh]; exact hk_.2.2.1⟩))
  have Qhh := Aside0.mk (show th0 ≤ bhh ∧ bhh ≤ thh from ⟨by rw [hbhh]; exact PT.out, by rw [hbhh, hthh]; exact hb.size⟩)
  try clear HT
  have HT := Aside0.mk (show thh ≤ w14.heap.size from by rw [hthh]; exact Nat.le_refl _)
  clear ho hb hbhh hthh
  go_wp2_with (fail)
  refine (laws_eqIntSS.calls k Ahh chh r Awr cwr r true _ (Kd.S_reads' Fhh.out).2.2 (Kd.S_reads' Fhh.out).2.1 (Kd.S_reads' Fwr.out).2.2 (Kd.S_reads' Fwr.out).2.1 E3.out).mono ?_
  rintro e w15 ⟨rfl, hd⟩
  dsimp only
  have hb : Below w14.heap.size w14 w15 := by first | exact hd | (obtain ⟨n_, rfl⟩ := hd; exact pw_below_drewN (Below.refl _ _) n_)
  have N_ := Aside0.mk (Kd.S_below Fs0.out hb)
  clear Fs0
  have Fs0 := N_
  clear N_
  have N_ := Aside0.mk (Kd.S_below Fwr.out hb)
  clear Fwr
  have Fwr := N_
  clear N_
  have N_ := Aside0.mk (Kd.S_below Fx0.out hb)
  clear Fx0
  have Fx0 := N_
  clear N_
  have N_ := Aside0.mk (Kd.S_below Fg.out hb)
  clear Fg
  have Fg := N_
  clear N_
  have N_ := Aside0.mk (Kd.S_below Fq0.out hb)
  clear Fq0
  have Fq0 := N_
  clear N_
  have N_ := Aside0.mk (Kd.S_below Fh0.out hb)
  clear Fh0
  have Fh0 := N_
  clear N_
  have N_ := Aside0.mk (Kd.S_below Fhh.out hb)
  clear Fhh
  have Fhh := N_
  clear N_
  have N_ := Aside0.mk (below_step HB.out hb)
  clear HB
  have HB := N_
  clear N_
  have N_ := Aside0.mk (Nat.le_trans HT.out hb.size)
  clear HT
  have HT := N_
  clear N_
  clear hb hd
  go_wp2_with (fail)
  refine (laws_heldIntSS.calls k Ag cg z 1 mr _ (Kd.S_reads' Fg.out).2.2 (Kd.S_reads' Fg.out).2.1 E8.out).mono ?_
  rintro e w16 ⟨rfl, hd⟩
  dsimp only
  have hb : Below w15.heap.size w15 w16 := by first | exact hd | (obtain ⟨n_, rfl⟩ := hd; exact pw_below_drewN (Below.refl _ _) n_)
  have N_ := Aside0.mk (Kd.S_below Fs0.out hb)
  clear Fs0
  have Fs0 := N_
  clear N_
  have N_ := Aside0.mk (Kd.S_below Fwr.out hb)
  clear Fwr
  have Fwr := N_
  clear N_
  have N_ := Aside0.mk (Kd.S_below Fx0.out hb)
  clear Fx0
  have Fx0 := N_
  clear N_
  have N_ := Aside0.mk (Kd.S_below Fg.out hb)
  clear Fg
  have Fg := N_
  clear N_
  have N_ := Aside0.mk (Kd.S_below Fq0.out hb)
  clear Fq0
  have Fq0 := N_
  clear N_
  have N_ := Aside0.mk (Kd.S_below Fh0.out hb)
  clear Fh0
  have Fh0 := N_
  clear N_
  have N_ := Aside0.mk (Kd.S_below Fhh.out hb)
  clear Fhh
  have Fhh := N_
  clear N_
  have N_ := Aside0.mk (below_step HB.out hb)
  clear HB
  have HB := N_
  clear N_
  have N_ := Aside0.mk (Nat.le_trans HT.out hb.size)
  clear HT
  have HT := N_
  clear N_
  clear hb hd
  go_wp2
  go_ret
  exact ⟨by first | rfl | (simp [*]; done), by repeat (first | (with_reducible first | exact HB.out | apply below_alloc | apply pw_below_drewN | apply below_drew1) | exact HB.out)⟩

end Go.Proofs.Ytbblhmpcpmamfaa.XFnExactOpenSchedule
