-- Written by a program of this session (the kit's print, widened). Proved here: what each function answers, for the arguments that its contract names.
import Derived.Test.YtafjdcjaigmnaaaXFnExactBestFlowx0
import Derived.Test.YtafjdcjaigmnaaaXFnExactBestFlowx4
import Derived.Test.YtafjdcjaigmnaaaXFnExactBestFlowx7
import Derived.Test.YtafjdcjaigmnaaaXFnExactBestFlowx9
import Derived.Test.YtafjdcjaigmnaaaXFnExactBestFlowx10
namespace Go.Proofs.Ytafjdcjaigmnaaa.XFnExactBestFlow
open Go.RowKit Go.Proofs.YtafjdcjaigmnaaaW.PrintWords Go.Proofs.YtafjdcjaigmnaaaW.PrintLast Go.Proofs.YtafjdcjaigmnaaaW.PrintMore
attribute [local go_sem] max2_int min2_int max_two min_two max_three min_three max_four min_four   -- for this text's walks alone
attribute [local go_sem] idxA_75_0 idxA_75_1 fldS_65_0 fldS_65_1 fldS_65_2
set_option linter.unusedVariables false
set_option linter.unusedSimpArgs false

/-! ### impl_BestFlow: function 24, by hand -/
/-! ### impl_BestFlow, by hand -/
theorem below_of_drawn {u v : World} (h : Drawn0 u v) : Below u.heap.size u v := by obtain ⟨n_, rfl⟩ := h; exact pw_below_drewN (Below.refl _ _) n_
set_option maxHeartbeats 8000000 in
set_option maxRecDepth 100000 in
theorem impl_BestFlow1.calls (k : Nat) (bs bl bf : Nat) (A0 : Option Addr) (c0 : Nat) (l0 : List (List Int)) (A : Option Addr) (c : Nat) (l : List Int) (least span : Int) (vf : Value) (W : World) (hc0 : l0.length ≤ c0) (hc : l.length ≤ c) (hne : bl ≠ bf)
    (hr0 : Kd.C (Kd.slice 3 (Kd.int .i64)) W A0 l0.length l0) (hr : Kd.C (Kd.int .i64) W A l.length l)
    (xs : Boxed W bs 38 (.slice A0 l0.length c0)) (xl : Boxed W bl 3 (.int .i64 least)) (xf : Boxed W bf 24 vf)
    (h : impl_flowSpan.f k l0 l = some span) (hcp : impl_copyInts.f l = some l) :
    Calls Try.prog 57 #[.slice A l.length c, .pointer (some ⟨bs, 0, none⟩), .pointer (some ⟨bl, 0, none⟩), .pointer (some ⟨bf, 0, none⟩)] W fun e W' => e = .returned (.tuple #[]) ∧ ∃ W1, Below W.heap.size W W1 ∧ (¬ (least < 0 ∨ span < least) → W' = W1) ∧ ((least < 0 ∨ span < least) → ∃ v, Kd.R (Kd.int .i64) 3 W1 W.heap.size (fun _ => True) v l ∧ W' = (W1.setCell ⟨bf, 0, none⟩ v).setCell ⟨bl, 0, none⟩ (.int .i64 span)) := by
  have HR0 := Aside0.mk hr0
  have HR := Aside0.mk hr
  have H := Aside0.mk h
  have HCP := Aside0.mk hcp
  have HN := Aside0.mk hne
  have XS := xs.cell
  have BL := Aside0.mk xl
  have BF := Aside0.mk xf
  clear hr0 hr h hcp xs xl xf hne
  go_enter Try.func57, Try.ntmps57
  go_wp2_with (fail)
  refine (impl_flowSpan.calls k _ _ l0 _ _ l span _ HR0.out hc0 HR.out hc H.out).mono ?_
  rintro e w2 ⟨rfl, hb⟩
  dsimp only
  clear XS
  have HB := Aside0.mk hb
  have CL := (boxed_below BL.out hb).cell
  clear hb
  by_cases hu : least < 0 ∨ span < least
  · have hs1 : decide (least < 0) = true ∨ decide (least < 0) = false ∧ decide (span < least) = true := by
      by_cases q : least < 0
      · exact .inl (decide_eq_true q)
      · exact .inr ⟨decide_eq_false q, decide_eq_true (hu.resolve_left q)⟩
    rcases hs1 with q1 | ⟨q1, q2⟩
    all_goals
      go_wp2_with (fail)
      refine (impl_copyInts.calls _ _ l l _ (Kd.C_below HR.out HB.out) hc HCP.out).mono ?_
      rintro e w3 ⟨v3, rfl, ho3, hb3⟩
      dsimp only
      obtain ⟨A3, c3, e3⟩ := Kd.R_slice ho3
      subst e3
      have HO3 := Aside0.mk (Kd.R_lower ho3 (below_size HB.out))
      have HB3 := Aside0.mk (below_step HB.out hb3)
      have FL := (boxed_below BL.out HB3.out).frozen
      have FF := (boxed_below BF.out HB3.out).frozen
      have CF := (boxed_below BF.out HB3.out).cell
      have CL2 : (w3.setCell ⟨bf, 0, none⟩ (.slice A3 l.length c3)).cell? ⟨bl, 0, none⟩ = some (.int .i64 least) := (boxed_set (boxed_below BL.out HB3.out) HN.out).cell
      have FL2 : (w3.setCell ⟨bf, 0, none⟩ (.slice A3 l.length c3)).frozen? ⟨bl, 0, none⟩ = false := (boxed_set (boxed_below BL.out HB3.out) HN.out).frozen
      clear ho3 hb3
      go_wp2
      refine bodyPost_end (results_none rfl _ _ _) rfl ?_
      exact ⟨rfl, w3, HB3.out, fun hn => absurd hu hn, fun _ => ⟨_, HO3.out, rfl⟩⟩
  · have q1 : decide (least < 0) = false := decide_eq_false (fun q => hu (.inl q))
    have q2 : decide (span < least) = false := decide_eq_false (fun q => hu (.inr q))
    go_wp2
    refine bodyPost_end (results_none rfl _ _ _) rfl ?_
    exact ⟨rfl, w2, HB.out, fun _ => rfl, fun hn => absurd hn hu⟩
def impl_BestFlow.step (l0 : List (List Int)) (k : Nat) (l : List Int) (s : List Int × Int) : Option (List Int × Int) := if impl_copyInts.f l = some l then (impl_flowSpan.f k l0 l).bind fun p => some (if s.2 < 0 ∨ p < s.2 then (l, p) else s) else none
def impl_BestFlow.f (k : Nat) (l0 : List (List Int)) : Option (List Int × Int × Bool) := (impl_isShop.f k l0).bind fun t1 => if t1 = true then (impl_eachOrder.f (impl_BestFlow.step l0) k (l0.length : Int) ([], -1)).bind fun s => some (s.1, s.2, true) else some ([], 0, false)
theorem impl_BestFlow.mono : ∀ a0 k, LeO (impl_BestFlow.f k a0) (impl_BestFlow.f (k + 1) a0) := by
  intro a0 k r h
  unfold impl_BestFlow.f at h ⊢
  obtain ⟨t1, h1, h⟩ := Option.bind_eq_some_iff.1 h
  rw [impl_isShop.mono _ _ _ h1, Option.bind_some]
  split at h
  · rename_i c1
    rw [if_pos c1]
    obtain ⟨s, h4, h⟩ := Option.bind_eq_some_iff.1 h
    rw [impl_eachOrder.mono _ (fun k l s r h => by
      unfold impl_BestFlow.step at h ⊢
      split at h
      · rename_i c2
        rw [if_pos c2]
        obtain ⟨p, h5, h⟩ := Option.bind_eq_some_iff.1 h
        rw [impl_flowSpan.mono _ _ _ _ h5, Option.bind_some]
        exact h
      · cases h) _ _ _ _ h4, Option.bind_some]
    exact h
  · rename_i c1; rw [if_neg c1]; exact h
def impl_BestFlow.inv (w : World) (l0 : List (List Int)) (A0 : Option Addr) (c0 : Nat) (bs bl bf : Nat) (hi : Nat) (s : List Int × Int) (W : World) : Prop := Below w.heap.size w W ∧ Boxed W bs 38 (.slice A0 l0.length c0) ∧ Boxed W bl 3 (.int .i64 s.2) ∧ ∃ v, Boxed W bf 24 v ∧ Kd.R (Kd.int .i64) 3 W hi (fun k_ => hi ≤ k_) v s.1
theorem impl_BestFlow.inv_move {w : World} {l0 : List (List Int)} {A0 : Option Addr} {c0 : Nat} {bs bl bf hi : Nat} {s : List Int × Int} {W W' : World} {B : Nat} (h : impl_BestFlow.inv w l0 A0 c0 bs bl bf hi s W) (hB : Below B W W') (hw : w.heap.size ≤ B) (hj : bs < B ∧ bl < B ∧ bf < B) (hk : Kept W W' (fun k_ => B ≤ k_ ∧ k_ < hi)) : impl_BestFlow.inv w l0 A0 c0 bs bl bf hi s W' := by
  obtain ⟨h1, h2, h3, v, h4, h5⟩ := h
  exact ⟨h1.trans (hB.mono hw), (hB.block _ hj.1).trans h2, (hB.block _ hj.2.1).trans h3, v, (hB.block _ hj.2.2).trans h4, Kd.R_kept h5 hk (fun k_ a b => by omega)⟩
theorem impl_BestFlow.tell {w : World} {l0 : List (List Int)} {A0 : Option Addr} {c0 : Nat} {bs bl bf hi : Nat} {s s' : List Int × Int} {W : World} {B k : Nat} {A : Option Addr} {c : Nat} {l : List Int} (h : impl_BestFlow.inv w l0 A0 c0 bs bl bf hi s W) (hr0 : Kd.C (Kd.slice 3 (Kd.int .i64)) w A0 l0.length l0) (hc0 : l0.length ≤ c0) (hd : bl ≠ bf ∧ bl ≠ bs ∧ bf ≠ bs) (hl : bl < B ∧ bf < B ∧ w.heap.size ≤ bl ∧ w.heap.size ≤ bf) (hB : B ≤ hi) (hW : hi ≤ W.heap.size)
    (hr : Kd.C (Kd.int .i64) W A l.length l) (hc : l.length ≤ c) (hs : impl_BestFlow.step l0 k l s = some s') :
    Calls Try.prog 57 #[.slice A l.length c, .pointer (some ⟨bs, 0, none⟩), .pointer (some ⟨bl, 0, none⟩), .pointer (some ⟨bf, 0, none⟩)] W fun e W' => e = .returned (.tuple #[]) ∧ impl_BestFlow.inv w l0 A0 c0 bs bl bf hi s' W' ∧ Kept W W' (fun k_ => k_ < B) := by
  unfold impl_BestFlow.step at hs
  split at hs
  case isFalse => cases hs
  case isTrue hcp =>
  obtain ⟨p, hp, hs⟩ := Option.bind_eq_some_iff.1 hs
  obtain rfl := Option.some.inj hs
  obtain ⟨i0, is_, il, v0, if_, ir⟩ := h
  refine (impl_BestFlow1.calls k bs bl bf A0 c0 l0 A c l s.2 p v0 W hc0 hc hd.1 (Kd.C_below hr0 i0) hr is_ il if_ hp hcp).mono ?_
  rintro e W' ⟨rfl, W1, hb, hno, hyes⟩
  have z := fun {b : Nat} {t : TypeId} {v : Value} (h : Boxed W b t v) => boxed_below h hb
  have k1 : Below w.heap.size w W1 := below_step i0 hb
  refine ⟨rfl, ?_, ?_⟩
  · by_cases q : s.2 < 0 ∨ p < s.2
    · rw [if_pos q]
      obtain ⟨v, hv, rfl⟩ := hyes q
      refine ⟨below_set (below_set k1 hl.2.2.2) hl.2.2.1, boxed_set (boxed_set (z is_) (Ne.symm hd.2.2)) (Ne.symm hd.2.1), Boxed.set _ (boxed_set (z il) hd.1), v, boxed_set (Boxed.set _ (z if_)) (Ne.symm hd.1), ?_⟩
      have h1 := Kd.R_bound hv
      exact Kd.R_far (Kd.R_far (Kd.R_lower (Kd.R_mono h1 (fun k_ hk_ => show hi ≤ k_ by have := hk_.2.1; omega)) hW) (fun k_ hk_ e_ => by have e2 : k_ = bf := e_; omega) _) (fun k_ hk_ e_ => by have e2 : k_ = bl := e_; omega) _
    · rw [if_neg q, hno q]
      exact ⟨k1, z is_, z il, v0, z if_, Kd.R_below ir hb⟩
  · by_cases q : s.2 < 0 ∨ p < s.2
    · obtain ⟨v, hv, rfl⟩ := hyes q
      exact Kept.setCell (Kept.setCell (Kept.of_below hb _) (.inl hl.2.1) _) (.inl hl.1) _
    · rw [hno q]
      exact Kept.of_below hb _
set_option maxHeartbeats 8000000 in
set_option maxRecDepth 100000 in
theorem impl_BestFlow.calls (k : Nat) (A0 : Option Addr) (c0 : Nat) (l0 : List (List Int)) (r1 : List Int) (r2 : Int) (r3 : Bool) (w : World) (hr0 : Kd.C (Kd.slice 3 (Kd.int .i64)) w A0 l0.length l0) (hc0 : l0.length ≤ c0) (h : impl_BestFlow.f k l0 = some (r1, r2, r3)) :
    Calls Try.prog 24 #[.slice A0 l0.length c0] w fun e w' => ∃ v0_ : Value, e = .returned (.tuple #[v0_, .int .i64 r2, .bool r3]) ∧ Kd.R (Kd.int .i64) 3 w' w.heap.size (fun _ => True) v0_ r1 ∧ Below w.heap.size w w' := by
  unfold impl_BestFlow.f at h
  obtain ⟨t1, h1, h_⟩ := Option.bind_eq_some_iff.1 h
  clear h
  have HR0 := Aside0.mk hr0
  have HC0 := Aside0.mk hc0
  have H1 := Aside0.mk h1
  have H := Aside0.mk h_
  have HB := Aside0.mk (Below.refl w.heap.size w)
  clear hr0 hc0 h1 h_
  go_enter Try.func24, Try.ntmps24
  go_wp2_with (fail)
  refine (impl_isShop.calls k _ _ l0 t1 _ (Kd.C_below HR0.out (by repeat (first | exact HB.out | apply below_alloc | apply pw_below_drewN | apply below_drew1))) HC0.out H1.out).mono ?_
  rintro e w6 ⟨rfl, hb_⟩
  dsimp only
  have hb := below_of_drawn hb_
  clear hb_
  have Ys : Aside0 (Boxed w6 (w.heap.size) 38 (.slice A0 l0.length c0)) := ⟨boxed_below (by repeat (first | exact boxed_alloc (by first | rfl | (simp only [alloc_size]; done)) | apply Boxed.alloc)) hb⟩
  have n1_ := Aside0.mk (below_step (by repeat (first | exact HB.out | apply below_alloc | apply pw_below_drewN | apply below_drew1)) hb)
  clear HB hb
  have HB := n1_
  clear n1_
  have CS := Ys.out.cell
  have hH := H.out
  clear H
  cases t1 with
  | false =>
    obtain ⟨rfl, rfl, rfl⟩ : ([] : List Int) = r1 ∧ (0 : Int) = r2 ∧ false = r3 := by simpa using hH
    go_wp2
    go_ret3
    exact ⟨_, rfl, Kd.R_nil _ _ _ _ _, HB.out⟩
  | true =>
    rw [if_pos rfl] at hH
    obtain ⟨s, h4, h_⟩ := Option.bind_eq_some_iff.1 hH
    clear hH
    have H4 := Aside0.mk h4
    have H := Aside0.mk h_
    clear h4 h_ CS
    obtain ⟨w8, hw8⟩ : ∃ w8, w8 = w6 := ⟨_, rfl⟩
    rw [← hw8] at Ys HB ⊢
    clear hw8
    have U1 : Boxed ((w8.alloc (.cells #[.slice none 0 0] 24)).alloc (.cells #[.int .i64 (-1)] 3)) w8.heap.size 24 (.slice none 0 0) := (boxed_alloc rfl).alloc _
    have U2 : Boxed ((w8.alloc (.cells #[.slice none 0 0] 24)).alloc (.cells #[.int .i64 (-1)] 3)) (w8.heap.size + 1) 3 (.int .i64 (-1)) := boxed_alloc (alloc_size _ _).symm
    have Zs : Boxed ((w8.alloc (.cells #[.slice none 0 0] 24)).alloc (.cells #[.int .i64 (-1)] 3)) (w.heap.size) 38 (.slice A0 l0.length c0) := (Ys.out.alloc _).alloc _
    have cj := Zs.cell
    have hb9 : Below w.heap.size w ((w8.alloc (.cells #[.slice none 0 0] 24)).alloc (.cells #[.int .i64 (-1)] 3)) := below_alloc (below_alloc HB.out _) _
    have HY8 : Aside0 (w.heap.size < w8.heap.size) := ⟨Ys.out.lt⟩
    have c1 := U1.cell
    have f1 := U1.frozen
    have c2 := U2.cell
    have f2 := U2.frozen
    have Z := Aside0.mk (And.intro hb9 (And.intro Zs (And.intro U1 U2)))
    clear U1 U2 Zs hb9
    go_wp2_with (fail)
    have hsz : ((w8.alloc (.cells #[.slice none 0 0] 24)).alloc (.cells #[.int .i64 (-1)] 3)).heap.size = w8.heap.size + 1 + 1 := by rw [alloc_size, alloc_size]
    have HLT : Aside0 (w.heap.size < w8.heap.size ∧ ((w8.alloc (.cells #[.slice none 0 0] 24)).alloc (.cells #[.int .i64 (-1)] 3)).heap.size = w8.heap.size + 1 + 1) := ⟨HY8.out, hsz⟩
    clear hsz
    refine (impl_eachOrder.calls (impl_BestFlow.step l0) 57 ?eg #[.pointer (some ⟨w.heap.size, 0, none⟩), .pointer (some ⟨w8.heap.size + 1, 0, none⟩), .pointer (some ⟨w8.heap.size, 0, none⟩)] ((w8.alloc (.cells #[.slice none 0 0] 24)).alloc (.cells #[.int .i64 (-1)] 3)) (fun hi_ s_ W_ => impl_BestFlow.inv w l0 A0 c0 (w.heap.size) (w8.heap.size + 1) w8.heap.size hi_ s_ W_) k _ ([], -1) s ?init ?move ?step H4.out).mono ?_
    case eg => intro args w; go_simp
    case init =>
      intro W_ hW_
      have hl := HLT.out
      obtain ⟨z1, z2, z3, z4⟩ := Z.out
      exact ⟨z1.trans (hW_.mono (by omega)), (hW_.block _ (by omega)).trans z2, (hW_.block _ (by omega)).trans z4, _, (hW_.block _ (by omega)).trans z3, Kd.R_nil _ _ _ _ _⟩
    case move => intro hi_ s_ W_ W2_ hle_ hi2_ hb_ hk_; exact impl_BestFlow.inv_move hi2_ hb_ (by have := HLT.out; omega) (by have := HLT.out; omega) hk_
    case step => intro hi_ k_ s_ s2_ W_ A_ c_ l_ hle_ hW_ hi2_ hC_ hc_ hs_; exact impl_BestFlow.tell hi2_ HR0.out HC0.out (by have := HLT.out; omega) (by have := HLT.out; omega) hle_ hW_ hC_ hc_ hs_
    rintro e w9 ⟨rfl, hi_, hle_, _, hz⟩
    dsimp only
    obtain ⟨z1, z2, z3, v9, z4, z5⟩ := hz
    obtain ⟨A9, c9, e9⟩ := Kd.R_slice z5
    subst e9
    have cl := z3.cell
    have cf := z4.cell
    have HB9 := Aside0.mk z1
    have HO9 := Aside0.mk (Kd.R_lower (Kd.R_mono z5 (fun _ _ => trivial) (ok' := fun _ => True)) (show w.heap.size ≤ hi_ by have := HLT.out; omega))
    clear z1 z2 z3 z4 z5 Z HLT cj c1 c2 f1 f2 hle_
    obtain ⟨rfl, rfl, rfl⟩ : s.1 = r1 ∧ s.2 = r2 ∧ true = r3 := by simpa using H.out
    go_wp2
    go_region
    all_goals
      go_wp2
      go_ret3
      exact ⟨_, rfl, by (with_reducible repeat (first | apply Kd.R_alloc | apply Kd.R_drewN | apply Kd.R_drew)); exact HO9.out, by repeat (first | exact HB9.out | apply below_alloc | apply pw_below_drewN | apply below_drew1)⟩

end Go.Proofs.Ytafjdcjaigmnaaa.XFnExactBestFlow
