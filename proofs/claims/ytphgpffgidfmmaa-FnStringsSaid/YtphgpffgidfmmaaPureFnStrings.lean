/- Proved here: the statement over numbers and lists alone of the law FnStrings, for all its arguments within the bounds that it names. Conditions: those that each theorem names. -/
import Derived.Test.YtphgpffgidfmmaaQFnStringsxq
set_option linter.unusedVariables false
set_option linter.unusedSimpArgs false
namespace Go.Proofs.Ytphgpffgidfmmaa.Pure
open Go.RowKit Go.Proofs.Ytphgpffgidfmmaa.XFnStrings Go.Proofs.YtphgpffgidfmmaaW.PrintWords Go.Proofs.YtphgpffgidfmmaaW.PrintLast

theorem vAt_ev {l0 : List Int} (hs : ByteL l0) (hb : l0.length ≤ 65536) (j : Int) (hj : 0 ≤ j ∧ j ≤ 100) : ∃ a, laws_vAt.f l0 j = some a ∧ 0 ≤ a ∧ a ≤ 255 := by
  unfold laws_vAt.f
  by_cases c : j < (l0.length : Int)
  · rw [if_pos c, if_pos hj.1]
    have hm : rd l0 j ∈ l0 := by
      rw [rd, List.getD_eq_getElem?_getD, List.getElem?_eq_getElem (by omega)]
      exact List.getElem_mem _
    have hx := byte_in (hs _ hm)
    exact ⟨_, rfl, by rw [wr (by omega) (by omega)]; omega, by rw [wr (by omega) (by omega)]; omega⟩
  · rw [if_neg c, wr (x := j * 7) (by omega) (by omega), wr (by omega) (by omega), Int.tmod_eq_emod_of_nonneg (by omega)]
    exact ⟨_, rfl, by omega, by omega⟩
theorem draw_n {s : List Int} (hs : ByteL s) : ∃ n, spec_DrawFormatInt.f s = some n := by
  unfold spec_DrawFormatInt.f
  obtain ⟨v, p1, q1, e1, _, _, h2, h3⟩ := pk hs 0 0 1000 (by omega) (by omega)
  rw [e1, Option.bind_some]
  obtain ⟨u, p2, q2, e2, _⟩ := am hs p1 q1 ([0, 1, (-1), 10, 999999, (-999999), 1000000, (-1000000), wrap64 (v - 500)] : List Int) (by simp) (by omega) (by omega)
  simp only []
  rw [e2, Option.bind_some]
  exact ⟨u, rfl⟩
theorem draw_t {s : List Int} (hs : ByteL s) : ∃ t, Ev (fun k => spec_DrawParseInt.f k s) t ∧ t.size ≤ 100 := by
  unfold spec_DrawParseInt.f
  obtain ⟨b, p1, q1, e1, h1, h2⟩ := on hs 0 0 2 (by omega) (by omega)
  simp only [e1, Option.bind_some]
  cases b with
  | true =>
    simp only [if_true]
    obtain ⟨u, p2, q2, e2, hm, _⟩ := of_ hs p1 q1 (([(⟨#[]⟩ : ByteArray), (⟨#[45]⟩ : ByteArray), (⟨#[45, 48]⟩ : ByteArray), (⟨#[48, 48]⟩ : ByteArray), (⟨#[48, 49]⟩ : ByteArray), (⟨#[45, 45, 49]⟩ : ByteArray), (⟨#[49, 120]⟩ : ByteArray), (⟨#[57, 57, 57, 57, 57, 57]⟩ : ByteArray), (⟨#[49, 48, 48, 48, 48, 48, 48]⟩ : ByteArray), (⟨#[45, 57, 57, 57, 57, 57, 57]⟩ : ByteArray), (⟨#[49, 56, 52, 52, 54, 55, 52, 52, 48, 55, 51, 55, 48, 57, 53, 53, 49, 54, 49, 55]⟩ : ByteArray)] : List ByteArray)) (by simp) (by omega) (by omega)
    simp only [e2, Option.bind_some]
    refine ⟨u, Ev.now _, ?_⟩
    simp only [List.mem_cons, List.not_mem_nil, or_false] at hm
    rcases hm with rfl | rfl | rfl | rfl | rfl | rfl | rfl | rfl | rfl | rfl | rfl <;> decide
  | false =>
    simp only [Bool.false_eq_true, if_false]
    obtain ⟨v, p2, q2, e2, h3, h4, _⟩ := pk hs p1 q1 2000 (by omega) (by omega)
    have h4 := h4 (by omega)
    simp only [e2, Option.bind_some]
    rw [wr (x := v - 1000) (by omega) (by omega)]
    have hsz : (textR (v - 1000)).size ≤ 100 := by
      unfold textR negT
      have := numP_small (n := (v - 1000).natAbs) (by omega)
      have h0 := numP_small (n := 0) (by omega)
      split
      · split
        · omega
        · rw [ByteArray.size_append, sz45]; omega
      · omega
    exact ⟨_, ev_bind _ (spec_l1Num.all (v - 1000) (by omega)) (Ev.now _), hsz⟩
theorem draw_x {s : List Int} (hs : ByteL s) : ∃ x, spec_DrawAppendChecksum.f s = some x ∧ x.size ≤ 100000 := by
  unfold spec_DrawAppendChecksum.f
  obtain ⟨b, p1, q1, e1, h1, h2⟩ := on hs 0 0 20 (by omega) (by omega)
  simp only [e1, Option.bind_some]
  cases b with
  | true =>
    simp only [if_true]
    obtain ⟨v, p2, q2, e2, h3, h4, _⟩ := pk hs p1 q1 10 (by omega) (by omega)
    have h4 := h4 (by omega)
    simp only [e2, Option.bind_some]
    rw [wr (x := 3990 + v) (by omega) (by omega), if_pos (by omega), if_pos (by omega)]
    exact ⟨_, rfl, by rw [strOfNums_size, List.length_replicate]; omega⟩
  | false =>
    simp only [Bool.false_eq_true, if_false]
    obtain ⟨v, p2, q2, e2, h3, _⟩ := any1 hs p1 q1 (by omega) (by omega)
    simp only [e2, Option.bind_some]
    exact ⟨v, rfl, by omega⟩
theorem FnStrings (l0 : List Int) (h0 : l0.length ≤ maxLen ∧ ∀ x ∈ l0, (Lit.int .u8 x).wf = true) : ∃ k, laws_FnStrings.f k l0 = some true := by
  have hbytes : ByteL l0 := h0.2
  refine Ev.rounds (g := fun k => laws_FnStrings.f k l0) ?_
  unfold laws_FnStrings.f laws_vBig.f
  simp only [Option.bind_some]
  by_cases hbig : (l0.length : Int) > 65536
  · simp only [if_pos (decide_eq_true hbig)]; exact Ev.now _
  simp only [if_neg (show ¬ decide ((l0.length : Int) > 65536) = true by simpa using hbig)]
  obtain ⟨n, en⟩ := draw_n hbytes
  obtain ⟨t, et, ht⟩ := draw_t hbytes
  obtain ⟨x, ex, hx⟩ := draw_x hbytes
  obtain ⟨y, sealed_, ey, ey2, hs1, hs2, hs3⟩ := append_both x (by omega)
  have hf := format_both n
  simp only [en, ex, Option.bind_some]
  refine ev_bind _ hf.1 (ev_bind _ hf.2 (ev_bind _ et (ev_bind _ (impl_ParseInt.ev t) (ev_bind (parseR t) ?_ (ev_bind _ ey (ev_bind _ ey2 ?_))))))
  · unfold spec_ParseInt.f
    exact ev_bind _ (spec_l1Read.ev t (by omega)) (Ev.now _)
  · simp only [if_pos (show formatR n = formatR n ∧ parseR t = parseR t ∧ (y, sealed_) = (y, sealed_) from ⟨rfl, rfl, rfl⟩)]
    unfold laws_FnStrings.mid
    refine ev_bind _ (impl_ParseInt.ev _) ?_
    have hback : (formatR n).2 = true → parseR (formatR n).1 = (n, true) := fun h => by
      unfold formatR at h ⊢
      by_cases c : -999999 ≤ n ∧ n ≤ 999999
      · rw [if_pos c]; exact parse_text n c
      · rw [if_neg c] at h; cases h
    simp only [if_pos hback]
    cases sealed_ with
    | false =>
      have := hs3 rfl
      show Ev (fun _ => if false = true then _ else if y = ⟨#[]⟩ then some true else none) true
      simp only [Bool.false_eq_true, if_false, if_pos this]
      exact Ev.now _
    | true =>
      have hS := hs1.1 rfl
      have hy := hs2 rfl
      subst hy
      simp only [if_true]
      unfold laws_FnStrings.tail
      obtain ⟨z, b, ev1, _, hv⟩ := verify_ev (sealT x)
      obtain ⟨hz, hb⟩ := hv x hS rfl (seal_head x hS.2.1)
      subst hz
      subst hb
      obtain ⟨a, ea, ha⟩ := vAt_ev hbytes (by omega) 9 (by omega)
      obtain ⟨c, ec, hc⟩ := vAt_ev hbytes (by omega) 10 (by omega)
      have hsz := sealT_size z
      have hs4 := hS.2.2
      refine ev_bind _ ev1 ?_
      simp only [ea, ec, Option.bind_some, true_and]
      simp only [if_pos (show 0 < (sealT z).size ∧ (sealT z).size ≤ 1048576 ∧ (0 ≤ a ∧ a ≤ 1048576) ∧ (0 ≤ c ∧ c ≤ 1048576) from ⟨by omega, by omega, by omega, by omega⟩)]
      obtain ⟨ix, hix⟩ : ∃ i, i = Int.tmod a ((sealT z).size : Int) := ⟨_, rfl⟩
      have hix2 : 0 ≤ ix ∧ ix < ((sealT z).size : Int) := by rw [hix]; exact ⟨Int.tmod_nonneg _ ha.1, Int.tmod_lt_of_pos _ (by omega)⟩
      obtain ⟨v, hv⟩ : ∃ v, v = IntKind.u8.wrap (1 + Int.tmod c 255) := ⟨_, rfl⟩
      have hv2 : 0 < v ∧ v < 256 := by
        rw [hv, u8_wrap, Int.tmod_eq_emod_of_nonneg hc.1]
        omega
      rw [← hix, ← hv]
      obtain ⟨z2, b2, ev2, hb2, _⟩ := verify_ev (flipAt (sealT z) ix v)
      obtain ⟨d1, d2⟩ := flip_ne (sealT z) ix v hix2 hv2
      have : b2 = false := by
        cases b2 with
        | false => rfl
        | true =>
          obtain ⟨u, hu, e⟩ := hb2 rfl
          rw [e] at d1 d2
          exact (seal_diff hS.2.1 hu.2.1 d1 d2).elim
      subst this
      exact ev_bind _ ev2 (Ev.now _)

end Go.Proofs.Ytphgpffgidfmmaa.Pure
