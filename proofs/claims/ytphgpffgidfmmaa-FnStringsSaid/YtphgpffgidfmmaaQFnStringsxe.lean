/- Proved here: what functions that the law FnStrings reaches answer (drawT, spec_l1Cur_next, spec_l1Cur_pick, spec_l1Cur_one, spec_l1Cur_among). Conditions: those that each theorem names. -/
import Derived.Test.YtphgpffgidfmmaaQFnStringsu
set_option linter.unusedVariables false
set_option linter.unusedSimpArgs false
namespace Go.Proofs.Ytphgpffgidfmmaa.Pure
open Go.RowKit Go.Proofs.Ytphgpffgidfmmaa.XFnStrings Go.Proofs.YtphgpffgidfmmaaW.PrintWords Go.Proofs.YtphgpffgidfmmaaW.PrintLast

/-- The bytes of a draw. -/
def ByteL (s : List Int) : Prop := ∀ x ∈ s, (Lit.int .u8 x).wf = true
theorem byte_in {x : Int} (h : (Lit.int .u8 x).wf = true) : 0 ≤ x ∧ x ≤ 255 := by
  simp [Lit.wf, IntKind.min, IntKind.max, IntKind.signed, IntKind.bits] at h
  omega
theorem u64_range (n : Int) : 0 ≤ IntKind.u64.wrap n ∧ IntKind.u64.wrap n < 18446744073709551616 := by
  have : IntKind.u64.wrap n = n % 18446744073709551616 := by simp [IntKind.wrap, IntKind.bits, IntKind.signed]
  rw [this]; omega
theorem u64_small (n : Int) (h0 : 0 ≤ n) (h1 : n < 2 ^ 24) : IntKind.u64.wrap n = n := by
  have : IntKind.u64.wrap n = n % 18446744073709551616 := by simp [IntKind.wrap, IntKind.bits, IntKind.signed]
  rw [this]; omega
theorem u64_byte (n : Int) : 0 ≤ wrap64 (Go.bits .and .u64 (IntKind.u64.wrap n / 1099511627776) 255) ∧ wrap64 (Go.bits .and .u64 (IntKind.u64.wrap n / 1099511627776) 255) ≤ 255 := by
  have hr := u64_range n
  have h := bits_mask .u64 24 (by decide) u64_small 8 (by decide) (IntKind.u64.wrap n / 1099511627776) (by omega) (by omega)
  have h2 : Go.bits .and .u64 (IntKind.u64.wrap n / 1099511627776) 255 = IntKind.u64.wrap n / 1099511627776 % 256 := by simpa using h
  rw [h2, wr (by omega) (by omega)]
  omega

theorem nx {s : List Int} (hs : ByteL s) (p q : Int) (hp : 0 ≤ p) (hb : p ≤ 1000000000000000) : ∃ v q', spec_l1Cur_next.f s p q = some (v, p + 1, q') ∧ 0 ≤ v ∧ v ≤ 255 := by
  unfold spec_l1Cur_next.f
  have w : wrap64 (p + 1) = p + 1 := wr (by omega) (by omega)
  rw [w]
  by_cases c1 : p < (s.length : Int)
  · rw [if_pos c1, if_pos hp, if_pos (by omega)]
    have hm : rd s p ∈ s := by
      rw [rd, List.getD_eq_getElem?_getD, List.getElem?_eq_getElem (by omega)]
      exact List.getElem_mem _
    have hx := byte_in (hs _ hm)
    exact ⟨_, _, rfl, by rw [wr (by omega) (by omega)]; omega, by rw [wr (by omega) (by omega)]; omega⟩
  · rw [if_neg c1, if_neg (by omega)]
    exact ⟨_, _, rfl, (u64_byte _).1, (u64_byte _).2⟩

theorem pk {s : List Int} (hs : ByteL s) (p q a : Int) (hp : 0 ≤ p) (hb : p ≤ 900000000000000) : ∃ v p' q', spec_l1Cur_pick.f s p q a = some (v, p', q') ∧ 0 ≤ v ∧ (1 ≤ a → v < a) ∧ p ≤ p' ∧ p' ≤ p + 2 := by
  unfold spec_l1Cur_pick.f
  by_cases h1 : a ≤ 1
  · rw [if_pos h1]
    exact ⟨0, p, q, rfl, by omega, by omega, by omega, by omega⟩
  · rw [if_neg h1]
    obtain ⟨v, q1, e1, hv0, hv1⟩ := nx hs p q hp (by omega)
    rw [e1, Option.bind_some]
    by_cases h2 : a > 200
    · rw [if_pos h2]
      obtain ⟨u, q2, e2, hu0, hu1⟩ := nx hs (p + 1) q1 (by omega) (by omega)
      rw [e2, Option.bind_some, if_neg (by omega)]
      have hw : wrap64 (wrap64 (v * 256) + u) = v * 256 + u := by rw [wr (x := v * 256) (by omega) (by omega), wr (by omega) (by omega)]
      refine ⟨_, _, _, rfl, ?_, fun _ => ?_, by show p ≤ p + 1 + 1; omega, by show p + 1 + 1 ≤ p + 2; omega⟩
      · rw [hw]; exact Int.tmod_nonneg _ (by omega)
      · rw [hw]; exact Int.tmod_lt_of_pos _ (by omega)
    · rw [if_neg h2, if_neg (by omega)]
      exact ⟨_, _, _, rfl, Int.tmod_nonneg _ hv0, fun _ => Int.tmod_lt_of_pos _ (by omega), by show p ≤ p + 1; omega, by show p + 1 ≤ p + 2; omega⟩

theorem on {s : List Int} (hs : ByteL s) (p q a : Int) (hp : 0 ≤ p) (hb : p ≤ 900000000000000) : ∃ b p' q', spec_l1Cur_one.f s p q a = some (b, p', q') ∧ p ≤ p' ∧ p' ≤ p + 2 := by
  unfold spec_l1Cur_one.f
  obtain ⟨v, p1, q1, e, _, _, h1, h2⟩ := pk hs p q a hp hb
  rw [e, Option.bind_some]
  exact ⟨_, _, _, rfl, h1, h2⟩

theorem am {s : List Int} (hs : ByteL s) (p q : Int) (l : List Int) (hl : 0 < l.length) (hp : 0 ≤ p) (hb : p ≤ 900000000000000) : ∃ v p' q', spec_l1Cur_among.f s p q l = some (v, p', q') ∧ v ∈ l ∧ p ≤ p' ∧ p' ≤ p + 2 := by
  unfold spec_l1Cur_among.f
  obtain ⟨v, p1, q1, e, h0, h3, h1, h2⟩ := pk hs p q (l.length : Int) hp hb
  have h4 := h3 (by omega)
  rw [e, Option.bind_some, if_pos h0, if_pos h4]
  refine ⟨_, _, _, rfl, ?_, h1, h2⟩
  show rd l v ∈ l
  rw [rd, List.getD_eq_getElem?_getD, List.getElem?_eq_getElem (by omega)]
  exact List.getElem_mem _

end Go.Proofs.Ytphgpffgidfmmaa.Pure
