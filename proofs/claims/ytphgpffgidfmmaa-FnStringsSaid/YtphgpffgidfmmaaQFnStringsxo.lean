/- Proved here: what functions that the law FnStrings reaches answer (drawStr). Conditions: those that each theorem names. -/
import Derived.Test.YtphgpffgidfmmaaQFnStringsxe
set_option linter.unusedVariables false
set_option linter.unusedSimpArgs false
namespace Go.Proofs.Ytphgpffgidfmmaa.Pure
open Go.RowKit Go.Proofs.Ytphgpffgidfmmaa.XFnStrings Go.Proofs.YtphgpffgidfmmaaW.PrintWords Go.Proofs.YtphgpffgidfmmaaW.PrintLast

theorem of_ {s : List Int} (hs : ByteL s) (p q : Int) (l : List ByteArray) (hl : 0 < l.length) (hp : 0 ≤ p) (hb : p ≤ 900000000000000) : ∃ v p' q', spec_l1Cur_of.f s p q l = some (v, p', q') ∧ v ∈ l ∧ p ≤ p' ∧ p' ≤ p + 2 := by
  unfold spec_l1Cur_of.f
  obtain ⟨v, p1, q1, e, h0, h1, h2, h3⟩ := pk hs p q (l.length : Int) hp hb
  have h4 := h1 (by omega)
  rw [e, Option.bind_some, if_pos h0, if_pos h4]
  refine ⟨_, _, _, rfl, ?_, h2, h3⟩
  rw [rdOf, List.getD_eq_getElem?_getD, List.getElem?_eq_getElem (by omega)]
  exact List.getElem_mem _
def any1L : List ByteArray := [(⟨#[]⟩ : ByteArray), (⟨#[97]⟩ : ByteArray), (⟨#[97, 44, 98]⟩ : ByteArray), (⟨#[115, 111, 109, 101, 32, 119, 111, 114, 100, 115]⟩ : ByteArray), (⟨#[120, 35, 121]⟩ : ByteArray), (⟨#[45, 49, 50]⟩ : ByteArray), (⟨#[0, 255]⟩ : ByteArray), (⟨#[44, 44]⟩ : ByteArray), (⟨#[48]⟩ : ByteArray)]
theorem any1L_size : ∀ v ∈ any1L, v.size ≤ 10 := by
  intro v h1
  simp only [any1L, List.mem_cons, List.not_mem_nil, or_false] at h1
  rcases h1 with rfl | rfl | rfl | rfl | rfl | rfl | rfl | rfl | rfl <;> decide
theorem any1 {s : List Int} (hs : ByteL s) (p q : Int) (hp : 0 ≤ p) (hb : p ≤ 900000000000000) : ∃ v p' q', spec_l1Cur_any1.f s p q = some (v, p', q') ∧ v.size ≤ 10 ∧ p ≤ p' ∧ p' ≤ p + 2 := by
  obtain ⟨v, p1, q1, e, h1, h2, h3⟩ := of_ hs p q any1L (by simp [any1L]) hp hb
  refine ⟨v, p1, q1, ?_, any1L_size v h1, h2, h3⟩
  show (spec_l1Cur_of.f s p q any1L).bind (fun bt115 => (some (bt115.1, bt115.2.1, bt115.2.2))) = _
  rw [e]; rfl

end Go.Proofs.Ytphgpffgidfmmaa.Pure
