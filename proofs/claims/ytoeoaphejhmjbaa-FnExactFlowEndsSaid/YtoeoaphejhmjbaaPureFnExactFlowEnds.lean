/- Proved here: the statement over numbers and lists alone of the law FnExactFlowEnds, for all its arguments within the bounds that it names. Conditions: those that each theorem names. -/
import Derived.Test.YtoeoaphejhmjbaaQFnExactFlowEndsv
set_option linter.unusedVariables false
set_option linter.unusedSimpArgs false
namespace Go.Proofs.Ytoeoaphejhmjbaa.Pure
open Go.RowKit Go.Proofs.Ytoeoaphejhmjbaa.XFnExactFlowEnds Go.Proofs.YtoeoaphejhmjbaaW.PrintWords Go.Proofs.YtoeoaphejhmjbaaW.PrintLast

theorem FnExactFlowEnds (l0 : List (List Int)) (l1 : List Int) (h0 : l0.length ≤ maxLen ∧ ∀ y ∈ l0, y.length ≤ maxLen ∧ ∀ n ∈ y, (Lit.int .i64 n).wf = true) (h1 : l1.length ≤ maxLen ∧ ∀ x ∈ l1, (Lit.int .i64 x).wf = true) : ∃ k, laws_FnExactFlowEnds.f k l0 l1 = some true := by
  suffices hh : ∃ k, FnExactFlowEnds_ok k l0 l1 from by obtain ⟨k, hk⟩ := hh; exact ⟨k, by unfold laws_FnExactFlowEnds.f; exact if_pos hk⟩
  unfold FnExactFlowEnds_ok
  by_cases hb1 : (l1.length : Int) > 1048576
  · exact ⟨0, Or.inl hb1⟩
  have hs1 : l1.length ≤ 1048576 := by omega
  obtain ⟨n0, hn0, hb0, hz0⟩ := laws_szIntSS.ev l0 1048576 (by omega) (by omega) h0.1 (fun y hy => (h0.2 y hy).1)
  obtain ⟨kn0, hk0⟩ := hn0
  by_cases hm0 : n0 < 0
  · exact ⟨kn0, Or.inr ⟨hb1, ⟨n0, hk0 _ (by omega), Or.inl hm0⟩⟩⟩
  obtain ⟨hs0, hw0⟩ := hz0 (by omega)
  have ht0 := laws_toIntSS.ev l0 (by omega) (fun y hy => by have := hw0 y hy; omega)
  have he0 := laws_eqIntSS.same l0 (by omega) (fun y hy => by have := hw0 y hy; omega)
  have ht1 := laws_toIntS.ev l1 (by omega)
  have he1 := laws_eqIntS.same l1 (by omega)
  obtain ⟨r, b, hsp, him, hr, hv⟩ := core_FlowEnds l0 l1 hs0 hw0 hs1
  have her := laws_eqIntSS.same r (by omega) (fun y hy => by have := hv y hy; omega)
  obtain ⟨m0, x0, hmk0, hma0, hmb0, hmc0⟩ := laws_markIntSS.any l0 1 (by omega) (by omega) hs0 hw0
  obtain ⟨m1, x1, hmk1, hma1, hmb1, hmc1⟩ := laws_markIntS.any l1 m0 (by omega) (by omega) hs1
  obtain ⟨q, g, hg, hh, hgn⟩ := laws_markIntSS.held r hr hv
  obtain ⟨k_ht0, e_ht0⟩ := ht0
  obtain ⟨k_ht1, e_ht1⟩ := ht1
  obtain ⟨k_hsp, e_hsp⟩ := hsp
  obtain ⟨k_him, e_him⟩ := him
  obtain ⟨k_her, e_her⟩ := her
  obtain ⟨k_he0, e_he0⟩ := he0
  obtain ⟨k_he1, e_he1⟩ := he1
  obtain ⟨k_hmk0, e_hmk0⟩ := hmk0
  obtain ⟨k_hmk1, e_hmk1⟩ := hmk1
  obtain ⟨k_hg, e_hg⟩ := hg
  obtain ⟨k_hh, e_hh⟩ := hh
  exact ⟨kn0 + k_ht0 + k_ht1 + k_hsp + k_him + k_her + k_he0 + k_he1 + k_hmk0 + k_hmk1 + k_hg + k_hh, Or.inr ⟨hb1, ⟨n0, hk0 _ (by omega), Or.inr ⟨hm0, r, b, m0, x0, m1, x1, q, g, e_ht0 _ (by omega), e_ht1 _ (by omega), e_hsp _ (by omega), e_him _ (by omega), e_her _ (by omega), e_he0 _ (by omega), e_he1 _ (by omega), e_hmk0 _ (by omega), e_hmk1 _ (by omega), by omega, e_hg _ (by omega), e_hh _ (by omega), by rw [hgn]; exact id⟩⟩⟩⟩

end Go.Proofs.Ytoeoaphejhmjbaa.Pure
