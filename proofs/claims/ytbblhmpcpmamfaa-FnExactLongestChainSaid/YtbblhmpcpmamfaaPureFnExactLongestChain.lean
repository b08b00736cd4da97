/- Proved here: the statement over numbers and lists alone of the law FnExactLongestChain, for all its arguments within the bounds that it names. Conditions: those that each theorem names. -/
import Derived.Test.YtbblhmpcpmamfaaQFnExactLongestChainxc
set_option linter.unusedVariables false
set_option linter.unusedSimpArgs false
namespace Go.Proofs.Ytbblhmpcpmamfaa.Pure
open Go.RowKit Go.Proofs.Ytbblhmpcpmamfaa.XFnExactLongestChain Go.Proofs.YtbblhmpcpmamfaaW.PrintWords Go.Proofs.YtbblhmpcpmamfaaW.PrintLast

theorem FnExactLongestChain (l0 : List LJ) (l1 : List S77) (h0 : l0.length ≤ maxLen ∧ ∀ n ∈ l0, (Lit.int .i64 n.f0).wf = true ∧ (Lit.int .i64 n.f1).wf = true ∧ (Lit.int .i64 n.f2).wf = true ∧ (Lit.int .i64 n.f3).wf = true) (h1 : l1.length ≤ maxLen ∧ ∀ n ∈ l1, (Lit.int .i64 n.f0).wf = true ∧ (Lit.int .i64 n.f1).wf = true) : ∃ k, laws_FnExactLongestChain.f k l0 l1 = some true := by
  suffices hh : ∃ k, FnExactLongestChain_ok k l0 l1 from by obtain ⟨k, hk⟩ := hh; exact ⟨k, by unfold laws_FnExactLongestChain.f; exact if_pos hk⟩
  unfold FnExactLongestChain_ok
  obtain ⟨n0, hn0, hb0, hz0⟩ := laws_szJobS.eq l0 1048576 (by omega) (by omega) (by have := h0.1; unfold maxLen at this; omega)
  by_cases hm0 : n0 < 0
  · exact ⟨0, ⟨n0, hn0, Or.inl hm0⟩⟩
  have hs0 := hz0 (by omega)
  have hc0 : (l0.map cvJ).length ≤ 1048576 := by simpa using hs0
  obtain ⟨n1, hn1, hb1, hz1⟩ := laws_szIntA2S.eq l1 n0 (by omega) (by omega) (by have := h1.1; unfold maxLen at this; omega)
  by_cases hm1 : n1 < 0
  · exact ⟨0, ⟨n0, hn0, Or.inr ⟨hm0, ⟨n1, hn1, Or.inl hm1⟩⟩⟩⟩
  have hs1 := hz1 (by omega)
  have hc1 := hs1
  have ht0 := laws_toJobS.ev l0 (by omega)
  have he0 := laws_eqJobS.same (l0.map cvJ) (by omega)
  have ht1 := laws_toIntA2S.ev l1 (by omega)
  have he1 := laws_eqIntA2S.same l1 (by omega)
  obtain ⟨r, b, hsp, him, hr⟩ := core_LongestChain (l0.map cvJ) l1 hc0 hc1
  have her := laws_eqIntS.same r (by omega)
  obtain ⟨m0, x0, hmk0, hma0, hmb0, hmc0⟩ := laws_markJobS.any (l0.map cvJ) 1 (by omega) (by omega) hc0
  obtain ⟨m1, x1, hmk1, hma1, hmb1, hmc1⟩ := laws_markIntA2S.any l1 m0 (by omega) (by omega) hc1
  obtain ⟨q, g, hg, hh, hgn⟩ := laws_markIntS.held r hr
  obtain ⟨k_ht0, e_ht0⟩ := ht0
  obtain ⟨k_ht1, e_ht1⟩ := ht1
  obtain ⟨k_hsp, e_hsp⟩ := hsp
  obtain ⟨k_him, e_him⟩ := him
  obtain ⟨k_her, e_her⟩ := her
  obtain ⟨k_he0, e_he0⟩ := he0
  obtain ⟨k_he1, e_he1⟩ := he1
  obtain ⟨k_hmk0, e_hmk0⟩ := hmk0
  obtain ⟨k_hmk1, e_hmk1⟩ := hmk1
  obtain ⟨k_hg, e_hg⟩ := hg
  obtain ⟨k_hh, e_hh⟩ := hh
  exact ⟨k_ht0 + k_ht1 + k_hsp + k_him + k_her + k_he0 + k_he1 + k_hmk0 + k_hmk1 + k_hg + k_hh, ⟨n0, hn0, Or.inr ⟨hm0, ⟨n1, hn1, Or.inr ⟨hm1, ⟨r, b, (l0.map cvJ), m0, x0, m1, x1, q, g, e_ht0 _ (by omega), e_ht1 _ (by omega), e_hsp _ (by omega), e_him _ (by omega), e_her _ (by omega), e_he0 _ (by omega), e_he1 _ (by omega), e_hmk0 _ (by omega), e_hmk1 _ (by omega), by omega, e_hg _ (by omega), e_hh _ (by omega), by rw [hgn]; exact id⟩⟩⟩⟩⟩⟩

end Go.Proofs.Ytbblhmpcpmamfaa.Pure
