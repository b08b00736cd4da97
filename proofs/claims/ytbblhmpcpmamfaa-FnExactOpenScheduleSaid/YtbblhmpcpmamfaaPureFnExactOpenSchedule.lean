/- Proved here: the statement over numbers and lists alone of the law FnExactOpenSchedule, for all its arguments within the bounds that it names. Conditions: those that each theorem names. -/
import Derived.Test.YtbblhmpcpmamfaaQFnExactOpenSchedulexs
set_option linter.unusedVariables false
set_option linter.unusedSimpArgs false
namespace Go.Proofs.Ytbblhmpcpmamfaa.Pure
open Go.RowKit Go.Proofs.Ytbblhmpcpmamfaa.XFnExactOpenSchedule Go.Proofs.YtbblhmpcpmamfaaW.PrintWords Go.Proofs.YtbblhmpcpmamfaaW.PrintLast

theorem FnExactOpenSchedule (l0 : List (List Int)) (h0 : l0.length ≤ maxLen ∧ ∀ y ∈ l0, y.length ≤ maxLen ∧ ∀ n ∈ y, (Lit.int .i64 n).wf = true) : ∃ k, laws_FnExactOpenSchedule.f k l0 = some true := by
  suffices hh : ∃ k, FnExactOpenSchedule_ok k l0 from by obtain ⟨k, hk⟩ := hh; exact ⟨k, by unfold laws_FnExactOpenSchedule.f; exact if_pos hk⟩
  unfold FnExactOpenSchedule_ok
  obtain ⟨n0, hn0, hb0, hz0⟩ := laws_szIntSS.ev l0 1048576 (by omega) (by omega) h0.1 (fun y hy => (h0.2 y hy).1)
  obtain ⟨kn0, hk0⟩ := hn0
  by_cases hm0 : n0 < 0
  · exact ⟨kn0 + 0, ⟨n0, hk0 _ (by omega), Or.inl hm0⟩⟩
  obtain ⟨hs0, hw0⟩ := hz0 (by omega)
  have hc0 := hs0
  have hv0 := hw0
  have ht0 := laws_toIntSS.ev l0 (by omega) (fun y hy => by have := hw0 y hy; omega)
  have he0 := laws_eqIntSS.same l0 (by omega) (fun y hy => by have := hv0 y hy; omega)
  obtain ⟨r, b, hsp, him, hr, hv⟩ := core_OpenSchedule l0 hc0 hv0
  have her := laws_eqIntSS.same r (by omega) (fun y hy => by have := hv y hy; omega)
  obtain ⟨m0, x0, hmk0, hma0, hmb0, hmc0⟩ := laws_markIntSS.any l0 1 (by omega) (by omega) hc0 hv0
  obtain ⟨q, g, hg, hh, hgn⟩ := laws_markIntSS.held r hr hv
  obtain ⟨k_ht0, e_ht0⟩ := ht0
  obtain ⟨k_hsp, e_hsp⟩ := hsp
  obtain ⟨k_him, e_him⟩ := him
  obtain ⟨k_her, e_her⟩ := her
  obtain ⟨k_he0, e_he0⟩ := he0
  obtain ⟨k_hmk0, e_hmk0⟩ := hmk0
  obtain ⟨k_hg, e_hg⟩ := hg
  obtain ⟨k_hh, e_hh⟩ := hh
  exact ⟨kn0 + k_ht0 + k_hsp + k_him + k_her + k_he0 + k_hmk0 + k_hg + k_hh, ⟨n0, hk0 _ (by omega), Or.inr ⟨hm0, ⟨r, b, m0, x0, q, g, e_ht0 _ (by omega), e_hsp _ (by omega), e_him _ (by omega), e_her _ (by omega), e_he0 _ (by omega), e_hmk0 _ (by omega), by omega, e_hg _ (by omega), e_hh _ (by omega), by rw [hgn]; exact id⟩⟩⟩⟩

end Go.Proofs.Ytbblhmpcpmamfaa.Pure
