/- Proved here: the statement over numbers and lists alone of the law FnExactEncodeRecord, for all its arguments within the bounds that it names. Conditions: those that each theorem names. -/
import Derived.Test.YtgelmpoaainlfaaQFnExactEncodeRecordr
set_option linter.unusedVariables false
set_option linter.unusedSimpArgs false
namespace Go.Proofs.Ytgelmpoaainlfaa.Pure
open Go.RowKit Go.Proofs.Ytgelmpoaainlfaa.XFnExactEncodeRecord Go.Proofs.YtgelmpoaainlfaaW.PrintWords Go.Proofs.YtgelmpoaainlfaaW.PrintLast

theorem spec_l12Record.ev (c r : ByteArray) (hc : c.size ≤ 1000000000000000) (hr : r.size ≤ 1000000000000000) : EvB (fun k => spec_l12Record.f k c r) (RecordOk c r) := by
  unfold spec_l12Record.f RecordOk
  by_cases h0 : c.toList = ([] : List UInt8)
  · simp only [if_pos h0]
    exact evB_of (fun h => absurd h.1.1 (by rw [(toList_nil_iff c).1 h0]; omega)) (fun _ => Ev.now _)
  · simp only [if_neg h0]
    have hz : c.size ≠ 0 := fun e => h0 ((toList_nil_iff c).2 e)
    have e1 := spec_l12Bytes.ev c 160 hc
    have e2 := spec_l1Stands.ev c 64 hc
    have e3 := spec_l12Bytes.ev r 200 hr
    refine evB_of (fun h => ?_) (fun h => ?_)
    · refine ev_guard' e1 (fun _ => ev_guard' e2 (fun h2 => ?_) (fun _ => ev_bind true (evB_true e3 ⟨h.2.2.2.1, by have := h.2.1; omega⟩) (Ev.now _))) (fun hn => absurd ⟨h.2.2.1, by have := h.1.2; omega⟩ hn)
      obtain ⟨i, hi, hb⟩ := h2
      exact absurd hb (h.2.2.2.2 i hi)
    · refine ev_guard' e1 (fun h1 => ev_guard' e2 (fun _ => Ev.now _) (fun h2 => ev_bind false (evB_false e3 (fun h3 => h ⟨⟨by omega, by have := h1.2; omega⟩, by have := h3.2; omega, h1.1, h3.1, fun j hj hb => h2 ⟨j, hj, hb⟩⟩)) (Ev.now _))) (fun _ => Ev.now _)
theorem line_both (a : Int) (c r : ByteArray) (ha : 0 ≤ a ∧ a ≤ 59) (h : RecordOk c r) : ∃ t : ByteArray, Ev (fun k => spec_l12Line.f k a c r) t ∧ Ev (fun k => impl_EncodeRecord.j0 k a false c r) (t, true) := by
  obtain ⟨n, rfl⟩ : ∃ n : Nat, a = n := ⟨a.toNat, by omega⟩
  have hn := numP_small (n := n) (by omega)
  have hc := h.1.2
  have hr := h.2.1
  have z1 : (numP n ++ (⟨#[32]⟩ : ByteArray)).size = (numP n).size + 1 := by rw [ByteArray.size_append, sz1]
  have z2 : ((numP n ++ (⟨#[32]⟩ : ByteArray)) ++ c).size = (numP n).size + 1 + c.size := by rw [ByteArray.size_append, z1]
  have z3 : (((numP n ++ (⟨#[32]⟩ : ByteArray)) ++ c) ++ (⟨#[64]⟩ : ByteArray)).size = (numP n).size + 1 + c.size + 1 := by rw [ByteArray.size_append, z2, sz1]
  have z4 : ((((numP n ++ (⟨#[32]⟩ : ByteArray)) ++ c) ++ (⟨#[64]⟩ : ByteArray)) ++ r).size = (numP n).size + 1 + c.size + 1 + r.size := by rw [ByteArray.size_append, z3]
  have f32 : Free35 (⟨#[32]⟩ : ByteArray) := by intro x hx; simp only [List.mem_singleton] at hx; subst hx; decide
  have f64 : Free35 (⟨#[64]⟩ : ByteArray) := by intro x hx; simp only [List.mem_singleton] at hx; subst hx; decide
  have fc : Free35 c := free_of_bt (fun j hj => (h.2.2.1 j (Nat.zero_le _) hj).2.2)
  have fr : Free35 r := free_of_bt (fun j hj => (h.2.2.2.1 j (Nat.zero_le _) hj).2.2)
  obtain ⟨t, ht, s1, s2⟩ := seal_both ((((numP n ++ (⟨#[32]⟩ : ByteArray)) ++ c) ++ (⟨#[64]⟩ : ByteArray)) ++ r) (by omega) (free_app (free_app (free_app (free_app (free_num n) f32) fc) f64) fr)
  refine ⟨t ++ (⟨#[10]⟩ : ByteArray), ?_, ?_⟩
  · unfold spec_l12Line.f
    refine ev_bind _ (spec_l1Num.ev n (by omega)) ?_
    simp only [if_pos (show (numP n).size + 1 ≤ 9223372036854775807 by omega), if_pos (show (numP n ++ (⟨#[32]⟩ : ByteArray)).size + c.size ≤ 9223372036854775807 by omega), if_pos (show ((numP n ++ (⟨#[32]⟩ : ByteArray)) ++ c).size + 1 ≤ 9223372036854775807 by omega), if_pos (show (((numP n ++ (⟨#[32]⟩ : ByteArray)) ++ c) ++ (⟨#[64]⟩ : ByteArray)).size + r.size ≤ 9223372036854775807 by omega)]
    refine ev_bind _ s1 ?_
    simp only [if_pos (show t.size + 1 ≤ 9223372036854775807 by omega)]
    exact Ev.now _
  · refine ev_go _ (fun k => by simp only [impl_EncodeRecord.j0, Bool.false_eq_true, if_false]; rfl) ?_
    refine ev_bind _ (impl_text.ev n (by omega)) ?_
    simp only [if_pos (show (numP n).size + 1 ≤ 9223372036854775807 by omega), if_pos (show (numP n ++ (⟨#[32]⟩ : ByteArray)).size + c.size ≤ 9223372036854775807 by omega), if_pos (show ((numP n ++ (⟨#[32]⟩ : ByteArray)) ++ c).size + 1 ≤ 9223372036854775807 by omega), if_pos (show (((numP n ++ (⟨#[32]⟩ : ByteArray)) ++ c) ++ (⟨#[64]⟩ : ByteArray)).size + r.size ≤ 9223372036854775807 by omega)]
    refine ev_bind _ s2 ?_
    simp only [if_pos (show t.size + 1 ≤ 9223372036854775807 by omega)]
    exact Ev.now _
theorem FnExactEncodeRecord (a : Int) (c r : ByteArray) (_ : (Lit.int .i64 a).wf = true) (h : c.size ≤ maxLen ∧ r.size ≤ maxLen) : ∃ k, laws_FnExactEncodeRecord.f k a c r = some true := by
  refine Ev.rounds (g := fun k => laws_FnExactEncodeRecord.f k a c r) ?_
  unfold laws_FnExactEncodeRecord.f
  obtain ⟨n, hn, hs⟩ := laws_szLogRecord.eq c r h.1 h.2
  simp only [hn, Option.bind_some, laws_toLogRecord.f]
  refine ev_ite (fun _ => Ev.now _) (fun h0 => ?_)
  clear h
  obtain ⟨h1, h2⟩ := hs (by omega)
  have core : ∃ t b, Ev (fun k => spec_EncodeRecord.f k a c r) (t, b) ∧ Ev (fun k => impl_EncodeRecord.f k a c r) (t, b) := by
    unfold spec_EncodeRecord.f impl_EncodeRecord.f
    simp only [spec_l1In.eq, impl_within.eq, Option.bind_some]
    have bad : Ev (fun k => impl_EncodeRecord.j0 k a true c r) ((⟨#[]⟩ : ByteArray), false) := ev_stop fun k => by simp only [impl_EncodeRecord.j0]; rfl
    by_cases ha : 0 ≤ a ∧ a ≤ 59
    · simp only [decide_eq_true ha, if_true]
      by_cases h : RecordOk c r
      · obtain ⟨t, s1, s2⟩ := line_both a c r ha h
        exact ⟨t, true, ev_guard' (spec_l12Record.ev c r (by omega) (by omega)) (fun _ => ev_bind t s1 (Ev.now _)) (fun hn => absurd h hn), ev_bind true (evB_true (impl_IsValidRecord.ev c r (by omega) (by omega)) h) s2⟩
      · exact ⟨⟨#[]⟩, false, ev_guard' (spec_l12Record.ev c r (by omega) (by omega)) (fun h3 => absurd h3 h) (fun _ => Ev.now _), ev_bind false (evB_false (impl_IsValidRecord.ev c r (by omega) (by omega)) h) bad⟩
    · simp only [decide_eq_false ha, Bool.false_eq_true, if_false]
      exact ⟨⟨#[]⟩, false, Ev.now _, bad⟩
  obtain ⟨t, b, e1, e2⟩ := core
  refine ev_bind _ e1 (ev_bind _ e2 ?_)
  simp only [if_true, bne_self_eq_false, Bool.false_eq_true, if_false]
  exact Ev.now _

end Go.Proofs.Ytgelmpoaainlfaa.Pure
