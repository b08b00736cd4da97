/- Proved here: the given statement of the law FnExactEncodeRecord, for every input (its row, out of its pure theorem and the walk). Conditions: none but those that the statement itself names. -/
import Derived.Test.YtgelmpoaainlfaaRows
import Derived.Test.YtgelmpoaainlfaaXFnExactEncodeRecordx3
import Derived.Test.YtgelmpoaainlfaaPureFnExactEncodeRecord
import Derived.Test.YtgelmpoaainlfaaOpen
import Derived.WalkKit
import Derived.ProofKit
import Derived.OpenShut
import Derived.ShutString
import Derived.ChangeOld
import Derived.Below
import Derived.SizedLaws
namespace Go.Proofs.Ytgelmpoaainlfaa.fnExactEncodeRecord
open Go.ChangeShapes Go.WideShapes Go.ChangeAt Go.RowKit Go.Proofs.Ytgelmpoaainlfaa.Open Go.Proofs.Ytgelmpoaainlfaa.XFnExactEncodeRecord Go.Proofs.YtgelmpoaainlfaaW.PrintWords
open Go.ChangeMaps (open_string shut_string)
set_option linter.unusedVariables false
theorem own : ownKnob Try.prog.godebug = none := by kernel_rfl
theorem laidOut : laidOutB Try.prog = true := by kernel_rfl
set_option maxRecDepth 100000 in
theorem lifted (os : Os) (started : os.Started) (H : Type) (enc : TypeId × Value → H) :
    ReturnsInHanded {} Try.checked os 3 .any (Rows.fnExactEncodeRecordSpec.pre6 enc Try.prog Try.f3 Rows.fnExactEncodeRecordRow.domain false) (Rows.fnExactEncodeRecordSpec.post enc Try.prog Try.f3 false true false false) := by
  refine returnsInHanded_of_change_sized (C := Try.checked) own started (by kernel_rfl) Try.func3
    (ChangeSpec.witness6 (enc := enc) (C := Try.checked) false ⟨#[], #[.int .i64 0, .agg #[.string ByteArray.empty, .string ByteArray.empty]], []⟩ 8 (by kernel_rfl) (by kernel_rfl) (by kernel_rfl) (by kernel_rfl)) ?_
  intro W base args ds gs before hval0 hW hcnd hsz0 _
  have hsz : (DataW.weightsEach Try.prog (Try.f3.params.toList ++ Rows.fnExactEncodeRecordSpec.plain.varTypes Try.prog) (ds ++ gs)).all (· ≤ reachBytes) = true := hsz0
  have hval : ∀ (j : Nat) t v, Try.f3.params[j]? = some t → args[j]? = some v → Value.okWide Try.prog W .any base t v := hval0
  have hW' := hW
  obtain ⟨p, q, hA0, hV, rfl, hfz, hnd⟩ := hW
  have hA : DataW.TrodAll enc Try.prog W 0 (fun _ => true) true Try.f3.params.toList args.toList ds p := hA0
  rw [Try.params3] at hA hval hsz
  obtain ⟨v0, vs0, d0, ds0, p0, q0, hargs, rfl, rfl, h0, r0⟩ := trodAll_cons hA
  obtain ⟨v1, vs1, d1, ds1, p1, q1, rfl, rfl, rfl, h1, r1⟩ := trodAll_cons r0
  obtain ⟨rfl, rfl, rfl⟩ := trodAll_nil r1
  obtain rfl : args = #[v0, v1] := by cases args; simp_all
  obtain ⟨rfl, rfl⟩ := trodVars_none hV
  obtain ⟨a0, rfl, rfl, rfl, w0⟩ := open_int Try.underlying3 (hval 0 3 v0 rfl rfl) h0
  have k1 := h1
  have lt1 : ∀ x ∈ p1, x.block < W.heap.size := by obtain ⟨m, hm⟩ := k1; exact DataW.trod_lt m _ _ _ hm
  obtain ⟨cs1, rfl, hs1⟩ := okWide_struct Try.underlying23 (hval 1 23 v1 rfl rfl)
  obtain ⟨x1, hK1, ok1⟩ := Opens.arg (opens_struct (fun x => x) (fun x => x) (fun _ => rfl) Try.underlying23 (opensF_cons (opens_string Try.underlying9) rfl (by kernel_rfl) (opensF_one (opens_string Try.underlying9) rfl (by kernel_rfl))) (by kernel_rfl)) h1
  obtain ⟨e1_0, f1_0, he1_0, hm1_0, hn1_0⟩ := hK1
  have hq1_0 := hm1_0
  replace hq1_0 : _ = [_] := hq1_0
  have hq1_1 := hn1_0
  replace hq1_1 : _ = [_] := hq1_1
  obtain rfl : cs1 = #[.string x1.1, .string x1.2] := by
    apply Array.toList_inj.1
    refine (show cs1.toList = _ from he1_0).trans ?_
    simp [hq1_0, hq1_1]
  clear hA0 hval0 hsz0 hsz
  obtain ⟨k, hk⟩ := Pure.FnExactEncodeRecord a0 x1.1 x1.2 w0 ok1
  refine (XFnExactEncodeRecord.laws_FnExactEncodeRecord.calls k a0 x1.1 x1.2 true W  hk).mono ?_
  rintro e W' ⟨he, bel0⟩
  have bel : Below W.heap.size W W' := bel0
  subst he
  exact ⟨_, rfl, _, _, _, [], _, [], hW', trodAll_mk1 (shut_bool Try.underlying4 _), (trodAll_cons_mk (shut_int Try.underlying3 w0) (trodAll_cons_mk (Below.trod laidOut (by kernel_rfl) (of_decide_eq_true (by kernel_rfl)) k1 bel lt1) trodAll_mk0)), rfl, bel.frame _, fun h => by cases h⟩
theorem over : Rows.fnExactEncodeRecordRow.holds Try.pinned (OpenSpec.ofChange Rows.fnExactEncodeRecordSpec) :=
  OpenClaim.holds_of_wide 3 Try.f3 rfl rfl rfl rfl rfl rfl rfl ⟨rfl, rfl, rfl, rfl, rfl⟩ rfl rfl rfl rfl rfl (by kernel_rfl) Try.func3 (by kernel_rfl)
    (of_decide_eq_true (by kernel_rfl)) (by unfold Func.isWrapper; first | (rw [if_pos (by decide +kernel)]; kernel_rfl) | (rw [if_neg (by decide +kernel)]; exact ⟨rfl, rfl⟩))
    (fun os started H enc _ => lifted os started H enc)
theorem proved : Rows.FnExactEncodeRecordSaid := over
end Go.Proofs.Ytgelmpoaainlfaa.fnExactEncodeRecord
namespace Go.Proofs.Ytgelmpoaainlfaa
/-- The statement, under a short name, for the claim. -/
theorem fnExactEncodeRecord_holds : Rows.FnExactEncodeRecordSaid := fnExactEncodeRecord.proved
#print axioms fnExactEncodeRecord_holds
end Go.Proofs.Ytgelmpoaainlfaa
