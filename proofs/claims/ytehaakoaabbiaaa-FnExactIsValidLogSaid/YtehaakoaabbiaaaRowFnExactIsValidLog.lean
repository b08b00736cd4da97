/- Proved here: the given statement of the law FnExactIsValidLog, for every input (its row, out of its pure theorem and the walk). Conditions: none but those that the statement itself names. -/
import Derived.Test.YtehaakoaabbiaaaRows
import Derived.Test.YtehaakoaabbiaaaXFnExactIsValidLogx5
import Derived.Test.YtehaakoaabbiaaaPureFnExactIsValidLog
import Derived.Test.YtehaakoaabbiaaaOpen
import Derived.WalkKit
import Derived.ProofKit
import Derived.OpenShut
import Derived.ShutString
import Derived.ChangeOld
import Derived.Below
import Derived.SizedLaws
namespace Go.Proofs.Ytehaakoaabbiaaa.fnExactIsValidLog
open Go.ChangeShapes Go.WideShapes Go.ChangeAt Go.RowKit Go.Proofs.Ytehaakoaabbiaaa.Open Go.Proofs.Ytehaakoaabbiaaa.XFnExactIsValidLog Go.Proofs.YtehaakoaabbiaaaW.PrintWords
open Go.ChangeMaps (open_string shut_string)
set_option linter.unusedVariables false
theorem own : ownKnob Try.prog.godebug = none := by kernel_rfl
theorem laidOut : laidOutB Try.prog = true := by kernel_rfl
set_option maxRecDepth 100000 in
theorem lifted (os : Os) (started : os.Started) (H : Type) (enc : TypeId × Value → H) :
    ReturnsInHanded {} Try.checked os 7 .any (Rows.fnExactIsValidLogSpec.pre6 enc Try.prog Try.f7 Rows.fnExactIsValidLogRow.domain false) (Rows.fnExactIsValidLogSpec.post enc Try.prog Try.f7 false true false false) := by
  refine returnsInHanded_of_change_sized (C := Try.checked) own started (by kernel_rfl) Try.func7
    (ChangeSpec.witness6 (enc := enc) (C := Try.checked) false ⟨#[], #[.agg #[.string ByteArray.empty, .string ByteArray.empty, .int .i64 0]], []⟩ 8 (by kernel_rfl) (by kernel_rfl) (by kernel_rfl) (by kernel_rfl)) ?_
  intro W base args ds gs before hval0 hW hcnd hsz0 _
  have hsz : (DataW.weightsEach Try.prog (Try.f7.params.toList ++ Rows.fnExactIsValidLogSpec.plain.varTypes Try.prog) (ds ++ gs)).all (· ≤ reachBytes) = true := hsz0
  have hval : ∀ (j : Nat) t v, Try.f7.params[j]? = some t → args[j]? = some v → Value.okWide Try.prog W .any base t v := hval0
  have hW' := hW
  obtain ⟨p, q, hA0, hV, rfl, hfz, hnd⟩ := hW
  have hA : DataW.TrodAll enc Try.prog W 0 (fun _ => true) true Try.f7.params.toList args.toList ds p := hA0
  rw [Try.params7] at hA hval hsz
  obtain ⟨v0, vs0, d0, ds0, p0, q0, hargs, rfl, rfl, h0, r0⟩ := trodAll_cons hA
  obtain ⟨rfl, rfl, rfl⟩ := trodAll_nil r0
  obtain rfl : args = #[v0] := by cases args; simp_all
  obtain ⟨rfl, rfl⟩ := trodVars_none hV
  have k0 := h0
  have lt0 : ∀ x ∈ p0, x.block < W.heap.size := by obtain ⟨m, hm⟩ := k0; exact DataW.trod_lt m _ _ _ hm
  obtain ⟨cs0, rfl, hs0⟩ := okWide_struct Try.underlying55 (hval 0 55 v0 rfl rfl)
  obtain ⟨x0, hK0, ok0⟩ := Opens.arg (opens_struct (fun x => x) (fun x => x) (fun _ => rfl) Try.underlying55 (opensF_cons (opens_string Try.underlying9) rfl (by kernel_rfl) (opensF_cons (opens_string Try.underlying9) rfl (by kernel_rfl) (opensF_one (opens_int Try.underlying3) rfl (by kernel_rfl)))) (by kernel_rfl)) h0
  obtain ⟨e0_0, f0_0, he0_0, hm0_0, hn0_0⟩ := hK0
  have hq0_0 := hm0_0
  replace hq0_0 : _ = [_] := hq0_0
  obtain ⟨e0_1, f0_1, he0_1, hm0_1, hn0_1⟩ := hn0_0
  have hq0_1 := hm0_1
  replace hq0_1 : _ = [_] := hq0_1
  have hq0_2 := hn0_1
  replace hq0_2 : _ = [_] := hq0_2
  obtain rfl : cs0 = #[.string x0.1, .string x0.2.1, .int .i64 x0.2.2] := by
    apply Array.toList_inj.1
    refine (show cs0.toList = _ from he0_0).trans ?_
    simp [hq0_0, he0_1, hq0_1, hq0_2]
  clear hA0 hval0 hsz0 hsz
  obtain ⟨k, hk⟩ := Pure.FnExactIsValidLog x0.1 x0.2.1 x0.2.2 ok0
  refine (XFnExactIsValidLog.laws_FnExactIsValidLog.calls k x0.1 x0.2.1 x0.2.2 true W  hk).mono ?_
  rintro e W' ⟨he, bel0⟩
  have bel : Below W.heap.size W W' := bel0
  subst he
  exact ⟨_, rfl, _, _, _, [], _, [], hW', trodAll_mk1 (shut_bool Try.underlying4 _), (trodAll_cons_mk (Below.trod laidOut (by kernel_rfl) (of_decide_eq_true (by kernel_rfl)) k0 bel lt0) trodAll_mk0), rfl, bel.frame _, fun h => by cases h⟩
theorem over : Rows.fnExactIsValidLogRow.holds Try.pinned (OpenSpec.ofChange Rows.fnExactIsValidLogSpec) :=
  OpenClaim.holds_of_wide 7 Try.f7 rfl rfl rfl rfl rfl rfl rfl ⟨rfl, rfl, rfl, rfl, rfl⟩ rfl rfl rfl rfl rfl (by kernel_rfl) Try.func7 (by kernel_rfl)
    (of_decide_eq_true (by kernel_rfl)) (by unfold Func.isWrapper; first | (rw [if_pos (by decide +kernel)]; kernel_rfl) | (rw [if_neg (by decide +kernel)]; exact ⟨rfl, rfl⟩))
    (fun os started H enc _ => lifted os started H enc)
theorem proved : Rows.FnExactIsValidLogSaid := over
end Go.Proofs.Ytehaakoaabbiaaa.fnExactIsValidLog
namespace Go.Proofs.Ytehaakoaabbiaaa
/-- The statement, under a short name, for the claim. -/
theorem fnExactIsValidLog_holds : Rows.FnExactIsValidLogSaid := fnExactIsValidLog.proved
#print axioms fnExactIsValidLog_holds
end Go.Proofs.Ytehaakoaabbiaaa
