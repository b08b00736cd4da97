/- Proved here: the given statement of the law FnExactIsJobShop, for every input (its row, out of its pure theorem and the walk). Conditions: none but those that the statement itself names. -/
import Derived.Test.YtgelmpoaainlfaaRows
import Derived.Test.YtgelmpoaainlfaaXFnExactIsJobShopx5
import Derived.Test.YtgelmpoaainlfaaPureFnExactIsJobShop
import Derived.Test.YtgelmpoaainlfaaOpen
import Derived.WalkKit
import Derived.ProofKit
import Derived.OpenShut
import Derived.ShutString
import Derived.ChangeOld
import Derived.Below
import Derived.SizedLaws
namespace Go.Proofs.Ytgelmpoaainlfaa.fnExactIsJobShop
open Go.ChangeShapes Go.WideShapes Go.ChangeAt Go.RowKit Go.Proofs.Ytgelmpoaainlfaa.Open Go.Proofs.Ytgelmpoaainlfaa.XFnExactIsJobShop Go.Proofs.YtgelmpoaainlfaaW.PrintWords
open Go.ChangeMaps (open_string shut_string)
set_option linter.unusedVariables false
theorem own : ownKnob Try.prog.godebug = none := by kernel_rfl
theorem laidOut : laidOutB Try.prog = true := by kernel_rfl
def ok160 (y : S160) : Prop := (OkInt .i64) y.f0 ∧ (OkInt .i64) y.f1
theorem open160 : Opens Try.prog 160 k160 ok160 :=
  opens_struct (fun x : S160 => (x.f0, x.f1)) (fun p => (⟨p.1, p.2⟩ : S160)) (fun _ => rfl) Try.underlying160 (opensF_cons (opens_int Try.underlying3) rfl (by kernel_rfl) (opensF_one (opens_int Try.underlying3) rfl (by kernel_rfl))) (by kernel_rfl)
set_option maxRecDepth 100000 in
theorem lifted (os : Os) (started : os.Started) (H : Type) (enc : TypeId × Value → H) :
    ReturnsInHanded {} Try.checked os 6 .any (Rows.fnExactIsJobShopSpec.pre6 enc Try.prog Try.f6 Rows.fnExactIsJobShopRow.domain false) (Rows.fnExactIsJobShopSpec.post enc Try.prog Try.f6 false true false false) := by
  refine returnsInHanded_of_change_sized (C := Try.checked) own started (by kernel_rfl) Try.func6
    (ChangeSpec.witness6 (enc := enc) (C := Try.checked) false ⟨#[], #[.agg #[.int .i64 0, .slice none 0 0]], []⟩ 8 (by kernel_rfl) (by kernel_rfl) (by kernel_rfl) (by kernel_rfl)) ?_
  intro W base args ds gs before hval0 hW hcnd hsz0 _
  have hsz : (DataW.weightsEach Try.prog (Try.f6.params.toList ++ Rows.fnExactIsJobShopSpec.plain.varTypes Try.prog) (ds ++ gs)).all (· ≤ reachBytes) = true := hsz0
  have hval : ∀ (j : Nat) t v, Try.f6.params[j]? = some t → args[j]? = some v → Value.okWide Try.prog W .any base t v := hval0
  have hW' := hW
  obtain ⟨p, q, hA0, hV, rfl, hfz, hnd⟩ := hW
  have hA : DataW.TrodAll enc Try.prog W 0 (fun _ => true) true Try.f6.params.toList args.toList ds p := hA0
  rw [Try.params6] at hA hval hsz
  obtain ⟨v0, vs0, d0, ds0, p0, q0, hargs, rfl, rfl, h0, r0⟩ := trodAll_cons hA
  obtain ⟨rfl, rfl, rfl⟩ := trodAll_nil r0
  obtain rfl : args = #[v0] := by cases args; simp_all
  obtain ⟨rfl, rfl⟩ := trodVars_none hV
  have k0 := h0
  have lt0 : ∀ x ∈ p0, x.block < W.heap.size := by obtain ⟨m, hm⟩ := k0; exact DataW.trod_lt m _ _ _ hm
  obtain ⟨cs0, rfl, hs0⟩ := okWide_struct Try.underlying65 (hval 0 65 v0 rfl rfl)
  obtain ⟨x0, hK0, ok0⟩ := Opens.arg (opens_struct (fun x => x) (fun x => x) (fun _ => rfl) Try.underlying65 (opensF_cons (opens_int Try.underlying3) rfl (by kernel_rfl) (opensF_one (opens_slice [] Try.underlying63 (opens_slice z160 Try.underlying150 open160 (by kernel_rfl)) (by kernel_rfl)) rfl (by kernel_rfl))) (by kernel_rfl)) h0
  obtain ⟨e0_0, f0_0, he0_0, hm0_0, hn0_0⟩ := hK0
  have hq0_0 := hm0_0
  replace hq0_0 : _ = [_] := hq0_0
  obtain ⟨B0_1, c0_1, hq0_1, hc0_1, hr0_1⟩ := hn0_0
  obtain rfl : cs0 = #[.int .i64 x0.1, .slice B0_1 x0.2.length c0_1] := by
    apply Array.toList_inj.1
    refine (show cs0.toList = _ from he0_0).trans ?_
    simp [hq0_0, hq0_1]
  clear hA0 hval0 hsz0 hsz
  obtain ⟨k, hk⟩ := Pure.FnExactIsJobShop x0.1 x0.2 ok0
  refine (XFnExactIsJobShop.laws_FnExactIsJobShop.calls k x0.1 _ _ x0.2 true W hr0_1 hc0_1 hk).mono ?_
  rintro e W' ⟨he, bel0⟩
  have bel : Below W.heap.size W W' := bel0
  subst he
  exact ⟨_, rfl, _, _, _, [], _, [], hW', trodAll_mk1 (shut_bool Try.underlying4 _), (trodAll_cons_mk (Below.trod laidOut (by kernel_rfl) (of_decide_eq_true (by kernel_rfl)) k0 bel lt0) trodAll_mk0), rfl, bel.frame _, fun h => by cases h⟩
theorem over : Rows.fnExactIsJobShopRow.holds Try.pinned (OpenSpec.ofChange Rows.fnExactIsJobShopSpec) :=
  OpenClaim.holds_of_wide 6 Try.f6 rfl rfl rfl rfl rfl rfl rfl ⟨rfl, rfl, rfl, rfl, rfl⟩ rfl rfl rfl rfl rfl (by kernel_rfl) Try.func6 (by kernel_rfl)
    (of_decide_eq_true (by kernel_rfl)) (by unfold Func.isWrapper; first | (rw [if_pos (by decide +kernel)]; kernel_rfl) | (rw [if_neg (by decide +kernel)]; exact ⟨rfl, rfl⟩))
    (fun os started H enc _ => lifted os started H enc)
theorem proved : Rows.FnExactIsJobShopSaid := over
end Go.Proofs.Ytgelmpoaainlfaa.fnExactIsJobShop
namespace Go.Proofs.Ytgelmpoaainlfaa
/-- The statement, under a short name, for the claim. -/
theorem fnExactIsJobShop_holds : Rows.FnExactIsJobShopSaid := fnExactIsJobShop.proved
#print axioms fnExactIsJobShop_holds
end Go.Proofs.Ytgelmpoaainlfaa
