/- Proved here: the given statement of the law FnExactIsDispatcher, for every input (its row, out of its pure theorem and the walk). Conditions: none but those that the statement itself names. -/
import Derived.Test.YtehaakoaabbiaaaRows
import Derived.Test.YtehaakoaabbiaaaXFnExactIsDispatcherx7
import Derived.Test.YtehaakoaabbiaaaPureFnExactIsDispatcher
import Derived.Test.YtehaakoaabbiaaaOpen
import Derived.WalkKit
import Derived.ProofKit
import Derived.OpenShut
import Derived.ShutString
import Derived.ChangeOld
import Derived.Below
import Derived.SizedLaws
namespace Go.Proofs.Ytehaakoaabbiaaa.fnExactIsDispatcher
open Go.ChangeShapes Go.WideShapes Go.ChangeAt Go.RowKit Go.Proofs.Ytehaakoaabbiaaa.Open Go.Proofs.Ytehaakoaabbiaaa.XFnExactIsDispatcher Go.Proofs.YtehaakoaabbiaaaW.PrintWords
open Go.ChangeMaps (open_string shut_string)
set_option linter.unusedVariables false
theorem own : ownKnob Try.prog.godebug = none := by kernel_rfl
theorem laidOut : laidOutB Try.prog = true := by kernel_rfl
def ok75 (y : S75) : Prop := (OkInt .i64) y.f0 ∧ (OkInt .i64) y.f1 ∧ (OkInt .i64) y.f2 ∧ (OkInt .i64) y.f3
theorem open75 : Opens Try.prog 75 k75 ok75 :=
  opens_struct (fun x : S75 => (x.f0, x.f1, x.f2, x.f3)) (fun p => (⟨p.1, p.2.1, p.2.2.1, p.2.2.2⟩ : S75)) (fun _ => rfl) Try.underlying75 (opensF_cons (opens_int Try.underlying3) rfl (by kernel_rfl) (opensF_cons (opens_int Try.underlying3) rfl (by kernel_rfl) (opensF_cons (opens_int Try.underlying3) rfl (by kernel_rfl) (opensF_one (opens_int Try.underlying3) rfl (by kernel_rfl))))) (by kernel_rfl)
def ok84 (y : S84) : Prop := (OkInt .i64) y.f0 ∧ (OkInt .i64) y.f1 ∧ (OkInt .i64) y.f2
theorem open84 : Opens Try.prog 84 k84 ok84 :=
  opens_struct (fun x : S84 => (x.f0, x.f1, x.f2)) (fun p => (⟨p.1, p.2.1, p.2.2⟩ : S84)) (fun _ => rfl) Try.underlying84 (opensF_cons (opens_int Try.underlying3) rfl (by kernel_rfl) (opensF_cons (opens_int Try.underlying3) rfl (by kernel_rfl) (opensF_one (opens_int Try.underlying3) rfl (by kernel_rfl)))) (by kernel_rfl)
set_option maxRecDepth 100000 in
theorem lifted (os : Os) (started : os.Started) (H : Type) (enc : TypeId × Value → H) :
    ReturnsInHanded {} Try.checked os 3 .any (Rows.fnExactIsDispatcherSpec.pre6 enc Try.prog Try.f3 Rows.fnExactIsDispatcherRow.domain false) (Rows.fnExactIsDispatcherSpec.post enc Try.prog Try.f3 false true false false) := by
  refine returnsInHanded_of_change_sized (C := Try.checked) own started (by kernel_rfl) Try.func3
    (ChangeSpec.witness6 (enc := enc) (C := Try.checked) false ⟨#[], #[.agg #[.int .i64 0, .int .i64 0, .int .i64 0, .slice none 0 0, .slice none 0 0]], []⟩ 8 (by kernel_rfl) (by kernel_rfl) (by kernel_rfl) (by kernel_rfl)) ?_
  intro W base args ds gs before hval0 hW hcnd hsz0 _
  have hsz : (DataW.weightsEach Try.prog (Try.f3.params.toList ++ Rows.fnExactIsDispatcherSpec.plain.varTypes Try.prog) (ds ++ gs)).all (· ≤ reachBytes) = true := hsz0
  have hval : ∀ (j : Nat) t v, Try.f3.params[j]? = some t → args[j]? = some v → Value.okWide Try.prog W .any base t v := hval0
  have hW' := hW
  obtain ⟨p, q, hA0, hV, rfl, hfz, hnd⟩ := hW
  have hA : DataW.TrodAll enc Try.prog W 0 (fun _ => true) true Try.f3.params.toList args.toList ds p := hA0
  rw [Try.params3] at hA hval hsz
  obtain ⟨v0, vs0, d0, ds0, p0, q0, hargs, rfl, rfl, h0, r0⟩ := trodAll_cons hA
  obtain ⟨rfl, rfl, rfl⟩ := trodAll_nil r0
  obtain rfl : args = #[v0] := by cases args; simp_all
  obtain ⟨rfl, rfl⟩ := trodVars_none hV
  have k0 := h0
  have lt0 : ∀ x ∈ p0, x.block < W.heap.size := by obtain ⟨m, hm⟩ := k0; exact DataW.trod_lt m _ _ _ hm
  obtain ⟨cs0, rfl, hs0⟩ := okWide_struct Try.underlying25 (hval 0 25 v0 rfl rfl)
  obtain ⟨x0, hK0, ok0⟩ := Opens.arg (opens_struct (fun x => x) (fun x => x) (fun _ => rfl) Try.underlying25 (opensF_cons (opens_int Try.underlying3) rfl (by kernel_rfl) (opensF_cons (opens_int Try.underlying3) rfl (by kernel_rfl) (opensF_cons (opens_int Try.underlying3) rfl (by kernel_rfl) (opensF_cons (opens_slice z75 Try.underlying22 open75 (by kernel_rfl)) rfl (by kernel_rfl) (opensF_one (opens_slice z84 Try.underlying23 open84 (by kernel_rfl)) rfl (by kernel_rfl)))))) (by kernel_rfl)) h0
  obtain ⟨e0_0, f0_0, he0_0, hm0_0, hn0_0⟩ := hK0
  have hq0_0 := hm0_0
  replace hq0_0 : _ = [_] := hq0_0
  obtain ⟨e0_1, f0_1, he0_1, hm0_1, hn0_1⟩ := hn0_0
  have hq0_1 := hm0_1
  replace hq0_1 : _ = [_] := hq0_1
  obtain ⟨e0_2, f0_2, he0_2, hm0_2, hn0_2⟩ := hn0_1
  have hq0_2 := hm0_2
  replace hq0_2 : _ = [_] := hq0_2
  obtain ⟨e0_3, f0_3, he0_3, hm0_3, hn0_3⟩ := hn0_2
  obtain ⟨B0_3, c0_3, hq0_3, hc0_3, hr0_3⟩ := hm0_3
  obtain ⟨B0_4, c0_4, hq0_4, hc0_4, hr0_4⟩ := hn0_3
  obtain rfl : cs0 = #[.int .i64 x0.1, .int .i64 x0.2.1, .int .i64 x0.2.2.1, .slice B0_3 x0.2.2.2.1.length c0_3, .slice B0_4 x0.2.2.2.2.length c0_4] := by
    apply Array.toList_inj.1
    refine (show cs0.toList = _ from he0_0).trans ?_
    simp [hq0_0, he0_1, hq0_1, he0_2, hq0_2, he0_3, hq0_3, hq0_4]
  clear hA0 hval0 hsz0 hsz
  obtain ⟨k, hk⟩ := Pure.FnExactIsDispatcher x0.1 x0.2.1 x0.2.2.1 x0.2.2.2.1 x0.2.2.2.2 ok0
  refine (XFnExactIsDispatcher.laws_FnExactIsDispatcher.calls k x0.1 x0.2.1 x0.2.2.1 _ _ x0.2.2.2.1 _ _ x0.2.2.2.2 true W hr0_3 hc0_3 hr0_4 hc0_4 hk).mono ?_
  rintro e W' ⟨he, bel0⟩
  have bel : Below W.heap.size W W' := bel0
  subst he
  exact ⟨_, rfl, _, _, _, [], _, [], hW', trodAll_mk1 (shut_bool Try.underlying4 _), (trodAll_cons_mk (Below.trod laidOut (by kernel_rfl) (of_decide_eq_true (by kernel_rfl)) k0 bel lt0) trodAll_mk0), rfl, bel.frame _, fun h => by cases h⟩
theorem over : Rows.fnExactIsDispatcherRow.holds Try.pinned (OpenSpec.ofChange Rows.fnExactIsDispatcherSpec) :=
  OpenClaim.holds_of_wide 3 Try.f3 rfl rfl rfl rfl rfl rfl rfl ⟨rfl, rfl, rfl, rfl, rfl⟩ rfl rfl rfl rfl rfl (by kernel_rfl) Try.func3 (by kernel_rfl)
    (of_decide_eq_true (by kernel_rfl)) (by unfold Func.isWrapper; first | (rw [if_pos (by decide +kernel)]; kernel_rfl) | (rw [if_neg (by decide +kernel)]; exact ⟨rfl, rfl⟩))
    (fun os started H enc _ => lifted os started H enc)
theorem proved : Rows.FnExactIsDispatcherSaid := over
end Go.Proofs.Ytehaakoaabbiaaa.fnExactIsDispatcher
namespace Go.Proofs.Ytehaakoaabbiaaa
/-- The statement, under a short name, for the claim. -/
theorem fnExactIsDispatcher_holds : Rows.FnExactIsDispatcherSaid := fnExactIsDispatcher.proved
#print axioms fnExactIsDispatcher_holds
end Go.Proofs.Ytehaakoaabbiaaa
