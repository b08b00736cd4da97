/- Proved here: the given statement of the law FnExactLongestChain, for every input (its row, out of its pure theorem and the walk). Conditions: none but those that the statement itself names. -/
import Derived.Test.YtbblhmpcpmamfaaRows
import Derived.Test.YtbblhmpcpmamfaaXFnExactLongestChainx18
import Derived.Test.YtbblhmpcpmamfaaPureFnExactLongestChain
import Derived.Test.YtbblhmpcpmamfaaXFnExactLongestChainwOpen
import Derived.WalkKit
import Derived.ProofKit
import Derived.OpenShut
import Derived.ShutString
import Derived.ChangeOld
import Derived.Below
import Derived.SizedLaws
namespace Go.Proofs.Ytbblhmpcpmamfaa.fnExactLongestChain
open Go.ChangeShapes Go.WideShapes Go.ChangeAt Go.RowKit Go.Proofs.Ytbblhmpcpmamfaa.Open Go.Proofs.Ytbblhmpcpmamfaa.XFnExactLongestChain Go.Proofs.YtbblhmpcpmamfaaW.PrintWords
open Go.ChangeMaps (open_string shut_string)
set_option linter.unusedVariables false
theorem own : ownKnob Try.prog.godebug = none := by kernel_rfl
theorem laidOut : laidOutB Try.prog = true := by kernel_rfl
def ok64 (y : S64) : Prop := (OkInt .i64) y.f0 ∧ (OkInt .i64) y.f1 ∧ (OkInt .i64) y.f2 ∧ (OkInt .i64) y.f3
theorem open64 : Opens Try.prog 64 k64 ok64 :=
  opens_struct (fun x : S64 => (x.f0, x.f1, x.f2, x.f3)) (fun p => (⟨p.1, p.2.1, p.2.2.1, p.2.2.2⟩ : S64)) (fun _ => rfl) Try.underlying64 (opensF_cons (opens_int Try.underlying3) rfl (by kernel_rfl) (opensF_cons (opens_int Try.underlying3) rfl (by kernel_rfl) (opensF_cons (opens_int Try.underlying3) rfl (by kernel_rfl) (opensF_one (opens_int Try.underlying3) rfl (by kernel_rfl))))) (by kernel_rfl)
def ok77 (y : S77) : Prop := (OkInt .i64) y.f0 ∧ (OkInt .i64) y.f1
theorem open77 : Opens Try.prog 77 k77 ok77 :=
  opens_array2 Try.underlying77 (fun x : S77 => (x.f0, x.f1)) (fun p => (⟨p.1, p.2⟩ : S77)) (fun _ => rfl) (opens_int Try.underlying3) (by kernel_rfl) (by kernel_rfl)
set_option maxRecDepth 100000 in
theorem lifted (os : Os) (started : os.Started) (H : Type) (enc : TypeId × Value → H) :
    ReturnsInHanded {} Try.checked os 6 .any (Rows.fnExactLongestChainSpec.pre6 enc Try.prog Try.f6 Rows.fnExactLongestChainRow.domain false) (Rows.fnExactLongestChainSpec.post enc Try.prog Try.f6 false true false false) := by
  refine returnsInHanded_of_change_sized (C := Try.checked) own started (by kernel_rfl) Try.func6
    (ChangeSpec.witness6 (enc := enc) (C := Try.checked) false ⟨#[], #[.slice none 0 0, .slice none 0 0], []⟩ 8 (by kernel_rfl) (by kernel_rfl) (by kernel_rfl) (by kernel_rfl)) ?_
  intro W base args ds gs before hval0 hW hcnd hsz0 _
  have hsz : (DataW.weightsEach Try.prog (Try.f6.params.toList ++ Rows.fnExactLongestChainSpec.plain.varTypes Try.prog) (ds ++ gs)).all (· ≤ reachBytes) = true := hsz0
  have hval : ∀ (j : Nat) t v, Try.f6.params[j]? = some t → args[j]? = some v → Value.okWide Try.prog W .any base t v := hval0
  have hW' := hW
  obtain ⟨p, q, hA0, hV, rfl, hfz, hnd⟩ := hW
  have hA : DataW.TrodAll enc Try.prog W 0 (fun _ => true) true Try.f6.params.toList args.toList ds p := hA0
  rw [Try.params6] at hA hval hsz
  obtain ⟨v0, vs0, d0, ds0, p0, q0, hargs, rfl, rfl, h0, r0⟩ := trodAll_cons hA
  obtain ⟨v1, vs1, d1, ds1, p1, q1, rfl, rfl, rfl, h1, r1⟩ := trodAll_cons r0
  obtain ⟨rfl, rfl, rfl⟩ := trodAll_nil r1
  obtain rfl : args = #[v0, v1] := by cases args; simp_all
  obtain ⟨rfl, rfl⟩ := trodVars_none hV
  have k0 := h0
  have lt0 : ∀ x ∈ p0, x.block < W.heap.size := by obtain ⟨m, hm⟩ := k0; exact DataW.trod_lt m _ _ _ hm
  obtain ⟨a0, len0, cap0, rfl⟩ := okWide_slice Try.underlying29 (hval 0 29 v0 rfl rfl)
  obtain ⟨l0, hK0, ok0⟩ := Opens.arg (opens_slice z64 Try.underlying29 open64 (by kernel_rfl)) h0
  obtain ⟨B0, c0, hcs0, hc0, hr0⟩ := hK0
  simp [Value.cells] at hcs0
  obtain ⟨rfl, rfl, rfl⟩ := hcs0
  have k1 := h1
  have lt1 : ∀ x ∈ p1, x.block < W.heap.size := by obtain ⟨m, hm⟩ := k1; exact DataW.trod_lt m _ _ _ hm
  obtain ⟨a1, len1, cap1, rfl⟩ := okWide_slice Try.underlying47 (hval 1 47 v1 rfl rfl)
  obtain ⟨l1, hK1, ok1⟩ := Opens.arg (opens_slice z77 Try.underlying47 open77 (by kernel_rfl)) h1
  obtain ⟨B1, c1, hcs1, hc1, hr1⟩ := hK1
  simp [Value.cells] at hcs1
  obtain ⟨rfl, rfl, rfl⟩ := hcs1
  clear hA0 hval0 hsz0 hsz
  obtain ⟨k, hk⟩ := Pure.FnExactLongestChain l0 l1 ok0 ok1
  refine (XFnExactLongestChain.laws_FnExactLongestChain.calls k _ _ l0 _ _ l1 true W hr0 hc0 hr1 hc1 hk).mono ?_
  rintro e W' ⟨he, bel0⟩
  have bel : Below W.heap.size W W' := bel0
  subst he
  exact ⟨_, rfl, _, _, _, [], _, [], hW', trodAll_mk1 (shut_bool Try.underlying4 _), (trodAll_cons_mk (Below.trod laidOut (by kernel_rfl) (of_decide_eq_true (by kernel_rfl)) k0 bel lt0) (trodAll_cons_mk (Below.trod laidOut (by kernel_rfl) (of_decide_eq_true (by kernel_rfl)) k1 bel lt1) trodAll_mk0)), rfl, bel.frame _, fun h => by cases h⟩
theorem over : Rows.fnExactLongestChainRow.holds Try.pinned (OpenSpec.ofChange Rows.fnExactLongestChainSpec) :=
  OpenClaim.holds_of_wide 6 Try.f6 rfl rfl rfl rfl rfl rfl rfl ⟨rfl, rfl, rfl, rfl, rfl⟩ rfl rfl rfl rfl rfl (by kernel_rfl) Try.func6 (by kernel_rfl)
    (of_decide_eq_true (by kernel_rfl)) (by unfold Func.isWrapper; first | (rw [if_pos (by decide +kernel)]; kernel_rfl) | (rw [if_neg (by decide +kernel)]; exact ⟨rfl, rfl⟩))
    (fun os started H enc _ => lifted os started H enc)
theorem proved : Rows.FnExactLongestChainSaid := over
end Go.Proofs.Ytbblhmpcpmamfaa.fnExactLongestChain
namespace Go.Proofs.Ytbblhmpcpmamfaa
/-- The statement, under a short name, for the claim. -/
theorem fnExactLongestChain_holds : Rows.FnExactLongestChainSaid := fnExactLongestChain.proved
#print axioms fnExactLongestChain_holds
end Go.Proofs.Ytbblhmpcpmamfaa
