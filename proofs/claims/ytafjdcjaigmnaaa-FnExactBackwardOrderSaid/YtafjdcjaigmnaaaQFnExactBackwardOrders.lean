/- Proved here: what functions that the law FnExactBackwardOrder reaches answer (evMono, spec_l6All). Conditions: those that each theorem names. -/
import Derived.Test.YtafjdcjaigmnaaaQFnExactBackwardOrderj
set_option linter.unusedVariables false
set_option linter.unusedSimpArgs false
namespace Go.Proofs.Ytafjdcjaigmnaaa.Pure
open Go.RowKit Go.Proofs.Ytafjdcjaigmnaaa.XFnExactBackwardOrder Go.Proofs.YtafjdcjaigmnaaaW.PrintWords Go.Proofs.YtafjdcjaigmnaaaW.PrintLast

theorem ev_mono {α : Type} {g : Nat → Option α} {r : α} (K : Nat) (h : g K = some r) (hm : ∀ k, LeO (g k) (g (k + 1))) : Ev g r := by
  refine ⟨K, fun k hk => ?_⟩
  obtain ⟨d, rfl⟩ : ∃ d, k = K + d := ⟨k - K, by omega⟩
  clear hk
  induction d with
  | zero => exact h
  | succ d ih => exact hm _ _ ih

set_option maxRecDepth 100000 in
theorem l4Set_all : ∀ n, n < 9 → spec_l4Set.f 20 ((n : Nat) : Int) (wrap64 ((shl .i64 1 ((n : Nat) : Int)) - 1)) = some (nums_to n) := by decide +kernel
theorem spec_l6All.ev (jobs : List J) (hj : jobs.length ≤ 8) : Ev (fun k => spec_l6All.f k jobs) (nums_to jobs.length) := by
  unfold spec_l6All.f
  exact ev_bind (nums_to jobs.length) (ev_mono 20 (l4Set_all _ (by omega)) (fun k => spec_l4Set.mono _ _ k)) (Ev.now _)

end Go.Proofs.Ytafjdcjaigmnaaa.Pure
