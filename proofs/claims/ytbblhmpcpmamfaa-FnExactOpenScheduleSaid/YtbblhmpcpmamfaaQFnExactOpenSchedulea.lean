/- Proved here: what functions that the law FnExactOpenSchedule reaches answer (base). Conditions: those that each theorem names. -/
import Derived.Test.YtbblhmpcpmamfaaXFnExactOpenSchedulex0
import Derived.Test.YtbblhmpcpmamfaaXFnExactOpenSchedulex1
import Derived.Test.YtbblhmpcpmamfaaXFnExactOpenSchedulex2
import Derived.Test.YtbblhmpcpmamfaaXFnExactOpenSchedulex3
import Derived.Test.YtbblhmpcpmamfaaXFnExactOpenSchedulex4
import Derived.Test.YtbblhmpcpmamfaaXFnExactOpenSchedulex5
import Derived.Test.YtbblhmpcpmamfaaXFnExactOpenSchedulex6
import Derived.Test.YtbblhmpcpmamfaaXFnExactOpenSchedulex7
import Derived.Test.YtbblhmpcpmamfaaXFnExactOpenSchedulex8
import Derived.Test.YtbblhmpcpmamfaaXFnExactOpenSchedulex9
import Derived.Test.YtbblhmpcpmamfaaXFnExactOpenSchedulex10
import Derived.Test.YtbblhmpcpmamfaaXFnExactOpenSchedulex11
import Derived.Test.YtbblhmpcpmamfaaXFnExactOpenSchedulex12
set_option linter.unusedVariables false
set_option linter.unusedSimpArgs false
namespace Go.Proofs.Ytbblhmpcpmamfaa.Pure
open Go.RowKit Go.Proofs.Ytbblhmpcpmamfaa.XFnExactOpenSchedule Go.Proofs.YtbblhmpcpmamfaaW.PrintWords Go.Proofs.YtbblhmpcpmamfaaW.PrintLast

theorem wr {x : Int} (h0 : -9223372036854775808 ≤ x) (h1 : x ≤ 9223372036854775807) : wrap64 x = x := by unfold wrap64; omega
theorem wr1 {i : Nat} (h : i < 1000000000000000000) : wrap64 ((i : Int) + 1) = ((i + 1 : Nat) : Int) := by rw [wr (by omega) (by omega)]; omega
theorem rev_ind {P : Nat → Prop} (n : Nat) (hn : P n) (hs : ∀ i, i < n → P (i + 1) → P i) : ∀ i, i ≤ n → P i := by
  intro i hi
  obtain ⟨d, rfl⟩ : ∃ d, n = i + d := ⟨n - i, by omega⟩
  clear hi
  induction d generalizing i with
  | zero => exact hn
  | succ d ih =>
    refine hs i (by omega) (ih (i + 1) ?_ ?_)
    · rw [show i + 1 + d = i + (d + 1) by omega]; exact hn
    · intro j hj; exact hs j (by omega)
theorem ev_stop {α : Type} {g : Nat → Option α} {r : α} (h : ∀ k, g (k + 1) = some r) : Ev g r := Ev.step h (Ev.now r)
theorem ev_go {α : Type} {g : Nat → Option α} (f : Nat → Option α) {r : α} (h : ∀ k, g (k + 1) = f k) (k : Ev f r) : Ev g r := Ev.step h k
theorem ev_ite {α : Type} {c : Prop} [Decidable c] {g f : Nat → Option α} {r : α} (h1 : c → Ev g r) (h2 : ¬ c → Ev f r) : Ev (fun k => if c then g k else f k) r := by
  by_cases h : c
  · simp only [if_pos h]; exact h1 h
  · simp only [if_neg h]; exact h2 h
theorem ev_bind {α β : Type} {g : Nat → Option α} {f : Nat → α → Option β} (a : α) {r : β} (h : Ev g a) (k : Ev (fun n => f n a) r) : Ev (fun n => (g n).bind (f n)) r := Ev.bind h k
/-- A bool that is told in the end, and what it says. -/
def EvB (g : Nat → Option Bool) (P : Prop) : Prop := ∃ b : Bool, Ev g b ∧ (b = true ↔ P)
theorem evB_true {g : Nat → Option Bool} {P : Prop} (h : EvB g P) (hp : P) : Ev g true := by
  obtain ⟨b, hb, e⟩ := h
  rw [e.2 hp] at hb
  exact hb
theorem evB_false {g : Nat → Option Bool} {P : Prop} (h : EvB g P) (hp : ¬ P) : Ev g false := by
  obtain ⟨b, hb, e⟩ := h
  cases b with
  | true => exact absurd (e.1 rfl) hp
  | false => exact hb
theorem evB_of {g : Nat → Option Bool} {P : Prop} (h1 : P → Ev g true) (h2 : ¬ P → Ev g false) : EvB g P := by
  by_cases h : P
  · exact ⟨true, h1 h, by simp [h]⟩
  · exact ⟨false, h2 h, by simp [h]⟩
theorem evB_iff {g : Nat → Option Bool} {P Q : Prop} (h : EvB g P) (e : P ↔ Q) : EvB g Q := by
  obtain ⟨b, hb, e'⟩ := h
  exact ⟨b, hb, e'.trans e⟩
theorem evB_bind {g : Nat → Option Bool} {P : Prop} {α : Type} {f : Nat → Bool → Option α} {r : α} (h : EvB g P) (h1 : P → Ev (fun n => f n true) r) (h2 : ¬ P → Ev (fun n => f n false) r) : Ev (fun n => (g n).bind (f n)) r := by
  by_cases hp : P
  · exact Ev.bind (evB_true h hp) (h1 hp)
  · exact Ev.bind (evB_false h hp) (h2 hp)
theorem evB_same {g f : Nat → Option Bool} {P : Prop} (h : EvB g P) (k : EvB f P) : ∃ b, Ev g b ∧ Ev f b := by
  obtain ⟨b, hb, e⟩ := h
  obtain ⟨c, hc, e'⟩ := k
  have : b = c := by
    cases b <;> cases c <;> simp_all
  subst this
  exact ⟨b, hb, hc⟩
theorem some_bool (P : Prop) [Decidable P] {g : Nat → Option Bool} (h : ∀ k, g k = some (decide P)) : EvB g P := ⟨decide P, ⟨0, fun k _ => h k⟩, by simp⟩
theorem rd_nat {l : List Int} {i : Nat} (h : i < l.length) : rd l (i : Int) = l[i] := by simp [rd, h]
theorem rd_zero {l : List Int} (h : 0 < l.length) : rd l 0 = l[0] := by simp [rd, h]
theorem drop_cons {α : Type} {l : List α} {i : Nat} (h : i < l.length) : l.drop i = l[i] :: l.drop (i + 1) := List.drop_eq_getElem_cons h
theorem set_copy {α : Type} {l z : List α} {i : Nat} (h : i < l.length) (hz : i < z.length) : (l.take i ++ z.drop i).set i l[i] = l.take (i + 1) ++ z.drop (i + 1) := by
  have hl : (l.take i).length = i := by simp; omega
  rw [List.set_append_right _ _ (by omega), hl, Nat.sub_self, drop_cons hz, List.set_cons_zero, List.take_succ_eq_append_getElem h, List.append_assoc]
  rfl

end Go.Proofs.Ytbblhmpcpmamfaa.Pure
