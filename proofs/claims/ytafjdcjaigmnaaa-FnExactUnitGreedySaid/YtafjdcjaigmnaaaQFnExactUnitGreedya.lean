/- Proved here: what functions that the law FnExactUnitGreedy reaches answer (base, perm). Conditions: those that each theorem names. -/
import Derived.Test.YtafjdcjaigmnaaaXFnExactUnitGreedyx0
import Derived.Test.YtafjdcjaigmnaaaXFnExactUnitGreedyx1
import Derived.Test.YtafjdcjaigmnaaaXFnExactUnitGreedyx2
import Derived.Test.YtafjdcjaigmnaaaXFnExactUnitGreedyx3
import Derived.Test.YtafjdcjaigmnaaaXFnExactUnitGreedyx4
import Derived.Test.YtafjdcjaigmnaaaXFnExactUnitGreedyx5
import Derived.Test.YtafjdcjaigmnaaaXFnExactUnitGreedyx6
import Derived.Test.YtafjdcjaigmnaaaXFnExactUnitGreedyx7
import Derived.Test.YtafjdcjaigmnaaaXFnExactUnitGreedyx8
import Derived.Test.YtafjdcjaigmnaaaXFnExactUnitGreedyx9
import Derived.Test.YtafjdcjaigmnaaaXFnExactUnitGreedyx10
import Derived.Test.YtafjdcjaigmnaaaXFnExactUnitGreedyx11
import Derived.Test.YtafjdcjaigmnaaaXFnExactUnitGreedyx12
import Derived.Test.YtafjdcjaigmnaaaXFnExactUnitGreedyx13
import Derived.Test.YtafjdcjaigmnaaaXFnExactUnitGreedyx14
import Derived.Test.YtafjdcjaigmnaaaXFnExactUnitGreedyx15
import Derived.Test.YtafjdcjaigmnaaaXFnExactUnitGreedyx16
set_option linter.unusedVariables false
set_option linter.unusedSimpArgs false
namespace Go.Proofs.Ytafjdcjaigmnaaa.Pure
open Go.RowKit Go.Proofs.Ytafjdcjaigmnaaa.XFnExactUnitGreedy Go.Proofs.YtafjdcjaigmnaaaW.PrintWords Go.Proofs.YtafjdcjaigmnaaaW.PrintLast

theorem wr {x : Int} (h0 : -9223372036854775808 ≤ x) (h1 : x ≤ 9223372036854775807) : wrap64 x = x := by unfold wrap64; omega
theorem wr1 {i : Nat} (h : i < 1000000000000000000) : wrap64 ((i : Int) + 1) = ((i + 1 : Nat) : Int) := by rw [wr (by omega) (by omega)]; omega
theorem rev_ind {P : Nat → Prop} (n : Nat) (hn : P n) (hs : ∀ i, i < n → P (i + 1) → P i) : ∀ i, i ≤ n → P i := by
  intro i hi
  obtain ⟨d, rfl⟩ : ∃ d, n = i + d := ⟨n - i, by omega⟩
  clear hi
  induction d generalizing i with
  | zero => exact hn
  | succ d ih =>
    refine hs i (by omega) (ih (i + 1) ?_ ?_)
    · rw [show i + 1 + d = i + (d + 1) by omega]; exact hn
    · intro j hj; exact hs j (by omega)
theorem ev_stop {α : Type} {g : Nat → Option α} {r : α} (h : ∀ k, g (k + 1) = some r) : Ev g r := Ev.step h (Ev.now r)
theorem ev_go {α : Type} {g : Nat → Option α} (f : Nat → Option α) {r : α} (h : ∀ k, g (k + 1) = f k) (k : Ev f r) : Ev g r := Ev.step h k
theorem ev_ite {α : Type} {c : Prop} [Decidable c] {g f : Nat → Option α} {r : α} (h1 : c → Ev g r) (h2 : ¬ c → Ev f r) : Ev (fun k => if c then g k else f k) r := by
  by_cases h : c
  · simp only [if_pos h]; exact h1 h
  · simp only [if_neg h]; exact h2 h
theorem ev_bind {α β : Type} {g : Nat → Option α} {f : Nat → α → Option β} (a : α) {r : β} (h : Ev g a) (k : Ev (fun n => f n a) r) : Ev (fun n => (g n).bind (f n)) r := Ev.bind h k
/-- A bool that is told in the end, and what it says. -/
def EvB (g : Nat → Option Bool) (P : Prop) : Prop := ∃ b : Bool, Ev g b ∧ (b = true ↔ P)
theorem evB_true {g : Nat → Option Bool} {P : Prop} (h : EvB g P) (hp : P) : Ev g true := by
  obtain ⟨b, hb, e⟩ := h
  rw [e.2 hp] at hb
  exact hb
theorem evB_false {g : Nat → Option Bool} {P : Prop} (h : EvB g P) (hp : ¬ P) : Ev g false := by
  obtain ⟨b, hb, e⟩ := h
  cases b with
  | true => exact absurd (e.1 rfl) hp
  | false => exact hb
theorem evB_of {g : Nat → Option Bool} {P : Prop} (h1 : P → Ev g true) (h2 : ¬ P → Ev g false) : EvB g P := by
  by_cases h : P
  · exact ⟨true, h1 h, by simp [h]⟩
  · exact ⟨false, h2 h, by simp [h]⟩
theorem evB_iff {g : Nat → Option Bool} {P Q : Prop} (h : EvB g P) (e : P ↔ Q) : EvB g Q := by
  obtain ⟨b, hb, e'⟩ := h
  exact ⟨b, hb, e'.trans e⟩
theorem evB_bind {g : Nat → Option Bool} {P : Prop} {α : Type} {f : Nat → Bool → Option α} {r : α} (h : EvB g P) (h1 : P → Ev (fun n => f n true) r) (h2 : ¬ P → Ev (fun n => f n false) r) : Ev (fun n => (g n).bind (f n)) r := by
  by_cases hp : P
  · exact Ev.bind (evB_true h hp) (h1 hp)
  · exact Ev.bind (evB_false h hp) (h2 hp)
theorem evB_same {g f : Nat → Option Bool} {P : Prop} (h : EvB g P) (k : EvB f P) : ∃ b, Ev g b ∧ Ev f b := by
  obtain ⟨b, hb, e⟩ := h
  obtain ⟨c, hc, e'⟩ := k
  have : b = c := by
    cases b <;> cases c <;> simp_all
  subst this
  exact ⟨b, hb, hc⟩
theorem some_bool (P : Prop) [Decidable P] {g : Nat → Option Bool} (h : ∀ k, g k = some (decide P)) : EvB g P := ⟨decide P, ⟨0, fun k _ => h k⟩, by simp⟩
theorem rd_nat {l : List Int} {i : Nat} (h : i < l.length) : rd l (i : Int) = l[i] := by simp [rd, h]
theorem rd_zero {l : List Int} (h : 0 < l.length) : rd l 0 = l[0] := by simp [rd, h]
theorem drop_cons {α : Type} {l : List α} {i : Nat} (h : i < l.length) : l.drop i = l[i] :: l.drop (i + 1) := List.drop_eq_getElem_cons h
theorem set_copy {α : Type} {l z : List α} {i : Nat} (h : i < l.length) (hz : i < z.length) : (l.take i ++ z.drop i).set i l[i] = l.take (i + 1) ++ z.drop (i + 1) := by
  have hl : (l.take i).length = i := by simp; omega
  rw [List.set_append_right _ _ (by omega), hl, Nat.sub_self, drop_cons hz, List.set_cons_zero, List.take_succ_eq_append_getElem h, List.append_assoc]
  rfl

theorem nodup_sub {α : Type} [DecidableEq α] : ∀ {l s : List α}, l.Nodup → (∀ x ∈ l, x ∈ s) → l.length ≤ s.length
  | [], _, _, _ => Nat.zero_le _
  | a :: l, s, hn, hs => by
    have ha : a ∈ s := hs a List.mem_cons_self
    have hn' := List.nodup_cons.1 hn
    have := nodup_sub (l := l) (s := s.erase a) hn'.2 (fun x hx => by
      have hne : x ≠ a := fun e => hn'.1 (e ▸ hx)
      exact (List.mem_erase_of_ne hne).2 (hs x (List.mem_cons_of_mem _ hx)))
    have hp : 0 < s.length := List.length_pos_of_mem ha
    rw [List.length_erase_of_mem ha] at this
    simp only [List.length_cons]
    omega
/-- The numbers 0..n-1. -/
def nums_to (n : Nat) : List Int := (List.range n).map fun (i : Nat) => (i : Int)
theorem mem_nums_to {n : Nat} {x : Int} : x ∈ nums_to n ↔ 0 ≤ x ∧ x < n := by
  unfold nums_to
  simp only [List.mem_map, List.mem_range]
  constructor
  · rintro ⟨i, hi, rfl⟩; omega
  · rintro ⟨h0, h1⟩; exact ⟨x.toNat, by omega, by omega⟩
theorem nums_to_nodup (n : Nat) : (nums_to n).Nodup := by
  unfold nums_to
  rw [List.nodup_iff_pairwise_ne]
  rw [List.pairwise_map]
  exact (List.nodup_iff_pairwise_ne.1 List.nodup_range).imp (fun h e => h (by omega))
theorem nums_to_length (n : Nat) : (nums_to n).length = n := by simp [nums_to]
/-- An order of n jobs. -/
def IsPerm (n : Nat) (l : List Int) : Prop := l.length = n ∧ l.Nodup ∧ ∀ x ∈ l, 0 ≤ x ∧ x < n
theorem IsPerm.all {n : Nat} {l : List Int} (h : IsPerm n l) (x : Int) (h0 : 0 ≤ x) (h1 : x < n) : x ∈ l := by
  obtain ⟨hl, hn, hr⟩ := h
  by_cases hx : x ∈ l
  · exact hx
  · have := nodup_sub (l := x :: l) (s := nums_to n) (List.nodup_cons.2 ⟨hx, hn⟩) (fun y hy => by
      rcases List.mem_cons.1 hy with rfl | hy
      · exact mem_nums_to.2 ⟨h0, h1⟩
      · exact mem_nums_to.2 (hr y hy))
    rw [nums_to_length] at this
    simp at this
    omega
theorem isPerm_of_all {n : Nat} {l : List Int} (hl : l.length = n) (ha : ∀ x, 0 ≤ x → x < (n : Int) → x ∈ l) : IsPerm n l := by
  have big : ∀ s : List Int, (∀ x, 0 ≤ x → x < (n : Int) → x ∈ s) → n ≤ s.length := fun s hs => by
    have := nodup_sub (nums_to_nodup n) (fun x hx => hs x (mem_nums_to.1 hx).1 (mem_nums_to.1 hx).2)
    rwa [nums_to_length] at this
  refine ⟨hl, ?_, fun x hx => ?_⟩
  · by_cases hn : l.Nodup
    · exact hn
    · exfalso
      have : ∃ a, a ∈ l.erase a ∧ a ∈ l := by
        clear hl ha big
        induction l with
        | nil => exact absurd List.nodup_nil hn
        | cons b l ih =>
          by_cases hb : b ∈ l
          · exact ⟨b, by simp [hb], List.mem_cons_self⟩
          · obtain ⟨a, h1, h2⟩ := ih (fun h => hn (List.nodup_cons.2 ⟨hb, h⟩))
            have hne : b ≠ a := fun e => hb (e ▸ h2)
            refine ⟨a, ?_, List.mem_cons_of_mem _ h2⟩
            rw [List.erase_cons_tail (by simpa using hne)]
            exact List.mem_cons_of_mem _ h1
      obtain ⟨a, h1, h2⟩ := this
      have := big (l.erase a) (fun x h0 h1' => by
        by_cases e : x = a
        · subst e; exact h1
        · exact (List.mem_erase_of_ne e).2 (ha x h0 h1'))
      rw [List.length_erase_of_mem h2] at this
      have := List.length_pos_of_mem h2
      omega
  · by_cases hr : 0 ≤ x ∧ x < (n : Int)
    · exact hr
    · exfalso
      have := big (l.erase x) (fun y h0 h1 => (List.mem_erase_of_ne (fun e => hr (by rw [← e]; exact ⟨h0, h1⟩))).2 (ha y h0 h1))
      rw [List.length_erase_of_mem hx] at this
      have := List.length_pos_of_mem hx
      omega
theorem nodup_drop_step {l : List Int} {i : Nat} (h : i < l.length) : (∀ j (hj : j < l.length), i ≤ j → l[j] ∉ l.take j) ↔ l[i] ∉ l.take i ∧ (∀ j (hj : j < l.length), i + 1 ≤ j → l[j] ∉ l.take j) := by
  constructor
  · intro H; exact ⟨H i h (Nat.le_refl _), fun j hj hij => H j hj (by omega)⟩
  · rintro ⟨h0, H⟩ j hj hij
    by_cases e : j = i
    · subst e; exact h0
    · exact H j hj (by omega)
theorem nodup_iff_take {l : List Int} : l.Nodup ↔ ∀ j (hj : j < l.length), l[j] ∉ l.take j := by
  rw [List.nodup_iff_pairwise_ne, List.pairwise_iff_getElem]
  constructor
  · intro H j hj hm
    obtain ⟨i, hi, e⟩ := List.getElem_of_mem hm
    simp only [List.length_take] at hi
    rw [List.getElem_take] at e
    exact H i j (by omega) hj (by omega) e
  · intro H i j hi hj hij e
    refine H j hj ?_
    rw [← e]
    exact List.mem_take_iff_getElem.2 ⟨i, by omega, rfl⟩

end Go.Proofs.Ytafjdcjaigmnaaa.Pure
