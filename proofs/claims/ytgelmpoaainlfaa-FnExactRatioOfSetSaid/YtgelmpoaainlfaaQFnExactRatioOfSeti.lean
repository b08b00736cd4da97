/- Proved here: what functions that the law FnExactRatioOfSet reaches answer (rising, spec_l1Rising, impl_isRising, impl_isSet, demandF). Conditions: those that each theorem names. -/
import Derived.Test.YtgelmpoaainlfaaQFnExactRatioOfSeth
set_option linter.unusedVariables false
set_option linter.unusedSimpArgs false
namespace Go.Proofs.Ytgelmpoaainlfaa.Pure
open Go.RowKit Go.Proofs.Ytgelmpoaainlfaa.XFnExactRatioOfSet Go.Proofs.YtgelmpoaainlfaaW.PrintWords Go.Proofs.YtgelmpoaainlfaaW.PrintLast

def Rising (l : List Int) : Prop := ∀ j (h : j + 1 < l.length), l[j] < l[j + 1]
theorem Rising.lt {l : List Int} (h : Rising l) : ∀ (j i : Nat) (hj : j < l.length) (hi : i < j), l[i] < l[j] := by
  intro j
  induction j with
  | zero => intro i _ hi; omega
  | succ j ih =>
    intro i hj hi
    have h1 := h j hj
    by_cases e : i = j
    · subst e; exact h1
    · have := ih i (by omega) (by omega)
      omega
theorem Rising.nodup {l : List Int} (h : Rising l) : l.Nodup := by
  rw [List.nodup_iff_pairwise_ne, List.pairwise_iff_getElem]
  intro i j hi hj hij e
  have := h.lt j i hj hij
  omega
/-- A set of n things. -/
def SetOk (n : Nat) (l : List Int) : Prop := Rising l ∧ ∀ x ∈ l, 0 ≤ x ∧ x < n
theorem SetOk.len {n : Nat} {l : List Int} (h : SetOk n l) : l.length ≤ n := by
  have := nodup_sub h.1.nodup (s := nums_to n) (fun x hx => mem_nums_to.2 (h.2 x hx))
  rwa [nums_to_length] at this
theorem rising_step {l : List Int} {i : Nat} (hi : i < l.length) : (∀ j (h : j + 1 < l.length), i ≤ j + 1 → l[j] < l[j + 1]) ↔ (0 < i → l[i - 1] < l[i]) ∧ (∀ j (h : j + 1 < l.length), i + 1 ≤ j + 1 → l[j] < l[j + 1]) := by
  constructor
  · intro H
    refine ⟨fun h => ?_, fun j hj hij => H j hj (by omega)⟩
    have := H (i - 1) (by omega) (by omega)
    have e : i - 1 + 1 = i := by omega
    simp only [e] at this
    exact this
  · rintro ⟨h0, H⟩ j hj hij
    by_cases e : i = j + 1
    · subst e
      exact h0 (by omega)
    · exact H j hj (by omega)

theorem spec_l1Rising.ev (l : List Int) (a b : Int) (hl : l.length ≤ 1000000000000) : EvB (fun k => spec_l1Rising.f k l a b) (Rising l ∧ ∀ x ∈ l, a ≤ x ∧ x ≤ b) := by
  have key := rev_ind (P := fun i => EvB (fun k => spec_l1Rising.l0 k l a b (i : Int)) ((∀ j (h : j + 1 < l.length), i ≤ j + 1 → l[j] < l[j + 1]) ∧ ∀ x ∈ l.drop i, a ≤ x ∧ x ≤ b)) l.length ?_ ?_ 0 (Nat.zero_le _)
  · refine evB_iff (g := fun k => spec_l1Rising.f k l a b) key ?_
    simp [Rising]
  · refine evB_of (fun _ => ev_stop fun k => ?_) (fun h => absurd ⟨fun j hj hij => absurd hj (by omega), by simp⟩ h)
    simp only [spec_l1Rising.l0]; rw [if_neg (by omega)]
  · intro i hi ih
    rw [drop_cons hi, rising_step hi]
    by_cases q : a ≤ l[i] ∧ l[i] ≤ b
    · by_cases e : 0 < i → l[i - 1] < l[i]
      · obtain ⟨c, hb, hP⟩ := ih
        refine ⟨c, ev_go _ (fun k => ?_) hb, hP.trans ⟨fun ⟨h1, h2⟩ => ⟨⟨e, h1⟩, fun x hx => ?_⟩, fun ⟨h1, h2⟩ => ⟨h1.2, fun x hx => h2 x (List.mem_cons_of_mem _ hx)⟩⟩⟩
        · simp only [spec_l1Rising.l0]; rw [if_pos (by omega), if_pos (by omega), rd_nat hi, spec_l1In.eq, Option.bind_some, if_pos (by simpa using q), wr1 (by omega)]
          by_cases hp : 0 < i
          · have := e hp
            rw [if_pos (by omega), wr (x := (i : Int) - 1) (by omega) (by omega), if_pos (by omega), if_pos (by omega), show ((i : Int) - 1) = ((i - 1 : Nat) : Int) by omega, rd_nat (by omega), if_neg (by omega)]
          · rw [if_neg (by omega)]
        · rcases List.mem_cons.1 hx with rfl | hx
          · exact q
          · exact h2 x hx
      · refine evB_of (fun h => absurd h.1.1 e) (fun _ => ev_stop fun k => ?_)
        have hp : 0 < i := by
          by_cases hp : 0 < i
          · exact hp
          · exact absurd (fun h => absurd h hp) e
        have e' : ¬ l[i - 1] < l[i] := fun h => e (fun _ => h)
        simp only [spec_l1Rising.l0]; rw [if_pos (by omega), if_pos (by omega), rd_nat hi, spec_l1In.eq, Option.bind_some, if_pos (by simpa using q), if_pos (by omega), wr (x := (i : Int) - 1) (by omega) (by omega), if_pos (by omega), if_pos (by omega), show ((i : Int) - 1) = ((i - 1 : Nat) : Int) by omega, rd_nat (by omega), if_pos (by omega)]
    · refine evB_of (fun h => absurd (h.2 _ List.mem_cons_self) q) (fun _ => ev_stop fun k => ?_)
      simp only [spec_l1Rising.l0]; rw [if_pos (by omega), if_pos (by omega), rd_nat hi, spec_l1In.eq, Option.bind_some, if_neg (by simpa using q)]

theorem impl_isRising.ev (l : List Int) (hl : l.length ≤ 1000000000000) : EvB (fun k => impl_isRising.f k l) (Rising l) := by
  have stop : ∀ n : Nat, ¬ n < l.length → ∀ k, impl_isRising.l0 (k + 1) l (n : Int) = some true := fun n hn k => by
    simp only [impl_isRising.l0]; rw [if_neg (by omega)]
  by_cases h0 : 1 ≤ l.length
  · have key := rev_ind (P := fun i => 1 ≤ i → EvB (fun k => impl_isRising.l0 k l (i : Int)) (∀ j (h : j + 1 < l.length), i ≤ j + 1 → l[j] < l[j + 1])) l.length ?_ ?_ 1 h0 (Nat.le_refl _)
    · refine evB_iff (g := fun k => impl_isRising.f k l) key ?_
      simp [Rising]
    · intro _
      exact evB_of (fun _ => ev_stop (stop _ (by omega))) (fun h => absurd (fun j hj hij => absurd hj (by omega)) h)
    · intro i hi ih hp
      rw [rising_step hi]
      by_cases e : l[i - 1] < l[i]
      · obtain ⟨c, hb, hP⟩ := ih (by omega)
        refine ⟨c, ev_go _ (fun k => ?_) hb, hP.trans ⟨fun h1 => ⟨fun _ => e, h1⟩, fun h1 => h1.2⟩⟩
        simp only [impl_isRising.l0]; rw [if_pos (by omega), wr (x := (i : Int) - 1) (by omega) (by omega), if_pos (by omega), if_pos (by omega), if_pos (by omega), show ((i : Int) - 1) = ((i - 1 : Nat) : Int) by omega, rd_nat (by omega), rd_nat hi, if_neg (by omega), wr1 (by omega)]
      · refine evB_of (fun h => absurd (h.1 (by omega)) e) (fun _ => ev_stop fun k => ?_)
        simp only [impl_isRising.l0]; rw [if_pos (by omega), wr (x := (i : Int) - 1) (by omega) (by omega), if_pos (by omega), if_pos (by omega), if_pos (by omega), show ((i : Int) - 1) = ((i - 1 : Nat) : Int) by omega, rd_nat (by omega), rd_nat hi, if_pos (by omega)]
  · exact evB_of (fun _ => ev_stop (fun k => stop 1 (by omega) k)) (fun h => absurd (fun j hj => absurd hj (by omega)) h)

theorem impl_isSet.ev (n : Nat) (l : List Int) (hn : n ≤ 1000000) (hl : l.length ≤ 1000000000000) : EvB (fun k => impl_isSet.f k (n : Int) l) (SetOk n l) := by
  unfold impl_isSet.f SetOk
  refine evB_of (fun h => ?_) (fun h => ?_)
  · refine evB_bind (impl_isRising.ev l hl) (fun _ => ?_) (fun h' => absurd h.1 h')
    simp only [if_true]
    exact evB_bind (impl_areDifferent.ev n l (by omega) (by omega) (by omega)) (fun _ => Ev.now _) (fun h' => absurd ⟨h.1.nodup, h.2⟩ h')
  · refine evB_bind (impl_isRising.ev l hl) (fun h1 => ?_) (fun _ => by simp only [Bool.false_eq_true, if_false]; exact Ev.now _)
    simp only [if_true]
    exact evB_bind (impl_areDifferent.ev n l (by omega) (by omega) (by omega)) (fun h2 => absurd ⟨h1, h2.2⟩ h) (fun _ => Ev.now _)

theorem rdJ_int {l : List J} {x : Int} (h0 : 0 ≤ x) (h1 : x < l.length) : rd_T52 l x = l[x.toNat]'(by omega) := by
  have : x.toNat < l.length := by omega
  simp [rd_T52, this]
def demandF (jobs : List J) : List Int → Int → Int → Int
  | [], t, s => wrap64 (Int.tdiv (wrap64 ((wrap64 (t * t)) + s)) 2)
  | x :: xs, t, s => demandF jobs xs (wrap64 (t + (rd_T52 jobs x).f0)) (wrap64 (s + (wrap64 ((rd_T52 jobs x).f0 * (rd_T52 jobs x).f0))))

end Go.Proofs.Ytgelmpoaainlfaa.Pure
