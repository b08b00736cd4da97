/- Proved here: what functions that the law FnExactUnitGreedy reaches answer (rising, plainOk, spec_l4Free, spec_l6Good, impl_isPlain, impl_IsPlain, demandF). Conditions: those that each theorem names. -/
import Derived.Test.YtafjdcjaigmnaaaQFnExactUnitGreedyh
set_option linter.unusedVariables false
set_option linter.unusedSimpArgs false
namespace Go.Proofs.Ytafjdcjaigmnaaa.Pure
open Go.RowKit Go.Proofs.Ytafjdcjaigmnaaa.XFnExactUnitGreedy Go.Proofs.YtafjdcjaigmnaaaW.PrintWords Go.Proofs.YtafjdcjaigmnaaaW.PrintLast

def Rising (l : List Int) : Prop := ∀ j (h : j + 1 < l.length), l[j] < l[j + 1]
theorem Rising.lt {l : List Int} (h : Rising l) : ∀ (j i : Nat) (hj : j < l.length) (hi : i < j), l[i] < l[j] := by
  intro j
  induction j with
  | zero => intro i _ hi; omega
  | succ j ih =>
    intro i hj hi
    have h1 := h j hj
    by_cases e : i = j
    · subst e; exact h1
    · have := ih i (by omega) (by omega)
      omega
theorem Rising.nodup {l : List Int} (h : Rising l) : l.Nodup := by
  rw [List.nodup_iff_pairwise_ne, List.pairwise_iff_getElem]
  intro i j hi hj hij e
  have := h.lt j i hj hij
  omega
/-- A set of n things. -/
def SetOk (n : Nat) (l : List Int) : Prop := Rising l ∧ ∀ x ∈ l, 0 ≤ x ∧ x < n
theorem SetOk.len {n : Nat} {l : List Int} (h : SetOk n l) : l.length ≤ n := by
  have := nodup_sub h.1.nodup (s := nums_to n) (fun x hx => mem_nums_to.2 (h.2 x hx))
  rwa [nums_to_length] at this
theorem rising_step {l : List Int} {i : Nat} (hi : i < l.length) : (∀ j (h : j + 1 < l.length), i ≤ j + 1 → l[j] < l[j + 1]) ↔ (0 < i → l[i - 1] < l[i]) ∧ (∀ j (h : j + 1 < l.length), i + 1 ≤ j + 1 → l[j] < l[j + 1]) := by
  constructor
  · intro H
    refine ⟨fun h => ?_, fun j hj hij => H j hj (by omega)⟩
    have := H (i - 1) (by omega) (by omega)
    have e : i - 1 + 1 = i := by omega
    simp only [e] at this
    exact this
  · rintro ⟨h0, H⟩ j hj hij
    by_cases e : i = j + 1
    · subst e
      exact h0 (by omega)
    · exact H j hj (by omega)

def NoRel (l : List J) : Prop := ∀ j ∈ l, j.f2 = 0
def PlainOk (l : List J) : Prop := JobsOk l ∧ NoRel l
theorem noRel_cons {x : J} {l : List J} : NoRel (x :: l) ↔ x.f2 = 0 ∧ NoRel l := by simp [NoRel]

theorem spec_l4Free.ev (l : List J) (hl : l.length ≤ 1000000000000) (hj : ∀ j ∈ l, 0 ≤ j.f2) : EvB (fun k => spec_l4Free.f k l) (NoRel l) := by
  have key := rev_ind (P := fun i => EvB (fun k => spec_l4Free.l0 k l (i : Int)) (NoRel (l.drop i))) l.length ?_ ?_ 0 (Nat.zero_le _)
  · simpa [spec_l4Free.f] using key
  · refine evB_of (fun _ => ev_stop fun k => ?_) (fun h => absurd (by rw [List.drop_length]; intro j hj; cases hj) h)
    simp only [spec_l4Free.l0]; rw [if_neg (by omega)]
  · intro i hi ih
    rw [drop_cons hi, noRel_cons]
    have h0 := hj _ (List.getElem_mem hi)
    by_cases q : l[i].f2 = 0
    · obtain ⟨c, hb, hP⟩ := ih
      refine ⟨c, ev_go _ (fun k => ?_) hb, hP.trans ⟨fun h => ⟨q, h⟩, fun h => h.2⟩⟩
      simp only [spec_l4Free.l0]; rw [if_pos (by omega), if_pos (by omega), rdJ hi, if_neg (by omega), wr1 (by omega)]
    · refine evB_of (fun h => absurd h.1 q) (fun _ => ev_stop fun k => ?_)
      simp only [spec_l4Free.l0]; rw [if_pos (by omega), if_pos (by omega), rdJ hi, if_pos (by omega)]

theorem spec_l6Good.ev (l : List J) (hl : l.length ≤ 1000000000000) : EvB (fun k => spec_l6Good.f k l) (PlainOk l) := by
  unfold spec_l6Good.f PlainOk
  refine evB_of (fun h => ?_) (fun h => ?_)
  · refine evB_bind (spec_l2Good.ev l (by omega)) (fun _ => ?_) (fun h' => absurd h.1 h')
    simp only [if_true]
    exact evB_bind (spec_l4Free.ev l hl (fun j hj => (h.1.2 j hj).2.2.1.1)) (fun _ => Ev.now _) (fun h' => absurd h.2 h')
  · refine evB_bind (spec_l2Good.ev l (by omega)) (fun h1 => ?_) (fun _ => by simp only [Bool.false_eq_true, if_false]; exact Ev.now _)
    simp only [if_true]
    exact evB_bind (spec_l4Free.ev l hl (fun j hj => (h1.2 j hj).2.2.1.1)) (fun h2 => absurd ⟨h1, h2⟩ h) (fun _ => Ev.now _)

theorem impl_isPlain.ev (l : List J) (hl : l.length ≤ 1000000000000) : EvB (fun k => impl_isPlain.f k l) (NoRel l) := by
  have key := rev_ind (P := fun i => EvB (fun k => impl_isPlain.l0 k l (l.length : Int) (i : Int)) (NoRel (l.drop i))) l.length ?_ ?_ 0 (Nat.zero_le _)
  · simpa [impl_isPlain.f] using key
  · refine evB_of (fun _ => ev_stop fun k => ?_) (fun h => absurd (by rw [List.drop_length]; intro j hj; cases hj) h)
    simp only [impl_isPlain.l0]; rw [if_neg (by omega)]
  · intro i hi ih
    rw [drop_cons hi, noRel_cons]
    by_cases q : l[i].f2 = 0
    · obtain ⟨c, hb, hP⟩ := ih
      refine ⟨c, ev_go _ (fun k => ?_) hb, hP.trans ⟨fun h => ⟨q, h⟩, fun h => h.2⟩⟩
      simp only [impl_isPlain.l0]; rw [if_pos (by omega), if_pos (by omega), if_pos (by omega), rdJ hi, if_pos q, wr1 (by omega)]
    · refine evB_of (fun h => absurd h.1 q) (fun _ => ev_stop fun k => ?_)
      simp only [impl_isPlain.l0]; rw [if_pos (by omega), if_pos (by omega), if_pos (by omega), rdJ hi, if_neg q]

theorem impl_IsPlain.ev (l : List J) (hl : l.length ≤ 1000000000000) : EvB (fun k => impl_IsPlain.f k l) (PlainOk l) := by
  unfold impl_IsPlain.f PlainOk
  refine evB_of (fun h => ?_) (fun h => ?_)
  · refine evB_bind (impl_IsJobs.ev l) (fun _ => ?_) (fun h' => absurd h.1 h')
    simp only [if_true]
    exact evB_bind (impl_isPlain.ev l hl) (fun _ => Ev.now _) (fun h' => absurd h.2 h')
  · refine evB_bind (impl_IsJobs.ev l) (fun h1 => ?_) (fun _ => by simp only [Bool.false_eq_true, if_false]; exact Ev.now _)
    simp only [if_true]
    exact evB_bind (impl_isPlain.ev l hl) (fun h2 => absurd ⟨h1, h2⟩ h) (fun _ => Ev.now _)

theorem rdJ_int {l : List J} {x : Int} (h0 : 0 ≤ x) (h1 : x < l.length) : rd_T54 l x = l[x.toNat]'(by omega) := by
  have : x.toNat < l.length := by omega
  simp [rd_T54, this]
def demandF (jobs : List J) : List Int → Int → Int → Int
  | [], t, s => wrap64 (Int.tdiv (wrap64 ((wrap64 (t * t)) + s)) 2)
  | x :: xs, t, s => demandF jobs xs (wrap64 (t + (rd_T54 jobs x).f0)) (wrap64 (s + (wrap64 ((rd_T54 jobs x).f0 * (rd_T54 jobs x).f0))))

end Go.Proofs.Ytafjdcjaigmnaaa.Pure
