/- Proved here: what functions that the law FnExactIsOpenSchedule reaches answer (evbLoop, startsOk, spec_l8Starts, meet, spec_l8Open, impl_isOpenSchedule, core_IsOpenSchedule). Conditions: those that each theorem names. -/
import Derived.Test.YtigfamfbppdbaaaQFnExactIsOpenSchedulej
set_option linter.unusedVariables false
set_option linter.unusedSimpArgs false
namespace Go.Proofs.Ytigfamfbppdbaaa.Pure
open Go.RowKit Go.Proofs.Ytigfamfbppdbaaa.XFnExactIsOpenSchedule Go.Proofs.YtigfamfbppdbaaaW.PrintWords Go.Proofs.YtigfamfbppdbaaaW.PrintLast

theorem evB_step {g : Nat → Option Bool} (g' : Nat → Option Bool) {R : Prop} (h : ∀ k, g (k + 1) = g' k) (hR : EvB g' R) : EvB g R := by
  obtain ⟨b, hb, e⟩ := hR
  exact ⟨b, ev_go _ h hb, e⟩
theorem evB_leaf {g : Nat → Option Bool} (g' : Nat → Option Bool) {P R : Prop} (h1 : P → ∀ k, g (k + 1) = g' k) (h2 : ¬ P → ∀ k, g (k + 1) = some false) (hR : EvB g' R) : EvB g (P ∧ R) := by
  by_cases p : P
  · exact evB_iff (evB_step g' (h1 p) hR) ⟨fun r => ⟨p, r⟩, fun r => r.2⟩
  · exact evB_of (fun h => absurd h.1 p) (fun _ => ev_stop (h2 p))
theorem evB_loop (n : Nat) (g : Nat → Nat → Option Bool) (P : Nat → Prop) (Q : Prop) (hstop : EvB (g n) Q) (hstep : ∀ i, i < n → ∀ R, EvB (g (i + 1)) R → EvB (g i) (P i ∧ R)) : EvB (g 0) ((∀ i, i < n → P i) ∧ Q) := by
  have key := rev_ind (P := fun i => EvB (g i) ((∀ j, i ≤ j → j < n → P j) ∧ Q)) n ?_ ?_ 0 (Nat.zero_le _)
  · exact evB_iff key ⟨fun h => ⟨fun i hi => h.1 i (Nat.zero_le _) hi, h.2⟩, fun h => ⟨fun i _ hi => h.1 i hi, h.2⟩⟩
  · exact evB_iff hstop ⟨fun h => ⟨fun j h1 h2 => absurd h1 (by omega), h⟩, fun h => h.2⟩
  · intro i hi ih
    refine evB_iff (hstep i hi _ ih) ⟨fun h => ⟨fun j h1 h2 => ?_, h.2.2⟩, fun h => ⟨h.1 i (Nat.le_refl _) hi, fun j h1 h2 => h.1 j (by omega) h2, h.2⟩⟩
    by_cases e : j = i
    · rw [e]; exact h.1
    · exact h.2.1 j (by omega) h2

def StartRow (s r : List Int) : Prop := s.length = r.length ∧ ∀ x ∈ s, 0 ≤ x ∧ x ≤ 1000000
def StartsOk (l s : List (List Int)) : Prop := s.length = l.length ∧ ∀ i, i < s.length → StartRow (rd_L1 s (i : Int)) (rd_L1 l (i : Int))
theorem mem_iff_nat {l : List Int} {P : Int → Prop} : (∀ x ∈ l, P x) ↔ ∀ i, i < l.length → P (rd l (i : Int)) := by
  constructor
  · intro h i hi; rw [rd_nat hi]; exact h _ (List.getElem_mem hi)
  · intro h x hx
    obtain ⟨i, hi, rfl⟩ := List.getElem_of_mem hx
    have := h i hi
    rwa [rd_nat hi] at this

theorem spec_l8Starts.ev (l s : List (List Int)) (hs : s.length ≤ 1000000000) (hr : ∀ y ∈ s, y.length ≤ 1000000000) : EvB (fun k => spec_l8Starts.f k l s) (StartsOk l s) := by
  have key := evB_loop (min s.length l.length) (fun i k => spec_l8Starts.l0 k l s (i : Int)) (fun i => StartRow (rd_L1 s (i : Int)) (rd_L1 l (i : Int))) (s.length = l.length) ?_ ?_
  · refine evB_iff (g := fun k => spec_l8Starts.f k l s) (P := (∀ i, i < min s.length l.length → StartRow (rd_L1 s (i : Int)) (rd_L1 l (i : Int))) ∧ s.length = l.length) key ?_
    unfold StartsOk
    exact ⟨fun h => ⟨h.2, fun i hi => h.1 i (by omega)⟩, fun h => ⟨fun i hi => h.2 i (by omega), h.1⟩⟩
  · refine evB_step (fun k => spec_l8Starts.j1 k l s ((min s.length l.length : Nat) : Int) false) (fun k => ?_) ⟨decide (s.length = l.length), ev_stop fun k => ?_, by simp⟩
    · simp only [spec_l8Starts.l0]
      by_cases e : ((min s.length l.length : Nat) : Int) < (s.length : Int)
      · rw [if_pos e, decide_eq_false (by omega)]
      · rw [if_neg e]
    · simp only [spec_l8Starts.j1, Bool.false_eq_true, if_false]
      congr 1
      rw [Bool.eq_iff_iff]; simp; omega
  · intro i hi R hR
    have h1 : i < s.length := by omega
    have h2 : i < l.length := by omega
    have hri := hr _ (List.getElem_mem h1)
    refine evB_step (fun k => spec_l8Starts.j1 k l s (i : Int) true) (fun k => ?_) ?_
    · simp only [spec_l8Starts.l0]; rw [if_pos (by omega), decide_eq_true (by omega)]
    · rw [rdL_nat h1, rdL_nat h2]
      unfold StartRow
      rw [and_assoc]
      refine evB_leaf (fun k => spec_l8Starts.l1 k l s (i : Int) 0) (fun e k => ?_) (fun e k => ?_) ?_
      · simp only [spec_l8Starts.j1]; rw [if_pos trivial, if_pos (by omega), if_pos (by omega), if_pos (by omega), rdL_nat h1, rdL_nat h2, if_pos (by omega)]
      · simp only [spec_l8Starts.j1]; rw [if_pos trivial, if_pos (by omega), if_pos (by omega), if_pos (by omega), rdL_nat h1, rdL_nat h2, if_neg (by omega)]
      · rw [mem_iff_nat]
        refine evB_loop s[i].length (fun j k => spec_l8Starts.l1 k l s (i : Int) (j : Int)) (fun j => 0 ≤ rd s[i] (j : Int) ∧ rd s[i] (j : Int) ≤ 1000000) R ?_ ?_
        · refine evB_step _ (fun k => ?_) hR
          simp only [spec_l8Starts.l1]; rw [if_pos (by omega), if_pos (by omega), rdL_nat h1, if_neg (by omega), wr1 (by omega)]
        · intro j hj R' hR'
          refine evB_leaf _ (fun e k => ?_) (fun e k => ?_) hR'
          · simp only [spec_l8Starts.l1]; rw [if_pos (by omega), if_pos (by omega), rdL_nat h1, if_pos (by omega), if_pos (by omega), spec_l1In.eq, Option.bind_some, if_pos (by simpa using e), wr1 (by omega)]
          · simp only [spec_l8Starts.l1]; rw [if_pos (by omega), if_pos (by omega), rdL_nat h1, if_pos (by omega), if_pos (by omega), spec_l1In.eq, Option.bind_some, if_neg (by simpa using e)]

def MeetP (l s : List (List Int)) (i j h k : Nat) : Prop := rd (rd_L1 l (i : Int)) (j : Int) > 0 ∧ rd (rd_L1 l (h : Int)) (k : Int) > 0 ∧ rd (rd_L1 s (i : Int)) (j : Int) < wrap64 (rd (rd_L1 s (h : Int)) (k : Int) + rd (rd_L1 l (h : Int)) (k : Int)) ∧ rd (rd_L1 s (h : Int)) (k : Int) < wrap64 (rd (rd_L1 s (i : Int)) (j : Int) + rd (rd_L1 l (i : Int)) (j : Int))
theorem MeetP.symm {l s : List (List Int)} {i j h k : Nat} (m : MeetP l s i j h k) : MeetP l s h k i j := ⟨m.2.1, m.1, m.2.2.2, m.2.2.1⟩
/-- No two works of a job, nor of a machine, meet. -/
def OpenP (l s : List (List Int)) (n m : Nat) : Prop := ∀ i, i < n → ∀ j, j < m → (∀ k, k < j → ¬ MeetP l s i j i k) ∧ (∀ h, h < i → ¬ MeetP l s i j h j)

theorem spec_l8Meet.eq (a b c d : Int) : spec_l8Meet.f a b c d = some (decide (b > 0 ∧ d > 0 ∧ a < wrap64 (c + d) ∧ c < wrap64 (a + b))) := by
  unfold spec_l8Meet.f
  by_cases h1 : b > 0
  · by_cases h2 : d > 0
    · by_cases h3 : a < wrap64 (c + d)
      · rw [if_pos h1, if_pos h2, if_pos h3]; simp [h1, h2, h3]
      · rw [if_pos h1, if_pos h2, if_neg h3]; simp [h3]
    · rw [if_pos h1, if_neg h2]; simp [h2]
  · rw [if_neg h1]; simp [h1]
theorem spec_l8Open.pairs (l s : List (List Int)) (m : Nat) (hl : l.length ≤ 8) (hm : m ≤ 3) (hn : s.length = l.length) (hr : ∀ i, i < l.length → (rd_L1 l (i : Int)).length = m ∧ (rd_L1 s (i : Int)).length = m) : EvB (fun k => spec_l8Open.l0 k l s (m : Int) 0) (OpenP l s l.length m) := by
  have key := evB_loop l.length (fun i k => spec_l8Open.l0 k l s (m : Int) (i : Int)) (fun i => ∀ j, j < m → (∀ k, k < j → ¬ MeetP l s i j i k) ∧ (∀ h, h < i → ¬ MeetP l s i j h j)) True ?_ ?_
  · exact evB_iff key ⟨fun h => h.1, fun h => ⟨h, trivial⟩⟩
  · refine evB_of (fun _ => ev_stop fun k => ?_) (fun h => absurd trivial h)
    simp only [spec_l8Open.l0]; rw [if_neg (by omega)]
  · intro i hi R hR
    have hri := hr i hi
    refine evB_step (fun k => spec_l8Open.l1 k l s (m : Int) (i : Int) 0) (fun k => ?_) ?_
    · simp only [spec_l8Open.l0]; rw [if_pos (by omega)]
    · refine evB_loop m (fun j k => spec_l8Open.l1 k l s (m : Int) (i : Int) (j : Int)) (fun j => (∀ k, k < j → ¬ MeetP l s i j i k) ∧ (∀ h, h < i → ¬ MeetP l s i j h j)) R ?_ ?_
      · refine evB_step _ (fun k => ?_) hR
        simp only [spec_l8Open.l1]; rw [if_neg (by omega), wr1 (by omega)]
      · intro j hj R' hR'
        rw [and_assoc]
        refine evB_step (fun k => spec_l8Open.l2 k l s (m : Int) (i : Int) (j : Int) 0) (fun k => ?_) ?_
        · simp only [spec_l8Open.l1]; rw [if_pos (by omega)]
        · refine evB_loop j (fun q k => spec_l8Open.l2 k l s (m : Int) (i : Int) (j : Int) (q : Int)) (fun q => ¬ MeetP l s i j i q) ((∀ h, h < i → ¬ MeetP l s i j h j) ∧ R') ?_ ?_
          · refine evB_step (fun k => spec_l8Open.l3 k l s (m : Int) (i : Int) (j : Int) 0) (fun k => ?_) ?_
            · simp only [spec_l8Open.l2]; rw [if_neg (by omega)]
            · refine evB_loop i (fun q k => spec_l8Open.l3 k l s (m : Int) (i : Int) (j : Int) (q : Int)) (fun q => ¬ MeetP l s i j q j) R' ?_ ?_
              · refine evB_step _ (fun k => ?_) hR'
                simp only [spec_l8Open.l3]; rw [if_neg (by omega), wr1 (by omega)]
              · intro q hq R'' hR''
                have hrq := hr q (by omega)
                refine evB_leaf _ (fun e k => ?_) (fun e k => ?_) hR''
                · simp only [spec_l8Open.l3]
                  rw [if_pos (by omega), if_pos (by omega), if_pos (by omega), if_pos (by omega), if_pos (by omega), if_pos (by omega), if_pos (by omega), if_pos (by omega), if_pos (by omega), if_pos (by omega), if_pos (by omega), if_pos (by omega), spec_l8Meet.eq, Option.bind_some, if_neg (by simpa [MeetP] using e), wr1 (by omega)]
                · simp only [spec_l8Open.l3]
                  rw [if_pos (by omega), if_pos (by omega), if_pos (by omega), if_pos (by omega), if_pos (by omega), if_pos (by omega), if_pos (by omega), if_pos (by omega), if_pos (by omega), if_pos (by omega), if_pos (by omega), if_pos (by omega), spec_l8Meet.eq, Option.bind_some, if_pos (by have e_ := Classical.not_not.1 e; simpa [MeetP] using e_)]
          · intro q hq R'' hR''
            refine evB_leaf _ (fun e k => ?_) (fun e k => ?_) hR''
            · simp only [spec_l8Open.l2]
              rw [if_pos (by omega), if_pos (by omega), if_pos (by omega), if_pos (by omega), if_pos (by omega), if_pos (by omega), if_pos (by omega), if_pos (by omega), if_pos (by omega), if_pos (by omega), spec_l8Meet.eq, Option.bind_some, if_neg (by simpa [MeetP] using e), wr1 (by omega)]
            · simp only [spec_l8Open.l2]
              rw [if_pos (by omega), if_pos (by omega), if_pos (by omega), if_pos (by omega), if_pos (by omega), if_pos (by omega), if_pos (by omega), if_pos (by omega), if_pos (by omega), if_pos (by omega), spec_l8Meet.eq, Option.bind_some, if_pos (by have e_ := Classical.not_not.1 e; simpa [MeetP] using e_)]
def OpenOk (l s : List (List Int)) : Prop := StartsOk l s ∧ OpenP l s l.length (machP l)
theorem open_rows {l s : List (List Int)} (h : ShopOk l) (hs : StartsOk l s) : ∀ i, i < l.length → (rd_L1 l (i : Int)).length = machP l ∧ (rd_L1 s (i : Int)).length = machP l := by
  intro i hi
  have e := (hs.2 i (by have := hs.1; omega)).1
  have e2 : (rd_L1 l (i : Int)).length = machP l := by rw [rdL_nat hi]; exact (h.2.2 _ (List.getElem_mem hi)).1
  exact ⟨e2, by rw [e, e2]⟩
theorem spec_l8Open.ev (l s : List (List Int)) (h : ShopOk l) (hs : s.length ≤ 1000000000) (hr : ∀ y ∈ s, y.length ≤ 1000000000) : EvB (fun k => spec_l8Open.f k l s) (OpenOk l s) := by
  unfold spec_l8Open.f
  simp only [spec_l8Machines.eq, Option.bind_some]
  have e := spec_l8Starts.ev l s hs hr
  by_cases q : StartsOk l s
  · have p := spec_l8Open.pairs l s (machP l) h.1 h.2.1.2 q.1 (open_rows h q)
    refine evB_of (fun hh => ev_guard' e (fun _ => evB_true p hh.2) (fun hn => absurd q hn)) (fun hh => ev_guard' e (fun _ => evB_false p (fun h2 => hh ⟨q, h2⟩)) (fun hn => absurd q hn))
  · exact evB_of (fun hh => absurd hh.1 q) (fun _ => ev_guard' e (fun h2 => absurd h2 q) (fun _ => Ev.now _))

theorem cross_iff (l s : List (List Int)) (n m : Nat) : OpenP l s n m ↔ ∀ i, i < n → ∀ j, j < m → ∀ h, h < n → ∀ k, k < m → ¬ ((i = h) ↔ (j = k)) → ¬ MeetP l s i j h k := by
  constructor
  · intro H i hi j hj h hh k hk d m'
    by_cases e : i = h
    · subst e
      have : j ≠ k := fun e2 => d ⟨fun _ => e2, fun _ => rfl⟩
      rcases Nat.lt_or_gt_of_ne this with c | c
      · exact (H i hi k hk).1 j c m'.symm
      · exact (H i hi j hj).1 k c m'
    · have e2 : j = k := by
        by_cases e2 : j = k
        · exact e2
        · exact absurd ⟨fun x => absurd x e, fun x => absurd x e2⟩ d
      subst e2
      rcases Nat.lt_or_gt_of_ne e with c | c
      · exact (H h hh j hj).2 i c m'.symm
      · exact (H i hi j hj).2 h c m'
  · intro H i hi j hj
    refine ⟨fun k hk => H i hi j hj i hi k (by omega) (fun d => ?_), fun h hh => H i hi j hj h (by omega) j hj (fun d => ?_)⟩
    · have := d.1 rfl; omega
    · have := d.2 rfl; omega
theorem impl_isOpenSchedule.pairs (l s : List (List Int)) (m : Nat) (hl : l.length ≤ 8) (hm : m ≤ 3) (hn : s.length = l.length) (hr : ∀ i, i < l.length → (rd_L1 l (i : Int)).length = m ∧ (rd_L1 s (i : Int)).length = m) : EvB (fun k => impl_isOpenSchedule.l1 k l s s (s.length : Int) 0) (OpenP l s l.length m) := by
  have key := evB_loop l.length (fun i k => impl_isOpenSchedule.l1 k l s s (s.length : Int) (i : Int)) (fun i => ∀ j, j < m → ∀ h, h < l.length → ∀ k, k < m → ¬ ((i = h) ↔ (j = k)) → ¬ MeetP l s i j h k) True ?_ ?_
  · exact evB_iff key ⟨fun h => (cross_iff l s _ _).2 h.1, fun h => ⟨(cross_iff l s _ _).1 h, trivial⟩⟩
  · refine evB_of (fun _ => ev_stop fun k => ?_) (fun h => absurd trivial h)
    simp only [impl_isOpenSchedule.l1]; rw [if_neg (by omega)]
  · intro i hi R hR
    have hri := hr i hi
    have his : i < s.length := by omega
    have hsi := hri.2
    rw [rdL_nat his] at hsi
    refine evB_step (fun k => impl_isOpenSchedule.l2 k l s (i : Int) s (s.length : Int) (i : Int) s[i] (s[i].length : Int) 0) (fun k => ?_) ?_
    · simp only [impl_isOpenSchedule.l1]; rw [if_pos (by omega), if_pos (by omega), if_pos (by omega), rdL_nat his]
    · refine evB_loop m (fun j k => impl_isOpenSchedule.l2 k l s (i : Int) s (s.length : Int) (i : Int) s[i] (s[i].length : Int) (j : Int)) (fun j => ∀ h, h < l.length → ∀ k, k < m → ¬ ((i = h) ↔ (j = k)) → ¬ MeetP l s i j h k) R ?_ ?_
      · refine evB_step _ (fun k => ?_) hR
        simp only [impl_isOpenSchedule.l2]; rw [if_neg (by omega), wr1 (by omega)]
      · intro j hj R' hR'
        refine evB_step (fun k => impl_isOpenSchedule.l3 k l s (i : Int) (j : Int) (rd s[i] (j : Int)) s (s.length : Int) (i : Int) s[i] (s[i].length : Int) (j : Int) s (s.length : Int) 0) (fun k => ?_) ?_
        · simp only [impl_isOpenSchedule.l2]; rw [if_pos (by omega), if_pos (by omega), if_pos (by omega)]
        · refine evB_loop l.length (fun h k => impl_isOpenSchedule.l3 k l s (i : Int) (j : Int) (rd s[i] (j : Int)) s (s.length : Int) (i : Int) s[i] (s[i].length : Int) (j : Int) s (s.length : Int) (h : Int)) (fun h => ∀ k, k < m → ¬ ((i = h) ↔ (j = k)) → ¬ MeetP l s i j h k) R' ?_ ?_
          · refine evB_step _ (fun k => ?_) hR'
            simp only [impl_isOpenSchedule.l3]; rw [if_neg (by omega), wr1 (by omega)]
          · intro h hh R'' hR''
            have hhs : h < s.length := by omega
            have hrh := hr h hh
            have hsh := hrh.2
            rw [rdL_nat hhs] at hsh
            refine evB_step (fun k => impl_isOpenSchedule.l4 k l s (i : Int) (j : Int) (rd s[i] (j : Int)) (h : Int) s (s.length : Int) (i : Int) s[i] (s[i].length : Int) (j : Int) s (s.length : Int) (h : Int) s[h] (s[h].length : Int) 0) (fun k => ?_) ?_
            · simp only [impl_isOpenSchedule.l3]; rw [if_pos (by omega), if_pos (by omega), if_pos (by omega), rdL_nat hhs]
            · refine evB_loop m (fun q k => impl_isOpenSchedule.l4 k l s (i : Int) (j : Int) (rd s[i] (j : Int)) (h : Int) s (s.length : Int) (i : Int) s[i] (s[i].length : Int) (j : Int) s (s.length : Int) (h : Int) s[h] (s[h].length : Int) (q : Int)) (fun q => ¬ ((i = h) ↔ (j = q)) → ¬ MeetP l s i j h q) R'' ?_ ?_
              · refine evB_step _ (fun k => ?_) hR''
                simp only [impl_isOpenSchedule.l4]; rw [if_neg (by omega), wr1 (by omega)]
              · intro q hq R3 hR3
                have hb : ((((i : Int) == (h : Int)) == ((j : Int) == (q : Int))) = true) ↔ ((i = h) ↔ (j = q)) := by
                  rw [beq_iff_eq, Bool.eq_iff_iff]; simp only [beq_iff_eq]; omega
                by_cases d : (i = h) ↔ (j = q)
                · refine evB_leaf _ (fun e k => ?_) (fun e k => absurd (fun hd => absurd d hd) e) hR3
                  simp only [impl_isOpenSchedule.l4]; rw [if_pos (by omega), if_pos (by omega), if_pos (by omega), if_pos (hb.2 d), wr1 (by omega)]
                · have d' : ¬ ((((i : Int) == (h : Int)) == ((j : Int) == (q : Int))) = true) := fun x => d (hb.1 x)
                  refine evB_leaf _ (fun e k => ?_) (fun e k => ?_) hR3
                  · have e := e d
                    unfold MeetP at e
                    rw [rdL_nat his, rdL_nat hhs] at e
                    simp only [impl_isOpenSchedule.l4]
                    rw [if_pos (by omega), if_pos (by omega), if_pos (by omega), if_neg d', if_pos (by omega), if_pos (by omega), if_pos (by omega), if_pos (by omega)]
                    by_cases c1 : rd (rd_L1 l (i : Int)) (j : Int) > 0
                    · rw [if_pos c1, if_pos (by omega), if_pos (by omega), if_pos (by omega)]
                      by_cases c2 : rd (rd_L1 l (h : Int)) (q : Int) > 0
                      · rw [if_pos c2]
                        by_cases c3 : rd s[i] (j : Int) < wrap64 (rd s[h] (q : Int) + rd (rd_L1 l (h : Int)) (q : Int))
                        · rw [if_pos c3, if_neg (fun c4 => e ⟨c1, c2, c3, c4⟩), wr1 (by omega)]
                        · rw [if_neg c3, wr1 (by omega)]
                      · rw [if_neg c2, wr1 (by omega)]
                    · rw [if_neg c1, wr1 (by omega)]
                  · have e : MeetP l s i j h q := Classical.byContradiction fun x => e (fun _ => x)
                    unfold MeetP at e
                    rw [rdL_nat his, rdL_nat hhs] at e
                    simp only [impl_isOpenSchedule.l4]
                    rw [if_pos (by omega), if_pos (by omega), if_pos (by omega), if_neg d', if_pos (by omega), if_pos (by omega), if_pos (by omega), if_pos (by omega), if_pos e.1, if_pos (by omega), if_pos (by omega), if_pos (by omega), if_pos e.2.1, if_pos e.2.2.1, if_pos e.2.2.2]
theorem impl_isOpenSchedule.ev (l s : List (List Int)) (h : ShopOk l) (hs : s.length ≤ 1000000000) (hr : ∀ y ∈ s, y.length ≤ 1000000000) : EvB (fun k => impl_isOpenSchedule.f k l s) (OpenOk l s) := by
  unfold impl_isOpenSchedule.f
  by_cases e : (s.length : Int) = (l.length : Int)
  · simp only [if_pos e]
    have e' : s.length = l.length := by omega
    -- the rows first
    by_cases q : StartsOk l s
    · have p := impl_isOpenSchedule.pairs l s (machP l) h.1 h.2.1.2 q.1 (open_rows h q)
      have run := rev_ind (P := fun i => EvB (fun k => impl_isOpenSchedule.l0 k l s s (s.length : Int) (i : Int)) (OpenP l s l.length (machP l))) s.length ?_ ?_ 0 (Nat.zero_le _)
      · exact evB_iff run ⟨fun x => ⟨q, x⟩, fun x => x.2⟩
      · refine evB_step _ (fun k => ?_) p
        simp only [impl_isOpenSchedule.l0]; rw [if_neg (by omega)]
      · intro i hi ih
        have hq := q.2 i hi
        rw [rdL_nat hi, rdL_nat (by omega)] at hq
        have w := impl_allWithin.ev s[i] 0 1000000 (by have := hr _ (List.getElem_mem hi); omega)
        obtain ⟨b, hb, hP⟩ := ih
        refine ⟨b, ev_go (fun k => (impl_allWithin.f k s[i] 0 1000000).bind fun t159 => (if t159 = true then (impl_isOpenSchedule.l0 k l s s (s.length : Int) ((i + 1 : Nat) : Int)) else (some false))) (fun k => ?_) (ev_guard' w (fun _ => hb) (fun hn => absurd hq.2 hn)), hP⟩
        simp only [impl_isOpenSchedule.l0]; rw [if_pos (by omega), if_pos (by omega), if_pos (by omega), if_pos (by omega), rdL_nat hi, rdL_nat (by omega), if_pos (by have := hq.1; omega), wr1 (by omega)]
    · have bad : ∃ i, i < s.length ∧ ¬ StartRow (rd_L1 s (i : Int)) (rd_L1 l (i : Int)) := Classical.byContradiction fun x => q ⟨e', fun i hi => Classical.byContradiction fun y => x ⟨i, hi, y⟩⟩
      obtain ⟨i0, hi0, hb0⟩ := bad
      refine evB_of (fun x => absurd x.1 q) (fun _ => ?_)
      have run := rev_ind (P := fun i => i ≤ i0 → Ev (fun k => impl_isOpenSchedule.l0 k l s s (s.length : Int) (i : Int)) false) s.length (fun x => absurd x (by omega)) ?_ 0 (Nat.zero_le _) (Nat.zero_le _)
      · exact run
      · intro i hi ih hi'
        have w := impl_allWithin.ev s[i] 0 1000000 (by have := hr _ (List.getElem_mem hi); omega)
        by_cases c : StartRow s[i] (l[i]'(by omega))
        · refine ev_go (fun k => (impl_allWithin.f k s[i] 0 1000000).bind fun t159 => (if t159 = true then (impl_isOpenSchedule.l0 k l s s (s.length : Int) ((i + 1 : Nat) : Int)) else (some false))) (fun k => ?_) (ev_guard' w (fun _ => ih ?_) (fun hn => absurd c.2 hn))
          · simp only [impl_isOpenSchedule.l0]; rw [if_pos (by omega), if_pos (by omega), if_pos (by omega), if_pos (by omega), rdL_nat hi, rdL_nat (by omega), if_pos (by have := c.1; omega), wr1 (by omega)]
          · rcases Nat.lt_or_eq_of_le hi' with x | x
            · exact x
            · subst x
              rw [rdL_nat hi, rdL_nat (by omega)] at hb0
              exact absurd c hb0
        · by_cases c1 : (s[i].length : Int) = ((l[i]'(by omega)).length : Int)
          · refine ev_go (fun k => (impl_allWithin.f k s[i] 0 1000000).bind fun t159 => (if t159 = true then (impl_isOpenSchedule.l0 k l s s (s.length : Int) ((i + 1 : Nat) : Int)) else (some false))) (fun k => ?_) (ev_guard' w (fun hw => absurd ⟨by omega, hw⟩ c) (fun _ => Ev.now _))
            simp only [impl_isOpenSchedule.l0]; rw [if_pos (by omega), if_pos (by omega), if_pos (by omega), if_pos (by omega), rdL_nat hi, rdL_nat (by omega), if_pos c1, wr1 (by omega)]
          · refine ev_stop fun k => ?_
            simp only [impl_isOpenSchedule.l0]; rw [if_pos (by omega), if_pos (by omega), if_pos (by omega), if_pos (by omega), rdL_nat hi, rdL_nat (by omega), if_neg c1]
  · simp only [if_neg e]
    exact evB_of (fun x => absurd x.1.1 (by omega)) (fun _ => Ev.now _)

theorem core_IsOpenSchedule (l s : List (List Int)) (hl : l.length ≤ 1048576) (hlr : ∀ y ∈ l, y.length ≤ 1048576) (hs : s.length ≤ 1048576) (hsr : ∀ y ∈ s, y.length ≤ 1048576) : ∃ r b, Ev (fun k => spec_IsOpenSchedule.f k l s) (r, b) ∧ Ev (fun k => impl_IsOpenSchedule.f k l s) (r, b) := by
  have es := spec_l8Good.ev l (by omega) (fun y hy => by have := hlr y hy; omega)
  have ei := impl_isShop.ev l (fun y hy => by have := hlr y hy; omega)
  unfold spec_IsOpenSchedule.f impl_IsOpenSchedule.f
  by_cases h : ShopOk l
  · obtain ⟨b, h1, h2⟩ := evB_same (spec_l8Open.ev l s h (by omega) (fun y hy => by have := hsr y hy; omega)) (impl_isOpenSchedule.ev l s h (by omega) (fun y hy => by have := hsr y hy; omega))
    exact ⟨b, true, ev_guard' es (fun _ => ev_bind _ h1 (Ev.now _)) (fun hn => absurd h hn), ev_guard' ei (fun _ => ev_bind _ h2 (Ev.now _)) (fun hn => absurd h hn)⟩
  · exact ⟨false, false, ev_guard' es (fun h1 => absurd h1 h) (fun _ => Ev.now _), ev_guard' ei (fun h1 => absurd h1 h) (fun _ => Ev.now _)⟩

end Go.Proofs.Ytigfamfbppdbaaa.Pure
