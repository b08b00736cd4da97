/- Proved here: what functions that the law FnExactIsJobShop reaches answer (routeOk, spec_l9Route, spec_l9Good, impl_IsJobShop). Conditions: those that each theorem names. -/
import Derived.Test.YtgelmpoaainlfaaQFnExactIsJobShopf
set_option linter.unusedVariables false
set_option linter.unusedSimpArgs false
namespace Go.Proofs.Ytgelmpoaainlfaa.Pure
open Go.RowKit Go.Proofs.Ytgelmpoaainlfaa.XFnExactIsJobShop Go.Proofs.YtgelmpoaainlfaaW.PrintWords Go.Proofs.YtgelmpoaainlfaaW.PrintLast

/-- A valid route behind some machines. -/
def RouteOk (m : Int) : List Int → List POp → Prop
  | _, [] => True
  | used, x :: xs => (0 ≤ x.f0 ∧ x.f0 ≤ m - 1) ∧ (1 ≤ x.f1 ∧ x.f1 ≤ 20) ∧ x.f0 ∉ used ∧ RouteOk m (used ++ [x.f0]) xs
theorem routeOk_cons {m : Int} {used : List Int} {x : POp} {xs : List POp} : RouteOk m used (x :: xs) ↔ (0 ≤ x.f0 ∧ x.f0 ≤ m - 1) ∧ (1 ≤ x.f1 ∧ x.f1 ≤ 20) ∧ x.f0 ∉ used ∧ RouteOk m (used ++ [x.f0]) xs := Iff.rfl
def opCount (l : List (List POp)) : Nat := (l.map List.length).sum
theorem opCount_cons (x : List POp) (l : List (List POp)) : opCount (x :: l) = x.length + opCount l := by simp [opCount]
theorem opCount_le {l : List (List POp)} (h : ∀ y ∈ l, y.length ≤ 1048576) : opCount l ≤ l.length * 1048576 := by
  induction l with
  | nil => simp [opCount]
  | cons x l ih =>
    rw [opCount_cons]
    have h1 := h x List.mem_cons_self
    have h2 := ih (fun y hy => h y (List.mem_cons_of_mem _ hy))
    simp only [List.length_cons]
    omega
def JobShopOk (m : Int) (l : List (List POp)) : Prop := (1 ≤ m ∧ m ≤ 4) ∧ l.length ≤ 4 ∧ (∀ r ∈ l, RouteOk m [] r) ∧ opCount l ≤ 12

theorem spec_l9Route.ev (m : Int) (r : List POp) (h0 : 1 ≤ m) (h1 : m ≤ 4) (hr : r.length ≤ 1048576) : EvB (fun k => spec_l9Route.f k m r) (RouteOk m [] r) := by
  have key := rev_ind (P := fun i => ∀ used : List Int, used.length = i → EvB (fun k => spec_l9Route.l0 k m r used (i : Int)) (RouteOk m used (r.drop i))) r.length ?_ ?_ 0 (Nat.zero_le _) [] rfl
  · simpa [spec_l9Route.f] using key
  · intro used _
    refine evB_of (fun _ => ev_stop fun k => ?_) (fun h => absurd (by rw [List.drop_length]; trivial) h)
    simp only [spec_l9Route.l0]; rw [if_neg (by omega)]
  · intro i hi ih used hu
    rw [drop_cons hi, routeOk_cons]
    have hh := spec_l1Has.ev used r[i].f0 (by omega)
    by_cases a : 0 ≤ r[i].f0 ∧ r[i].f0 ≤ m - 1
    · by_cases b : 1 ≤ r[i].f1 ∧ r[i].f1 ≤ 20
      · have step : ∀ k, spec_l9Route.l0 (k + 1) m r used (i : Int) = (spec_l1Has.f k used r[i].f0).bind fun t => if t = true then some false else spec_l9Route.l0 k m r (used ++ [r[i].f0]) ((i + 1 : Nat) : Int) := fun k => by
          simp only [spec_l9Route.l0]; rw [if_pos (by omega), if_pos (by omega), rdPOp hi, wr (x := m - 1) (by omega) (by omega), spec_l1In.eq, Option.bind_some, if_pos (by simpa using a), spec_l1In.eq, Option.bind_some, if_pos (by simpa using b), wr1 (by omega)]
          congr 1; funext t
          rw [if_pos (show used.length < 17592186044416 by omega)]
        refine evB_of (fun h => ?_) (fun h => ?_)
        · refine ev_go _ step (evB_bind hh (fun h' => absurd h' h.2.2.1) (fun _ => ?_))
          simp only [Bool.false_eq_true, if_false]
          exact evB_true (ih _ (by simp [hu])) h.2.2.2
        · refine ev_go _ step (evB_bind hh (fun _ => by simp only [if_true]; exact Ev.now _) (fun h' => ?_))
          simp only [Bool.false_eq_true, if_false]
          exact evB_false (ih _ (by simp [hu])) (fun h2 => h ⟨a, b, h', h2⟩)
      · refine evB_of (fun h => absurd h.2.1 b) (fun _ => ev_stop fun k => ?_)
        simp only [spec_l9Route.l0]; rw [if_pos (by omega), if_pos (by omega), rdPOp hi, wr (x := m - 1) (by omega) (by omega), spec_l1In.eq, Option.bind_some, if_pos (by simpa using a), spec_l1In.eq, Option.bind_some, if_neg (by simpa using b)]
    · refine evB_of (fun h => absurd h.1 a) (fun _ => ev_stop fun k => ?_)
      simp only [spec_l9Route.l0]; rw [if_pos (by omega), if_pos (by omega), rdPOp hi, wr (x := m - 1) (by omega) (by omega), spec_l1In.eq, Option.bind_some, if_neg (by simpa using a)]

theorem spec_l9Count.ev (m : Int) (l : List (List POp)) (hl : l.length ≤ 4) (hr : ∀ y ∈ l, y.length ≤ 1048576) : Ev (fun k => spec_l9Count.f k m l) (opCount l : Int) := by
  have key := rev_ind (P := fun i => ∀ c : Nat, c ≤ i * 1048576 → Ev (fun k => spec_l9Count.l0 k (c : Int) (i : Int) m l) ((c + opCount (l.drop i) : Nat) : Int)) l.length ?_ ?_ 0 (Nat.zero_le _) 0 (by omega)
  · simpa [spec_l9Count.f] using key
  · intro c hc
    refine ev_stop fun k => ?_
    simp only [spec_l9Count.l0]; rw [if_neg (by omega), List.drop_length]; simp [opCount]
  · intro i hi ih c hc
    rw [drop_cons hi, opCount_cons]
    have h1 := hr _ (List.getElem_mem hi)
    have := ih (c + l[i].length) (by omega)
    rw [Nat.add_assoc] at this
    refine ev_go _ (fun k => ?_) this
    simp only [spec_l9Count.l0]; rw [if_pos (by omega), if_pos (by omega), rdLPOp hi, wr (by omega) (by omega), wr1 (by omega)]; rfl
theorem spec_l9Good.ev (m : Int) (l : List (List POp)) (hl : l.length ≤ 1048576) (hr : ∀ y ∈ l, y.length ≤ 1048576) : EvB (fun k => spec_l9Good.f k m l) (JobShopOk m l) := by
  unfold spec_l9Good.f JobShopOk
  simp only [spec_l1In.eq, Option.bind_some]
  have no : ∀ {P : Prop}, ¬ P → EvB (fun k => spec_l9Good.j0 k true m l) P := fun hP => evB_of (fun h => absurd h hP) (fun _ => ev_stop fun k => by simp only [spec_l9Good.j0]; rfl)
  by_cases hm : 1 ≤ m ∧ m ≤ 4
  · simp only [hm, and_self, decide_true, if_true, true_and]
    by_cases h4 : (l.length : Int) > 4
    · rw [decide_eq_true h4]
      exact no (fun h => absurd h.1 (by omega))
    · rw [decide_eq_false h4]
      have key := rev_ind (P := fun i => EvB (fun k => spec_l9Good.l0 k (i : Int) m l) ((∀ r ∈ l.drop i, RouteOk m [] r) ∧ opCount l ≤ 12)) l.length ?_ ?_ 0 (Nat.zero_le _)
      · obtain ⟨b, hb, hP⟩ := key
        refine ⟨b, ev_go _ (fun k => ?_) hb, hP.trans ?_⟩
        · simp only [spec_l9Good.j0]; rfl
        · rw [List.drop_zero]
          exact ⟨fun h => ⟨by omega, h⟩, fun h => h.2⟩
      · have hc := spec_l9Count.ev m l (by omega) hr
        refine ⟨decide ((opCount l : Int) ≤ 12), ev_go (fun k => (spec_l9Count.f k m l).bind fun t => some (decide (t ≤ 12))) (fun k => ?_) (ev_bind _ hc (Ev.now _)), ?_⟩
        · simp only [spec_l9Good.l0]; rw [if_neg (by omega)]
        · rw [decide_eq_true_iff]
          simp only [List.drop_length, List.not_mem_nil, false_implies, implies_true, true_and]
          omega
      · intro i hi ih
        rw [drop_cons hi]
        have hh := spec_l9Route.ev m l[i] hm.1 hm.2 (hr _ (List.getElem_mem hi))
        have step : ∀ k, spec_l9Good.l0 (k + 1) (i : Int) m l = (spec_l9Route.f k m l[i]).bind fun t => if t = true then spec_l9Good.l0 k ((i + 1 : Nat) : Int) m l else some false := fun k => by
          simp only [spec_l9Good.l0]; rw [if_pos (by omega), if_pos (by omega), rdLPOp hi, wr1 (by omega)]
        refine evB_of (fun h => ?_) (fun h => ?_)
        · refine ev_go _ step (evB_bind hh (fun _ => ?_) (fun h' => absurd (h.1 _ List.mem_cons_self) h'))
          simp only [if_true]
          exact evB_true ih ⟨fun r hr' => h.1 r (List.mem_cons_of_mem _ hr'), h.2⟩
        · refine ev_go _ step (evB_bind hh (fun h' => ?_) (fun _ => by simp only [Bool.false_eq_true, if_false]; exact Ev.now _))
          simp only [if_true]
          refine evB_false ih (fun h2 => h ⟨fun r hr' => ?_, h2.2⟩)
          rcases List.mem_cons.1 hr' with rfl | hr'
          · exact h'
          · exact h2.1 r hr'
  · simp only [hm, decide_false, Bool.false_eq_true, if_false]
    exact no (fun h => absurd h.1 id)

theorem impl_IsJobShop.ev (m : Int) (l : List (List POp)) (hl : l.length ≤ 1048576) (hr : ∀ y ∈ l, y.length ≤ 1048576) : EvB (fun k => impl_IsJobShop.f k m l) (JobShopOk m l) := by
  unfold impl_IsJobShop.f JobShopOk
  simp only [impl_within.eq, Option.bind_some]
  have no : ∀ {P : Prop}, ¬ P → EvB (fun k => impl_IsJobShop.j0 k true m l) P := fun hP => evB_of (fun h => absurd h hP) (fun _ => ev_stop fun k => by simp only [impl_IsJobShop.j0]; rfl)
  by_cases hm : 1 ≤ m ∧ m ≤ 4
  · simp only [hm, and_self, decide_true, if_true, true_and]
    by_cases h4 : (l.length : Int) > 4
    · rw [decide_eq_true h4]
      exact no (fun h => absurd h.1 (by omega))
    · rw [decide_eq_false h4]
      have key := rev_ind (P := fun i => ∀ c : Nat, c ≤ i * 1048576 → EvB (fun k => impl_IsJobShop.l0 k (c : Int) l (l.length : Int) (i : Int) m l) ((∀ r ∈ l.drop i, RouteOk m [] r) ∧ c + opCount (l.drop i) ≤ 12)) l.length ?_ ?_ 0 (Nat.zero_le _) 0 (by omega)
      · obtain ⟨b, hb, hP⟩ := key
        refine ⟨b, ev_go _ (fun k => ?_) hb, hP.trans ?_⟩
        · simp only [impl_IsJobShop.j0]; rfl
        · rw [List.drop_zero, Nat.zero_add]
          exact ⟨fun h => ⟨by omega, h⟩, fun h => h.2⟩
      · intro c hc
        refine ⟨decide ((c : Int) ≤ 12), ev_stop fun k => ?_, ?_⟩
        · simp only [impl_IsJobShop.l0]; rw [if_neg (by omega)]
        · rw [decide_eq_true_iff, List.drop_length]
          simp only [List.not_mem_nil, false_implies, implies_true, true_and, opCount, List.map_nil, List.sum_nil]
          omega
      · intro i hi ih c hc
        rw [drop_cons hi, opCount_cons]
        have h1 := hr _ (List.getElem_mem hi)
        obtain ⟨b, hb, hP⟩ := ih (c + l[i].length) (by omega)
        have row := rev_ind (P := fun j => ∀ used : List Int, used.length = j → EvB (fun k => impl_IsJobShop.l1 k (c : Int) l[i] used l (l.length : Int) (i : Int) l[i] (l[i].length : Int) (j : Int) m l) (RouteOk m used (l[i].drop j) ∧ (∀ r ∈ l.drop (i + 1), RouteOk m [] r) ∧ c + l[i].length + opCount (l.drop (i + 1)) ≤ 12)) l[i].length ?_ ?_ 0 (Nat.zero_le _) [] rfl
        · obtain ⟨b', hb', hP'⟩ := row
          refine ⟨b', ev_go _ (fun k => ?_) hb', hP'.trans ?_⟩
          · simp only [impl_IsJobShop.l0]; rw [if_pos (by omega), if_pos (by omega), if_pos (by omega), rdLPOp hi]; rfl
          · rw [List.drop_zero]
            constructor
            · rintro ⟨h2, h3, h4⟩
              refine ⟨fun r hr' => ?_, by omega⟩
              rcases List.mem_cons.1 hr' with rfl | hr'
              · exact h2
              · exact h3 r hr'
            · rintro ⟨h2, h3⟩
              exact ⟨h2 _ List.mem_cons_self, fun r hr' => h2 r (List.mem_cons_of_mem _ hr'), by omega⟩
        · intro used _
          refine ⟨b, ev_go _ (fun k => ?_) hb, by rw [hP, List.drop_length]; exact ⟨fun h => ⟨trivial, h⟩, fun h => h.2⟩⟩
          simp only [impl_IsJobShop.l1]; rw [if_neg (by omega), wr (by omega) (by omega), wr1 (by omega)]; rfl
        · intro j hj ih' used hu
          rw [drop_cons hj, routeOk_cons]
          have hh := impl_has.ev used l[i][j].f0 (by omega)
          by_cases a : 0 ≤ l[i][j].f0 ∧ l[i][j].f0 < m
          · by_cases e : 1 ≤ l[i][j].f1 ∧ l[i][j].f1 ≤ 20
            · have step : ∀ k, impl_IsJobShop.l1 (k + 1) (c : Int) l[i] used l (l.length : Int) (i : Int) l[i] (l[i].length : Int) (j : Int) m l = (impl_has.f k used l[i][j].f0).bind fun t => if t = true then some false else impl_IsJobShop.l1 k (c : Int) l[i] (used ++ [l[i][j].f0]) l (l.length : Int) (i : Int) l[i] (l[i].length : Int) ((j + 1 : Nat) : Int) m l := fun k => by
                simp only [impl_IsJobShop.l1]; rw [if_pos (by omega), if_pos (by omega), if_pos (by omega), rdPOp hj, impl_isNumber.eq _ _ (by omega) (by omega), Option.bind_some, if_pos (by simpa using a), impl_within.eq, Option.bind_some, if_pos (by simpa using e), wr1 (by omega)]
                congr 1; funext t
                rw [if_pos (show used.length < 17592186044416 by omega)]
              refine evB_of (fun h => ?_) (fun h => ?_)
              · refine ev_go _ step (evB_bind hh (fun h' => absurd h' h.1.2.2.1) (fun _ => ?_))
                simp only [Bool.false_eq_true, if_false]
                exact evB_true (ih' _ (by simp [hu])) ⟨h.1.2.2.2, h.2⟩
              · refine ev_go _ step (evB_bind hh (fun _ => by simp only [if_true]; exact Ev.now _) (fun h' => ?_))
                simp only [Bool.false_eq_true, if_false]
                exact evB_false (ih' _ (by simp [hu])) (fun h2 => h ⟨⟨⟨a.1, by omega⟩, e, h', h2.1⟩, h2.2⟩)
            · refine evB_of (fun h => absurd h.1.2.1 e) (fun _ => ev_stop fun k => ?_)
              simp only [impl_IsJobShop.l1]; rw [if_pos (by omega), if_pos (by omega), if_pos (by omega), rdPOp hj, impl_isNumber.eq _ _ (by omega) (by omega), Option.bind_some, if_pos (by simpa using a), impl_within.eq, Option.bind_some, if_neg (by simpa using e)]
          · refine evB_of (fun h => absurd h.1.1 (by omega)) (fun _ => ev_stop fun k => ?_)
            simp only [impl_IsJobShop.l1]; rw [if_pos (by omega), if_pos (by omega), if_pos (by omega), rdPOp hj, impl_isNumber.eq _ _ (by omega) (by omega), Option.bind_some, if_neg (by simp; omega)]
  · simp only [hm, decide_false, Bool.false_eq_true, if_false]
    exact no (fun h => absurd h.1 id)

end Go.Proofs.Ytgelmpoaainlfaa.Pure
