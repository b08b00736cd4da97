/- Proved here: what functions that the law FnExactLeastRegret reaches answer (robust, laws_markJobSS, core_LeastRegret). Conditions: those that each theorem names. -/
import Derived.Test.YtbcfmegepkhlpaaQFnExactLeastRegretxa
set_option linter.unusedVariables false
set_option linter.unusedSimpArgs false
namespace Go.Proofs.Ytbcfmegepkhlpaa.Pure
open Go.RowKit Go.Proofs.Ytbcfmegepkhlpaa.XFnExactLeastRegret Go.Proofs.YtbcfmegepkhlpaaW.PrintWords Go.Proofs.YtbcfmegepkhlpaaW.PrintLast

def valJ (jobs : List J) (l : List Int) (f : Int) : Int := valF jobs (endsAll jobs l) f jobs.length 0 0
theorem spec_l2Value.ev (jobs : List J) (l : List Int) (f : Int) (h : TwoOk jobs l) (hf : Obj8 f) : Ev (fun k => spec_l2Value.f k jobs l f) (valJ jobs l f) := by
  have h8 := h.1.1
  unfold spec_l2Value.f
  exact ev_bind (endsAll jobs l) (spec_l2Ends.ev jobs l h) (ev_bind _ (spec_l2Of.ev jobs _ f (endsAll_len jobs l) (by omega) hf (endsAll_in jobs l h)) (Ev.now _))
theorem impl_valueOf.ev (jobs : List J) (l : List Int) (f : Int) (h : TwoOk jobs l) : Ev (fun k => impl_valueOf.f k jobs l f) (valJ jobs l f) := by
  have h8 := h.1.1
  have hl := h.2.1
  unfold impl_valueOf.f
  exact ev_bind (endsAll jobs l) (impl_endsOf.ev jobs l (by omega) (by omega) h.2.2.2) (ev_bind _ (impl_valueOfEnds.ev jobs _ f (endsAll_len jobs l) (by omega)) (Ev.now _))
def valsL (ls : List (List J)) (l : List Int) (f : Int) : List Int := ls.map fun j => valJ j l f
theorem take_snocM {α β : Type} (g : α → β) (l : List α) (i : Nat) (h : i < l.length) : (l.take (i + 1)).map g = (l.take i).map g ++ [g l[i]] := by
  rw [List.take_add_one, List.map_append, List.getElem?_eq_getElem h]; rfl
theorem spec_l11Values.ev (ls : List (List J)) (l : List Int) (f : Int) (h : ∀ j ∈ ls, TwoOk j l) (hf : Obj8 f) (hn : ls.length ≤ 1000) : Ev (fun k => spec_l11Values.f k ls l f) (valsL ls l f) := by
  have key := rev_ind (P := fun i => Ev (fun k => spec_l11Values.l0 k ls l f ((ls.take i).map fun j => valJ j l f) (i : Int)) (valsL ls l f)) ls.length ?_ ?_ 0 (Nat.zero_le _)
  · simpa [spec_l11Values.f] using key
  · refine ev_stop fun k => ?_
    simp only [spec_l11Values.l0]; rw [if_neg (by omega), List.take_of_length_le (Nat.le_refl _)]; rfl
  · intro i hi ih
    refine ev_go (fun k => (spec_l2Value.f k ls[i] l f).bind fun t => spec_l11Values.l0 k ls l f (((ls.take i).map fun j => valJ j l f) ++ [t]) ((i + 1 : Nat) : Int)) (fun k => ?_) (ev_bind _ (spec_l2Value.ev ls[i] l f (h _ (List.getElem_mem hi)) hf) (by rw [← take_snocM _ _ _ hi]; exact ih))
    simp only [spec_l11Values.l0]; rw [if_pos (by omega), if_pos (by omega), rdLJJ hi, wr1 (by omega)]
    congr 1; funext t
    rw [if_pos (by simp; omega)]
theorem impl_scenarioValues.ev (ls : List (List J)) (l : List Int) (f : Int) (h : ∀ j ∈ ls, TwoOk j l) (hn : ls.length ≤ 1000) : Ev (fun k => impl_scenarioValues.f k ls l f) (valsL ls l f) := by
  have key := rev_ind (P := fun i => Ev (fun k => impl_scenarioValues.l0 k l f ((ls.take i).map fun j => valJ j l f) ls (ls.length : Int) (i : Int)) (valsL ls l f)) ls.length ?_ ?_ 0 (Nat.zero_le _)
  · simpa [impl_scenarioValues.f] using key
  · refine ev_stop fun k => ?_
    simp only [impl_scenarioValues.l0]; rw [if_neg (by omega), List.take_of_length_le (Nat.le_refl _)]; rfl
  · intro i hi ih
    refine ev_go (fun k => (impl_valueOf.f k ls[i] l f).bind fun t => impl_scenarioValues.l0 k l f (((ls.take i).map fun j => valJ j l f) ++ [t]) ls (ls.length : Int) ((i + 1 : Nat) : Int)) (fun k => ?_) (ev_bind _ (impl_valueOf.ev ls[i] l f (h _ (List.getElem_mem hi))) (by rw [← take_snocM _ _ _ hi]; exact ih))
    simp only [impl_scenarioValues.l0]; rw [if_pos (by omega), if_pos (by omega), if_pos (by omega), rdLJJ hi, wr1 (by omega)]
    congr 1; funext t
    rw [if_pos (by simp; omega)]
/-- The difference at a place; the first place with the greatest one. -/
def dfF (vs bs : List Int) (i : Nat) : Int := wrap64 (rd vs (i : Int) - rd bs (i : Int))
def wAt (vs bs : List Int) : Nat → Nat → Nat → Nat
  | 0, _, at_ => at_
  | n + 1, i, at_ => wAt vs bs n (i + 1) (if dfF vs bs i > dfF vs bs at_ then i else at_)
def worstF (vs bs : List Int) : Int × Int := (dfF vs bs (wAt vs bs (vs.length - 1) 1 0), (wAt vs bs (vs.length - 1) 1 0 : Int))
theorem spec_l11Worst.ev (vs bs : List Int) (h0 : 0 < vs.length) (h1 : vs.length ≤ bs.length) (hn : vs.length ≤ 1000000) : Ev (fun k => spec_l11Worst.f k vs bs) (worstF vs bs) := by
  have key := rev_ind (P := fun i => ∀ at_ : Nat, at_ < vs.length → Ev (fun k => spec_l11Worst.l0 k vs bs (at_ : Int) (i : Int)) (dfF vs bs (wAt vs bs (vs.length - i) i at_), (wAt vs bs (vs.length - i) i at_ : Int))) vs.length ?_ ?_ 1 (by omega) 0 h0
  · exact key
  · intro at_ ha
    refine ev_stop fun k => ?_
    simp only [spec_l11Worst.l0]; rw [if_neg (by omega), if_pos (by omega), if_pos (by omega), if_pos (by omega), Nat.sub_self, wAt, dfF]
  · intro i hi ih at_ ha
    refine ev_go _ (fun k => ?_) (by
      rw [show vs.length - i = (vs.length - (i + 1)) + 1 by omega, wAt]
      exact ih (if dfF vs bs i > dfF vs bs at_ then i else at_) (by split <;> omega))
    simp only [spec_l11Worst.l0]; rw [if_pos (by omega), if_pos (by omega), if_pos (by omega), if_pos (by omega), if_pos (by omega), if_pos (by omega), wr1 (by omega)]
    by_cases c : dfF vs bs i > dfF vs bs at_
    · rw [if_pos (show (wrap64 ((rd vs (i : Int)) - (rd bs (i : Int)))) > (wrap64 ((rd vs (at_ : Int)) - (rd bs (at_ : Int)))) from c), if_pos c]
    · rw [if_neg (show ¬ (wrap64 ((rd vs (i : Int)) - (rd bs (i : Int)))) > (wrap64 ((rd vs (at_ : Int)) - (rd bs (at_ : Int)))) from c), if_neg c]
theorem impl_greatest.ev (vs bs : List Int) (h0 : 0 < vs.length) (h1 : vs.length ≤ bs.length) (hn : vs.length ≤ 1000000) : Ev (fun k => impl_greatest.f k vs bs) (worstF vs bs) := by
  have key := rev_ind (P := fun i => ∀ at_ : Nat, at_ < vs.length → Ev (fun k => impl_greatest.l0 k bs (dfF vs bs at_) (at_ : Int) vs (vs.length : Int) (i : Int)) (dfF vs bs (wAt vs bs (vs.length - i) i at_), (wAt vs bs (vs.length - i) i at_ : Int))) vs.length ?_ ?_ 0 (by omega) 0 h0
  · unfold impl_greatest.f worstF
    simp only [if_pos (show (0 : Int) < (vs.length : Int) by omega), if_pos (show (0 : Int) < (bs.length : Int) by omega)]
    rw [Nat.sub_zero, show vs.length = (vs.length - 1) + 1 by omega, wAt, if_neg (Int.lt_irrefl _), ← show vs.length = (vs.length - 1) + 1 by omega] at key
    exact key
  · intro at_ ha
    refine ev_stop fun k => ?_
    simp only [impl_greatest.l0]; rw [if_neg (by omega), Nat.sub_self, wAt]
  · intro i hi ih at_ ha
    refine ev_go _ (fun k => ?_) (by
      rw [show vs.length - i = (vs.length - (i + 1)) + 1 by omega, wAt]
      exact ih (if dfF vs bs i > dfF vs bs at_ then i else at_) (by split <;> omega))
    simp only [impl_greatest.l0]; rw [if_pos (by omega), if_pos (by omega), if_pos (by omega), if_pos (by omega), wr1 (by omega)]
    by_cases c : dfF vs bs i > dfF vs bs at_
    · rw [if_pos (show (wrap64 ((rd vs (i : Int)) - (rd bs (i : Int)))) > dfF vs bs at_ from c), if_pos c]; rfl
    · rw [if_neg (show ¬ (wrap64 ((rd vs (i : Int)) - (rd bs (i : Int)))) > dfF vs bs at_ from c), if_neg c]
def lwN (ls : List (List J)) (f : Int) (bs l : List Int) : Int := (worstF (valsL ls l f) bs).1
def lwS (ls : List (List J)) (f : Int) (bs : List Int) (l : List Int) (s : List Int × Int × Int) : List Int × Int × Int := if s.2.2 = 0 ∨ lwN ls f bs l < s.2.1 then (l, lwN ls f bs l, 1) else s
def lwI (ls : List (List J)) (f : Int) (bs : List Int) (l : List Int) (s : List Int × Int × Bool) : List Int × Int × Bool := if s.2.2 = false ∨ lwN ls f bs l < s.2.1 then (l, lwN ls f bs l, true) else s
theorem scen_two {ls : List (List J)} (h : ScenOk ls) {l : List Int} (hl : IsPerm (ls.headD []).length l) : ∀ j ∈ ls, TwoOk j l := fun j hj => ⟨(h.2 j hj).1, by rw [(h.2 j hj).2]; exact hl⟩
theorem spec_l11Least.ev (ls : List (List J)) (f : Int) (bs : List Int) (h : ScenOk ls) (hf : Obj8 f) (hb : ls.length ≤ bs.length) : Ev (fun k => spec_l11Least.f k ls [] f bs [] 0 0) ((perms (ls.headD []).length (nums_to (ls.headD []).length)).foldl (fun s l => lwS ls f bs l s) ([], 0, 0)) := by
  have hp : 0 < ls.length := by have := h.1; omega
  have h4 := h.1.2
  have hh := head_len hp
  have h8 : (ls.headD []).length ≤ 8 := by rw [hh]; exact (h.2 _ (List.getElem_mem hp)).1.1
  have hr : (rd_L4 ls 0).length = (ls.headD []).length := by rw [rdLJJ_zero hp, hh]
  have hp0 : (0 : Int) < (ls.length : Int) := by omega
  have key := rec_all (ls.headD []).length (lwS ls f bs) (fun _ => True) (fun k b s => spec_l11Least.f k ls b f bs s.1 s.2.1 s.2.2) (fun k b i s => spec_l11Least.l0 k ls b f bs i s.1 s.2.1 s.2.2) ?_ ?_ ?_ ?_ ?_ (ls.headD []).length [] ([], 0, 0) (by simp) (by simp) (by simp) trivial
  · rw [← rec_start]
    exact key.1
  · intro b s hb2 _
    refine ⟨?_, trivial⟩
    have e1 := spec_l11Values.ev ls b f (scen_two h hb2) hf (by omega)
    have e2 := spec_l11Worst.ev (valsL ls b f) bs (by simp [valsL]; omega) (by simp [valsL]; omega) (by simp [valsL]; omega)
    refine ev_go (fun k => (spec_l11Values.f k ls b f).bind fun t => (spec_l11Worst.f k t bs).bind fun p => some (if s.2.2 = 0 ∨ p.1 < s.2.1 then (b, p.1, 1) else s)) (fun k => ?_) (ev_bind _ e1 (ev_bind _ e2 (Ev.now _)))
    simp only [spec_l11Least.f]
    rw [if_pos hp0, if_pos (by rw [hr]; have := hb2.1; omega)]
    congr 1; funext t
    congr 1; funext p
    by_cases c : s.2.2 = 0
    · simp [c]
    · by_cases d : p.1 < s.2.1
      · simp [c, d]
      · simp [c, d]
  · intro b s r hb2 h2
    refine ev_go _ (fun k => ?_) h2
    simp only [spec_l11Least.f]; rw [if_pos hp0, if_neg (by rw [hr]; omega)]
  · intro b s _
    refine ev_stop fun k => ?_
    simp only [spec_l11Least.l0]; rw [if_pos hp0, if_neg (by rw [hr]; omega)]
  · intro b i s r hb2 hi hm h2
    refine ev_go (fun k => (spec_l1Has.f k b (i : Int)).bind fun t => if t = true then spec_l11Least.l0 k ls b f bs ((i + 1 : Nat) : Int) s.1 s.2.1 s.2.2 else ((spec_l11Least.f k ls (b ++ [(i : Int)]) f bs s.1 s.2.1 s.2.2).bind fun q => (spec_l11Least.l0 k ls b f bs ((i + 1 : Nat) : Int) q.1 q.2.1 q.2.2))) (fun k => ?_) (evB_bind (spec_l1Has.ev b (i : Int) (by omega)) (fun _ => by simp only [if_true]; exact h2) (fun hn => absurd hm hn))
    simp only [spec_l11Least.l0]; rw [if_pos hp0, if_pos (by rw [hr]; omega), wr1 (by omega), spec_l1Own.eq b (by omega)]
    simp only [Option.bind_some]
    rw [if_pos (by simp; omega)]
  · intro b i s s' r hb2 hi hm h1 h2
    refine ev_go (fun k => (spec_l1Has.f k b (i : Int)).bind fun t => if t = true then spec_l11Least.l0 k ls b f bs ((i + 1 : Nat) : Int) s.1 s.2.1 s.2.2 else ((spec_l11Least.f k ls (b ++ [(i : Int)]) f bs s.1 s.2.1 s.2.2).bind fun q => (spec_l11Least.l0 k ls b f bs ((i + 1 : Nat) : Int) q.1 q.2.1 q.2.2))) (fun k => ?_) (evB_bind (spec_l1Has.ev b (i : Int) (by omega)) (fun hn => absurd hn hm) (fun _ => by simp only [Bool.false_eq_true, if_false]; exact ev_bind _ h1 h2))
    simp only [spec_l11Least.l0]; rw [if_pos hp0, if_pos (by rw [hr]; omega), wr1 (by omega), spec_l1Own.eq b (by omega)]
    simp only [Option.bind_some]
    rw [if_pos (by simp; omega)]
/-- Both searches find the same. -/
theorem leastBoth (ls : List (List J)) (f : Int) (bs : List Int) (h : ScenOk ls) (hf : Obj8 f) (hb : ls.length ≤ bs.length) : ∃ (r : List Int) (t c : Int), Ev (fun k => spec_l11Least.f k ls [] f bs [] 0 0) (r, t, c) ∧ Ev (fun k => impl_leastGreatest.f k ls bs f) (r, t) ∧ r.length ≤ 1048576 := by
  have hp : 0 < ls.length := by have := h.1; omega
  have h4 := h.1.2
  have hh := head_len hp
  have h8 : (ls.headD []).length ≤ 8 := by rw [hh]; exact (h.2 _ (List.getElem_mem hp)).1.1
  have s1 := spec_l11Least.ev ls f bs h hf hb
  have i1 := impl_eachOrder.ev (impl_leastGreatest.step ls bs f) (lwI ls f bs) (fun _ => True) (ls.headD []).length (by omega) ([], 0, false) (fun l hl s _ => ⟨by
    unfold impl_leastGreatest.step
    have hcp := impl_copyInts.eq l (by have := hl.1; omega)
    simp only [if_pos hcp]
    exact ev_bind _ (impl_scenarioValues.ev ls l f (scen_two h hl) (by omega)) (ev_bind _ (impl_greatest.ev (valsL ls l f) bs (by simp [valsL]; omega) (by simp [valsL]; omega) (by simp [valsL]; omega)) (Ev.now _)), trivial⟩) trivial
  have sim := fold_sim (fun (s : List Int × Int × Int) (t : List Int × Int × Bool) => s.1 = t.1 ∧ s.2.1 = t.2.1 ∧ s.1.length ≤ 1048576 ∧ (s.2.2 = 0 ∧ t.2.2 = false ∨ s.2.2 = 1 ∧ t.2.2 = true)) (lwS ls f bs) (lwI ls f bs) (perms (ls.headD []).length (nums_to (ls.headD []).length)) ([], 0, 0) ([], 0, false) (by simp) (fun l hl s t hst => by
    have hl1 := (perms_isPerm hl).1
    obtain ⟨q1, q2, q3, q4⟩ := hst
    have q5 : s.2.2 = 0 ↔ t.2.2 = false := by
      rcases q4 with ⟨a, b⟩ | ⟨a, b⟩
      · simp [a, b]
      · simp [a, b]
    unfold lwS lwI
    rw [← q2]
    by_cases c : s.2.2 = 0 ∨ lwN ls f bs l < s.2.1
    · rw [if_pos c, if_pos (by rw [← q5]; exact c)]; exact ⟨rfl, rfl, by simp; omega, .inr ⟨rfl, rfl⟩⟩
    · rw [if_neg c, if_neg (by rw [← q5]; exact c)]; exact ⟨q1, q2, q3, q4⟩)
  obtain ⟨q1, q2, q3, q4⟩ := sim
  refine ⟨_, _, _, s1, ?_, q3⟩
  unfold impl_leastGreatest.f
  simp only [if_pos hp]
  rw [show ls.getD 0 [] = ls.headD [] from by rw [hh]; simp [List.getD, hp]]
  refine ev_bind _ i1 (ev_eq (Ev.now _) ?_)
  rw [q1, q2]
theorem impl_areRobust.ev (ls : List (List J)) (f : Int) : EvB (fun k => impl_areRobust.f k ls f) (ScenOk ls ∧ Obj8 f) := by
  unfold impl_areRobust.f
  simp only [impl_isObjective.ev, Option.bind_some]
  obtain ⟨b, hb, hP⟩ := impl_AreScenarios.ev ls
  refine ⟨b && decide (1 ≤ f ∧ f ≤ 8), ev_bind b hb ?_, by rw [Bool.and_eq_true, hP, decide_eq_true_eq]; rfl⟩
  cases b
  · simp only [Bool.false_eq_true, if_false, Bool.false_and]; exact Ev.now _
  · simp only [if_true, Bool.true_and]; exact Ev.now _

theorem laws_markJobS.big (l : List J) (a : Int) (h0 : 0 ≤ a) (h1 : a ≤ 1000000000000000) (hl : l.length ≤ 1048576) : ∃ l', Ev (fun k => laws_markJobS.f k l a) (a + 4 * l.length, l') := by
  have key := rev_ind (P := fun i => ∀ (x : List J) (b : Int), x.length = l.length → b = a + 4 * i → ∃ l', Ev (fun k => laws_markJobS.l0 k x b (i : Int)) (a + 4 * l.length, l')) l.length ?_ ?_ 0 (Nat.zero_le _) l a rfl (by omega)
  · obtain ⟨l', h⟩ := key
    exact ⟨l', by simpa [laws_markJobS.f] using h⟩
  · intro x b hx hb
    refine ⟨x, ev_stop fun k => ?_⟩
    simp only [laws_markJobS.l0]; rw [if_neg (by omega), hb]
  · intro i hi ih x b hx hb
    have w1 : wrap64 (b + 1) = b + 1 := wr (by omega) (by omega)
    have w2 : wrap64 (b + 1 + 1) = b + 2 := by rw [wr (by omega) (by omega)]; omega
    have w3 : wrap64 (b + 2 + 1) = b + 3 := by rw [wr (by omega) (by omega)]; omega
    have w4 : wrap64 (b + 3 + 1) = b + 4 := by rw [wr (by omega) (by omega)]; omega
    have step : ∃ y : List J, y.length = l.length ∧ ∀ k, laws_markJobS.l0 (k + 1) x b (i : Int) = laws_markJobS.l0 k y (b + 4) ((i + 1 : Nat) : Int) := by
      refine ⟨mkJ4 (mkJ3 (mkJ2 (mkJ1 x i b) i (b + 1)) i (b + 2)) i (b + 3), by simp [mkJ1, mkJ2, mkJ3, mkJ4, hx], fun k => ?_⟩
      simp only [laws_markJobS.l0, Option.bind_some]
      rw [if_pos (by omega), if_pos (by omega), w1, w2, w3, w4, wr1 (by omega)]
      rfl
    obtain ⟨y, hy, hs⟩ := step
    obtain ⟨l', h⟩ := ih y (b + 4) hy (by omega)
    exact ⟨l', ev_go _ hs h⟩
def sumLenJ : List (List J) → Nat
  | [] => 0
  | y :: ys => y.length + sumLenJ ys
theorem sumLenJ_le : ∀ l : List (List J), (∀ y ∈ l, y.length ≤ 1048576) → sumLenJ l ≤ l.length * 1048576
  | [], _ => Nat.zero_le _
  | y :: ys, h => by
    have := h y List.mem_cons_self
    have := sumLenJ_le ys (fun z hz => h z (List.mem_cons_of_mem _ hz))
    simp only [sumLenJ, List.length_cons]; omega
theorem laws_markJobSS.go : ∀ (l dn : List (List J)) (a : Int), 0 ≤ a → a + 4 * sumLenJ l ≤ 500000000000000 → dn.length + l.length ≤ 1048576 → (∀ y ∈ l, y.length ≤ 1048576) → ∃ l', Ev (fun k => laws_markJobSS.l0 k (dn ++ l) a (dn.length : Int)) (a + 4 * sumLenJ l, l')
  | [], dn, a, _, _, _, _ => by
    refine ⟨dn, ev_stop fun k => ?_⟩
    simp only [laws_markJobSS.l0, List.append_nil]; rw [if_neg (by omega), if_neg (by omega)]; simp [sumLenJ]
  | y :: ys, dn, a, h0, h1, h2, h3 => by
    simp only [sumLenJ, List.length_cons] at h1 h2
    have hy := h3 y List.mem_cons_self
    obtain ⟨y', hy'⟩ := laws_markJobS.big y a h0 (by omega) hy
    obtain ⟨l', ih⟩ := laws_markJobSS.go ys (dn ++ [y']) (a + 4 * y.length) (by omega) (by omega) (by simp; omega) (fun z hz => h3 z (List.mem_cons_of_mem _ hz))
    rw [List.length_append, List.length_singleton, List.append_assoc] at ih
    refine ⟨l', ?_⟩
    rw [sumLenJ, show a + 4 * ((y.length + sumLenJ ys : Nat) : Int) = a + 4 * (y.length : Int) + 4 * (sumLenJ ys : Int) by omega]
    refine ev_go (fun k => (laws_markJobS.f k y a).bind fun b => laws_markJobSS.l0 k ((dn ++ y :: ys).set dn.length b.2) b.1 ((dn.length + 1 : Nat) : Int)) (fun k => ?_) (ev_bind _ hy' ?_)
    · simp only [laws_markJobSS.l0]; rw [if_pos (by simp; omega), show rowJS (dn ++ y :: ys) (dn.length : Int) = y from by simp [rowJS], wr1 (by omega)]; rfl
    · rw [List.set_append_right _ _ (Nat.le_refl _), Nat.sub_self, List.set_cons_zero]
      exact ih
theorem laws_markJobSS.any (l : List (List J)) (a : Int) (h0 : 0 ≤ a) (h1 : a ≤ 10000000000000) (hl : l.length ≤ 1048576) (hw : ∀ y ∈ l, y.length ≤ 1048576) : ∃ n l', Ev (fun k => laws_markJobSS.f k l a) (n, l') ∧ 0 ≤ n ∧ n ≤ a + 4400000000000 ∧ ((n < 0) = False) := by
  have := sumLenJ_le l hw
  obtain ⟨l', h⟩ := laws_markJobSS.go l [] a h0 (by omega) (by simpa using hl) hw
  refine ⟨a + 4 * sumLenJ l, l', ?_, by omega, by omega, by simp; omega⟩
  unfold laws_markJobSS.f
  simp only [if_pos hl]
  exact h

def bsU (jobs : List J) (f : Int) (l : List Int) (s : List Int × Int × Int) : List Int × Int × Int := if s.2.2 = 0 ∨ valJ jobs l f < s.2.1 then (l, valJ jobs l f, 1) else if valJ jobs l f = s.2.1 then (s.1, s.2.1, wrap64 (s.2.2 + 1)) else s
theorem spec_l2Try.ev (jobs : List J) (f : Int) (hj : JobsOk jobs) (hf : Obj8 f) : Ev (fun k => spec_l2Try.f k jobs [] f [] 0 0) ((perms jobs.length (nums_to jobs.length)).foldl (fun s l => bsU jobs f l s) ([], 0, 0)) := by
  have h8 := hj.1
  have key := rec_all jobs.length (bsU jobs f) (fun _ => True) (fun k b s => spec_l2Try.f k jobs b f s.1 s.2.1 s.2.2) (fun k b i s => spec_l2Try.l0 k jobs b f i s.1 s.2.1 s.2.2) ?_ ?_ ?_ ?_ ?_ jobs.length [] ([], 0, 0) (by simp) (by simp) (by simp) trivial
  · rw [← rec_start]
    exact key.1
  · intro b s hb _
    refine ⟨?_, trivial⟩
    have hp := spec_l2Value.ev jobs b f ⟨hj, hb⟩ hf
    have own := spec_l1Own.eq b (by have := hb.1; omega)
    refine ev_go (fun k => (spec_l2Value.f k jobs b f).bind fun p => spec_l2Try.j0 k b p (decide (s.2.2 = 0 ∨ p < s.2.1)) s.1 s.2.1 s.2.2) (fun k => ?_) (ev_bind _ hp ?_)
    · simp only [spec_l2Try.f]
      rw [if_pos (by have := hb.1; omega)]
      congr 1
      funext p
      by_cases c : s.2.2 = 0
      · rw [if_pos c, decide_eq_true (.inl c)]
      · rw [if_neg c]
        by_cases d : p < s.2.1
        · rw [decide_eq_true d, decide_eq_true (.inr d)]
        · rw [decide_eq_false d, decide_eq_false (by rintro (h | h); exact c h; exact d h)]
    · skip
      refine ev_stop fun k => ?_
      unfold bsU
      by_cases c : s.2.2 = 0 ∨ valJ jobs b f < s.2.1
      · simp only [spec_l2Try.j0, if_pos c, decide_eq_true c, if_true, own, Option.bind_some]
      · by_cases d : valJ jobs b f = s.2.1
        · simp only [spec_l2Try.j0, if_neg c, decide_eq_false c, Bool.false_eq_true, if_false, if_pos d]
        · simp only [spec_l2Try.j0, if_neg c, decide_eq_false c, Bool.false_eq_true, if_false, if_neg d]
  · intro b s r hb h
    refine ev_go _ (fun k => ?_) h
    simp only [spec_l2Try.f]; rw [if_neg (by omega)]
  · intro b s _
    refine ev_stop fun k => ?_
    simp only [spec_l2Try.l0]; rw [if_neg (by omega)]
  · intro b i s r hb hi hm h
    refine ev_go (fun k => (spec_l1Has.f k b (i : Int)).bind fun t => if t = true then spec_l2Try.l0 k jobs b f ((i + 1 : Nat) : Int) s.1 s.2.1 s.2.2 else ((spec_l2Try.f k jobs (b ++ [(i : Int)]) f s.1 s.2.1 s.2.2).bind fun q => (spec_l2Try.l0 k jobs b f ((i + 1 : Nat) : Int) q.1 q.2.1 q.2.2))) (fun k => ?_) (evB_bind (spec_l1Has.ev b (i : Int) (by omega)) (fun _ => by simp only [if_true]; exact h) (fun hn => absurd hm hn))
    simp only [spec_l2Try.l0]; rw [if_pos (by omega), wr1 (by omega), spec_l1Own.eq b (by omega)]
    simp only [Option.bind_some]
    rw [if_pos (by simp; omega)]
  · intro b i s s' r hb hi hm h1 h2
    refine ev_go (fun k => (spec_l1Has.f k b (i : Int)).bind fun t => if t = true then spec_l2Try.l0 k jobs b f ((i + 1 : Nat) : Int) s.1 s.2.1 s.2.2 else ((spec_l2Try.f k jobs (b ++ [(i : Int)]) f s.1 s.2.1 s.2.2).bind fun q => (spec_l2Try.l0 k jobs b f ((i + 1 : Nat) : Int) q.1 q.2.1 q.2.2))) (fun k => ?_) (evB_bind (spec_l1Has.ev b (i : Int) (by omega)) (fun hn => absurd hn hm) (fun _ => by simp only [Bool.false_eq_true, if_false]; exact ev_bind _ h1 h2))
    simp only [spec_l2Try.l0]; rw [if_pos (by omega), wr1 (by omega), spec_l1Own.eq b (by omega)]
    simp only [Option.bind_some]
    rw [if_pos (by simp; omega)]
def bestF (jobs : List J) (f : Int) : List Int × Int × Int := (perms jobs.length (nums_to jobs.length)).foldl (fun s l => bsU jobs f l s) ([], 0, 0)
theorem spec_l2Best.ev (jobs : List J) (f : Int) (hj : JobsOk jobs) (hf : Obj8 f) : Ev (fun k => spec_l2Best.f k jobs f) ((bestF jobs f).1, (bestF jobs f).2.1) := by
  unfold spec_l2Best.f spec_l2All.f
  exact ev_bind _ (ev_bind _ (spec_l2Try.ev jobs f hj hf) (Ev.now _)) (Ev.now _)
theorem impl_best.ev (jobs : List J) (f : Int) (hj : JobsOk jobs) : Ev (fun k => impl_best.f k jobs f) (bestF jobs f) := by
  have h8 := hj.1
  unfold impl_best.f
  refine impl_eachOrder.ev (impl_best.step jobs f) (bsU jobs f) (fun _ => True) jobs.length (by omega) ([], 0, 0) (fun l hl s _ => ⟨?_, trivial⟩) trivial
  unfold impl_best.step
  have hcp := impl_copyInts.eq l (by have := hl.1; omega)
  simp only [if_pos hcp]
  exact ev_bind _ (impl_valueOf.ev jobs l f ⟨hj, hl⟩) (Ev.now _)
def bestsL (ls : List (List J)) (f : Int) : List Int := ls.map fun j => (bestF j f).2.1
theorem spec_l11Bests.ev (ls : List (List J)) (f : Int) (h : ∀ j ∈ ls, JobsOk j) (hf : Obj8 f) (hn : ls.length ≤ 1000) : Ev (fun k => spec_l11Bests.f k ls f) (bestsL ls f) := by
  have key := rev_ind (P := fun i => Ev (fun k => spec_l11Bests.l0 k ls f ((ls.take i).map fun j => (bestF j f).2.1) (i : Int)) (bestsL ls f)) ls.length ?_ ?_ 0 (Nat.zero_le _)
  · simpa [spec_l11Bests.f] using key
  · refine ev_stop fun k => ?_
    simp only [spec_l11Bests.l0]; rw [if_neg (by omega), List.take_of_length_le (Nat.le_refl _)]; rfl
  · intro i hi ih
    refine ev_go (fun k => (spec_l2Best.f k ls[i] f).bind fun t => spec_l11Bests.l0 k ls f (((ls.take i).map fun j => (bestF j f).2.1) ++ [t.2]) ((i + 1 : Nat) : Int)) (fun k => ?_) (ev_bind _ (spec_l2Best.ev ls[i] f (h _ (List.getElem_mem hi)) hf) (by rw [← take_snocM _ _ _ hi]; exact ih))
    simp only [spec_l11Bests.l0]; rw [if_pos (by omega), if_pos (by omega), rdLJJ hi, wr1 (by omega)]
    congr 1; funext t
    rw [if_pos (by simp; omega)]
theorem impl_bestValues.ev (ls : List (List J)) (f : Int) (h : ∀ j ∈ ls, JobsOk j) (hn : ls.length ≤ 1000) : Ev (fun k => impl_bestValues.f k ls f) (bestsL ls f) := by
  have key := rev_ind (P := fun i => Ev (fun k => impl_bestValues.l0 k f ((ls.take i).map fun j => (bestF j f).2.1) ls (ls.length : Int) (i : Int)) (bestsL ls f)) ls.length ?_ ?_ 0 (Nat.zero_le _)
  · simpa [impl_bestValues.f] using key
  · refine ev_stop fun k => ?_
    simp only [impl_bestValues.l0]; rw [if_neg (by omega), List.take_of_length_le (Nat.le_refl _)]; rfl
  · intro i hi ih
    refine ev_go (fun k => (impl_best.f k ls[i] f).bind fun t => impl_bestValues.l0 k f (((ls.take i).map fun j => (bestF j f).2.1) ++ [t.2.1]) ls (ls.length : Int) ((i + 1 : Nat) : Int)) (fun k => ?_) (ev_bind _ (impl_best.ev ls[i] f (h _ (List.getElem_mem hi))) (by rw [← take_snocM _ _ _ hi]; exact ih))
    simp only [impl_bestValues.l0]; rw [if_pos (by omega), if_pos (by omega), if_pos (by omega), rdLJJ hi, wr1 (by omega)]
    congr 1; funext t
    rw [if_pos (by simp; omega)]
theorem core_LeastRegret (ls : List (List J)) (f : Int) (hl : ls.length ≤ 1048576) (hw : ∀ y ∈ ls, y.length ≤ 1048576) (hf : (Lit.int .i64 f).wf = true) : ∃ r t b, Ev (fun k => spec_LeastRegret.f k ls f) (r, t, b) ∧ Ev (fun k => impl_LeastRegret.f k ls f) (r, t, b) ∧ r.length ≤ 1048576 := by
  unfold spec_LeastRegret.f impl_LeastRegret.f
  have e1 := spec_l11Lists.ev ls (by omega) (fun y hy => by have := hw y hy; omega)
  have e3 := impl_areRobust.ev ls f
  simp only [spec_l2Objective.ev, Option.bind_some]
  have sno : Ev (fun k => spec_LeastRegret.j0 k ls f true) (([] : List Int), (0 : Int), false) := ev_stop fun k => by simp only [spec_LeastRegret.j0]; rw [if_pos trivial]
  by_cases h : ScenOk ls ∧ Obj8 f
  · have h4 := h.1.1.2
    obtain ⟨r, t, c, s1, i1, h3⟩ := leastBoth ls f (bestsL ls f) h.1 h.2 (by simp [bestsL])
    have b1 := spec_l11Bests.ev ls f (fun j hj => (h.1.2 j hj).1) h.2 (by omega)
    have b2 := impl_bestValues.ev ls f (fun j hj => (h.1.2 j hj).1) (by omega)
    refine ⟨r, t, true, ev_guard' e1 (fun _ => ?_) (fun hn => absurd h.1 hn), ev_guard' e3 (fun _ => ?_) (fun hn => absurd h hn), h3⟩
    · rw [show (!decide (1 ≤ f ∧ f ≤ 8)) = false from by rw [decide_eq_true (show 1 ≤ f ∧ f ≤ 8 from h.2)]; rfl]
      refine ev_succ ?_
      simp only [spec_LeastRegret.j0, Bool.false_eq_true, if_false]
      exact ev_bind _ b1 (ev_bind _ s1 (Ev.now _))
    · exact ev_bind _ b2 (ev_bind _ i1 (Ev.now _))
  · refine ⟨[], 0, false, ev_guard' e1 (fun h1 => ?_) (fun _ => sno), ev_guard' e3 (fun h1 => absurd h1 h) (fun _ => Ev.now _), by simp⟩
    have h2 : ¬ (1 ≤ f ∧ f ≤ 8) := fun h2 => h ⟨h1, h2⟩
    rw [show (!decide (1 ≤ f ∧ f ≤ 8)) = true from by rw [decide_eq_false h2]; rfl]
    exact sno

end Go.Proofs.Ytbcfmegepkhlpaa.Pure
