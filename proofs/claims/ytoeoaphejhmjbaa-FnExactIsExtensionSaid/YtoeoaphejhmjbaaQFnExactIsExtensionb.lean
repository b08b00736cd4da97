/- Proved here: what functions that the law FnExactIsExtension reaches answer (spec_l1In, impl_within, spec_l1Has, impl_has, impl_isNumber, impl_areDifferent, impl_isOrder, spec_l2Order, laws_toIntS, laws_eqIntS). Conditions: those that each theorem names. -/
import Derived.Test.YtoeoaphejhmjbaaQFnExactIsExtensiona
set_option linter.unusedVariables false
set_option linter.unusedSimpArgs false
namespace Go.Proofs.Ytoeoaphejhmjbaa.Pure
open Go.RowKit Go.Proofs.Ytoeoaphejhmjbaa.XFnExactIsExtension Go.Proofs.YtoeoaphejhmjbaaW.PrintWords Go.Proofs.YtoeoaphejhmjbaaW.PrintLast

theorem spec_l1In.eq (a b c : Int) : spec_l1In.f a b c = some (decide (b ≤ a ∧ a ≤ c)) := by
  unfold spec_l1In.f
  by_cases h : a ≥ b
  · rw [if_pos h]; congr 1; simp; omega
  · rw [if_neg h]; congr 1; simp; omega

theorem impl_within.eq (a b c : Int) : impl_within.f a b c = some (decide (b ≤ a ∧ a ≤ c)) := by
  unfold impl_within.f
  by_cases h : b ≤ a
  · rw [if_pos h]; congr 1; simp; omega
  · rw [if_neg h]; congr 1; simp; omega

theorem spec_l1Has.ev (l : List Int) (a : Int) (hl : l.length ≤ 1000000000000000) : EvB (fun k => spec_l1Has.f k l a) (a ∈ l) := by
  have key := rev_ind (P := fun i => EvB (fun k => spec_l1Has.l0 k l a (i : Int)) (a ∈ l.drop i)) l.length ?_ ?_ 0 (Nat.zero_le _)
  · simpa [spec_l1Has.f] using key
  · refine evB_of (fun h => absurd h (by simp)) (fun _ => ev_stop fun k => ?_)
    simp only [spec_l1Has.l0]; rw [if_neg (by omega)]
  · intro i hi ih
    rw [drop_cons hi]
    by_cases e : l[i] = a
    · refine evB_of (fun _ => ev_stop fun k => ?_) (fun h => absurd (by simp [e]) h)
      simp only [spec_l1Has.l0]; rw [if_pos (by omega), if_pos (by omega), rd_nat hi, if_pos e]
    · obtain ⟨b, hb, hP⟩ := ih
      refine ⟨b, ev_go _ (fun k => ?_) hb, by rw [hP, List.mem_cons]; exact ⟨.inr, fun h => h.resolve_left (fun h => e h.symm)⟩⟩
      simp only [spec_l1Has.l0]; rw [if_pos (by omega), if_pos (by omega), rd_nat hi, if_neg e, wr1 (by omega)]

theorem impl_has.ev (l : List Int) (a : Int) (hl : l.length ≤ 1000000000000000) : EvB (fun k => impl_has.f k l a) (a ∈ l) := by
  have key := rev_ind (P := fun i => EvB (fun k => impl_has.l0 k a l (l.length : Int) (i : Int)) (a ∈ l.drop i)) l.length ?_ ?_ 0 (Nat.zero_le _)
  · simpa [impl_has.f] using key
  · refine evB_of (fun h => absurd h (by simp)) (fun _ => ev_stop fun k => ?_)
    simp only [impl_has.l0]; rw [if_neg (by omega)]
  · intro i hi ih
    rw [drop_cons hi]
    by_cases e : l[i] = a
    · refine evB_of (fun _ => ev_stop fun k => ?_) (fun h => absurd (by simp [e]) h)
      simp only [impl_has.l0]; rw [if_pos (by omega), if_pos (by omega), if_pos (by omega), rd_nat hi, if_pos e]
    · obtain ⟨b, hb, hP⟩ := ih
      refine ⟨b, ev_go _ (fun k => ?_) hb, by rw [hP, List.mem_cons]; exact ⟨.inr, fun h => h.resolve_left (fun h => e h.symm)⟩⟩
      simp only [impl_has.l0]; rw [if_pos (by omega), if_pos (by omega), if_pos (by omega), rd_nat hi, if_neg e, wr1 (by omega)]

theorem impl_isNumber.eq (a n : Int) (h0 : 0 ≤ n) (h1 : n ≤ 1000000000000000) : impl_isNumber.f a n = some (decide (0 ≤ a ∧ a < n)) := by
  unfold impl_isNumber.f
  rw [impl_within.eq, Option.bind_some, wr (by omega) (by omega)]
  simp only [Option.some.injEq, decide_eq_decide]; omega

theorem impl_areDifferent.ev (n : Int) (l : List Int) (h0 : 0 ≤ n) (h1 : n ≤ 1000000000000000) (hl : l.length ≤ 1000000000000000) : EvB (fun k => impl_areDifferent.f k n l) (l.Nodup ∧ ∀ x ∈ l, 0 ≤ x ∧ x < n) := by
  have key := rev_ind (P := fun i => EvB (fun k => impl_areDifferent.l0 k n l l (l.length : Int) (i : Int)) ((∀ j (hj : j < l.length), i ≤ j → l[j] ∉ l.take j) ∧ ∀ x ∈ l.drop i, 0 ≤ x ∧ x < n)) l.length ?_ ?_ 0 (Nat.zero_le _)
  · refine evB_iff (g := fun k => impl_areDifferent.f k n l) (P := (∀ j (hj : j < l.length), 0 ≤ j → l[j] ∉ l.take j) ∧ ∀ x ∈ l.drop 0, 0 ≤ x ∧ x < n) key ?_
    rw [nodup_iff_take]
    simp
  · refine evB_of (fun _ => ev_stop fun k => ?_) (fun h => absurd ⟨fun j hj hij => absurd hj (by omega), by simp⟩ h)
    simp only [impl_areDifferent.l0]; rw [if_neg (by omega)]
  · intro i hi ih
    rw [drop_cons hi, nodup_drop_step hi]
    have hh := impl_has.ev (l.take i) l[i] (by simp; omega)
    by_cases e : 0 ≤ l[i] ∧ l[i] < n
    · by_cases m : l[i] ∈ l.take i
      · refine evB_of (fun h => absurd m h.1.1) (fun _ => ev_go (fun k => (impl_has.f k (l.take i) l[i]).bind fun t => if t = true then some false else (impl_areDifferent.l0 k n l l (l.length : Int) ((i + 1 : Nat) : Int))) (fun k => ?_) (evB_bind hh (fun _ => Ev.now _) (fun h => absurd m h)))
        simp only [impl_areDifferent.l0]; rw [if_pos (by omega), if_pos (by omega), if_pos (by omega), rd_nat hi, impl_isNumber.eq _ _ h0 h1, Option.bind_some, if_pos (by simp; exact e), if_pos (by omega), wr1 (by omega)]; rfl
      · obtain ⟨b, hb, hP⟩ := ih
        refine ⟨b, ev_go (fun k => (impl_has.f k (l.take i) l[i]).bind fun t => if t = true then some false else (impl_areDifferent.l0 k n l l (l.length : Int) ((i + 1 : Nat) : Int))) (fun k => ?_) (evB_bind hh (fun h => absurd h m) (fun _ => hb)), ?_⟩
        · simp only [impl_areDifferent.l0]; rw [if_pos (by omega), if_pos (by omega), if_pos (by omega), rd_nat hi, impl_isNumber.eq _ _ h0 h1, Option.bind_some, if_pos (by simp; exact e), if_pos (by omega), wr1 (by omega)]; rfl
        · rw [hP]
          constructor
          · rintro ⟨p, q⟩
            refine ⟨⟨m, p⟩, fun x hx => ?_⟩
            rcases List.mem_cons.1 hx with rfl | hx
            · exact e
            · exact q x hx
          · rintro ⟨⟨_, p⟩, q⟩
            exact ⟨p, fun x hx => q x (List.mem_cons_of_mem _ hx)⟩
    · refine evB_of (fun h => absurd (h.2 _ List.mem_cons_self) e) (fun _ => ev_stop fun k => ?_)
      simp only [impl_areDifferent.l0]; rw [if_pos (by omega), if_pos (by omega), if_pos (by omega), rd_nat hi, impl_isNumber.eq _ _ h0 h1, Option.bind_some, if_neg (by simp; omega)]

theorem impl_isOrder.ev (n : Int) (l : List Int) (h0 : 0 ≤ n) (h1 : n ≤ 1000000000000000) (hl : l.length ≤ 1000000000000000) : EvB (fun k => impl_isOrder.f k n l) (IsPerm n.toNat l) := by
  unfold impl_isOrder.f IsPerm
  by_cases e : (l.length : Int) = n
  · simp only [if_pos e]
    refine evB_iff (P := l.Nodup ∧ ∀ x ∈ l, 0 ≤ x ∧ x < n) ?_ ?_
    · obtain ⟨b, hb, hP⟩ := impl_areDifferent.ev n l h0 h1 hl
      exact ⟨b, Ev.bind hb (Ev.now _), hP⟩
    · rw [show ((n.toNat : Nat) : Int) = n by omega]
      exact ⟨fun h => ⟨by omega, h⟩, fun h => h.2⟩
  · simp only [if_neg e]
    exact evB_of (fun h => absurd h.1 (by omega)) (fun _ => Ev.now _)

theorem spec_l2Order.ev (n : Int) (l : List Int) (hl : l.length ≤ 1000000000000000) : EvB (fun k => spec_l2Order.f k n l) ((0 ≤ n ∧ n ≤ 8) ∧ IsPerm n.toNat l) := by
  unfold spec_l2Order.f
  simp only [spec_l1In.eq, Option.bind_some]
  have no : ∀ {P : Prop}, ¬ P → EvB (fun k => spec_l2Order.j0 k n l true) P := fun hP => evB_of (fun h => absurd h hP) (fun _ => ev_stop fun k => by simp only [spec_l2Order.j0]; rfl)
  by_cases h : 0 ≤ n ∧ n ≤ 8
  · simp only [h, and_self, decide_true, if_true, true_and]
    by_cases e : (l.length : Int) = n
    · rw [show ((l.length : Int) != n) = false by simp [e]]
      obtain ⟨m, rfl⟩ : ∃ m : Nat, n = m := ⟨n.toNat, by omega⟩
      have key := rev_ind (P := fun i => EvB (fun k => spec_l2Order.l0 k (m : Int) l (i : Int)) (∀ x : Int, (i : Int) ≤ x → x < (m : Int) → x ∈ l)) m ?_ ?_ 0 (Nat.zero_le _)
      · obtain ⟨b, hb, hP⟩ := key
        refine ⟨b, ev_go _ (fun k => ?_) hb, hP.trans ⟨fun H => isPerm_of_all (by omega) (fun x h0 h1 => H x (by omega) (by omega)), fun H x h0 h1 => H.all x (by omega) (by omega)⟩⟩
        simp only [spec_l2Order.j0]; rfl
      · refine evB_of (fun _ => ev_stop fun k => ?_) (fun h => absurd (fun x h0 h1 => absurd h1 (by omega)) h)
        simp only [spec_l2Order.l0]; rw [if_neg (by omega)]
      · intro i hi ih
        have hh := spec_l1Has.ev l i hl
        refine evB_of (fun H => ?_) (fun H => ?_)
        · refine ev_go (fun k => (spec_l1Has.f k l (i : Int)).bind fun t => if t = true then (spec_l2Order.l0 k (m : Int) l ((i + 1 : Nat) : Int)) else some false) (fun k => ?_) (evB_bind hh (fun _ => evB_true ih (fun x h0 h1 => H x (by omega) h1)) (fun h => absurd (H i (by omega) (by omega)) h))
          simp only [spec_l2Order.l0]; rw [if_pos (by omega), wr1 (by omega)]
        · refine ev_go (fun k => (spec_l1Has.f k l (i : Int)).bind fun t => if t = true then (spec_l2Order.l0 k (m : Int) l ((i + 1 : Nat) : Int)) else some false) (fun k => ?_) (evB_bind hh (fun hi' => evB_false ih (fun H' => H (fun x h0 h1 => ?_))) (fun _ => Ev.now _))
          · simp only [spec_l2Order.l0]; rw [if_pos (by omega), wr1 (by omega)]
          · by_cases e : x = (i : Int)
            · rw [e]; exact hi'
            · exact H' x (by omega) h1
    · rw [show ((l.length : Int) != n) = true by simpa using e]
      exact no (fun h' => e (by have := h'.1; omega))
  · rw [show decide (0 ≤ n ∧ n ≤ 8) = false by simpa using h]
    exact no (fun h' => h h'.1)

theorem laws_toIntS.ev (l : List Int) (hl : l.length ≤ 1000000000000) : Ev (fun k => laws_toIntS.f k l) l := by
  unfold laws_toIntS.f
  rw [show (fun k => if 0 ≤ (l.length : Int) then (if ((l.length : Int) : Int).toNat ≤ 35184372088832 then (laws_toIntS.l0 k l (List.replicate ((l.length : Int) : Int).toNat 0) 0) else none) else none) = fun k => laws_toIntS.l0 k l (List.replicate l.length 0) 0 from funext fun k => by rw [if_pos (by omega), if_pos (by omega)]; rfl]
  have key := rev_ind (P := fun i => Ev (fun k => laws_toIntS.l0 k l (l.take i ++ (List.replicate l.length (0 : Int)).drop i) (i : Int)) l) l.length ?_ ?_ 0 (Nat.zero_le _)
  · simpa using key
  · refine ev_stop fun k => ?_
    simp only [laws_toIntS.l0]; rw [if_neg (by omega)]; simp
  · intro i hi ih
    refine ev_go _ (fun k => ?_) ih
    have hlen : (l.take i ++ (List.replicate l.length (0 : Int)).drop i).length = l.length := by simp; omega
    simp only [laws_toIntS.l0]; rw [if_pos (by omega), if_pos (by omega), if_pos (by rw [hlen]; omega), rd_nat hi, wr1 (by omega)]
    rw [show ((i : Int)).toNat = i by omega, set_copy hi (by simpa using hi)]

theorem laws_eqIntS.ev (l m : List Int) (hl : l.length ≤ 1000000000000000) : EvB (fun k => laws_eqIntS.f k l m) (l = m) := by
  unfold laws_eqIntS.f
  by_cases e : (l.length : Int) = (m.length : Int)
  · simp only [if_pos e]
    have key := rev_ind (P := fun i => EvB (fun k => laws_eqIntS.l0 k l m (i : Int)) (l.drop i = m.drop i)) l.length ?_ ?_ 0 (Nat.zero_le _)
    · simpa using key
    · refine evB_of (fun _ => ev_stop fun k => ?_) (fun h => absurd ?_ h)
      · simp only [laws_eqIntS.l0]; rw [if_neg (by omega)]
      · rw [List.drop_eq_nil_of_le (by omega), List.drop_eq_nil_of_le (by omega)]
    · intro i hi ih
      have hm : i < m.length := by omega
      rw [drop_cons hi, drop_cons hm]
      by_cases q : l[i] = m[i]
      · obtain ⟨b, hb, hP⟩ := ih
        refine ⟨b, ev_go _ (fun k => ?_) hb, by rw [hP, q]; exact ⟨fun h => by rw [h], fun h => (List.cons.inj h).2⟩⟩
        simp only [laws_eqIntS.l0]; rw [if_pos (by omega), if_pos (by omega), if_pos (by omega), rd_nat hi, rd_nat hm, if_pos q, wr1 (by omega)]
      · refine evB_of (fun h => absurd (List.cons.inj h).1 q) (fun _ => ev_stop fun k => ?_)
        simp only [laws_eqIntS.l0]; rw [if_pos (by omega), if_pos (by omega), if_pos (by omega), rd_nat hi, rd_nat hm, if_neg q]
  · simp only [if_neg e]
    exact evB_of (fun h => absurd (by rw [h]) e) (fun _ => Ev.now _)
theorem laws_eqIntS.same (l : List Int) (hl : l.length ≤ 1000000000000000) : Ev (fun k => laws_eqIntS.f k l l) true := evB_true (laws_eqIntS.ev l l hl) rfl

end Go.Proofs.Ytoeoaphejhmjbaa.Pure
