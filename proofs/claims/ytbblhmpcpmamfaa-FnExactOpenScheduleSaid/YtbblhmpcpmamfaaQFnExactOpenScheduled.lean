/- Proved here: what functions that the law FnExactOpenSchedule reaches answer (rdLInt, laws_szIntS, laws_szIntSS, laws_toIntSS, laws_eqIntSS, shopP, spec_l8Machines, spec_l8Good, impl_allWithin, impl_isShop). Conditions: those that each theorem names. -/
import Derived.Test.YtbblhmpcpmamfaaQFnExactOpenScheduleb
set_option linter.unusedVariables false
set_option linter.unusedSimpArgs false
namespace Go.Proofs.Ytbblhmpcpmamfaa.Pure
open Go.RowKit Go.Proofs.Ytbblhmpcpmamfaa.XFnExactOpenSchedule Go.Proofs.YtbblhmpcpmamfaaW.PrintWords Go.Proofs.YtbblhmpcpmamfaaW.PrintLast

theorem rdL_nat {l : List (List Int)} {i : Nat} (h : i < l.length) : rd_L1 l (i : Int) = l[i] := by simp [rd_L1, h]
theorem rdL_zero {l : List (List Int)} (h : 0 < l.length) : rd_L1 l 0 = l[0] := by simp [rd_L1, h]

theorem laws_szIntS.eq (l : List Int) (a : Int) (h0 : 0 ≤ a) (h1 : a ≤ 1048576) (hl : l.length ≤ 9223372036854775807) : ∃ n, laws_szIntS.f l a = some n ∧ n ≤ 1048576 ∧ (0 ≤ n → l.length ≤ 1048576) := by
  unfold laws_szIntS.f
  rw [wr (by omega) (by omega)]
  by_cases h : a - (l.length : Int) < 0
  · exact ⟨-1, by rw [if_pos h], by omega, fun h => absurd h (by omega)⟩
  · exact ⟨_, by rw [if_neg h], by omega, fun _ => by omega⟩

theorem laws_szIntSS.ev (l : List (List Int)) (a : Int) (h0 : 0 ≤ a) (h1 : a ≤ 1048576) (hl : l.length ≤ maxLen) (hr : ∀ y ∈ l, y.length ≤ maxLen) : ∃ n, Ev (fun k => laws_szIntSS.f k l a) n ∧ n ≤ 1048576 ∧ (0 ≤ n → l.length ≤ 1048576 ∧ ∀ y ∈ l, y.length ≤ 1048576) := by
  unfold maxLen at hl hr
  unfold laws_szIntSS.f
  rw [wr (by omega) (by omega)]
  by_cases h : a - (l.length : Int) < 0
  · refine ⟨-1, by simp only [if_pos h]; exact Ev.now _, by omega, fun h => absurd h (by omega)⟩
  · simp only [if_neg h]
    have key := rev_ind (P := fun i => ∀ b : Int, 0 ≤ b → b ≤ 1048576 → ∃ n, Ev (fun k => laws_szIntSS.l0 k l b (i : Int)) n ∧ n ≤ 1048576 ∧ (0 ≤ n → ∀ y ∈ l.drop i, y.length ≤ 1048576)) l.length ?_ ?_ 0 (Nat.zero_le _)
    · obtain ⟨n, h2, h3, h4⟩ := key (a - (l.length : Int)) (by omega) (by omega)
      exact ⟨n, h2, h3, fun hn => ⟨by omega, by simpa using h4 hn⟩⟩
    · intro b hb0 hb1
      refine ⟨b, ev_stop fun k => ?_, hb1, fun _ => by simp⟩
      simp only [laws_szIntSS.l0]; rw [if_neg (by omega)]
    · intro i hi ih b hb0 hb1
      obtain ⟨n, e, hn1, hn2⟩ := laws_szIntS.eq l[i] b hb0 hb1 (hr _ (List.getElem_mem hi))
      by_cases hn : n < 0
      · refine ⟨-1, ev_stop fun k => ?_, by omega, fun h => absurd h (by omega)⟩
        simp only [laws_szIntSS.l0]; rw [if_pos (by omega), if_pos (by omega), rdL_nat hi, e, Option.bind_some, if_pos hn]
      · obtain ⟨m, h2, h3, h4⟩ := ih n (by omega) hn1
        refine ⟨m, ev_go _ (fun k => ?_) h2, h3, fun hm y hy => ?_⟩
        · simp only [laws_szIntSS.l0]; rw [if_pos (by omega), if_pos (by omega), rdL_nat hi, e, Option.bind_some, if_neg hn, wr1 (by omega)]
        · rw [drop_cons hi] at hy
          rcases List.mem_cons.1 hy with rfl | hy
          · exact hn2 (by omega)
          · exact h4 hm y hy

theorem laws_toIntSS.ev (l : List (List Int)) (hl : l.length ≤ 1000000000000) (hr : ∀ y ∈ l, y.length ≤ 1000000000000) : Ev (fun k => laws_toIntSS.f k l) l := by
  unfold laws_toIntSS.f
  rw [show (fun k => if 0 ≤ (l.length : Int) then (if ((l.length : Int) : Int).toNat ≤ 11728124029610 then (laws_toIntSS.l0 k l (List.replicate ((l.length : Int) : Int).toNat []) 0) else none) else none) = fun k => laws_toIntSS.l0 k l (List.replicate l.length []) 0 from funext fun k => by rw [if_pos (by omega), if_pos (by omega)]; rfl]
  have key := rev_ind (P := fun i => Ev (fun k => laws_toIntSS.l0 k l (l.take i ++ (List.replicate l.length ([] : List Int)).drop i) (i : Int)) l) l.length ?_ ?_ 0 (Nat.zero_le _)
  · simpa using key
  · refine ev_stop fun k => ?_
    simp only [laws_toIntSS.l0]; rw [if_neg (by omega)]; simp
  · intro i hi ih
    have hlen : (l.take i ++ (List.replicate l.length ([] : List Int)).drop i).length = l.length := by simp; omega
    refine ev_go (fun k => (laws_toIntS.f k l[i]).bind fun t => laws_toIntSS.l0 k l ((l.take i ++ (List.replicate l.length ([] : List Int)).drop i).set i t) ((i + 1 : Nat) : Int)) (fun k => ?_) (ev_bind l[i] (laws_toIntS.ev _ (hr _ (List.getElem_mem hi))) ?_)
    · simp only [laws_toIntSS.l0]; rw [if_pos (by omega), if_pos (by omega), rdL_nat hi]
      congr 1; funext t
      rw [if_pos (by rw [hlen]; omega), wr1 (by omega)]; rfl
    · rw [set_copy hi (by simpa using hi)]; exact ih

theorem laws_eqIntSS.ev (l m : List (List Int)) (hl : l.length ≤ 1000000000000000) (hr : ∀ y ∈ l, y.length ≤ 1000000000000000) : EvB (fun k => laws_eqIntSS.f k l m) (l = m) := by
  unfold laws_eqIntSS.f
  by_cases e : (l.length : Int) = (m.length : Int)
  · simp only [if_pos e]
    have key := rev_ind (P := fun i => EvB (fun k => laws_eqIntSS.l0 k l m (i : Int)) (l.drop i = m.drop i)) l.length ?_ ?_ 0 (Nat.zero_le _)
    · simpa using key
    · refine evB_of (fun _ => ev_stop fun k => ?_) (fun h => absurd ?_ h)
      · simp only [laws_eqIntSS.l0]; rw [if_neg (by omega)]
      · rw [List.drop_eq_nil_of_le (by omega), List.drop_eq_nil_of_le (by omega)]
    · intro i hi ih
      have hm : i < m.length := by omega
      rw [drop_cons hi, drop_cons hm]
      have step : ∀ k, laws_eqIntSS.l0 (k + 1) l m (i : Int) = (laws_eqIntS.f k l[i] m[i]).bind fun t => if t = true then laws_eqIntSS.l0 k l m ((i + 1 : Nat) : Int) else some false := fun k => by
        simp only [laws_eqIntSS.l0]; rw [if_pos (by omega), if_pos (by omega), if_pos (by omega), rdL_nat hi, rdL_nat hm, wr1 (by omega)]
      have he := laws_eqIntS.ev l[i] m[i] (hr _ (List.getElem_mem hi))
      refine evB_of (fun h => ?_) (fun h => ?_)
      · obtain ⟨h1, h2⟩ := List.cons.inj h
        refine ev_go _ step (evB_bind he (fun _ => ?_) (fun h => absurd h1 h))
        simp only [if_true]; exact evB_true ih h2
      · refine ev_go _ step (evB_bind he (fun h1 => ?_) (fun _ => by simp only [Bool.false_eq_true, if_false]; exact Ev.now _))
        simp only [if_true]; exact evB_false ih (fun h2 => h (by rw [h1, h2]))
  · simp only [if_neg e]
    exact evB_of (fun h => absurd (by rw [h]) e) (fun _ => Ev.now _)
theorem laws_eqIntSS.same (l : List (List Int)) (hl : l.length ≤ 1000000000000000) (hr : ∀ y ∈ l, y.length ≤ 1000000000000000) : Ev (fun k => laws_eqIntSS.f k l l) true := evB_true (laws_eqIntSS.ev l l hl hr) rfl

/-- The number of machines: 1 without jobs. -/
def machP (l : List (List Int)) : Nat := (l.headD [0]).length
/-- A shop. -/
def ShopOk (l : List (List Int)) : Prop := l.length ≤ 8 ∧ (1 ≤ machP l ∧ machP l ≤ 3) ∧ ∀ r ∈ l, r.length = machP l ∧ ∀ x ∈ r, 0 ≤ x ∧ x ≤ 30
theorem machP_cons {l : List (List Int)} (h : 0 < l.length) : machP l = (l[0]).length := by
  cases l with
  | nil => simp at h
  | cons a l => rfl

theorem spec_l8Machines.eq (l : List (List Int)) : spec_l8Machines.f l = some (machP l : Int) := by
  unfold spec_l8Machines.f
  cases l with
  | nil => simp [machP]
  | cons a l =>
    rw [if_neg (by simp only [List.length_cons]; omega), if_pos (by simp only [List.length_cons]; omega), rdL_zero (by simp)]
    rfl

theorem spec_l8Good.ev (l : List (List Int)) (hl : l.length ≤ 1000000000000000) (hr : ∀ y ∈ l, y.length ≤ 1000000000000000) : EvB (fun k => spec_l8Good.f k l) (ShopOk l) := by
  unfold spec_l8Good.f
  simp only [spec_l8Machines.eq, Option.bind_some]
  have hm : machP l ≤ 1000000000000000 := by
    cases l with
    | nil => simp [machP]
    | cons a l => exact hr a List.mem_cons_self
  have key := rev_ind (P := fun i => EvB (fun k => spec_l8Good.l0 k l (machP l : Int) (i : Int)) ((l.length ≤ 8 ∧ (1 ≤ machP l ∧ machP l ≤ 3)) ∧ ∀ r ∈ l.drop i, r.length = machP l ∧ ∀ x ∈ r, 0 ≤ x ∧ x ≤ 30)) l.length ?_ ?_ 0 (Nat.zero_le _)
  · refine evB_iff (by simpa using key) ?_
    unfold ShopOk
    simp [and_assoc]
  · by_cases h8 : (l.length : Int) ≤ 8
    · refine ⟨decide (1 ≤ (machP l : Int) ∧ (machP l : Int) ≤ 3), ev_stop fun k => ?_, ?_⟩
      · simp only [spec_l8Good.l0]; rw [if_neg (by omega), if_pos h8, spec_l1In.eq]; rfl
      · rw [decide_eq_true_iff]
        simp only [List.drop_length, List.not_mem_nil, false_implies, implies_true, and_true]
        omega
    · refine evB_of (fun h => absurd h.1.1 (by omega)) (fun _ => ev_stop fun k => ?_)
      simp only [spec_l8Good.l0]; rw [if_neg (by omega), if_neg h8]
  · intro i hi ih
    rw [drop_cons hi]
    by_cases e : ((l[i].length : Nat) : Int) = (machP l : Int)
    · have row := rev_ind (P := fun j => EvB (fun k => spec_l8Good.l1 k l (machP l : Int) (i : Int) (j : Int)) ((∀ x ∈ l[i].drop j, 0 ≤ x ∧ x ≤ 30) ∧ (l.length ≤ 8 ∧ (1 ≤ machP l ∧ machP l ≤ 3)) ∧ ∀ r ∈ l.drop (i + 1), r.length = machP l ∧ ∀ x ∈ r, 0 ≤ x ∧ x ≤ 30)) l[i].length ?_ ?_ 0 (Nat.zero_le _)
      · obtain ⟨b, hb, hP⟩ := row
        refine ⟨b, ev_go _ (fun k => ?_) hb, hP.trans ?_⟩
        · simp only [spec_l8Good.l0]; rw [if_pos (by omega), if_pos (by omega), rdL_nat hi, if_pos e]; rfl
        · constructor
          · rintro ⟨h1, h2, h3⟩
            refine ⟨h2, fun r hr' => ?_⟩
            rcases List.mem_cons.1 hr' with rfl | hr'
            · exact ⟨by omega, by simpa using h1⟩
            · exact h3 r hr'
          · rintro ⟨h2, h3⟩
            exact ⟨by simpa using (h3 _ List.mem_cons_self).2, h2, fun r hr' => h3 r (List.mem_cons_of_mem _ hr')⟩
      · obtain ⟨b, hb, hP⟩ := ih
        refine ⟨b, ev_go _ (fun k => ?_) hb, by rw [hP]; simp⟩
        simp only [spec_l8Good.l1]; rw [if_neg (by omega), wr1 (by omega)]
      · intro j hj ih'
        rw [drop_cons hj]
        by_cases q : 0 ≤ l[i][j] ∧ l[i][j] ≤ 30
        · obtain ⟨b, hb, hP⟩ := ih'
          refine ⟨b, ev_go _ (fun k => ?_) hb, hP.trans ⟨fun ⟨h1, h2⟩ => ⟨fun x hx => ?_, h2⟩, fun ⟨h1, h2⟩ => ⟨fun x hx => h1 x (List.mem_cons_of_mem _ hx), h2⟩⟩⟩
          · simp only [spec_l8Good.l1]; rw [if_pos (by omega), if_pos (by omega), if_pos (by omega), if_pos (by omega), rdL_nat hi, if_pos (by omega), rd_nat hj, spec_l1In.eq, Option.bind_some, if_pos (by simpa using q), wr1 (by have := hr _ (List.getElem_mem hi); omega)]
          · rcases List.mem_cons.1 hx with rfl | hx
            · exact q
            · exact h1 x hx
        · refine evB_of (fun h => absurd (h.1 _ List.mem_cons_self) q) (fun _ => ev_stop fun k => ?_)
          simp only [spec_l8Good.l1]; rw [if_pos (by omega), if_pos (by omega), if_pos (by omega), if_pos (by omega), rdL_nat hi, if_pos (by omega), rd_nat hj, spec_l1In.eq, Option.bind_some, if_neg (by simpa using q)]
    · refine evB_of (fun h => absurd (h.2 _ List.mem_cons_self).1 (by omega)) (fun _ => ev_stop fun k => ?_)
      simp only [spec_l8Good.l0]; rw [if_pos (by omega), if_pos (by omega), rdL_nat hi, if_neg e]

theorem impl_allWithin.ev (l : List Int) (a b : Int) (hl : l.length ≤ 1000000000000000) : EvB (fun k => impl_allWithin.f k l a b) (∀ x ∈ l, a ≤ x ∧ x ≤ b) := by
  have key := rev_ind (P := fun i => EvB (fun k => impl_allWithin.l0 k a b l (l.length : Int) (i : Int)) (∀ x ∈ l.drop i, a ≤ x ∧ x ≤ b)) l.length ?_ ?_ 0 (Nat.zero_le _)
  · simpa [impl_allWithin.f] using key
  · refine evB_of (fun _ => ev_stop fun k => ?_) (fun h => absurd (by simp) h)
    simp only [impl_allWithin.l0]; rw [if_neg (by omega)]
  · intro i hi ih
    rw [drop_cons hi]
    by_cases q : a ≤ l[i] ∧ l[i] ≤ b
    · obtain ⟨c, hb, hP⟩ := ih
      refine ⟨c, ev_go _ (fun k => ?_) hb, hP.trans ⟨fun h1 x hx => ?_, fun h1 x hx => h1 x (List.mem_cons_of_mem _ hx)⟩⟩
      · simp only [impl_allWithin.l0]; rw [if_pos (by omega), if_pos (by omega), if_pos (by omega), rd_nat hi, impl_within.eq, Option.bind_some, if_pos (by simpa using q), wr1 (by omega)]
      · rcases List.mem_cons.1 hx with rfl | hx
        · exact q
        · exact h1 x hx
    · refine evB_of (fun h => absurd (h _ List.mem_cons_self) q) (fun _ => ev_stop fun k => ?_)
      simp only [impl_allWithin.l0]; rw [if_pos (by omega), if_pos (by omega), if_pos (by omega), rd_nat hi, impl_within.eq, Option.bind_some, if_neg (by simpa using q)]

theorem impl_isShop.ev (l : List (List Int)) (hr : ∀ y ∈ l, y.length ≤ 1000000000000000) : EvB (fun k => impl_isShop.f k l) (ShopOk l) := by
  unfold impl_isShop.f
  by_cases h8 : (l.length : Int) > 8
  · simp only [if_pos h8]
    exact evB_of (fun h => absurd h.1 (by omega)) (fun _ => Ev.now _)
  · simp only [if_neg h8]
    have key := rev_ind (P := fun i => EvB (fun k => impl_isShop.l0 k l l (l.length : Int) (i : Int)) (∀ r ∈ l.drop i, (1 ≤ r.length ∧ r.length ≤ 3) ∧ r.length = machP l ∧ ∀ x ∈ r, 0 ≤ x ∧ x ≤ 30)) l.length ?_ ?_ 0 (Nat.zero_le _)
    · refine evB_iff (by simpa using key) ?_
      unfold ShopOk
      constructor
      · intro h
        refine ⟨by omega, ?_, fun r hr' => (h r hr').2⟩
        cases l with
        | nil => simp [machP]
        | cons a l => exact (h a List.mem_cons_self).1
      · rintro ⟨_, h2, h3⟩ r hr'
        have := h3 r hr'
        exact ⟨by omega, this⟩
    · refine evB_of (fun _ => ev_stop fun k => ?_) (fun h => absurd (by simp) h)
      simp only [impl_isShop.l0]; rw [if_neg (by omega)]
    · intro i hi ih
      rw [drop_cons hi]
      have hpos : 0 < l.length := by omega
      have hm := machP_cons hpos
      by_cases q : (1 : Int) ≤ (l[i].length : Int) ∧ (l[i].length : Int) ≤ 3
      · by_cases e : ((l[i].length : Nat) : Int) = ((l[0].length : Nat) : Int)
        · have step : ∀ k, impl_isShop.l0 (k + 1) l l (l.length : Int) (i : Int) = (impl_allWithin.f k l[i] 0 30).bind fun t => if t = true then impl_isShop.l0 k l l (l.length : Int) ((i + 1 : Nat) : Int) else some false := fun k => by
            simp only [impl_isShop.l0]; rw [if_pos (by omega), if_pos (by omega), if_pos (by omega), rdL_nat hi, impl_within.eq, Option.bind_some, if_pos (by simpa using q), if_pos (by omega), rdL_zero hpos, if_pos e, wr1 (by omega)]
          have ha := impl_allWithin.ev l[i] 0 30 (hr _ (List.getElem_mem hi))
          refine evB_of (fun h => ?_) (fun h => ?_)
          · refine ev_go _ step (evB_bind ha (fun _ => ?_) (fun h' => absurd (h _ List.mem_cons_self).2.2 h'))
            simp only [if_true]; exact evB_true ih (fun r hr' => h r (List.mem_cons_of_mem _ hr'))
          · refine ev_go _ step (evB_bind ha (fun h1 => ?_) (fun _ => by simp only [Bool.false_eq_true, if_false]; exact Ev.now _))
            simp only [if_true]
            refine evB_false ih (fun h2 => h (fun r hr' => ?_))
            rcases List.mem_cons.1 hr' with rfl | hr'
            · exact ⟨by omega, by omega, h1⟩
            · exact h2 r hr'
        · refine evB_of (fun h => absurd (h _ List.mem_cons_self).2.1 (by omega)) (fun _ => ev_stop fun k => ?_)
          simp only [impl_isShop.l0]; rw [if_pos (by omega), if_pos (by omega), if_pos (by omega), rdL_nat hi, impl_within.eq, Option.bind_some, if_pos (by simpa using q), if_pos (by omega), rdL_zero hpos, if_neg e]
      · refine evB_of (fun h => absurd (h _ List.mem_cons_self).1 (by omega)) (fun _ => ev_stop fun k => ?_)
        simp only [impl_isShop.l0]; rw [if_pos (by omega), if_pos (by omega), if_pos (by omega), rdL_nat hi, impl_within.eq, Option.bind_some, if_neg (by simpa using q)]

end Go.Proofs.Ytbblhmpcpmamfaa.Pure
