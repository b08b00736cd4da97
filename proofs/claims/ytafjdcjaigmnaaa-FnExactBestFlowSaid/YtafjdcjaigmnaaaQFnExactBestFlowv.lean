/- Proved here: what functions that the law FnExactBestFlow reaches answer (flowF, spec_l8Ends, copyEq, impl_flowEnds, flowRows, spanBoth). Conditions: those that each theorem names. -/
import Derived.Test.YtafjdcjaigmnaaaQFnExactBestFlows
set_option linter.unusedVariables false
set_option linter.unusedSimpArgs false
namespace Go.Proofs.Ytafjdcjaigmnaaa.Pure
open Go.RowKit Go.Proofs.Ytafjdcjaigmnaaa.XFnExactBestFlow Go.Proofs.YtafjdcjaigmnaaaW.PrintWords Go.Proofs.YtafjdcjaigmnaaaW.PrintLast

/-- The ends of a job on all machines, behind the ends on them. -/
def stepRow : List Int → List Int → Int → List Int
  | e :: es, r :: rs, t => wrap64 (mx t e + r) :: stepRow es rs (wrap64 (mx t e + r))
  | _, _, _ => []
theorem stepRow_len : ∀ (es rs : List Int) (t : Int), es.length = rs.length → (stepRow es rs t).length = es.length
  | [], _, _, _ => by rw [stepRow]; intro _ _ _ _ h; cases h
  | e :: es, [], _, h => by simp at h
  | e :: es, r :: rs, t, h => by
    rw [stepRow, List.length_cons, stepRow_len es rs _ (by simpa using h), List.length_cons]
theorem mx_ge (a b : Int) : a ≤ mx a b ∧ b ≤ mx a b ∧ (mx a b = a ∨ mx a b = b) := by unfold mx; split <;> omega
theorem stepRow_ok : ∀ (es rs : List Int) (t M : Int), es.length = rs.length → (∀ e ∈ es, 0 ≤ e ∧ e ≤ M) → (∀ r ∈ rs, 0 ≤ r ∧ r ≤ 30) → 0 ≤ t → t ≤ M → M + 30 * (es.length : Int) ≤ 1000000000000 →
    (∀ v ∈ stepRow es rs t, 0 ≤ v ∧ v ≤ M + 30 * (es.length : Int)) ∧ ∀ a b, a ≤ b → mxW es a ≤ mxW (stepRow es rs t) b
  | [], rs, t, M, hl, _, _, _, _, _ => by
    cases rs with
    | cons r rs => simp at hl
    | nil => exact ⟨by simp [stepRow], fun a b h => by simpa [stepRow, mxW] using h⟩
  | e :: es, [], _, _, h, _, _, _, _, _ => by simp at h
  | e :: es, r :: rs, t, M, hl, he, hr, h0, h1, hM => by
    have e0 := he e List.mem_cons_self
    have r0 := hr r List.mem_cons_self
    have m0 := mx_ge t e
    simp only [List.length_cons] at hM hl
    have hw : wrap64 (mx t e + r) = mx t e + r := wr (by omega) (by omega)
    obtain ⟨i1, i2⟩ := stepRow_ok es rs (mx t e + r) (M + 30) (by omega) (fun y hy => by have := he y (List.mem_cons_of_mem _ hy); omega) (fun y hy => hr y (List.mem_cons_of_mem _ hy)) (by omega) (by omega) (by omega)
    rw [stepRow, hw]
    refine ⟨fun v hv => ?_, fun a b h => ?_⟩
    · simp only [List.length_cons]
      rcases List.mem_cons.1 hv with rfl | hv
      · omega
      · have := i1 v hv; omega
    · simp only [mxW]
      refine i2 _ _ ?_
      have m1 := mx_ge a e
      have m2 := mx_ge b (mx t e + r)
      omega
/-- The ends on all machines behind an order's jobs, and the ends of all jobs. -/
def flowRun (shop : List (List Int)) : List Int → List Int → List (List Int) → List (List Int)
  | [], _, out => out
  | x :: xs, E, out => flowRun shop xs (stepRow E (rd_L1 shop x) 0) (out.set x.toNat (stepRow E (rd_L1 shop x) 0))
def flowAll (shop : List (List Int)) (order : List Int) : List (List Int) := flowRun shop order (List.replicate (machP shop) 0) (List.replicate shop.length [])
theorem flowRun_len (shop : List (List Int)) : ∀ (o E : List Int) (out : List (List Int)), (flowRun shop o E out).length = out.length
  | [], _, _ => rfl
  | x :: xs, E, out => by rw [flowRun, flowRun_len shop xs]; simp
theorem rdL_row {shop : List (List Int)} (h : ShopOk shop) {x : Int} (h0 : 0 ≤ x) (h1 : x < shop.length) : (rd_L1 shop x).length = machP shop ∧ ∀ y ∈ rd_L1 shop x, 0 ≤ y ∧ y ≤ 30 := by
  obtain ⟨i, rfl⟩ := Int.eq_ofNat_of_zero_le h0
  rw [rdL_nat (by omega : i < shop.length)]
  exact h.2.2 _ (List.getElem_mem _)
/-- Whatever stands in the ends is at most the last job's; the last one's is the greatest. -/
theorem flowRun_max {shop : List (List Int)} (h : ShopOk shop) : ∀ (o E : List Int) (out : List (List Int)) (M : Int), o ≠ [] → (∀ x ∈ o, 0 ≤ x ∧ x < shop.length) → out.length = shop.length → E.length = machP shop → (∀ e ∈ E, 0 ≤ e ∧ e ≤ M) → 0 ≤ M → M + 90 * (o.length : Int) ≤ 100000000 → (∀ r ∈ out, mxW r 0 ≤ mxW E 0) →
    (∀ r ∈ flowRun shop o E out, mxW r 0 ≤ mxW (rd_L1 (flowRun shop o E out) (rd o ((o.length - 1 : Nat) : Int))) 0)
  | [], _, _, _, h0, _, _, _, _, _, _, _ => absurd rfl h0
  | x :: xs, E, out, M, _, ho, hl, hE, hEM, hM0, hM, hout => by
    obtain ⟨r1, r2⟩ := rdL_row h (ho x List.mem_cons_self).1 (ho x List.mem_cons_self).2
    have hm := h.2.1
    simp only [List.length_cons] at hM
    obtain ⟨s1, s2⟩ := stepRow_ok E (rd_L1 shop x) 0 M (by omega) hEM r2 (by omega) hM0 (by omega)
    have s3 := stepRow_len E (rd_L1 shop x) 0 (by omega)
    have s4 := s2 0 0 (Int.le_refl _)
    have hx := ho x List.mem_cons_self
    rw [flowRun]
    generalize stepRow E (rd_L1 shop x) 0 = E2 at s1 s3 s4
    have hout2 : ∀ r ∈ out.set x.toNat E2, mxW r 0 ≤ mxW E2 0 := fun r hr => by
      rcases List.mem_or_eq_of_mem_set hr with hr | rfl
      · have := hout r hr; omega
      · exact Int.le_refl _
    cases xs with
    | nil =>
      simp only [flowRun]
      intro r hr
      have hrd : rd [x] (((x :: ([] : List Int)).length - 1 : Nat) : Int) = x := by simp [rd]
      rw [hrd]
      obtain ⟨i, rfl⟩ := Int.eq_ofNat_of_zero_le hx.1
      rw [rdL_nat (by simp; omega)]
      simp only [Int.toNat_natCast, List.getElem_set_self]
      simpa using hout2 r hr
    | cons y ys =>
      have ih := flowRun_max h (y :: ys) E2 (out.set x.toNat E2) (M + 90) (by simp) (fun z hz => ho z (List.mem_cons_of_mem _ hz)) (by simpa using hl) (by omega) (fun e he => by have := s1 e he; omega) (by omega) (by omega) hout2
      have hrd : rd (x :: y :: ys) (((x :: y :: ys).length - 1 : Nat) : Int) = rd (y :: ys) (((y :: ys).length - 1 : Nat) : Int) := by
        rw [rd_nat (by simp), rd_nat (by simp)]
        simp
      rw [hrd]
      exact ih

theorem spec_l8Ends.inner (shop : List (List Int)) (o : List Int) (out : List (List Int)) (i : Nat) (hi : i < o.length) (ho : o.length ≤ 100000) (hx : 0 ≤ o[i] ∧ o[i] < shop.length) (hl : out.length = shop.length) (hr : (rd_L1 shop o[i]).length ≤ 100000) (R : List (List Int)) : ∀ (es dn : List Int) (t : Int), dn.length + es.length = (rd_L1 shop o[i]).length →
    Ev (fun k => spec_l8Ends.l0 k shop o (out.set o[i].toNat (dn ++ stepRow es ((rd_L1 shop o[i]).drop dn.length) t)) (dn ++ stepRow es ((rd_L1 shop o[i]).drop dn.length) t) ((i + 1 : Nat) : Int)) R → Ev (fun k => spec_l8Ends.l1 k shop o out (dn ++ es) (i : Int) dn t (dn.length : Int)) R
  | [], dn, t, he, h => by
    have hs : stepRow [] ((rd_L1 shop o[i]).drop dn.length) t = [] := by rw [stepRow]; intro _ _ _ _ h; cases h
    rw [hs, List.append_nil] at h
    rw [List.append_nil]
    refine ev_go _ (fun k => ?_) h
    simp only [spec_l8Ends.l1]; rw [if_neg (by omega), if_pos (by omega), if_pos (by omega), rd_nat hi, if_pos hx.1, if_pos (by omega), wr1 (by omega)]
  | e :: es, dn, t, he, h => by
    simp only [List.length_cons] at he
    have hj : dn.length < (rd_L1 shop o[i]).length := by omega
    have hE : rd (dn ++ e :: es) (dn.length : Int) = e := by rw [rd_nat (by simp), List.getElem_append_right (Nat.le_refl _)]; simp
    have hset : (dn ++ e :: es).set dn.length (wrap64 (mx t e + (rd_L1 shop o[i])[dn.length])) = (dn ++ [wrap64 (mx t e + (rd_L1 shop o[i])[dn.length])]) ++ es := by
      rw [List.set_append_right _ _ (Nat.le_refl _), Nat.sub_self, List.set_cons_zero, List.append_assoc]; rfl
    rw [drop_cons hj, stepRow] at h
    generalize hv : wrap64 (mx t e + (rd_L1 shop o[i])[dn.length]) = v at h hset
    have ih := spec_l8Ends.inner shop o out i hi ho hx hl hr R es (dn ++ [v]) v (by simp; omega) (by
      rw [List.length_append, List.length_singleton, List.append_assoc]; exact h)
    rw [List.length_append, List.length_singleton] at ih
    refine ev_go _ (fun k => ?_) ih
    simp only [spec_l8Ends.l1]; rw [if_pos (by simp; omega), if_pos (by omega), hE, spec_l1Most.eqk, Option.bind_some, if_pos (by omega), if_pos (by omega), rd_nat hi, if_pos hx.1, if_pos hx.2, if_pos (by omega), if_pos (by omega), rd_nat hj, wr1 (by omega), Int.toNat_natCast, hv, hset]
theorem spec_l8Ends.ev (shop : List (List Int)) (o : List Int) (h : ShopOk shop) (hlen : o.length ≤ 8) (hx : ∀ x ∈ o, 0 ≤ x ∧ x < shop.length) : Ev (fun k => spec_l8Ends.f k shop o) (flowAll shop o) := by
  have h8 := h.1
  have hm := h.2.1
  unfold spec_l8Ends.f
  simp only [spec_l8Machines.eq, Option.bind_some]
  simp only [Int.toNat_natCast, if_pos (show (0 : Int) ≤ (shop.length : Int) by omega), if_pos (show shop.length ≤ 11728124029610 by omega), if_pos (show (0 : Int) ≤ (machP shop : Int) by omega), if_pos (show machP shop ≤ 35184372088832 by omega)]
  have key := rev_ind (P := fun i => ∀ (E : List Int) (out : List (List Int)), E.length = machP shop → out.length = shop.length → Ev (fun k => spec_l8Ends.l0 k shop o out E (i : Int)) (flowRun shop (o.drop i) E out)) o.length ?_ ?_ 0 (Nat.zero_le _) (List.replicate (machP shop) 0) (List.replicate shop.length []) (by simp) (by simp)
  · simpa [flowAll] using key
  · intro E out _ _
    refine ev_stop fun k => ?_
    simp only [spec_l8Ends.l0]; rw [if_neg (by omega), List.drop_length, flowRun]
  · intro i hi ih E out hE hl
    have hxi := hx _ (List.getElem_mem hi)
    obtain ⟨r1, _⟩ := rdL_row h hxi.1 hxi.2
    rw [drop_cons hi, flowRun]
    have inn := spec_l8Ends.inner shop o out i hi (by omega) hxi hl (by omega) (flowRun shop (o.drop (i + 1)) (stepRow E (rd_L1 shop o[i]) 0) (out.set o[i].toNat (stepRow E (rd_L1 shop o[i]) 0))) E [] 0 (by simp; omega) (by
      simp only [List.nil_append, List.length_nil, List.drop_zero]
      exact ih _ _ (by rw [stepRow_len _ _ _ (by omega)]; exact hE) (by simpa using hl))
    refine ev_go _ (fun k => ?_) inn
    simp only [spec_l8Ends.l0]; rw [if_pos (by omega)]; rfl

theorem impl_copyInts.eq (l : List Int) (h : l.length ≤ 1000000000000) : impl_copyInts.f l = some l := by
  simp only [impl_copyInts.f, Option.bind_some]
  rw [if_pos (by simp; omega), List.nil_append]

theorem impl_flowEnds.inner (shop : List (List Int)) (o : List Int) (out : List (List Int)) (i : Nat) (x : Int) (row : List Int) (ho : o.length ≤ 100000) (hi : i < o.length) (hx : 0 ≤ x ∧ x < shop.length) (hl : out.length = shop.length) (hr : row.length ≤ 100000) (R : List (List Int)) : ∀ (es dn : List Int) (t : Int), dn.length + es.length = row.length →
    Ev (fun k => impl_flowEnds.l0 k shop (out.set x.toNat (dn ++ stepRow es (row.drop dn.length) t)) (dn ++ stepRow es (row.drop dn.length) t) o (o.length : Int) ((i + 1 : Nat) : Int)) R → Ev (fun k => impl_flowEnds.l1 k shop out (dn ++ es) x t o (o.length : Int) (i : Int) row (row.length : Int) (dn.length : Int)) R
  | [], dn, t, he, h => by
    have hs : stepRow [] (row.drop dn.length) t = [] := by rw [stepRow]; intro _ _ _ _ h; cases h
    rw [hs, List.append_nil] at h
    rw [List.append_nil]
    simp only [List.length_nil, Nat.add_zero] at he
    refine ev_go _ (fun k => ?_) h
    simp only [impl_flowEnds.l1]; rw [if_neg (by omega), impl_copyInts.eq _ (by omega), Option.bind_some, if_pos hx.1, if_pos (by omega), wr1 (by omega)]
  | e :: es, dn, t, he, h => by
    simp only [List.length_cons] at he
    have hj : dn.length < row.length := by omega
    have hE : rd (dn ++ e :: es) (dn.length : Int) = e := by rw [rd_nat (by simp), List.getElem_append_right (Nat.le_refl _)]; simp
    have hset : (dn ++ e :: es).set dn.length (wrap64 (mx t e + row[dn.length])) = (dn ++ [wrap64 (mx t e + row[dn.length])]) ++ es := by
      rw [List.set_append_right _ _ (Nat.le_refl _), Nat.sub_self, List.set_cons_zero, List.append_assoc]; rfl
    rw [drop_cons hj, stepRow] at h
    generalize hv : wrap64 (mx t e + row[dn.length]) = v at h hset
    have ih := impl_flowEnds.inner shop o out i x row ho hi hx hl hr R es (dn ++ [v]) v (by simp; omega) (by
      rw [List.length_append, List.length_singleton, List.append_assoc]; exact h)
    rw [List.length_append, List.length_singleton] at ih
    refine ev_go _ (fun k => ?_) ih
    simp only [impl_flowEnds.l1]; rw [if_pos (by omega), if_pos (by omega), if_pos (by omega), if_pos (by simp; omega), hE, rd_nat hj, wr1 (by omega), Int.toNat_natCast, hv, hset]
theorem impl_flowEnds.ev (shop : List (List Int)) (o : List Int) (h : ShopOk shop) (hlen : o.length ≤ 8) (hx : ∀ x ∈ o, 0 ≤ x ∧ x < shop.length) : Ev (fun k => impl_flowEnds.f k shop o) (flowAll shop o) := by
  have h8 := h.1
  have hm := h.2.1
  unfold impl_flowEnds.f
  simp only [impl_machinesOf.eq, Option.bind_some]
  simp only [Int.toNat_natCast, if_pos (show (0 : Int) ≤ (shop.length : Int) by omega), if_pos (show shop.length ≤ 11728124029610 by omega), if_pos (show (0 : Int) ≤ (machP shop : Int) by omega), if_pos (show machP shop ≤ 35184372088832 by omega)]
  have key := rev_ind (P := fun i => ∀ (E : List Int) (out : List (List Int)), E.length = machP shop → out.length = shop.length → Ev (fun k => impl_flowEnds.l0 k shop out E o (o.length : Int) (i : Int)) (flowRun shop (o.drop i) E out)) o.length ?_ ?_ 0 (Nat.zero_le _) (List.replicate (machP shop) 0) (List.replicate shop.length []) (by simp) (by simp)
  · simpa [flowAll] using key
  · intro E out _ _
    refine ev_stop fun k => ?_
    simp only [impl_flowEnds.l0]; rw [if_neg (by omega), List.drop_length, flowRun]
  · intro i hi ih E out hE hl
    have hxi := hx _ (List.getElem_mem hi)
    obtain ⟨r1, _⟩ := rdL_row h hxi.1 hxi.2
    rw [drop_cons hi, flowRun]
    have inn := impl_flowEnds.inner shop o out i o[i] (rd_L1 shop o[i]) (by omega) hi hxi hl (by omega) (flowRun shop (o.drop (i + 1)) (stepRow E (rd_L1 shop o[i]) 0) (out.set o[i].toNat (stepRow E (rd_L1 shop o[i]) 0))) E [] 0 (by simp; omega) (by
      simp only [List.nil_append, List.length_nil, List.drop_zero]
      exact ih _ _ (by rw [stepRow_len _ _ _ (by omega)]; exact hE) (by simpa using hl))
    refine ev_go _ (fun k => ?_) inn
    simp only [impl_flowEnds.l0]; rw [if_pos (by omega), if_pos (by omega), if_pos (by omega), rd_nat hi, if_pos hxi.1, if_pos hxi.2]; rfl

theorem flow_rows (shop : List (List Int)) (h : ShopOk shop) : ∀ (o E : List Int) (out : List (List Int)), E.length = machP shop → (∀ x ∈ o, 0 ≤ x ∧ x < shop.length) → (∀ r ∈ out, r.length ≤ 3) → ∀ r ∈ flowRun shop o E out, r.length ≤ 3
  | [], _, _, _, _, ho => ho
  | x :: xs, E, out, hE, hx, ho => by
    obtain ⟨r1, _⟩ := rdL_row h (hx x List.mem_cons_self).1 (hx x List.mem_cons_self).2
    have hm := h.2.1
    rw [flowRun]
    refine flow_rows shop h xs _ _ (by rw [stepRow_len _ _ _ (by omega)]; exact hE) (fun y hy => hx y (List.mem_cons_of_mem _ hy)) (fun r hr => ?_)
    rcases List.mem_or_eq_of_mem_set hr with hr | rfl
    · exact ho r hr
    · rw [stepRow_len _ _ _ (by omega)]; omega

theorem spec_l2Last.ev (l : List Int) (hl : l.length ≤ 1000000000) : Ev (fun k => spec_l2Last.f k l) (mxW l 0) := by
  have key := rev_ind (P := fun i => ∀ s, Ev (fun k => spec_l2Last.l0 k l s (i : Int)) (mxW (l.drop i) s)) l.length ?_ ?_ 0 (Nat.zero_le _) 0
  · simpa [spec_l2Last.f] using key
  · intro s
    refine ev_stop fun k => ?_
    simp only [spec_l2Last.l0]; rw [if_neg (by omega), List.drop_length]; rfl
  · intro i hi ih s
    rw [drop_cons hi, mxW]
    refine ev_go _ (fun k => ?_) (ih _)
    simp only [spec_l2Last.l0]; rw [if_pos (by omega), if_pos (by omega), rd_nat hi, spec_l1Most.eqk, Option.bind_some, wr1 (by omega)]
/-- The greatest number of all rows. -/
def mxR : List (List Int) → Int → Int
  | [], s => s
  | r :: rs, s => mxR rs (mx s (mxW r 0))
theorem mxR_le : ∀ (l : List (List Int)) (s u : Int), s ≤ u → (∀ r ∈ l, mxW r 0 ≤ u) → mxR l s ≤ u
  | [], _, _, h, _ => h
  | r :: rs, s, u, h, hr => by
    rw [mxR]
    refine mxR_le rs _ u ?_ (fun y hy => hr y (List.mem_cons_of_mem _ hy))
    have := hr r List.mem_cons_self
    have := mx_ge s (mxW r 0)
    omega
theorem mxR_ge : ∀ (l : List (List Int)) (s : Int), s ≤ mxR l s ∧ ∀ r ∈ l, mxW r 0 ≤ mxR l s
  | [], s => ⟨Int.le_refl _, by simp⟩
  | r :: rs, s => by
    rw [mxR]
    obtain ⟨h1, h2⟩ := mxR_ge rs (mx s (mxW r 0))
    have := mx_ge s (mxW r 0)
    refine ⟨by omega, fun y hy => ?_⟩
    rcases List.mem_cons.1 hy with rfl | hy
    · omega
    · exact h2 y hy
theorem impl_flowSpan.ev (shop : List (List Int)) (o : List Int) (hk : ShopOk shop) (hp : IsPerm shop.length o) : Ev (fun k => impl_flowSpan.f k shop o) (mxR (flowAll shop o) 0) := by
  have h8 := hk.1
  have hm := hk.2.1
  have hol := hp.1
  have hx : ∀ x ∈ o, 0 ≤ x ∧ x < (shop.length : Int) := hp.2.2
  have e1 := spec_l8Ends.ev shop o hk (by omega) hx
  have e2 := impl_flowEnds.ev shop o hk (by omega) hx
  have hfl : (flowAll shop o).length = shop.length := by rw [flowAll, flowRun_len]; simp
  have hrows : ∀ r ∈ flowAll shop o, r.length ≤ 3 := flow_rows shop hk o _ _ (by simp) hx (fun r hr => by rw [(List.mem_replicate.1 hr).2]; simp)
  unfold impl_flowSpan.f
  refine ev_bind _ e2 ?_
  generalize flowAll shop o = F at hfl hrows
  have key := rev_ind (P := fun i => ∀ s, Ev (fun k => impl_flowSpan.l0 k s F (F.length : Int) (i : Int)) (mxR (F.drop i) s)) F.length ?_ ?_ 0 (Nat.zero_le _) 0
  · simpa using key
  · intro s
    refine ev_stop fun k => ?_
    simp only [impl_flowSpan.l0]; rw [if_neg (by omega), List.drop_length]; rfl
  · intro i hi ih s
    have hr := hrows _ (List.getElem_mem hi)
    rw [drop_cons hi, mxR]
    refine ev_go (fun k => (impl_greatestOf.f k F[i]).bind fun t => impl_flowSpan.l0 k (mx s t) F (F.length : Int) ((i + 1 : Nat) : Int)) (fun k => ?_) (ev_bind _ (impl_greatestOf.ev F[i] (by omega)) (ih _))
    simp only [impl_flowSpan.l0]; rw [if_pos (by omega), if_pos (by omega), if_pos (by omega), rdL_nat hi, wr1 (by omega)]
theorem spec_l8Span.ev (shop : List (List Int)) (o : List Int) (hk : ShopOk shop) (hp : IsPerm shop.length o) : Ev (fun k => spec_l8Span.f k shop o) (mxR (flowAll shop o) 0) := by
  have h8 := hk.1
  have hm := hk.2.1
  have hol := hp.1
  have hx : ∀ x ∈ o, 0 ≤ x ∧ x < (shop.length : Int) := hp.2.2
  have e1 := spec_l8Ends.ev shop o hk (by omega) hx
  have e2 := impl_flowEnds.ev shop o hk (by omega) hx
  have hfl : (flowAll shop o).length = shop.length := by rw [flowAll, flowRun_len]; simp
  have hrows : ∀ r ∈ flowAll shop o, r.length ≤ 3 := flow_rows shop hk o _ _ (by simp) hx (fun r hr => by rw [(List.mem_replicate.1 hr).2]; simp)
  unfold spec_l8Span.f
  by_cases q : (o.length : Int) = 0
  · have ho0 : o = [] := List.eq_nil_of_length_eq_zero (by omega)
    have : flowAll shop o = [] := List.eq_nil_of_length_eq_zero (by omega)
    simp only [if_pos q]
    rw [this, mxR]
    exact Ev.now _
  · simp only [if_neg q]
    refine ev_bind _ e1 ?_
    have hj : wrap64 ((o.length : Int) - 1) = ((o.length - 1 : Nat) : Int) := by rw [wr (by omega) (by omega)]; omega
    have hne : o ≠ [] := fun c => q (by rw [c]; rfl)
    have hxl := hx _ (List.getElem_mem (show o.length - 1 < o.length by omega))
    have hrd : rd o ((o.length - 1 : Nat) : Int) = o[o.length - 1] := rd_nat (by omega)
    have mxx := flowRun_max hk o (List.replicate (machP shop) 0) (List.replicate shop.length []) 0 hne hx (by simp) (by simp) (fun e he => by rw [(List.mem_replicate.1 he).2]; omega) (by omega) (by omega) (fun r hr => by rw [(List.mem_replicate.1 hr).2]; exact mxW_ge _ _)
    change ∀ r ∈ flowAll shop o, mxW r 0 ≤ mxW (rd_L1 (flowAll shop o) (rd o ((o.length - 1 : Nat) : Int))) 0 at mxx
    obtain ⟨x, hxe⟩ : ∃ x : Int, rd o ((o.length - 1 : Nat) : Int) = x := ⟨_, rfl⟩
    rw [← hrd, hxe] at hxl
    rw [hj, hxe]
    rw [hxe] at mxx
    obtain ⟨i, rfl⟩ := Int.eq_ofNat_of_zero_le hxl.1
    rw [rdL_nat (by omega : i < (flowAll shop o).length)] at mxx ⊢
    have hb : mxR (flowAll shop o) 0 = mxW (flowAll shop o)[i] 0 := by
      have h1 := mxR_le (flowAll shop o) 0 (mxW (flowAll shop o)[i] 0) (mxW_ge _ _) mxx
      have h2 := (mxR_ge (flowAll shop o) 0).2 _ (List.getElem_mem (show i < (flowAll shop o).length by omega))
      omega
    have hc : 0 ≤ ((o.length - 1 : Nat) : Int) ∧ ((o.length - 1 : Nat) : Int) < (o.length : Int) ∧ 0 ≤ (i : Int) ∧ (i : Int) < ((flowAll shop o).length : Int) := ⟨by omega, by omega, by omega, by omega⟩
    rw [hb]
    simp only [if_pos hc]
    exact spec_l2Last.ev _ (by have := hrows _ (List.getElem_mem (show i < (flowAll shop o).length by omega)); omega)

end Go.Proofs.Ytafjdcjaigmnaaa.Pure
