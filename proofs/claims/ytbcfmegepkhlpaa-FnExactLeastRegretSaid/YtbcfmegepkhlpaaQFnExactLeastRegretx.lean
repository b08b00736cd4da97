/- Proved here: what functions that the law FnExactLeastRegret reaches answer (permsP, impl_nextOrder, impl_eachOrder, foldPerm, valueF, endsIn, obj8, recAll, spec_l1Own). Conditions: those that each theorem names. -/
import Derived.Test.YtbcfmegepkhlpaaQFnExactLeastRegretv
set_option linter.unusedVariables false
set_option linter.unusedSimpArgs false
namespace Go.Proofs.Ytbcfmegepkhlpaa.Pure
open Go.RowKit Go.Proofs.Ytbcfmegepkhlpaa.XFnExactLeastRegret Go.Proofs.YtbcfmegepkhlpaaW.PrintWords Go.Proofs.YtbcfmegepkhlpaaW.PrintLast

/-- All orders of the numbers of a list, in lexicographic order if the list is rising. -/
def perms : Nat → List Int → List (List Int)
  | 0, _ => [[]]
  | n + 1, L => L.flatMap fun x => (perms n (L.erase x)).map fun l => x :: l
theorem perms_perm : ∀ (n : Nat) (L l : List Int), L.length = n → l ∈ perms n L → l.Perm L
  | 0, L, l, hL, h => by
    rw [perms, List.mem_singleton] at h
    rw [h, List.eq_nil_of_length_eq_zero hL]
  | n + 1, L, l, hL, h => by
    rw [perms, List.mem_flatMap] at h
    obtain ⟨x, hx, h⟩ := h
    obtain ⟨l', hl', rfl⟩ := List.mem_map.1 h
    exact ((perms_perm n (L.erase x) l' (by rw [List.length_erase_of_mem hx]; omega) hl').cons x).trans (List.perm_cons_erase hx).symm
/-- One list of orders behind the other: the next one has a greater number at the last place at which that can be. -/
def Nx (l l' : List Int) : Prop := ∃ a x r1 y r2, l = a ++ x :: (r1 ++ y :: r2) ∧ (r1 ++ y :: r2).Pairwise (fun u v => v < u) ∧ x < y ∧ (∀ z ∈ r2, z < x) ∧ l' = a ++ y :: (r1 ++ x :: r2).reverse
theorem Nx.cons {l l' : List Int} (b : Int) (h : Nx l l') : Nx (b :: l) (b :: l') := by
  obtain ⟨a, x, r1, y, r2, rfl, h2, h3, h4, rfl⟩ := h
  exact ⟨b :: a, x, r1, y, r2, rfl, h2, h3, h4, rfl⟩
/-- Each of the lists is followed by its next one; a: the first, z: the last. -/
def Run (a z : List Int) : List (List Int) → Prop
  | [] => False
  | p :: t => p = a ∧ match t with
    | [] => p = z
    | q :: _ => Nx p q ∧ Run q z t
theorem Run.map {x : Int} : ∀ {P : List (List Int)} {a z : List Int}, Run a z P → Run (x :: a) (x :: z) (P.map fun l => x :: l)
  | [], _, _, h => h.elim
  | [p], a, z, h => by
    obtain ⟨h1, h2⟩ := h
    exact ⟨by rw [h1], show x :: p = x :: z by rw [show p = z from h2]⟩
  | p :: q :: t, a, z, h => by
    obtain ⟨h1, h2, h3⟩ := h
    exact ⟨by rw [h1], h2.cons x, Run.map h3⟩
theorem Run.head {P : List (List Int)} {a z : List Int} (h : Run a z P) : ∃ t, P = a :: t := by
  cases P with
  | nil => exact h.elim
  | cons p t => exact ⟨t, by rw [h.1]⟩
theorem Run.append : ∀ {P Q : List (List Int)} {a z b y : List Int}, Run a z P → Nx z b → Run b y Q → Run a y (P ++ Q)
  | [], _, _, _, _, _, h, _, _ => h.elim
  | [p], Q, a, z, b, y, h, n, hq => by
    obtain ⟨t, rfl⟩ := hq.head
    obtain ⟨h1, h2⟩ := h
    have h2 : p = z := h2
    exact ⟨h1, by rw [h2]; exact n, hq⟩
  | p :: q :: t, Q, a, z, b, y, h, n, hq => by
    obtain ⟨h1, h2, h3⟩ := h
    exact ⟨h1, h2, Run.append h3 n hq⟩
theorem perms_run : ∀ (n : Nat) (L : List Int), L.length = n → L.Pairwise (fun u v => u < v) → Run L L.reverse (perms n L)
  | 0, L, h, _ => by
    rw [List.eq_nil_of_length_eq_zero h]
    exact ⟨rfl, rfl⟩
  | n + 1, L, h, hs => by
    have key : ∀ (L2 L1 : List Int) (x : Int), L1 ++ x :: L2 = L → Run (x :: (L1 ++ L2)) L.reverse ((x :: L2).flatMap fun x => (perms n (L.erase x)).map fun l => x :: l) := by
      have er : ∀ (L1 L2 : List Int) (x : Int), L1 ++ x :: L2 = L → L.erase x = L1 ++ L2 := by
        rintro L1 L2 x rfl
        rw [List.erase_append_right]
        · simp
        · intro hx
          have := (List.pairwise_append.1 hs).2.2 x hx x List.mem_cons_self
          omega
      have blk : ∀ (L1 L2 : List Int) (x : Int), L1 ++ x :: L2 = L → Run (x :: (L1 ++ L2)) (x :: (L1 ++ L2).reverse) ((perms n (L.erase x)).map fun l => x :: l) := by
        intro L1 L2 x hx
        rw [er L1 L2 x hx]
        refine Run.map (perms_run n (L1 ++ L2) ?_ ?_)
        · rw [← hx] at h; simp at h ⊢; omega
        · rw [← er L1 L2 x hx]; exact hs.sublist List.erase_sublist
      intro L2
      induction L2 with
      | nil =>
        intro L1 x hx
        have := blk L1 [] x hx
        rw [List.append_nil] at this
        rw [List.flatMap_cons, List.flatMap_nil, List.append_nil, List.append_nil, ← hx, List.reverse_append]
        rw [← hx] at this
        exact this
      | cons y L3 ih =>
        intro L1 x hx
        rw [List.flatMap_cons]
        refine Run.append (blk L1 (y :: L3) x hx) ?_ (ih (L1 ++ [x]) y (by rw [← hx]; simp))
        rw [← hx] at hs
        have p1 := List.pairwise_append.1 hs
        have p2 := List.pairwise_cons.1 p1.2.1
        refine ⟨[], x, L3.reverse, y, L1.reverse, by simp, ?_, p2.1 y List.mem_cons_self, fun z hz => p1.2.2 z (List.mem_reverse.1 hz) x List.mem_cons_self, by simp⟩
        have : L3.reverse ++ y :: L1.reverse = (L1 ++ y :: L3).reverse := by simp
        rw [this, List.pairwise_reverse]
        refine hs.sublist ?_
        exact List.Sublist.append (List.Sublist.refl _) (List.sublist_cons_self _ _)
    cases L with
    | nil => simp at h
    | cons x L2 =>
      rw [perms]
      exact key L2 [] x rfl
theorem nums_to_sorted (n : Nat) : (nums_to n).Pairwise fun u v => u < v := by
  unfold nums_to
  rw [List.pairwise_map]
  exact List.pairwise_lt_range.imp (fun h => by omega)
theorem perms_isPerm {n : Nat} {l : List Int} (h : l ∈ perms n (nums_to n)) : IsPerm n l := by
  have p := perms_perm n (nums_to n) l (nums_to_length n) h
  exact ⟨by rw [p.length_eq, nums_to_length], p.nodup_iff.2 (nums_to_nodup n), fun x hx => mem_nums_to.1 (p.mem_iff.1 hx)⟩

/-- A fact that arithmetic needs not look at. -/
def Hide (p : Prop) : Prop := p
theorem rdA {a b : List Int} {i : Nat} (h : i < a.length) : rd (a ++ b) (i : Int) = a[i] := by rw [rd_nat (by simp; omega), List.getElem_append_left h]
theorem rdM (a b : List Int) (x : Int) (i : Nat) (h : i = a.length) : rd (a ++ x :: b) (i : Int) = x := by subst h; rw [rd_nat (by simp), List.getElem_append_right (Nat.le_refl _)]; simp
theorem setM (a b : List Int) (x y : Int) (i : Nat) (h : i = a.length) : (a ++ x :: b).set i y = a ++ y :: b := by subst h; rw [List.set_append_right _ _ (Nat.le_refl _)]; simp
theorem impl_nextOrder.rev (q : List Int) : ∀ (m : Nat) (p s q : List Int), s.length ≤ m → p.length + s.length + q.length ≤ 1000000 → Ev (fun k => impl_nextOrder.l2 k (p ++ (s ++ q)) (p.length : Int) ((p.length : Int) + s.length - 1)) (true, p ++ (s.reverse ++ q))
  | 0, p, s, q, h, _ => by
    obtain rfl := List.eq_nil_of_length_eq_zero (Nat.le_zero.1 h)
    refine ev_stop fun k => ?_
    simp only [impl_nextOrder.l2]; rw [if_neg (by simp; omega)]; rfl
  | m + 1, p, [], q, _, _ => by
    refine ev_stop fun k => ?_
    simp only [impl_nextOrder.l2]; rw [if_neg (by simp; omega)]; rfl
  | m + 1, p, [u], q, _, _ => by
    refine ev_stop fun k => ?_
    simp only [impl_nextOrder.l2]; rw [if_neg (by simp)]; rfl
  | m + 1, p, u :: u2 :: t2, q, h, hb => by
    obtain ⟨t, v, ht⟩ : ∃ t v, u2 :: t2 = t ++ [v] := ⟨(u2 :: t2).dropLast, (u2 :: t2).getLast (by simp), (List.dropLast_concat_getLast (by simp)).symm⟩
    rw [ht] at h hb ⊢
    simp only [List.length_cons, List.length_append, List.length_nil] at h hb
    have ih := impl_nextOrder.rev q m (p ++ [v]) t (u :: q) (by omega) (by simp; omega)
    have e1 : ((p.length : Int) + ((u :: (t ++ [v])).length : Int) - 1) = ((p.length + 1 + t.length : Nat) : Int) := by simp; omega
    rw [e1]
    have l1 : p ++ (u :: (t ++ [v]) ++ q) = p ++ u :: (t ++ v :: q) := by simp
    have l2 : p ++ u :: (t ++ v :: q) = (p ++ u :: t) ++ v :: q := by simp
    have r1 : rd (p ++ u :: (t ++ v :: q)) (p.length : Int) = u := rdM p _ u _ rfl
    have r2 : rd (p ++ u :: (t ++ v :: q)) ((p.length + 1 + t.length : Nat) : Int) = v := by rw [l2]; exact rdM _ q v _ (by simp; omega)
    have hlen : (p ++ u :: (t ++ v :: q)).length = p.length + 1 + t.length + 1 + q.length := by simp; omega
    rw [l1]
    refine ev_go _ (fun k => ?_) (show Ev (fun k => impl_nextOrder.l2 k (p ++ [v] ++ (t ++ u :: q)) (((p ++ [v]).length : Nat) : Int) (((p ++ [v]).length : Int) + t.length - 1)) _ from ?_)
    · simp only [impl_nextOrder.l2]
      rw [if_pos (by omega), if_pos (by omega), if_pos (by omega), if_pos (by omega), if_pos (by omega), r1, r2, wr1 (by omega), wr (x := ((p.length + 1 + t.length : Nat) : Int) - 1) (by omega) (by omega), Int.toNat_natCast, Int.toNat_natCast, setM p _ u v _ rfl, show p ++ v :: (t ++ v :: q) = (p ++ v :: t) ++ v :: q by simp, setM (p ++ v :: t) q v u _ (by simp; omega)]
      congr 1
      · simp
      · simp
      · simp only [List.length_append, List.length_cons, List.length_nil]; omega
    · have e : p ++ ((u :: (t ++ [v])).reverse ++ q) = p ++ [v] ++ (t.reverse ++ u :: q) := by simp
      rw [e]
      exact ih
theorem impl_nextOrder.down (l : List Int) (i : Nat) (hl : l.length ≤ 1000000) (hd : ∀ j (h : j + 1 < l.length), i < j → l[j + 1] < l[j]) {R : Bool × List Int} (h : Ev (fun k => impl_nextOrder.l0 k l (i : Int)) R) : ∀ j, i ≤ j → j + 1 < l.length → Ev (fun k => impl_nextOrder.l0 k l (j : Int)) R
  | 0, hi, hj => by
    obtain rfl : i = 0 := by omega
    exact h
  | j + 1, hi, hj => by
    by_cases e : i = j + 1
    · rw [← e]; exact h
    · have ih := impl_nextOrder.down l i hl hd h j (by omega) (by omega)
      have := hd (j + 1) hj (by omega)
      refine ev_go _ (fun k => ?_) ih
      have w1 : wrap64 (((j + 1 : Nat) : Int) + 1) = ((j + 1 + 1 : Nat) : Int) := wr1 (by omega)
      simp only [impl_nextOrder.l0]
      rw [w1, if_pos (by omega), if_pos (by omega), if_pos (by omega), if_pos (by omega), if_pos (by omega), rd_nat (by omega), rd_nat hj, if_pos this, wr (x := ((j + 1 : Nat) : Int) - 1) (by omega) (by omega), show ((j + 1 : Nat) : Int) - 1 = (j : Int) by omega]
theorem impl_nextOrder.none (l : List Int) (hl : l.length ≤ 1000000) (hd : l.Pairwise (fun u v => v < u)) : Ev (fun k => impl_nextOrder.f k l) (false, l) := by
  unfold impl_nextOrder.f
  have stop : ∀ m : Int, m < 0 → Ev (fun k => impl_nextOrder.l0 k l m) (false, l) := fun m hm => by
    refine ev_go (fun k => impl_nextOrder.j1 k l m) (fun k => ?_) (ev_stop fun k => ?_)
    · simp only [impl_nextOrder.l0]; rw [if_neg (by omega)]
    · simp only [impl_nextOrder.j1]; rw [if_pos hm]
  have hd' : ∀ j (h : j + 1 < l.length), l[j + 1] < l[j] := fun j h => List.pairwise_iff_getElem.1 hd j (j + 1) (by omega) h (by omega)
  rw [wr (by omega) (by omega)]
  by_cases h2 : l.length ≤ 1
  · exact stop _ (by omega)
  · rw [show (l.length : Int) - 2 = ((l.length - 2 : Nat) : Int) by omega]
    refine impl_nextOrder.down l 0 hl (fun j h _ => hd' j h) ?_ (l.length - 2) (by omega) (by omega)
    refine ev_go _ (fun k => ?_) (stop (-1) (by omega))
    have h01 := hd' 0 (by omega)
    have w1 : wrap64 (((0 : Nat) : Int) + 1) = ((0 + 1 : Nat) : Int) := wr1 (by omega)
    simp only [impl_nextOrder.l0]
    rw [w1, if_pos (by omega), if_pos (by omega), if_pos (by omega), if_pos (by omega), if_pos (by omega), rd_nat (by omega), rd_nat (by omega), if_pos h01, wr (by omega) (by omega)]
    rfl
theorem impl_nextOrder.main (a r1 r2 : List Int) (x y : Int) (hxy : Hide (x < y)) (l : List Int) (hl0 : a ++ x :: (r1 ++ y :: r2) = l) (hl : l.length ≤ 1000000) (hlen : l.length = a.length + 1 + r1.length + 1 + r2.length) (hdesc : ∀ j (h : j + 1 < l.length), a.length < j → l[j + 1] < l[j]) (rx : Hide (rd l (a.length : Int) = x)) (ry : Hide (rd l ((a.length + 1 + r1.length : Nat) : Int) = y)) (rz : ∀ j, a.length + 1 + r1.length < j → j < l.length → rd l (j : Int) < x) (hx1 : Hide (x < rd l ((a.length + 1 : Nat) : Int))) : Ev (fun k => impl_nextOrder.l0 k l (wrap64 ((l.length : Int) - 2))) (true, a ++ y :: (r1 ++ x :: r2).reverse) := by
  rw [wr (by omega) (by omega), show (l.length : Int) - 2 = ((l.length - 2 : Nat) : Int) by omega]
  refine impl_nextOrder.down l a.length hl hdesc ?_ (l.length - 2) (by omega) (by omega)
  have w1 : wrap64 ((a.length : Int) + 1) = ((a.length + 1 : Nat) : Int) := wr1 (by omega)
  refine ev_go (fun k => impl_nextOrder.j1 k l (a.length : Int)) (fun k => ?_) ?_
  · simp only [impl_nextOrder.l0]
    rw [w1, if_pos (by omega), if_pos (by omega), if_pos (by omega), if_pos (by omega), if_pos (by omega), show rd l (a.length : Int) = x from rx, if_neg (show ¬ (x > rd l ((a.length + 1 : Nat) : Int)) from Int.not_lt.2 (Int.le_of_lt hx1))]
  refine ev_go (fun k => impl_nextOrder.l1 k l (a.length : Int) ((l.length - 1 : Nat) : Int)) (fun k => ?_) ?_
  · simp only [impl_nextOrder.j1]
    rw [if_neg (by omega), wr (by omega) (by omega), show (l.length : Int) - 1 = ((l.length - 1 : Nat) : Int) by omega]
  have back : ∀ j, a.length + 1 + r1.length ≤ j → j < l.length → Ev (fun k => impl_nextOrder.l1 k l (a.length : Int) (j : Int)) (true, a ++ y :: (r1 ++ x :: r2).reverse) := by
    intro j
    induction j with
    | zero => intro h; omega
    | succ j ih =>
      intro hj1 hj2
      by_cases e : a.length + 1 + r1.length = j + 1
      · have rev := impl_nextOrder.rev [] (r1 ++ x :: r2).length (a ++ [y]) (r1 ++ x :: r2) [] (Nat.le_refl _) (by simp; omega)
        refine ev_go _ (fun k => ?_) (show Ev (fun k => impl_nextOrder.l2 k ((a ++ [y]) ++ ((r1 ++ x :: r2) ++ [])) (((a ++ [y]).length : Nat) : Int) (((a ++ [y]).length : Int) + (r1 ++ x :: r2).length - 1)) _ from ?_)
        · simp only [impl_nextOrder.l1]
          rw [← e, if_pos (by omega), if_pos (by omega), if_pos (by omega), if_pos (by omega), show rd l (a.length : Int) = x from rx, show rd l ((a.length + 1 + r1.length : Nat) : Int) = y from ry, if_neg (show ¬ (y < x) from Int.not_lt.2 (Int.le_of_lt hxy)), w1, Int.toNat_natCast, Int.toNat_natCast, wr (by omega) (by omega), ← hl0, setM a _ x y _ rfl, show a ++ y :: (r1 ++ y :: r2) = (a ++ y :: r1) ++ y :: r2 by simp, setM (a ++ y :: r1) r2 y x _ (by simp; omega)]
          congr 1
          · simp
          · simp
          · simp only [List.length_append, List.length_cons, List.length_nil]; omega
        · have : (true, a ++ y :: (r1 ++ x :: r2).reverse) = (true, a ++ [y] ++ ((r1 ++ x :: r2).reverse ++ [])) := by simp
          rw [this]
          exact rev
      · refine ev_go _ (fun k => ?_) (ih (by omega) (by omega))
        have this : Hide (rd l ((j + 1 : Nat) : Int) < x) := rz (j + 1) (by omega) hj2
        simp only [impl_nextOrder.l1]
        rw [if_pos (by omega), if_pos (by omega), if_pos (by omega), if_pos (by omega), show rd l (a.length : Int) = x from rx, if_pos (show rd l ((j + 1 : Nat) : Int) < x from this), wr (by omega) (by omega), show ((j + 1 : Nat) : Int) - 1 = (j : Int) by omega]
  exact back (l.length - 1) (by omega) (by omega)
theorem impl_nextOrder.some (l l' : List Int) (hl : l.length ≤ 1000000) (h : Nx l l') : Ev (fun k => impl_nextOrder.f k l) (true, l') := by
  obtain ⟨a, x, r1, y, r2, rfl, hd, hxy, h2, rfl⟩ := h
  unfold impl_nextOrder.f
  have hlen : (a ++ x :: (r1 ++ y :: r2)).length = a.length + 1 + r1.length + 1 + r2.length := by simp; omega
  have eA : a ++ x :: (r1 ++ y :: r2) = (a ++ [x]) ++ (r1 ++ y :: r2) := by simp
  have gi : ∀ j (h : j < (a ++ x :: (r1 ++ y :: r2)).length) (h2 : a.length < j), (a ++ x :: (r1 ++ y :: r2))[j] = (r1 ++ y :: r2)[j - (a.length + 1)]'(by simp at h ⊢; omega) := fun j h h2 => by
    simp only [eA]
    rw [List.getElem_append_right (by simp; omega)]
    simp
  have hdesc : ∀ j (h : j + 1 < (a ++ x :: (r1 ++ y :: r2)).length), a.length < j → (a ++ x :: (r1 ++ y :: r2))[j + 1] < (a ++ x :: (r1 ++ y :: r2))[j] := fun j h hj => by
    rw [gi j (by omega) hj, gi (j + 1) h (by omega)]
    exact List.pairwise_iff_getElem.1 hd _ _ _ _ (by omega)
  have rx : rd (a ++ x :: (r1 ++ y :: r2)) (a.length : Int) = x := rdM a _ x _ rfl
  have eB : a ++ x :: (r1 ++ y :: r2) = (a ++ x :: r1) ++ y :: r2 := by simp
  have ry : rd (a ++ x :: (r1 ++ y :: r2)) ((a.length + 1 + r1.length : Nat) : Int) = y := by rw [eB]; exact rdM _ r2 y _ (by simp; omega)
  have rz : ∀ j, a.length + 1 + r1.length < j → j < (a ++ x :: (r1 ++ y :: r2)).length → rd (a ++ x :: (r1 ++ y :: r2)) (j : Int) < x := fun j h1 h3 => by
    rw [rd_nat h3]
    refine h2 _ ?_
    rw [gi j h3 (by omega), List.getElem_append_right (by omega), List.getElem_cons, dif_neg (by omega)]
    exact List.getElem_mem _
  have hx1 : x < rd (a ++ x :: (r1 ++ y :: r2)) ((a.length + 1 : Nat) : Int) := by
    rw [rd_nat (by omega), gi _ (by omega) (by omega)]
    cases r1 with
    | nil => simpa using hxy
    | cons u r1 =>
      have := (List.pairwise_cons.1 hd).1 y (by simp)
      simp
      omega
  exact impl_nextOrder.main a r1 r2 x y hxy _ rfl hl hlen hdesc rx ry rz hx1

/-- A function that is told all orders: the state that it leaves. -/
theorem impl_eachOrder.loop {σ : Type} (step : Nat → List Int → σ → Option σ) (upd : List Int → σ → σ) (Q : σ → Prop) : ∀ (P : List (List Int)) (a z : List Int) (s : σ), Run a z P → z.Pairwise (fun u v => v < u) → (∀ l ∈ P, l.length ≤ 1000000) → (∀ l ∈ P, ∀ s, Q s → Ev (fun k => step k l s) (upd l s) ∧ Q (upd l s)) → Q s → Ev (fun k => impl_eachOrder.l0 step k a s) (P.foldl (fun s l => upd l s) s)
  | [], _, _, _, h, _, _, _, _ => h.elim
  | [p], a, z, s, h, hz, hl, hs, hq => by
    obtain ⟨rfl, h2⟩ := h
    obtain rfl : p = z := h2
    obtain ⟨e1, _⟩ := hs p List.mem_cons_self s hq
    refine ev_go (fun k => (step k p s).bind fun s' => (impl_nextOrder.f k p).bind fun b => if b.1 = true then impl_eachOrder.l0 step k b.2 s' else some s') (fun k => rfl) (ev_bind _ e1 (ev_bind _ (impl_nextOrder.none p (hl p List.mem_cons_self) hz) ?_))
    simp only [Bool.false_eq_true, if_false]
    exact Ev.now _
  | p :: q :: t, a, z, s, h, hz, hl, hs, hq => by
    obtain ⟨rfl, h2, h3⟩ := h
    obtain ⟨e1, q1⟩ := hs p List.mem_cons_self s hq
    refine ev_go (fun k => (step k p s).bind fun s' => (impl_nextOrder.f k p).bind fun b => if b.1 = true then impl_eachOrder.l0 step k b.2 s' else some s') (fun k => rfl) (ev_bind _ e1 (ev_bind _ (impl_nextOrder.some p q (hl p List.mem_cons_self) h2) ?_))
    simp only [if_true]
    exact impl_eachOrder.loop step upd Q (q :: t) q z (upd p s) h3 hz (fun l h => hl l (List.mem_cons_of_mem _ h)) (fun l h => hs l (List.mem_cons_of_mem _ h)) q1
theorem impl_eachOrder.ev {σ : Type} (step : Nat → List Int → σ → Option σ) (upd : List Int → σ → σ) (Q : σ → Prop) (n : Nat) (hn : n ≤ 1000000) (s : σ) (hs : ∀ l, IsPerm n l → ∀ s, Q s → Ev (fun k => step k l s) (upd l s) ∧ Q (upd l s)) (hq : Q s) : Ev (fun k => impl_eachOrder.f step k (n : Int) s) ((perms n (nums_to n)).foldl (fun s l => upd l s) s) := by
  unfold impl_eachOrder.f
  refine ev_bind _ (impl_numbersTo.ev n (by omega)) ?_
  refine impl_eachOrder.loop step upd Q _ _ _ s (perms_run n _ (nums_to_length n) (nums_to_sorted n)) ?_ (fun l hl => by have := (perms_isPerm hl).1; omega) (fun l hl => hs l (perms_isPerm hl)) hq
  rw [List.pairwise_reverse]
  exact nums_to_sorted n

/-- The numbers below n that are not in a list. -/
def restOf (n : Nat) (begun : List Int) : List Int := (nums_to n).filter fun y => decide (y ∉ begun)
theorem restOf_erase (n : Nat) (begun : List Int) (x : Int) : (restOf n begun).erase x = restOf n (begun ++ [x]) := by
  unfold restOf
  have hn := (nums_to_nodup n).filter (fun y => decide (y ∉ begun))
  rw [List.Nodup.erase_eq_filter hn, List.filter_filter]
  refine List.filter_congr fun y _ => ?_
  simp only [List.mem_append, List.mem_singleton, not_or, bne_iff_ne, Bool.decide_and, Bool.and_comm]
  by_cases e : y = x <;> simp [e]
theorem restOf_nil (n : Nat) : restOf n [] = nums_to n := by unfold restOf; simp
/-- What is found by all orders that begin in some way. -/
def foldP {σ : Type} (upd : List Int → σ → σ) : Nat → List Int → List Int → σ → σ
  | 0, _, begun, s => upd begun s
  | n + 1, R, begun, s => R.foldl (fun s x => foldP upd n (R.erase x) (begun ++ [x]) s) s
theorem foldP_perms {σ : Type} (upd : List Int → σ → σ) : ∀ (n : Nat) (R begun : List Int) (s : σ), foldP upd n R begun s = (perms n R).foldl (fun s l => upd (begun ++ l) s) s
  | 0, R, begun, s => by simp [foldP, perms]
  | n + 1, R, begun, s => by
    rw [foldP, perms, List.foldl_flatMap]
    congr 1
    funext s x
    rw [foldP_perms upd n, List.foldl_map]
    simp

theorem endsF_nonneg (jobs : List J) (hj : ∀ j ∈ jobs, 0 ≤ j.f0 ∧ j.f0 ≤ 50 ∧ 0 ≤ j.f2 ∧ j.f2 ≤ 500) : ∀ (l out : List Int) (now B : Int), 0 ≤ now → now ≤ B → 500 ≤ B → B + 50 * (l.length : Int) ≤ 1000000000 → (∀ x ∈ l, 0 ≤ x ∧ x < jobs.length) → (∀ e ∈ out, 0 ≤ e) → ∀ e ∈ endsF jobs l out now, 0 ≤ e
  | [], _, _, _, _, _, _, _, _, h => h
  | x :: xs, out, now, B, h0, h1, h2, h3, hx, ho => by
    simp only [List.length_cons] at h3
    have hx0 := hx x List.mem_cons_self
    have hr := rdJ_int hx0.1 hx0.2
    have hk := hj _ (List.getElem_mem (show x.toNat < jobs.length by omega))
    rw [← hr] at hk
    have hm : 0 ≤ mx now (rd_T76 jobs x).f2 ∧ mx now (rd_T76 jobs x).f2 ≤ B := by unfold mx; split <;> omega
    have hw : wrap64 (mx now (rd_T76 jobs x).f2 + (rd_T76 jobs x).f0) = mx now (rd_T76 jobs x).f2 + (rd_T76 jobs x).f0 := wr (by omega) (by omega)
    rw [endsF, hw]
    refine endsF_nonneg jobs hj xs _ _ (B + 50) (by omega) (by omega) (by omega) (by omega) (fun y hy => hx y (List.mem_cons_of_mem _ hy)) (fun e he => ?_)
    rcases List.mem_or_eq_of_mem_set he with he | rfl
    · exact ho e he
    · omega
theorem endsAll_nonneg (jobs : List J) (l : List Int) (h : TwoOk jobs l) : ∀ e ∈ endsAll jobs l, 0 ≤ e := by
  have h8 := h.1.1
  have hl := h.2.1
  refine endsF_nonneg jobs (fun j hj => by have := h.1.2 j hj; unfold JobOk at this; omega) l _ 0 500 (by omega) (by omega) (by omega) (by omega) h.2.2.2 (fun e he => by rw [(List.mem_replicate.1 he).2]; omega)
/-- What a job with an end makes of a value. -/
def addF (s : Int) (j : J) (e f : Int) (first : Bool) : Int :=
  if f = 1 then mx s e else if f = 2 then wrap64 (s + e) else if f = 3 then wrap64 (s + wrap64 (j.f1 * e)) else if f = 4 then (if first = true then wrap64 (e - j.f3) else mx s (wrap64 (e - j.f3))) else if f = 5 then wrap64 (s + mx 0 (wrap64 (e - j.f3))) else if f = 6 then wrap64 (s + wrap64 (j.f1 * mx 0 (wrap64 (e - j.f3)))) else if wrap64 (e - j.f3) ≤ 0 then s else if f = 7 then wrap64 (s + 1) else wrap64 (s + j.f1)
def valF (jobs : List J) (ends : List Int) (f : Int) : Nat → Nat → Int → Int
  | 0, _, s => s
  | n + 1, i, s => valF jobs ends f n (i + 1) (addF s (rd_T76 jobs (i : Int)) (rd ends (i : Int)) f (decide (i = 0)))
theorem addF_in (s : Int) (j : J) (e f : Int) (b : Bool) (hs : InI s) (he : InI e) : InI (addF s j e f b) := by
  unfold addF
  repeat' split
  all_goals first | exact inI_wrap _ | exact hs | exact mx_inI hs he | exact mx_inI hs (inI_wrap _)
theorem impl_valueOfEnds.ev (jobs : List J) (ends : List Int) (f : Int) (he : ends.length = jobs.length) (hj : jobs.length ≤ 1000000) : Ev (fun k => impl_valueOfEnds.f k jobs ends f) (valF jobs ends f jobs.length 0 0) := by
  have key := rev_ind (P := fun i => ∀ s, Ev (fun k => impl_valueOfEnds.l0 k ends f s jobs (jobs.length : Int) (i : Int)) (valF jobs ends f (jobs.length - i) i s)) jobs.length ?_ ?_ 0 (Nat.zero_le _) 0
  · simpa [impl_valueOfEnds.f] using key
  · intro s
    refine ev_stop fun k => ?_
    simp only [impl_valueOfEnds.l0]; rw [if_neg (by omega), Nat.sub_self, valF]
  · intro i hi ih s
    rw [show jobs.length - i = (jobs.length - (i + 1)) + 1 by omega, valF]
    refine ev_go (fun k => impl_valueOfEnds.l0 k ends f (addF s (rd_T76 jobs (i : Int)) (rd ends (i : Int)) f (decide (i = 0))) jobs (jobs.length : Int) ((i + 1 : Nat) : Int)) (fun k => ?_) (ih _)
    have hd : (((i : Int)) == 0) = decide (i = 0) := by
      by_cases e : i = 0
      · subst e; rfl
      · rw [decide_eq_false e]; simpa using e
    have ha : impl_add.f s (rd_T76 jobs (i : Int)).f0 (rd_T76 jobs (i : Int)).f1 (rd_T76 jobs (i : Int)).f2 (rd_T76 jobs (i : Int)).f3 (rd ends (i : Int)) f (decide (i = 0)) = some (addF s (rd_T76 jobs (i : Int)) (rd ends (i : Int)) f (decide (i = 0))) := by
      unfold impl_add.f addF
      repeat' split
      all_goals rfl
    simp only [impl_valueOfEnds.l0]; rw [if_pos (by omega), if_pos (by omega), if_pos (by omega), if_pos (by omega), hd, ha, Option.bind_some, wr1 (by omega)]
theorem spec_l1Most.val (a b : Int) : spec_l1Most.f a b = some (if a > b then a else b) := by unfold spec_l1Most.f; split <;> rfl
theorem spec_l2Of.ev (jobs : List J) (ends : List Int) (f : Int) (he : ends.length = jobs.length) (hj : jobs.length ≤ 1000000) (hf : 1 ≤ f ∧ f ≤ 8) (h0 : ∀ e ∈ ends, 0 ≤ e ∧ InI e) : Ev (fun k => spec_l2Of.f k jobs ends f) (valF jobs ends f jobs.length 0 0) := by
  have key := rev_ind (P := fun i => ∀ s, InI s → (i = 0 → s = 0) → Ev (fun k => spec_l2Of.l0 k jobs ends f s (i : Int)) (valF jobs ends f (jobs.length - i) i s)) jobs.length ?_ ?_ 0 (Nat.zero_le _) 0 (by unfold InI; omega) (fun _ => rfl)
  · simpa [spec_l2Of.f] using key
  · intro s _ _
    refine ev_stop fun k => ?_
    simp only [spec_l2Of.l0]; rw [if_neg (by omega), Nat.sub_self, valF]
  · intro i hi ih s hs hz
    rw [show jobs.length - i = (jobs.length - (i + 1)) + 1 by omega, valF]
    have hei := h0 _ (List.getElem_mem (show i < ends.length by omega))
    rw [← rd_nat (by omega)] at hei
    have hin := addF_in s (rd_T76 jobs (i : Int)) (rd ends (i : Int)) f (decide (i = 0)) hs hei.2
    refine ev_go (fun k => spec_l2Of.l0 k jobs ends f (addF s (rd_T76 jobs (i : Int)) (rd ends (i : Int)) f (decide (i = 0))) ((i + 1 : Nat) : Int)) (fun k => ?_) (ih _ hin (fun h => by omega))
    have hd : ((i : Int) = 0) = (i = 0) := by simp
    have hw0 : wrap64 (s + 0) = s := by rw [Int.add_zero]; unfold InI at hs; exact wr (by omega) (by omega)
    simp only [spec_l2Of.l0]
    rw [if_pos (by omega)]
    generalize (rd ends (i : Int)) = e at hei
    generalize (rd_T76 jobs (i : Int)) = j
    rw [wr1 (by omega)]
    by_cases f1 : f = 1
    · subst f1
      simp only [spec_l2Greatest.f, Option.bind_some, if_true, addF, hd]
      rw [if_pos (by omega), if_pos (by omega), if_neg (by omega)]
      by_cases q : i = 0
      · rw [if_pos q, hz q, show mx 0 e = e by unfold mx; split <;> omega]
      · rw [if_neg q]
        by_cases q2 : e > s
        · rw [if_pos q2, show mx s e = e by unfold mx; split <;> omega]
        · rw [if_neg q2, show mx s e = s by unfold mx; split <;> omega]
    · by_cases f4 : f = 4
      · subst f4
        simp only [spec_l2Greatest.f, Option.bind_some, addF, hd]
        simp only [show ¬ ((4 : Int) = 1) by omega, show ¬ ((4 : Int) = 2) by omega, show ¬ ((4 : Int) = 3) by omega, if_false, if_true, beq_self_eq_true, Option.bind_some, decide_eq_true_eq]
        rw [if_pos (by omega), if_pos (by omega)]
        by_cases q : i = 0
        · rw [if_pos q, if_pos q]
        · rw [if_neg q, if_neg q]
          by_cases q2 : wrap64 (e - j.f3) > s
          · rw [if_pos q2, show mx s (wrap64 (e - j.f3)) = wrap64 (e - j.f3) by unfold mx; split <;> omega]
          · rw [if_neg q2, show mx s (wrap64 (e - j.f3)) = s by unfold mx; split <;> omega]
      · have hg : spec_l2Greatest.f f = some false := by unfold spec_l2Greatest.f; rw [if_neg f1]; simpa using f4
        rw [hg, Option.bind_some]
        simp only [Bool.false_eq_true, if_false]
        rw [if_pos (by omega), if_pos (by omega)]
        have hc : spec_l2Cost.f j.f0 j.f1 j.f2 j.f3 e f = some (if f = 2 then e else if f = 3 then wrap64 (j.f1 * e) else if f = 5 then mx 0 (wrap64 (e - j.f3)) else if f = 6 then wrap64 (j.f1 * mx 0 (wrap64 (e - j.f3))) else if wrap64 (e - j.f3) ≤ 0 then 0 else if f = 7 then 1 else j.f1) := by
          unfold spec_l2Cost.f
          rw [spec_l1Most.val, Option.bind_some]
          have hm : (if wrap64 (e - j.f3) > 0 then wrap64 (e - j.f3) else 0) = mx 0 (wrap64 (e - j.f3)) := by unfold mx; split <;> first | omega | (split <;> omega)
          rw [hm]
          have hm2 : (mx 0 (wrap64 (e - j.f3)) = 0) = (wrap64 (e - j.f3) ≤ 0) := by apply propext; unfold mx; split <;> omega
          simp only [hm2]
          repeat' split
          all_goals rfl
        rw [hc, Option.bind_some]
        congr 1
        unfold addF
        rw [if_neg f1, if_neg f4]
        repeat' split
        all_goals first | rfl | exact hw0

theorem endsAll_in (jobs : List J) (l : List Int) (h : TwoOk jobs l) : ∀ e ∈ endsAll jobs l, 0 ≤ e ∧ InI e := by
  intro e he
  refine ⟨endsAll_nonneg jobs l h e he, ?_⟩
  obtain ⟨i, hi, rfl⟩ := List.getElem_of_mem he
  rw [(endsAll_get jobs l h i (by rw [← endsAll_len jobs l]; exact hi)).1]
  exact inI_wrap _

def Obj8 (f : Int) : Prop := 1 ≤ f ∧ f ≤ 8
theorem spec_l2Objective.ev (f : Int) : spec_l2Objective.f f = some (decide (1 ≤ f ∧ f ≤ 8)) := by unfold spec_l2Objective.f; rw [spec_l1In.eq]; rfl
theorem impl_isObjective.ev (f : Int) : impl_isObjective.f f = some (decide (1 ≤ f ∧ f ≤ 8)) := by unfold impl_isObjective.f; rw [impl_within.eq]; rfl

/-- A search through all orders, as the reference makes it: each job that is not there yet is put behind those that are. -/
theorem rec_all {σ : Type} (N : Nat) (upd : List Int → σ → σ) (Q : σ → Prop) (G : Nat → List Int → σ → Option σ) (Lp : Nat → List Int → Int → σ → Option σ)
    (hbase : ∀ begun s, IsPerm N begun → Q s → Ev (fun k => G k begun s) (upd begun s) ∧ Q (upd begun s))
    (hgo : ∀ begun s r, begun.length < N → Ev (fun k => Lp k begun 0 s) r → Ev (fun k => G k begun s) r)
    (hend : ∀ begun s, begun.length < N → Ev (fun k => Lp k begun (N : Int) s) s)
    (hskip : ∀ begun (i : Nat) s r, begun.length < N → i < N → (i : Int) ∈ begun → Ev (fun k => Lp k begun ((i + 1 : Nat) : Int) s) r → Ev (fun k => Lp k begun (i : Int) s) r)
    (hrec : ∀ begun (i : Nat) s s' r, begun.length < N → i < N → (i : Int) ∉ begun → Ev (fun k => G k (begun ++ [(i : Int)]) s) s' → Ev (fun k => Lp k begun ((i + 1 : Nat) : Int) s') r → Ev (fun k => Lp k begun (i : Int) s) r) :
    ∀ (n : Nat) (begun : List Int) (s : σ), begun.length + n = N → begun.Nodup → (∀ x ∈ begun, 0 ≤ x ∧ x < (N : Int)) → Q s → Ev (fun k => G k begun s) (foldP upd n (restOf N begun) begun s) ∧ Q (foldP upd n (restOf N begun) begun s)
  | 0, begun, s, hl, hn, hr, hq => by
    rw [foldP]
    exact hbase begun s ⟨by omega, hn, hr⟩ hq
  | n + 1, begun, s, hl, hn, hr, hq => by
    have key := rev_ind (P := fun i => ∀ s, Q s → Ev (fun k => Lp k begun (i : Int) s) ((((nums_to N).drop i).filter fun y => decide (y ∉ begun)).foldl (fun s x => foldP upd n ((restOf N begun).erase x) (begun ++ [x]) s) s) ∧ Q ((((nums_to N).drop i).filter fun y => decide (y ∉ begun)).foldl (fun s x => foldP upd n ((restOf N begun).erase x) (begun ++ [x]) s) s)) N ?_ ?_ 0 (Nat.zero_le _) s hq
    · rw [foldP]
      exact ⟨hgo begun s _ (by omega) key.1, key.2⟩
    · intro s hq
      rw [List.drop_of_length_le (by rw [nums_to_length]; omega)]
      exact ⟨hend begun s (by omega), hq⟩
    · intro i hi ih s hq
      have hi2 : (nums_to N)[i]'(by rw [nums_to_length]; exact hi) = (i : Int) := by simp [nums_to]
      rw [drop_cons (by rw [nums_to_length]; exact hi), hi2]
      by_cases hb : (i : Int) ∈ begun
      · rw [List.filter_cons_of_neg (by simpa using hb)]
        exact ⟨hskip begun i s _ (by omega) hi hb (ih s hq).1, (ih s hq).2⟩
      · rw [List.filter_cons_of_pos (by simpa using hb), List.foldl_cons]
        have hrec1 := rec_all N upd Q G Lp hbase hgo hend hskip hrec n (begun ++ [(i : Int)]) s (by simp; omega) (by
          rw [List.nodup_append]
          refine ⟨hn, by simp, fun a ha b hb2 e => ?_⟩
          rw [List.mem_singleton] at hb2
          exact hb (by rw [← hb2, ← e]; exact ha)) (fun x hx => by
          rcases List.mem_append.1 hx with hx | hx
          · exact hr x hx
          · rw [List.mem_singleton] at hx; omega) hq
        rw [← restOf_erase] at hrec1
        have nxt := ih _ hrec1.2
        exact ⟨hrec begun i s _ _ (by omega) hi hb hrec1.1 nxt.1, nxt.2⟩
theorem rec_start {σ : Type} (N : Nat) (upd : List Int → σ → σ) (s : σ) : foldP upd N (restOf N []) [] s = (perms N (nums_to N)).foldl (fun s l => upd l s) s := by
  rw [foldP_perms, restOf_nil]
  rfl
/-- Two searches side by side. -/
theorem fold_sim {σ τ : Type} (R : σ → τ → Prop) (u : List Int → σ → σ) (v : List Int → τ → τ) : ∀ (P : List (List Int)) (s : σ) (t : τ), R s t → (∀ l ∈ P, ∀ s t, R s t → R (u l s) (v l t)) → R (P.foldl (fun s l => u l s) s) (P.foldl (fun t l => v l t) t)
  | [], _, _, h, _ => h
  | l :: P, s, t, h, hs => by
    rw [List.foldl_cons, List.foldl_cons]
    exact fold_sim R u v P _ _ (hs l List.mem_cons_self s t h) (fun l h => hs l (List.mem_cons_of_mem _ h))

theorem spec_l1Own.eq (l : List Int) (h : l.length ≤ 1000000000000) : spec_l1Own.f l = some l := by
  simp only [spec_l1Own.f, Option.bind_some]
  rw [if_pos (by simp; omega)]
  rfl

end Go.Proofs.Ytbcfmegepkhlpaa.Pure
