/- Proved here: what functions that the law FnExactUnitGreedy reaches answer (marks, laws_markIntS, laws_markJobS). Conditions: those that each theorem names. -/
import Derived.Test.YtafjdcjaigmnaaaQFnExactUnitGreedye
set_option linter.unusedVariables false
set_option linter.unusedSimpArgs false
namespace Go.Proofs.Ytafjdcjaigmnaaa.Pure
open Go.RowKit Go.Proofs.Ytafjdcjaigmnaaa.XFnExactUnitGreedy Go.Proofs.YtafjdcjaigmnaaaW.PrintWords Go.Proofs.YtafjdcjaigmnaaaW.PrintLast

theorem ev_succ {α : Type} {g : Nat → Option α} {r : α} (h : Ev (fun k => g (k + 1)) r) : Ev g r := Ev.step (fun _ => rfl) h
/-- a, a + 1, .. -/
def iotaI (a : Int) : Nat → List Int
  | 0 => []
  | n + 1 => a :: iotaI (a + 1) n
theorem iotaI_length (n : Nat) : ∀ a, (iotaI a n).length = n := by
  induction n with
  | zero => intro a; rfl
  | succ n ih => intro a; simp [iotaI, ih]
theorem iotaI_snoc (n : Nat) : ∀ a : Int, iotaI a (n + 1) = iotaI a n ++ [a + n] := by
  induction n with
  | zero => intro a; simp [iotaI]
  | succ n ih =>
    intro a
    rw [iotaI, ih, iotaI, List.cons_append]
    congr 3
    omega
theorem iotaI_get (n : Nat) : ∀ (a : Int) (i : Nat) (h : i < (iotaI a n).length), (iotaI a n)[i] = a + i := by
  induction n with
  | zero => intro a i h; simp [iotaI] at h
  | succ n ih =>
    intro a i h
    cases i with
    | zero => simp [iotaI]
    | succ i =>
      simp only [iotaI, List.getElem_cons_succ]
      rw [ih]; omega

theorem laws_markIntS.ev (l : List Int) (a : Int) (h0 : 0 ≤ a) (h1 : a ≤ 1000000000000000) (hl : l.length ≤ 1000000000000) : Ev (fun k => laws_markIntS.f k l a) (a + l.length, iotaI a l.length) := by
  have key := rev_ind (P := fun i => Ev (fun k => laws_markIntS.l0 k (iotaI a i ++ l.drop i) (a + i) (i : Int)) (a + l.length, iotaI a l.length)) l.length ?_ ?_ 0 (Nat.zero_le _)
  · simpa [laws_markIntS.f, iotaI] using key
  · refine ev_stop fun k => ?_
    have hlen : (iotaI a l.length ++ l.drop l.length).length = l.length := by simp [iotaI_length]
    simp only [laws_markIntS.l0]; rw [if_neg (by rw [hlen]; omega)]; simp
  · intro i hi ih
    have hlen : (iotaI a i ++ l.drop i).length = l.length := by simp [iotaI_length]; omega
    refine ev_go _ (fun k => ?_) ih
    simp only [laws_markIntS.l0]; rw [if_pos (by rw [hlen]; omega), if_pos (by omega), wr (x := a + i + 1) (by omega) (by omega), wr1 (by omega)]
    rw [show ((i : Int)).toNat = i by omega, drop_cons hi, List.set_append_right _ _ (by simp [iotaI_length]), iotaI_length, Nat.sub_self, List.set_cons_zero, iotaI_snoc, List.append_assoc]
    congr 1; omega
theorem laws_heldIntS.ev (n : Nat) (a : Int) (h0 : 0 ≤ a) (h1 : a ≤ 1000000000000000) (hl : n ≤ 1000000000000) : Ev (fun k => laws_heldIntS.f k (iotaI a n) a) (a + n) := by
  have key := rev_ind (P := fun i => Ev (fun k => laws_heldIntS.l0 k (iotaI a n) (a + i) (i : Int)) (a + n)) n ?_ ?_ 0 (Nat.zero_le _)
  · simpa [laws_heldIntS.f] using key
  · refine ev_stop fun k => ?_
    simp only [laws_heldIntS.l0]; rw [if_neg (by rw [iotaI_length]; omega)]
  · intro i hi ih
    refine ev_go _ (fun k => ?_) ih
    have hi' : i < (iotaI a n).length := by rw [iotaI_length]; exact hi
    simp only [laws_heldIntS.l0]; rw [if_pos (by rw [iotaI_length]; omega), if_pos (by omega), rd_nat hi', iotaI_get, if_pos rfl, wr (x := a + i + 1) (by omega) (by omega), wr1 (by omega)]
    congr 1; omega
/-- An argument is marked: the next mark is no negative number. -/
theorem laws_markIntS.any (l : List Int) (a : Int) (h0 : 0 ≤ a) (h1 : a ≤ 100000000000000) (hl : l.length ≤ 1048576) : ∃ n l', Ev (fun k => laws_markIntS.f k l a) (n, l') ∧ 0 ≤ n ∧ n ≤ a + 100000000 ∧ ((n < 0) = False) := 
  ⟨_, _, laws_markIntS.ev l a h0 (by omega) (by omega), by omega, by omega, by simp; omega⟩
/-- A result is marked, and holds its marks. -/
theorem laws_markIntS.held (l : List Int) (hl : l.length ≤ 1048576) : ∃ n l', Ev (fun k => laws_markIntS.f k l 1) (n, l') ∧ Ev (fun k => laws_heldIntS.f k l' 1) n ∧ ((n < 0) = False) :=
  ⟨_, _, laws_markIntS.ev l 1 (by omega) (by omega) (by omega), laws_heldIntS.ev l.length 1 (by omega) (by omega) (by omega), by simp; omega⟩

def mkJ1 (x : List J) (i b : Int) : List J := x.set i.toNat ⟨b, (rd_T54 x i).f1, (rd_T54 x i).f2, (rd_T54 x i).f3⟩
def mkJ2 (x : List J) (i b : Int) : List J := x.set i.toNat ⟨(rd_T54 x i).f0, b, (rd_T54 x i).f2, (rd_T54 x i).f3⟩
def mkJ3 (x : List J) (i b : Int) : List J := x.set i.toNat ⟨(rd_T54 x i).f0, (rd_T54 x i).f1, b, (rd_T54 x i).f3⟩
def mkJ4 (x : List J) (i b : Int) : List J := x.set i.toNat ⟨(rd_T54 x i).f0, (rd_T54 x i).f1, (rd_T54 x i).f2, b⟩
theorem laws_markJobS.any (l : List J) (a : Int) (h0 : 0 ≤ a) (h1 : a ≤ 1000000000) (hl : l.length ≤ 1048576) : ∃ n l', Ev (fun k => laws_markJobS.f k l a) (n, l') ∧ 0 ≤ n ∧ n ≤ a + 100000000 ∧ ((n < 0) = False) := by
  have key := rev_ind (P := fun i => ∀ (x : List J) (b : Int), x.length = l.length → b = a + 4 * i → ∃ l', Ev (fun k => laws_markJobS.l0 k x b (i : Int)) (a + 4 * l.length, l')) l.length ?_ ?_ 0 (Nat.zero_le _) l a rfl (by omega)
  · obtain ⟨l', h⟩ := key
    exact ⟨_, l', by simpa [laws_markJobS.f] using h, by omega, by omega, by simp; omega⟩
  · intro x b hx hb
    refine ⟨x, ev_stop fun k => ?_⟩
    simp only [laws_markJobS.l0]; rw [if_neg (by omega), hb]
  · intro i hi ih x b hx hb
    have gen : ∀ y : List J, y.length = l.length → ∃ l', Ev (fun k => laws_markJobS.l0 k y (b + 4) ((i + 1 : Nat) : Int)) (a + 4 * l.length, l') := fun y hy => ih y (b + 4) hy (by omega)
    have w1 : wrap64 (b + 1) = b + 1 := wr (by omega) (by omega)
    have w2 : wrap64 (b + 1 + 1) = b + 2 := by rw [wr (by omega) (by omega)]; omega
    have w3 : wrap64 (b + 2 + 1) = b + 3 := by rw [wr (by omega) (by omega)]; omega
    have w4 : wrap64 (b + 3 + 1) = b + 4 := by rw [wr (by omega) (by omega)]; omega
    have step : ∃ y : List J, y.length = l.length ∧ ∀ k, laws_markJobS.l0 (k + 1) x b (i : Int) = laws_markJobS.l0 k y (b + 4) ((i + 1 : Nat) : Int) := by
      refine ⟨mkJ4 (mkJ3 (mkJ2 (mkJ1 x i b) i (b + 1)) i (b + 2)) i (b + 3), by simp [mkJ1, mkJ2, mkJ3, mkJ4, hx], fun k => ?_⟩
      simp only [laws_markJobS.l0, Option.bind_some]
      rw [if_pos (by omega), if_pos (by omega), w1, w2, w3, w4, wr1 (by omega)]
      rfl
    obtain ⟨y, hy, hs⟩ := step
    obtain ⟨l', h⟩ := gen y hy
    exact ⟨l', ev_go _ hs h⟩

end Go.Proofs.Ytafjdcjaigmnaaa.Pure
