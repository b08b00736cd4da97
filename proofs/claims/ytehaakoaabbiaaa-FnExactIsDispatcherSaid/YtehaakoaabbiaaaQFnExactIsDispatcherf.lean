/- Proved here: what functions that the law FnExactIsDispatcher reaches answer (tyTask, tyLTask, laws_szTaskS, laws_toTaskS, laws_eqTaskS). Conditions: those that each theorem names. -/
import Derived.Test.YtehaakoaabbiaaaQFnExactIsDispatchere
set_option linter.unusedVariables false
set_option linter.unusedSimpArgs false
namespace Go.Proofs.Ytehaakoaabbiaaa.Pure
open Go.RowKit Go.Proofs.Ytehaakoaabbiaaa.XFnExactIsDispatcher Go.Proofs.YtehaakoaabbiaaaW.PrintWords Go.Proofs.YtehaakoaabbiaaaW.PrintLast

abbrev PTask := S66
abbrev LTask := S84
theorem rdPTask {l : List PTask} {i : Nat} (h : i < l.length) : rd_T66 l (i : Int) = l[i] := by simp [rd_T66, h]
theorem rdPTask_zero {l : List PTask} (h : 0 < l.length) : rd_T66 l 0 = l[0] := by simp [rd_T66, h]
def cvTask (x : LTask) : PTask := ⟨x.f0, x.f1, x.f2⟩

theorem rdLTask {l : List LTask} {i : Nat} (h : i < l.length) : rd_T84 l (i : Int) = l[i] := by simp [rd_T84, h]

theorem laws_szTaskS.eq (l : List LTask) (a : Int) (h0 : 0 ≤ a) (h1 : a ≤ 1048576) (hl : l.length ≤ 9223372036854775807) : ∃ n, laws_szTaskS.f l a = some n ∧ n ≤ 1048576 ∧ (0 ≤ n → l.length ≤ 1048576) := by
  unfold laws_szTaskS.f
  rw [wr (by omega) (by omega)]
  by_cases h : a - (l.length : Int) < 0
  · exact ⟨-1, by rw [if_pos h], by omega, fun h => absurd h (by omega)⟩
  · exact ⟨_, by rw [if_neg h], by omega, fun _ => by omega⟩

theorem laws_toTaskS.ev (l : List LTask) (hl : l.length ≤ 1000000000000) : Ev (fun k => laws_toTaskS.f k l) (l.map cvTask) := by
  unfold laws_toTaskS.f
  rw [show (fun k => if 0 ≤ (l.length : Int) then (if ((l.length : Int) : Int).toNat ≤ 11728124029610 then (laws_toTaskS.l0 k l (List.replicate ((l.length : Int) : Int).toNat z66) 0) else none) else none) = fun k => laws_toTaskS.l0 k l (List.replicate l.length z66) 0 from funext fun k => by rw [if_pos (by omega), if_pos (by omega)]; rfl]
  have key := rev_ind (P := fun i => Ev (fun k => laws_toTaskS.l0 k l ((l.map cvTask).take i ++ (List.replicate l.length z66).drop i) (i : Int)) (l.map cvTask)) l.length ?_ ?_ 0 (Nat.zero_le _)
  · simpa using key
  · refine ev_stop fun k => ?_
    simp only [laws_toTaskS.l0]; rw [if_neg (by omega), List.take_of_length_le (by simp)]; simp
  · intro i hi ih
    have hlen : ((l.map cvTask).take i ++ (List.replicate l.length z66).drop i).length = l.length := by simp; omega
    refine ev_go _ (fun k => ?_) ih
    simp only [laws_toTaskS.l0, laws_toTask.f, Option.bind_some]; rw [if_pos (by omega), if_pos (by omega), if_pos (by rw [hlen]; omega), rdLTask hi, wr1 (by omega)]
    have := set_copy (l := l.map cvTask) (z := List.replicate l.length z66) (i := i) (by simpa using hi) (by simpa using hi)
    rw [show ((i : Int)).toNat = i by omega, ← this]
    simp [cvTask]

theorem laws_eqTask.eq (a b : PTask) : ∃ c, laws_eqTask.f a.f0 a.f1 a.f2 b.f0 b.f1 b.f2 = some c ∧ (c = true ↔ a = b) := by
  obtain ⟨a0, a1, a2⟩ := a
  obtain ⟨b0, b1, b2⟩ := b
  unfold laws_eqTask.f
  by_cases h0 : a0 = b0
  · by_cases h1 : a1 = b1
    · by_cases h2 : a2 = b2
      · exact ⟨true, by simp [h0, h1, h2], by simp [h0, h1, h2]⟩
      · exact ⟨false, by simp [h0, h1, h2], by simp [h2]⟩
    · exact ⟨false, by simp [h0, h1], by simp [h1]⟩
  · exact ⟨false, by simp [h0], by simp [h0]⟩
theorem laws_eqTaskS.ev (l m : List PTask) (hl : l.length ≤ 1000000000000000) : EvB (fun k => laws_eqTaskS.f k l m) (l = m) := by
  unfold laws_eqTaskS.f
  by_cases e : (l.length : Int) = (m.length : Int)
  · simp only [if_pos e]
    have key := rev_ind (P := fun i => EvB (fun k => laws_eqTaskS.l0 k l m (i : Int)) (l.drop i = m.drop i)) l.length ?_ ?_ 0 (Nat.zero_le _)
    · simpa using key
    · refine evB_of (fun _ => ev_stop fun k => ?_) (fun h => absurd ?_ h)
      · simp only [laws_eqTaskS.l0]; rw [if_neg (by omega)]
      · rw [List.drop_eq_nil_of_le (by omega), List.drop_eq_nil_of_le (by omega)]
    · intro i hi ih
      have hm : i < m.length := by omega
      rw [drop_cons hi, drop_cons hm]
      obtain ⟨c, hc, hce⟩ := laws_eqTask.eq l[i] m[i]
      by_cases q : l[i] = m[i]
      · obtain ⟨b, hb, hP⟩ := ih
        refine ⟨b, ev_go _ (fun k => ?_) hb, by rw [hP, q]; exact ⟨fun h => by rw [h], fun h => (List.cons.inj h).2⟩⟩
        simp only [laws_eqTaskS.l0]; rw [if_pos (by omega), if_pos (by omega), if_pos (by omega), rdPTask hi, rdPTask hm, hc, Option.bind_some, if_pos (hce.2 q), wr1 (by omega)]
      · refine evB_of (fun h => absurd (List.cons.inj h).1 q) (fun _ => ev_stop fun k => ?_)
        simp only [laws_eqTaskS.l0]; rw [if_pos (by omega), if_pos (by omega), if_pos (by omega), rdPTask hi, rdPTask hm, hc, Option.bind_some, if_neg (fun h => q (hce.1 h))]
  · simp only [if_neg e]
    exact evB_of (fun h => absurd (by rw [h]) e) (fun _ => Ev.now _)
theorem laws_eqTaskS.same (l : List PTask) (hl : l.length ≤ 1000000000000000) : Ev (fun k => laws_eqTaskS.f k l l) true := evB_true (laws_eqTaskS.ev l l hl) rfl

end Go.Proofs.Ytehaakoaabbiaaa.Pure
