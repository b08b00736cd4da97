/- Proved here: what functions that the law FnExactMixVectors reaches answer (guard, vectorOk, spec_l10Vector, impl_isVector, mixF, core_MixVectors). Conditions: those that each theorem names. -/
import Derived.Test.YtigfamfbppdbaaaQFnExactMixVectorsi
set_option linter.unusedVariables false
set_option linter.unusedSimpArgs false
namespace Go.Proofs.Ytigfamfbppdbaaa.Pure
open Go.RowKit Go.Proofs.Ytigfamfbppdbaaa.XFnExactMixVectors Go.Proofs.YtigfamfbppdbaaaW.PrintWords Go.Proofs.YtigfamfbppdbaaaW.PrintLast

theorem ev_guard {g : Nat → Option Bool} {P : Prop} {α : Type} {F : Nat → Option α} {z r : α} (h : EvB g P) (h1 : P → Ev F r) (h2 : ¬ P → r = z) : Ev (fun n => (g n).bind fun t => if t = true then F n else some z) r := by
  refine evB_bind h (fun hp => ?_) (fun hp => ?_)
  · simp only [if_true]; exact h1 hp
  · simp only [Bool.false_eq_true, if_false]; rw [h2 hp]; exact Ev.now _

def VecOk (n : Nat) (l : List Int) : Prop := l.length = n ∧ ∀ x ∈ l, 0 ≤ x ∧ x ≤ 2000

theorem spec_l10Vector.ev (jobs : List J) (l : List Int) (hl : l.length ≤ 1000000000000) : EvB (fun k => spec_l10Vector.f k jobs l) (VecOk jobs.length l) := by
  have key := rev_ind (P := fun i => EvB (fun k => spec_l10Vector.l0 k jobs l (i : Int)) (l.length = jobs.length ∧ ∀ x ∈ l.drop i, 0 ≤ x ∧ x ≤ 2000)) l.length ?_ ?_ 0 (Nat.zero_le _)
  · simpa [spec_l10Vector.f, VecOk] using key
  · refine ⟨((l.length : Int) == (jobs.length : Int)), ev_stop fun k => ?_, ?_⟩
    · simp only [spec_l10Vector.l0]; rw [if_neg (by omega)]
    · simp only [beq_iff_eq, List.drop_length, List.not_mem_nil, false_implies, implies_true, and_true]
      omega
  · intro i hi ih
    rw [drop_cons hi]
    by_cases q : 0 ≤ l[i] ∧ l[i] ≤ 2000
    · obtain ⟨c, hb, hP⟩ := ih
      refine ⟨c, ev_go _ (fun k => ?_) hb, hP.trans ⟨fun h1 => ⟨h1.1, fun x hx => ?_⟩, fun h1 => ⟨h1.1, fun x hx => h1.2 x (List.mem_cons_of_mem _ hx)⟩⟩⟩
      · simp only [spec_l10Vector.l0]; rw [if_pos (by omega), if_pos (by omega), rd_nat hi, spec_l1In.eq, Option.bind_some, if_pos (by simpa using q), wr1 (by omega)]
      · rcases List.mem_cons.1 hx with rfl | hx
        · exact q
        · exact h1.2 x hx
    · refine evB_of (fun h => absurd (h.2 _ List.mem_cons_self) q) (fun _ => ev_stop fun k => ?_)
      simp only [spec_l10Vector.l0]; rw [if_pos (by omega), if_pos (by omega), rd_nat hi, spec_l1In.eq, Option.bind_some, if_neg (by simpa using q)]

theorem impl_isVector.ev (jobs : List J) (l : List Int) (hl : l.length ≤ 1000000000000) : EvB (fun k => impl_isVector.f k jobs l) (VecOk jobs.length l) := by
  unfold impl_isVector.f VecOk
  by_cases e : (l.length : Int) = (jobs.length : Int)
  · simp only [if_pos e]
    obtain ⟨b, hb, hP⟩ := impl_allWithin.ev l 0 2000 (by omega)
    exact ⟨b, ev_bind b hb (Ev.now _), hP.trans ⟨fun h => ⟨by omega, h⟩, fun h => h.2⟩⟩
  · simp only [if_neg e]
    exact evB_of (fun h => absurd (by rw [h.1]) e) (fun _ => Ev.now _)

/-- The mixture from some place on, behind what is mixed already. -/
def mixF (x y : Int) : List Int → List Int → List Int → List Int × Bool
  | a :: at', b :: bt', out => if Int.tmod (wrap64 ((wrap64 (x * a)) + (wrap64 (y * b)))) (wrap64 (x + y)) = 0 then mixF x y at' bt' (out ++ [wrap64 (Int.tdiv (wrap64 ((wrap64 (x * a)) + (wrap64 (y * b)))) (wrap64 (x + y)))]) else ([], false)
  | _, _, out => (out, true)
theorem mixF_len (x y : Int) : ∀ (a b out : List Int), (mixF x y a b out).1.length ≤ out.length + a.length
  | [], _, out => by simp [mixF]
  | _ :: _, [], out => by simp [mixF]
  | a :: at', b :: bt', out => by
    rw [mixF]
    split
    · have := mixF_len x y at' bt' (out ++ [wrap64 (Int.tdiv (wrap64 ((wrap64 (x * a)) + (wrap64 (y * b)))) (wrap64 (x + y)))])
      simp only [List.length_append, List.length_cons, List.length_nil] at this ⊢
      omega
    · simp

theorem spec_mixLoop (a b : List Int) (x y : Int) (hs : ¬ wrap64 (x + y) = 0) (hab : a.length = b.length) (hl : a.length ≤ 1048576) : Ev (fun k => spec_MixVectors.l0 k a b x y [] 0) (mixF x y a b []) := by
  have key := rev_ind (P := fun i => ∀ out : List Int, out.length = i → Ev (fun k => spec_MixVectors.l0 k a b x y out (i : Int)) (mixF x y (a.drop i) (b.drop i) out)) a.length ?_ ?_ 0 (Nat.zero_le _) [] rfl
  · simpa using key
  · intro out _
    refine ev_stop fun k => ?_
    simp only [spec_MixVectors.l0]; rw [if_neg (by omega), List.drop_length]; simp [mixF]
  · intro i hi ih out ho
    have hb : i < b.length := by omega
    rw [drop_cons hi, drop_cons hb, mixF]
    by_cases q : Int.tmod (wrap64 ((wrap64 (x * a[i])) + (wrap64 (y * b[i])))) (wrap64 (x + y)) = 0
    · rw [if_pos q]
      refine ev_go _ (fun k => ?_) (ih _ (by simp [ho]))
      simp only [spec_MixVectors.l0]; rw [if_pos (by omega), if_pos (by omega), if_pos (by omega), if_neg hs, rd_nat hi, rd_nat hb, if_pos q, if_pos (by omega), wr1 (by omega)]
    · rw [if_neg q]
      refine ev_stop fun k => ?_
      simp only [spec_MixVectors.l0]; rw [if_pos (by omega), if_pos (by omega), if_pos (by omega), if_neg hs, rd_nat hi, rd_nat hb, if_neg q]
theorem impl_mixLoop (a b : List Int) (x y : Int) (n : Nat) (hs : ¬ wrap64 (x + y) = 0) (ha : a.length = n) (hb' : b.length = n) (hl : a.length ≤ 1048576) : Ev (fun k => impl_MixVectors.l0 k a b x y [] (n : Int) 0) (mixF x y a b []) := by
  have key := rev_ind (P := fun i => ∀ out : List Int, out.length = i → Ev (fun k => impl_MixVectors.l0 k a b x y out (n : Int) (i : Int)) (mixF x y (a.drop i) (b.drop i) out)) a.length ?_ ?_ 0 (Nat.zero_le _) [] rfl
  · simpa using key
  · intro out _
    refine ev_stop fun k => ?_
    simp only [impl_MixVectors.l0]; rw [if_neg (by omega), List.drop_length]; simp [mixF]
  · intro i hi ih out ho
    have hb : i < b.length := by omega
    rw [drop_cons hi, drop_cons hb, mixF]
    by_cases q : Int.tmod (wrap64 ((wrap64 (x * a[i])) + (wrap64 (y * b[i])))) (wrap64 (x + y)) = 0
    · rw [if_pos q]
      refine ev_go _ (fun k => ?_) (ih _ (by simp [ho]))
      simp only [impl_MixVectors.l0]; rw [if_pos (by omega), if_pos (by omega), if_pos (by omega), if_pos (by omega), if_neg hs, rd_nat hi, rd_nat hb, if_pos q, if_pos (by omega), wr1 (by omega)]
    · rw [if_neg q]
      refine ev_stop fun k => ?_
      simp only [impl_MixVectors.l0]; rw [if_pos (by omega), if_pos (by omega), if_pos (by omega), if_pos (by omega), if_neg hs, rd_nat hi, rd_nat hb, if_neg q]
theorem ev_guard' {g : Nat → Option Bool} {P : Prop} {α : Type} {F G : Nat → Option α} {r : α} (h : EvB g P) (h1 : P → Ev F r) (h2 : ¬ P → Ev G r) : Ev (fun n => (g n).bind fun t => if t = true then F n else G n) r := by
  refine evB_bind h (fun hp => ?_) (fun hp => ?_)
  · simp only [if_true]; exact h1 hp
  · simp only [Bool.false_eq_true, if_false]; exact h2 hp
theorem core_MixVectors (jobs : List J) (a b : List Int) (x y : Int) (hj : jobs.length ≤ 1048576) (ha : a.length ≤ 1048576) (hb : b.length ≤ 1048576) (_ : (Lit.int .i64 x).wf = true) (_ : (Lit.int .i64 y).wf = true) : ∃ r c, Ev (fun k => spec_MixVectors.f k jobs a b x y) (r, c) ∧ Ev (fun k => impl_MixVectors.f k jobs a b x y) (r, c) ∧ r.length ≤ 1048576 := by
  unfold spec_MixVectors.f impl_MixVectors.f
  simp only [Option.bind_some, spec_l1In.eq, impl_within.eq]
  have sno : Ev (fun k => spec_MixVectors.j0 k a b x y [] true) (([] : List Int), false) := ev_stop fun k => by simp only [spec_MixVectors.j0]; rfl
  have ino : Ev (fun k => impl_MixVectors.j0 k jobs a b x y true) (([] : List Int), false) := ev_stop fun k => by simp only [impl_MixVectors.j0]; rfl
  have dec : ∀ (P : Prop) [Decidable P] {α : Type} {F G : Nat → Option α} {r : α}, (P → Ev F r) → (¬ P → Ev G r) → Ev (fun n => if decide P = true then F n else G n) r := by
    intro P _ α F G r h1 h2
    by_cases hp : P
    · simp only [hp, decide_true, if_true]; exact h1 hp
    · simp only [hp, decide_false, Bool.false_eq_true, if_false]; exact h2 hp
  by_cases h : PlainOk jobs ∧ VecOk jobs.length a ∧ VecOk jobs.length b ∧ (0 ≤ x ∧ x ≤ 9) ∧ (0 ≤ y ∧ y ≤ 9) ∧ ¬ wrap64 (x + y) = 0
  · refine ⟨(mixF x y a b []).1, (mixF x y a b []).2, ?_, ?_, ?_⟩
    · refine ev_guard' (spec_l6Good.ev jobs (by omega)) (fun _ => ev_guard' (spec_l10Vector.ev jobs a (by omega)) (fun _ => ev_guard' (spec_l10Vector.ev jobs b (by omega)) (fun _ => dec _ (fun _ => dec _ (fun _ => ?_) (fun hn => absurd h.2.2.2.2.1 hn)) (fun hn => absurd h.2.2.2.1 hn)) (fun hn => absurd h.2.2.1 hn)) (fun hn => absurd h.2.1 hn)) (fun hn => absurd h.1 hn)
      rw [show (wrap64 (x + y) == 0) = false by simpa using h.2.2.2.2.2]
      refine ev_go _ (fun k => ?_) (spec_mixLoop a b x y h.2.2.2.2.2 (by rw [h.2.1.1, h.2.2.1.1]) ha)
      simp only [spec_MixVectors.j0]; rfl
    · refine ev_guard' (impl_IsPlain.ev jobs (by omega)) (fun _ => ev_guard' (impl_isVector.ev jobs a (by omega)) (fun _ => ev_guard' (impl_isVector.ev jobs b (by omega)) (fun _ => dec _ (fun _ => dec _ (fun _ => ?_) (fun hn => absurd h.2.2.2.2.1 hn)) (fun hn => absurd h.2.2.2.1 hn)) (fun hn => absurd h.2.2.1 hn)) (fun hn => absurd h.2.1 hn)) (fun hn => absurd h.1 hn)
      rw [show (wrap64 (x + y) == 0) = false by simpa using h.2.2.2.2.2]
      refine ev_go _ (fun k => ?_) (impl_mixLoop a b x y jobs.length h.2.2.2.2.2 h.2.1.1 h.2.2.1.1 ha)
      simp only [impl_MixVectors.j0]; rfl
    · have := mixF_len x y a b []
      simp only [List.length_nil] at this
      omega
  · refine ⟨[], false, ?_, ?_, by simp⟩
    · refine ev_guard' (spec_l6Good.ev jobs (by omega)) (fun h1 => ev_guard' (spec_l10Vector.ev jobs a (by omega)) (fun h2 => ev_guard' (spec_l10Vector.ev jobs b (by omega)) (fun h3 => dec _ (fun h4 => dec _ (fun h5 => ?_) (fun _ => sno)) (fun _ => sno)) (fun _ => sno)) (fun _ => sno)) (fun _ => sno)
      rw [show (wrap64 (x + y) == 0) = true by
        by_cases e : wrap64 (x + y) = 0
        · simpa using e
        · exact absurd ⟨h1, h2, h3, h4, h5, e⟩ h]
      exact sno
    · refine ev_guard' (impl_IsPlain.ev jobs (by omega)) (fun h1 => ev_guard' (impl_isVector.ev jobs a (by omega)) (fun h2 => ev_guard' (impl_isVector.ev jobs b (by omega)) (fun h3 => dec _ (fun h4 => dec _ (fun h5 => ?_) (fun _ => ino)) (fun _ => ino)) (fun _ => ino)) (fun _ => ino)) (fun _ => ino)
      rw [show (wrap64 (x + y) == 0) = true by
        by_cases e : wrap64 (x + y) = 0
        · simpa using e
        · exact absurd ⟨h1, h2, h3, h4, h5, e⟩ h]
      exact ino

end Go.Proofs.Ytigfamfbppdbaaa.Pure
