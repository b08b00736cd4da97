/- Proved here: what functions that the law FnExactBestUnder reaches answer (searchEnd, core_BestUnder). Conditions: those that each theorem names. -/
import Derived.Test.YtbblhmpcpmamfaaQFnExactBestUnderx
set_option linter.unusedVariables false
set_option linter.unusedSimpArgs false
namespace Go.Proofs.Ytbblhmpcpmamfaa.Pure
open Go.RowKit Go.Proofs.Ytbblhmpcpmamfaa.XFnExactBestUnder Go.Proofs.YtbblhmpcpmamfaaW.PrintWords Go.Proofs.YtbblhmpcpmamfaaW.PrintLast

theorem perms_ne : ∀ (n : Nat) (L : List Int), L.length = n → perms n L ≠ []
  | 0, L, h => by rw [perms]; simp
  | n + 1, L, h => by
    cases L with
    | nil => simp at h
    | cons x t =>
      rw [perms, List.flatMap_cons]
      have := perms_ne n ((x :: t).erase x) (by rw [List.length_erase_of_mem List.mem_cons_self]; simp at h ⊢; omega)
      intro c
      have c1 := (List.append_eq_nil_iff.1 c).1
      rw [List.map_eq_nil_iff] at c1
      exact this c1
theorem ev_eq {α : Type} {g : Nat → Option α} {r r' : α} (h : Ev g r) (e : r = r') : Ev g r' := e ▸ h
/-- What holds behind any round holds at the end, if there is a round. -/
theorem fold_end {σ : Type} (u : List Int → σ → σ) (P : σ → Prop) (hs : ∀ l s, P (u l s) ∨ u l s = s) (h1 : ∀ l s, P s → P (u l s)) : ∀ (L : List (List Int)) (s : σ), P s → P (L.foldl (fun s l => u l s) s)
  | [], s, h => h
  | l :: L, s, h => by rw [List.foldl_cons]; exact fold_end u P hs h1 L _ (h1 l s h)

def buS (jobs : List J) (f g m : Int) (l : List Int) (s : List Int × Int × Int) : List Int × Int × Int := if (pointF jobs f g l).2 ≤ m ∧ (s.2.2 = 0 ∨ (pointF jobs f g l).1 < s.2.1) then (l, (pointF jobs f g l).1, 1) else s
def buI (jobs : List J) (f g m : Int) (l : List Int) (s : List Int × Int × Bool) : List Int × Int × Bool := if (pointF jobs f g l).2 ≤ m ∧ (s.2.2 = false ∨ (pointF jobs f g l).1 < s.2.1) then (l, (pointF jobs f g l).1, true) else s
theorem spec_l11Under.ev (jobs : List J) (f g m : Int) (hj : JobsOk jobs) (hf : Obj8 f) (hg : Obj8 g) : Ev (fun k => spec_l11Under.f k jobs [] f g m [] 0 0) ((perms jobs.length (nums_to jobs.length)).foldl (fun s l => buS jobs f g m l s) ([], 0, 0)) := by
  have h8 := hj.1
  have key := rec_all jobs.length (buS jobs f g m) (fun _ => True) (fun k b s => spec_l11Under.f k jobs b f g m s.1 s.2.1 s.2.2) (fun k b i s => spec_l11Under.l0 k jobs b f g m i s.1 s.2.1 s.2.2) ?_ ?_ ?_ ?_ ?_ jobs.length [] ([], 0, 0) (by simp) (by simp) (by simp) trivial
  · rw [← rec_start]
    exact key.1
  · intro b s hb _
    refine ⟨?_, trivial⟩
    have hp := spec_l11Point.ev jobs b f g ⟨hj, hb⟩ hf hg
    refine ev_go (fun k => (spec_l11Point.f k jobs b f g).bind fun p => some (if p.2 ≤ m ∧ (s.2.2 = 0 ∨ p.1 < s.2.1) then (b, p.1, 1) else s)) (fun k => ?_) (ev_bind _ hp (Ev.now _))
    simp only [spec_l11Under.f]
    rw [if_pos (by have := hb.1; omega)]
    congr 1
    funext p
    by_cases c0 : p.2 ≤ m
    · by_cases c : s.2.2 = 0
      · simp [c0, c]
      · by_cases d : p.1 < s.2.1
        · simp [c0, c, d]
        · simp [c0, c, d]
    · simp [c0]
  · intro b s r hb h
    refine ev_go _ (fun k => ?_) h
    simp only [spec_l11Under.f]; rw [if_neg (by omega)]
  · intro b s _
    refine ev_stop fun k => ?_
    simp only [spec_l11Under.l0]; rw [if_neg (by omega)]
  · intro b i s r hb hi hm h
    refine ev_go (fun k => (spec_l1Has.f k b (i : Int)).bind fun t => if t = true then spec_l11Under.l0 k jobs b f g m ((i + 1 : Nat) : Int) s.1 s.2.1 s.2.2 else ((spec_l11Under.f k jobs (b ++ [(i : Int)]) f g m s.1 s.2.1 s.2.2).bind fun q => (spec_l11Under.l0 k jobs b f g m ((i + 1 : Nat) : Int) q.1 q.2.1 q.2.2))) (fun k => ?_) (evB_bind (spec_l1Has.ev b (i : Int) (by omega)) (fun _ => by simp only [if_true]; exact h) (fun hn => absurd hm hn))
    simp only [spec_l11Under.l0]; rw [if_pos (by omega), wr1 (by omega), spec_l1Own.eq b (by omega)]
    simp only [Option.bind_some]
    rw [if_pos (by simp; omega)]
  · intro b i s s' r hb hi hm h1 h2
    refine ev_go (fun k => (spec_l1Has.f k b (i : Int)).bind fun t => if t = true then spec_l11Under.l0 k jobs b f g m ((i + 1 : Nat) : Int) s.1 s.2.1 s.2.2 else ((spec_l11Under.f k jobs (b ++ [(i : Int)]) f g m s.1 s.2.1 s.2.2).bind fun q => (spec_l11Under.l0 k jobs b f g m ((i + 1 : Nat) : Int) q.1 q.2.1 q.2.2))) (fun k => ?_) (evB_bind (spec_l1Has.ev b (i : Int) (by omega)) (fun hn => absurd hn hm) (fun _ => by simp only [Bool.false_eq_true, if_false]; exact ev_bind _ h1 h2))
    simp only [spec_l11Under.l0]; rw [if_pos (by omega), wr1 (by omega), spec_l1Own.eq b (by omega)]
    simp only [Option.bind_some]
    rw [if_pos (by simp; omega)]
theorem core_BestUnder (jobs : List J) (f g m : Int) (hj : jobs.length ≤ 1048576) (hf : (Lit.int .i64 f).wf = true) (hg : (Lit.int .i64 g).wf = true) (hm : (Lit.int .i64 m).wf = true) : ∃ r b, Ev (fun k => spec_BestUnder.f k jobs f g m) (r, b) ∧ Ev (fun k => impl_BestUnder.f k jobs f g m) (r, b) ∧ r.length ≤ 1048576 := by
  unfold spec_BestUnder.f impl_BestUnder.f
  have e1 := spec_l2Good.ev jobs (by omega)
  have e2 := spec_l11Two.ev f g
  have e3 := impl_areTwo.ev jobs f g
  by_cases h1 : JobsOk jobs ∧ Obj8 f ∧ Obj8 g
  · have h8 := h1.1.1
    have s1 := spec_l11Under.ev jobs f g m h1.1 h1.2.1 h1.2.2
    have i1 := impl_eachOrder.ev (impl_BestUnder.step jobs f g m) (buI jobs f g m) (fun _ => True) jobs.length (by omega) ([], 0, false) (fun l hl s _ => ⟨by
      unfold impl_BestUnder.step
      have hcp := impl_copyInts.eq l (by have := hl.1; omega)
      simp only [if_pos hcp]
      exact ev_bind _ (impl_pointOf.ev jobs l f g ⟨h1.1, hl⟩) (Ev.now _), trivial⟩) trivial
    have sim := fold_sim (fun (s : List Int × Int × Int) (t : List Int × Int × Bool) => s.1 = t.1 ∧ s.2.1 = t.2.1 ∧ s.1.length ≤ 1048576 ∧ (s.2.2 = 0 ∧ t.2.2 = false ∨ s.2.2 = 1 ∧ t.2.2 = true)) (buS jobs f g m) (buI jobs f g m) (perms jobs.length (nums_to jobs.length)) ([], 0, 0) ([], 0, false) (by simp) (fun l hl s t hst => by
      have hl1 := (perms_isPerm hl).1
      obtain ⟨q1, q2, q3, q4⟩ := hst
      have q5 : s.2.2 = 0 ↔ t.2.2 = false := by
        rcases q4 with ⟨a, b⟩ | ⟨a, b⟩
        · simp [a, b]
        · simp [a, b]
      unfold buS buI
      rw [← q2]
      by_cases c : (pointF jobs f g l).2 ≤ m ∧ (s.2.2 = 0 ∨ (pointF jobs f g l).1 < s.2.1)
      · rw [if_pos c, if_pos (by rw [← q5]; exact c)]; exact ⟨rfl, rfl, by simp; omega, .inr ⟨rfl, rfl⟩⟩
      · rw [if_neg c, if_neg (by rw [← q5]; exact c)]; exact ⟨q1, q2, q3, q4⟩)
    obtain ⟨q1, q2, q3, q4⟩ := sim
    have own := spec_l1Own.eq ((perms jobs.length (nums_to jobs.length)).foldl (fun s l => buS jobs f g m l s) ([], 0, 0)).1 (by omega)
    have no : Ev (fun k => spec_BestUnder.j0 k jobs f g m true) ([], false) := ev_stop fun k => by simp only [spec_BestUnder.j0]; rw [if_pos trivial]
    refine ⟨_, ((perms jobs.length (nums_to jobs.length)).foldl (fun t l => buI jobs f g m l t) ([], 0, false)).2.2, ev_guard' e1 (fun _ => evB_bind e2 (fun _ => ?_) (fun hn => absurd h1.2 hn)) (fun hn => absurd h1.1 hn), ev_guard' e3 (fun _ => ?_) (fun hn => absurd h1 hn), q3⟩
    · refine ev_go (fun k => (spec_l11Under.f k jobs [] f g m [] 0 0).bind fun q => (spec_l1Own.f q.1).bind fun t => some (t, decide (q.2.2 > 0))) (fun k => by simp only [spec_BestUnder.j0]; rw [if_neg (by simp)]) (ev_bind _ s1 ?_)
      rw [own]
      simp only [Option.bind_some]
      refine ev_eq (Ev.now _) ?_
      rcases q4 with ⟨a, b⟩ | ⟨a, b⟩
      · rw [a, b]; rfl
      · rw [a, b]; rfl
    · rw [q1]
      exact ev_bind _ i1 (Ev.now _)
  · have no : Ev (fun k => spec_BestUnder.j0 k jobs f g m true) ([], false) := ev_stop fun k => by simp only [spec_BestUnder.j0]; rw [if_pos trivial]
    refine ⟨[], false, ?_, ?_, by simp⟩
    · exact ev_guard' e1 (fun h2 => evB_bind e2 (fun h3 => absurd ⟨h2, h3⟩ h1) (fun _ => no)) (fun _ => no)
    · exact ev_guard' e3 (fun h2 => absurd h2 h1) (fun _ => Ev.now _)

end Go.Proofs.Ytbblhmpcpmamfaa.Pure
