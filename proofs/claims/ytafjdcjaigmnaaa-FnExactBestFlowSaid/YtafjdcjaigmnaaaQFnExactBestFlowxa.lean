/- Proved here: what functions that the law FnExactBestFlow reaches answer (searchEnd, core_BestFlow). Conditions: those that each theorem names. -/
import Derived.Test.YtafjdcjaigmnaaaQFnExactBestFlowx
set_option linter.unusedVariables false
set_option linter.unusedSimpArgs false
namespace Go.Proofs.Ytafjdcjaigmnaaa.Pure
open Go.RowKit Go.Proofs.Ytafjdcjaigmnaaa.XFnExactBestFlow Go.Proofs.YtafjdcjaigmnaaaW.PrintWords Go.Proofs.YtafjdcjaigmnaaaW.PrintLast

theorem perms_ne : ∀ (n : Nat) (L : List Int), L.length = n → perms n L ≠ []
  | 0, L, h => by rw [perms]; simp
  | n + 1, L, h => by
    cases L with
    | nil => simp at h
    | cons x t =>
      rw [perms, List.flatMap_cons]
      have := perms_ne n ((x :: t).erase x) (by rw [List.length_erase_of_mem List.mem_cons_self]; simp at h ⊢; omega)
      intro c
      have c1 := (List.append_eq_nil_iff.1 c).1
      rw [List.map_eq_nil_iff] at c1
      exact this c1
theorem ev_eq {α : Type} {g : Nat → Option α} {r r' : α} (h : Ev g r) (e : r = r') : Ev g r' := e ▸ h
/-- What holds behind any round holds at the end, if there is a round. -/
theorem fold_end {σ : Type} (u : List Int → σ → σ) (P : σ → Prop) (hs : ∀ l s, P (u l s) ∨ u l s = s) (h1 : ∀ l s, P s → P (u l s)) : ∀ (L : List (List Int)) (s : σ), P s → P (L.foldl (fun s l => u l s) s)
  | [], s, h => h
  | l :: L, s, h => by rw [List.foldl_cons]; exact fold_end u P hs h1 L _ (h1 l s h)

def bfS (shop : List (List Int)) (l : List Int) (s : List Int × Int × Int) : List Int × Int × Int := if s.2.2 = 0 ∨ mxR (flowAll shop l) 0 < s.2.1 then (l, mxR (flowAll shop l) 0, 1) else s
def bfI (shop : List (List Int)) (l : List Int) (s : List Int × Int) : List Int × Int := if s.2 < 0 ∨ mxR (flowAll shop l) 0 < s.2 then (l, mxR (flowAll shop l) 0) else s
theorem spec_l8Try.ev (shop : List (List Int)) (hk : ShopOk shop) : Ev (fun k => spec_l8Try.f k shop [] [] 0 0) ((perms shop.length (nums_to shop.length)).foldl (fun s l => bfS shop l s) ([], 0, 0)) := by
  have h8 := hk.1
  have key := rec_all shop.length (bfS shop) (fun _ => True) (fun k b s => spec_l8Try.f k shop b s.1 s.2.1 s.2.2) (fun k b i s => spec_l8Try.l0 k shop b i s.1 s.2.1 s.2.2) ?_ ?_ ?_ ?_ ?_ shop.length [] ([], 0, 0) (by simp) (by simp) (by simp) trivial
  · rw [← rec_start]
    exact key.1
  · intro b s hb _
    refine ⟨?_, trivial⟩
    have hp := spec_l8Span.ev shop b hk hb
    refine ev_go (fun k => (spec_l8Span.f k shop b).bind fun p => some (if s.2.2 = 0 ∨ p < s.2.1 then (b, p, 1) else s)) (fun k => ?_) (ev_bind _ hp (Ev.now _))
    simp only [spec_l8Try.f]
    rw [if_pos (by have := hb.1; omega), spec_l1Own.eq b (by have := hb.1; omega)]
    congr 1
    funext p
    by_cases c : s.2.2 = 0
    · simp [c]
    · by_cases d : p < s.2.1
      · simp [c, d]
      · simp [c, d]
  · intro b s r hb h
    refine ev_go _ (fun k => ?_) h
    simp only [spec_l8Try.f]; rw [if_neg (by omega)]
  · intro b s _
    refine ev_stop fun k => ?_
    simp only [spec_l8Try.l0]; rw [if_neg (by omega)]
  · intro b i s r hb hi hm h
    refine ev_go (fun k => (spec_l1Has.f k b (i : Int)).bind fun t => if t = true then spec_l8Try.l0 k shop b ((i + 1 : Nat) : Int) s.1 s.2.1 s.2.2 else ((spec_l8Try.f k shop (b ++ [(i : Int)]) s.1 s.2.1 s.2.2).bind fun q => (spec_l8Try.l0 k shop b ((i + 1 : Nat) : Int) q.1 q.2.1 q.2.2))) (fun k => ?_) (evB_bind (spec_l1Has.ev b (i : Int) (by omega)) (fun _ => by simp only [if_true]; exact h) (fun hn => absurd hm hn))
    simp only [spec_l8Try.l0]; rw [if_pos (by omega), wr1 (by omega), spec_l1Own.eq b (by omega)]
    simp only [Option.bind_some]
    rw [if_pos (by simp; omega)]
  · intro b i s s' r hb hi hm h1 h2
    refine ev_go (fun k => (spec_l1Has.f k b (i : Int)).bind fun t => if t = true then spec_l8Try.l0 k shop b ((i + 1 : Nat) : Int) s.1 s.2.1 s.2.2 else ((spec_l8Try.f k shop (b ++ [(i : Int)]) s.1 s.2.1 s.2.2).bind fun q => (spec_l8Try.l0 k shop b ((i + 1 : Nat) : Int) q.1 q.2.1 q.2.2))) (fun k => ?_) (evB_bind (spec_l1Has.ev b (i : Int) (by omega)) (fun hn => absurd hn hm) (fun _ => by simp only [Bool.false_eq_true, if_false]; exact ev_bind _ h1 h2))
    simp only [spec_l8Try.l0]; rw [if_pos (by omega), wr1 (by omega), spec_l1Own.eq b (by omega)]
    simp only [Option.bind_some]
    rw [if_pos (by simp; omega)]
theorem core_BestFlow (shop : List (List Int)) (hs : shop.length ≤ 1048576) (hw : ∀ y ∈ shop, y.length ≤ 1048576) : ∃ r n b, Ev (fun k => spec_BestFlow.f k shop) (r, n, b) ∧ Ev (fun k => impl_BestFlow.f k shop) (r, n, b) ∧ r.length ≤ 1048576 := by
  unfold spec_BestFlow.f impl_BestFlow.f
  have es := spec_l8Good.ev shop (by omega) (fun y hy => by have := hw y hy; omega)
  have ei := impl_isShop.ev shop (fun y hy => by have := hw y hy; omega)
  by_cases h : ShopOk shop
  · have h8 := h.1
    have s1 := spec_l8Try.ev shop h
    have i1 := impl_eachOrder.ev (impl_BestFlow.step shop) (bfI shop) (fun _ => True) shop.length (by omega) ([], -1) (fun l hl s _ => ⟨by
      unfold impl_BestFlow.step
      have hcp := impl_copyInts.eq l (by have := hl.1; omega)
      simp only [if_pos hcp]
      exact ev_bind _ (impl_flowSpan.ev shop l h hl) (Ev.now _), trivial⟩) trivial
    have sim := fold_sim (fun (s : List Int × Int × Int) (t : List Int × Int) => s.1 = t.1 ∧ s.1.length ≤ 1048576 ∧ (s.2.2 = 0 ∧ t.2 < 0 ∨ s.2.2 = 1 ∧ t.2 = s.2.1 ∧ 0 ≤ t.2)) (bfS shop) (bfI shop) (perms shop.length (nums_to shop.length)) ([], 0, 0) ([], -1) (by simp) (fun l hl s t hst => by
      have hl1 := (perms_isPerm hl).1
      have h0 := (mxR_ge (flowAll shop l) 0).1
      unfold bfS bfI
      rcases hst with ⟨q1, q0, ⟨q2, q3⟩ | ⟨q2, q3, q4⟩⟩
      · rw [if_pos (.inl q2), if_pos (.inl q3)]; exact ⟨rfl, by simp; omega, .inr ⟨rfl, rfl, h0⟩⟩
      · by_cases c : mxR (flowAll shop l) 0 < s.2.1
        · rw [if_pos (.inr c), if_pos (.inr (by rw [q3]; exact c))]; exact ⟨rfl, by simp; omega, .inr ⟨rfl, rfl, h0⟩⟩
        · rw [if_neg (by rw [q2]; simpa using c), if_neg (by rw [q3]; rintro (z | z); omega; exact c z)]; exact ⟨q1, q0, .inr ⟨q2, q3, q4⟩⟩)
    have fin : ((perms shop.length (nums_to shop.length)).foldl (fun s l => bfS shop l s) ([], 0, 0)).2.2 ≠ 0 := by
      cases hP : perms shop.length (nums_to shop.length) with
      | nil => exact absurd hP (perms_ne _ _ (nums_to_length _))
      | cons l P =>
        rw [List.foldl_cons]
        refine fold_end (bfS shop) (fun s => s.2.2 ≠ 0) ?_ ?_ P _ (by unfold bfS; simp)
        · intro l s; unfold bfS; split <;> simp
        · intro l s hs; unfold bfS; split
          · simp
          · exact hs
    obtain ⟨q1, q0, ⟨q2, _⟩ | ⟨_, q3, _⟩⟩ := sim
    · exact absurd q2 fin
    · refine ⟨_, _, true, ev_guard' es (fun _ => ev_bind _ s1 (Ev.now _)) (fun hn => absurd h hn), ev_guard' ei (fun _ => ?_) (fun hn => absurd h hn), q0⟩
      rw [q1, ← q3]
      exact ev_bind _ i1 (Ev.now _)
  · exact ⟨[], 0, false, ev_guard' es (fun h1 => absurd h1 h) (fun _ => Ev.now _), ev_guard' ei (fun h1 => absurd h1 h) (fun _ => Ev.now _), by simp⟩

end Go.Proofs.Ytafjdcjaigmnaaa.Pure
