/- Proved here: what functions that the law FnExactOpenSchedule reaches answer (openInv, openPick, openStep, openStart, core_OpenSchedule). Conditions: those that each theorem names. -/
import Derived.Test.YtbblhmpcpmamfaaQFnExactOpenSchedulex
set_option linter.unusedVariables false
set_option linter.unusedSimpArgs false
namespace Go.Proofs.Ytbblhmpcpmamfaa.Pure
open Go.RowKit Go.Proofs.Ytbblhmpcpmamfaa.XFnExactOpenSchedule Go.Proofs.YtbblhmpcpmamfaaW.PrintWords Go.Proofs.YtbblhmpcpmamfaaW.PrintLast

/-- the work that is begun, and all work -/
def bsum (S p : Nat → Int) : Nat → Int
  | 0 => 0
  | m + 1 => bsum S p m + (if 0 ≤ S m then p m else 0)
def csumO (p : Nat → Int) : Nat → Int
  | 0 => 0
  | m + 1 => csumO p m + p m
def updF (S : Nat → Int) (j : Nat) (v : Int) : Nat → Int := fun i => if i = j then v else S i
theorem bsum_le {S p : Nat → Int} : ∀ n, (∀ i, i < n → 0 ≤ p i) → bsum S p n ≤ csumO p n
  | 0, _ => by simp [bsum, csumO]
  | n + 1, h => by
    have ih := bsum_le (S := S) n (fun i hi => h i (by omega))
    have := h n (by omega)
    rw [bsum, csumO]; split <;> omega
theorem bsum_lt {S p : Nat → Int} {j : Nat} (hj : S j < 0) : ∀ n, (∀ i, i < n → 0 ≤ p i) → j < n → bsum S p n + p j ≤ csumO p n
  | 0, _, h => absurd h (by omega)
  | n + 1, h, hjn => by
    have hn := h n (by omega)
    rw [bsum, csumO]
    by_cases e : j = n
    · subst e
      have := bsum_le (S := S) j (fun i hi => h i (by omega))
      rw [if_neg (by omega)]; omega
    · have ih := bsum_lt hj n (fun i hi => h i (by omega)) (by omega)
      split <;> omega
theorem bsum_same {S p : Nat → Int} {j : Nat} {v : Int} : ∀ n, n ≤ j → bsum (updF S j v) p n = bsum S p n
  | 0, _ => rfl
  | n + 1, h => by
    rw [bsum, bsum, bsum_same n (by omega)]
    have : updF S j v n = S n := by unfold updF; rw [if_neg (by omega)]
    rw [this]
theorem bsum_upd {S p : Nat → Int} {j : Nat} {v : Int} (hj : S j < 0) (hv : 0 ≤ v) : ∀ n, j < n → bsum (updF S j v) p n = bsum S p n + p j
  | 0, h => absurd h (by omega)
  | n + 1, h => by
    rw [bsum, bsum]
    by_cases e : j = n
    · subst e
      rw [bsum_same j (Nat.le_refl _)]
      have : updF S j v j = v := by unfold updF; rw [if_pos rfl]
      rw [this, if_pos hv, if_neg (by omega)]; omega
    · rw [bsum_upd hj hv n (by omega)]
      have : updF S j v n = S n := by unfold updF; rw [if_neg (by omega)]
      rw [this]; omega
/-- what holds of a machine (p: times, S: starts, w: at work, e: its end) beside another one (q, T) at the begin of a time -/
structure InvO (n : Nat) (p q : Nat → Int) (L now : Int) (S T : Nat → Int) (w e : Int) : Prop where
  busy : now < e → 0 ≤ w
  work : 0 ≤ w → ∃ i, i < n ∧ w = (i : Int) ∧ 0 ≤ S i ∧ 0 < p i ∧ e = S i + p i
  last : ∀ i, i < n → 0 ≤ S i → 0 < p i → now < S i + p i → w = (i : Int)
  pend : ∀ i, i < n → S i < 0 → 0 < p i
  due : ∀ i, i < n → 0 ≤ S i → T i < 0 → S i + p i ≤ L
  noidle : ∀ i, i < n → S i < 0 → (e = bsum S p n ∧ now ≤ e) ∨ (e ≤ now ∧ 0 ≤ T i ∧ now ≤ T i + q i ∧ ∀ x, x < n → S x < 0 → x = i)
/-- what is asked of the other machine while this one picks -/
structure OthO (n : Nat) (q : Nat → Int) (now : Int) (T : Nat → Int) (v f : Int) : Prop where
  work : 0 ≤ v → ∃ i, i < n ∧ v = (i : Int) ∧ 0 ≤ T i ∧ 0 < q i ∧ f = T i + q i ∧ now < f
  last : ∀ i, i < n → 0 ≤ T i → 0 < q i → now < T i + q i → v = (i : Int)
theorem inv_free {n : Nat} {p q : Nat → Int} {L now : Int} {S T : Nat → Int} {w e : Int} (h : InvO n p q L now S T w e) : InvO n p q L now S T (freeW now w e) e ∧ (0 ≤ freeW now w e → now < e) := by
  unfold freeW
  by_cases c : w ≥ 0 ∧ e ≤ now
  · rw [if_pos c]
    refine ⟨⟨fun hb => by omega, fun hb => by omega, fun i hi h1 h2 h3 => ?_, h.pend, h.due, h.noidle⟩, fun hb => by omega⟩
    have hw := h.last i hi h1 h2 h3
    obtain ⟨x, hx, e1, h4, h5, h6⟩ := h.work c.1
    have : x = i := by omega
    subst this
    omega
  · rw [if_neg c]
    exact ⟨h, fun hb => by omega⟩
theorem inv_oth {n : Nat} {p q : Nat → Int} {L now : Int} {S T : Nat → Int} {w e : Int} (h : InvO n p q L now S T w e) (hb : 0 ≤ w → now < e) : OthO n p now S w e :=
  ⟨fun h0 => by
    obtain ⟨i, h1, h2, h3, h4, h5⟩ := h.work h0
    exact ⟨i, h1, h2, h3, h4, h5, hb h0⟩, h.last⟩
/-- the other machine begins a job -/
theorem inv_other {n : Nat} {p q : Nat → Int} {L now : Int} {S T : Nat → Int} {w e : Int} {j : Nat} {v : Int} (h : InvO n p q L now S T w e) (hj : T j < 0) (hv : 0 ≤ v) : InvO n p q L now S (updF T j v) w e := by
  refine ⟨h.busy, h.work, h.last, h.pend, fun i hi h1 h2 => h.due i hi h1 ?_, fun i hi h1 => ?_⟩
  · unfold updF at h2
    split at h2
    · omega
    · exact h2
  · rcases h.noidle i hi h1 with h2 | ⟨h2, h3, h4, h5⟩
    · exact .inl h2
    · have : updF T j v i = T i := by unfold updF; rw [if_neg (by rintro rfl; omega)]
      exact .inr ⟨h2, by rw [this]; exact h3, by rw [this]; exact h4, h5⟩
/-- the machine is busy -/
theorem inv_busy {n : Nat} {p q : Nat → Int} {L now : Int} {S T : Nat → Int} {w e : Int} (h : InvO n p q L now S T w e) (hb : 0 ≤ w → now < e) (hw : 0 ≤ w) : InvO n p q L (now + 1) S T w e := by
  have := hb hw
  refine ⟨fun _ => hw, h.work, fun i hi h1 h2 h3 => h.last i hi h1 h2 (by omega), h.pend, h.due, fun i hi h1 => ?_⟩
  rcases h.noidle i hi h1 with h2 | ⟨h2, _⟩
  · exact .inl ⟨h2.1, by omega⟩
  · omega
/-- the machine finds nothing to do -/
theorem inv_none {n : Nat} {p q : Nat → Int} {L now : Int} {S T : Nat → Int} {w e v f : Int} (h : InvO n p q L now S T w e) (hw : ¬ 0 ≤ w) (ho : OthO n q now T v f) (hn : ∀ i, i < n → S i < 0 → v = (i : Int)) : InvO n p q L (now + 1) S T w e := by
  have he : e ≤ now := Classical.byContradiction fun hc => hw (h.busy (by omega))
  refine ⟨fun hb => by omega, fun hb => absurd hb hw, fun i hi h1 h2 h3 => h.last i hi h1 h2 (by omega), h.pend, h.due, fun i hi h1 => ?_⟩
  have hv := hn i hi h1
  obtain ⟨x, hx, e1, h3, h4, h5, h6⟩ := ho.work (by omega)
  have : x = i := by omega
  subst this
  exact .inr ⟨by omega, h3, by omega, fun y hy hy0 => by have := hn y hy hy0; omega⟩
/-- the machine begins a job -/
theorem inv_take {n : Nat} {p q : Nat → Int} {L now : Int} {S T : Nat → Int} {w e : Int} {j : Nat} (h : InvO n p q L now S T w e) (h0 : 0 ≤ now) (hw : ¬ 0 ≤ w) (hj : j < n) (hS : S j < 0) (hp : ∀ i, i < n → 0 ≤ p i) (hC : csumO p n ≤ L) : InvO n p q L (now + 1) (updF S j now) T (j : Int) (now + p j) ∧ (0 ≤ (j : Int) → now < now + p j) := by
  have he : e ≤ now := Classical.byContradiction fun hc => hw (h.busy (by omega))
  have hpj := h.pend j hj hS
  have ej : updF S j now j = now := by unfold updF; rw [if_pos rfl]
  have en : ∀ i, i ≠ j → updF S j now i = S i := fun i hi => by unfold updF; rw [if_neg hi]
  refine ⟨⟨fun _ => by omega, fun _ => ⟨j, hj, rfl, by omega, hpj, by omega⟩, fun i hi h1 h2 h3 => ?_, fun i hi h1 => ?_, fun i hi h1 h2 => ?_, fun i hi h1 => ?_⟩, fun _ => by omega⟩
  · by_cases c : i = j
    · rw [c]
    · rw [en i c] at h1 h3
      have := h.last i hi h1 h2 (by omega)
      omega
  · by_cases c : i = j
    · subst c; omega
    · rw [en i c] at h1; exact h.pend i hi h1
  · by_cases c : i = j
    · subst c
      rw [ej]
      rcases h.noidle i hi hS with h3 | ⟨_, h3, _⟩
      · have := bsum_lt hS n hp hj; omega
      · omega
    · rw [en i c] at h1 ⊢
      exact h.due i hi h1 h2
  · have c : i ≠ j := by rintro rfl; omega
    rw [en i c] at h1
    rcases h.noidle i hi h1 with h3 | ⟨_, _, _, h5⟩
    · refine .inl ⟨?_, by omega⟩
      rw [bsum_upd hS h0 n hj]; omega
    · exact absurd (h5 j hj hS) (fun e => c e.symm)
/-- while a job waits, the time is not beyond the load -/
theorem inv_end {n : Nat} {p q : Nat → Int} {L now : Int} {S T : Nat → Int} {w e : Int} {i : Nat} (h : InvO n p q L now S T w e) (hT : ∀ x, x < n → 0 ≤ T x → S x < 0 → T x + q x ≤ L) (hi : i < n) (hS : S i < 0) (hp : ∀ i, i < n → 0 ≤ p i) (hC : csumO p n ≤ L) : now ≤ L := by
  rcases h.noidle i hi hS with h3 | ⟨_, h4, h5, _⟩
  · have := bsum_lt hS n hp hi
    have := h.pend i hi hS
    omega
  · have := hT i hi h4 hS
    omega

def colO (st : List (List Int)) (k : Int) : Nat → Int := fun i => rd (rd_L1 st (i : Int)) k
theorem rdLO_set {st : List (List Int)} {j : Nat} (hj : j < st.length) (r : List Int) (i : Nat) : rd_L1 (st.set j r) (i : Int) = if i = j then r else rd_L1 st (i : Int) := by
  by_cases e : i = j
  · subst e
    rw [if_pos rfl, rdL_nat (by rw [List.length_set]; exact hj), List.getElem_set_self]
  · rw [if_neg e]
    by_cases hi : i < st.length
    · rw [rdL_nat (by rw [List.length_set]; exact hi), rdL_nat hi, List.getElem_set_ne (fun h => e h.symm)]
    · simp [rd_L1, hi]
theorem rd_two_set {r : List Int} (hr : r.length = 2) {k o v : Int} (hko : (k = 0 ∧ o = 1) ∨ (k = 1 ∧ o = 0)) : rd (r.set k.toNat v) k = v ∧ rd (r.set k.toNat v) o = rd r o := by
  match r, hr with
  | [a, b], _ =>
    rcases hko with ⟨rfl, rfl⟩ | ⟨rfl, rfl⟩ <;> exact ⟨rfl, rfl⟩
theorem colO_set {n : Nat} {st : List (List Int)} (h : RowsTwo n st) {j : Nat} (hj : j < n) {k o v : Int} (hko : (k = 0 ∧ o = 1) ∨ (k = 1 ∧ o = 0)) : colO (st.set j ((rd_L1 st (j : Int)).set k.toNat v)) k = updF (colO st k) j v ∧ colO (st.set j ((rd_L1 st (j : Int)).set k.toNat v)) o = colO st o := by
  have hjl : j < st.length := by rw [h.1]; exact hj
  have h2 : (rd_L1 st (j : Int)).length = 2 := rowsTwo_at h (by omega) (by omega)
  have hs := rd_two_set h2 (v := v) hko
  constructor
  · funext i
    unfold colO updF
    rw [rdLO_set hjl]
    by_cases e : i = j
    · rw [if_pos e, if_pos e, hs.1]
    · rw [if_neg e, if_neg e]
  · funext i
    unfold colO
    rw [rdLO_set hjl]
    by_cases e : i = j
    · rw [if_pos e, hs.2, e]
    · rw [if_neg e]
/-- what is known of the shop -/
structure ShopT (n : Nat) (l : List (List Int)) : Prop where
  two : RowsTwo n l
  small : n ≤ 8
  vals : ∀ i : Nat, i < n → ∀ k : Int, (k = 0 ∨ k = 1) → 0 ≤ colO l k i ∧ colO l k i ≤ 30
theorem rank_ge {n : Nat} {l st : List (List Int)} (h : ShopT n l) {o : Int} (ho : o = 0 ∨ o = 1) {i : Nat} (hi : i < n) : pickRank l st o (i : Int) = (if colO st o i < 0 then 1 + colO l o i else 0) ∧ 0 ≤ pickRank l st o (i : Int) := by
  have hv := h.vals i hi o ho
  have e : pickRank l st o (i : Int) = (if colO st o i < 0 then 1 + colO l o i else 0) := by
    unfold pickRank
    show (if colO st o i < 0 then wrap64 (1 + colO l o i) else 0) = _
    rw [wr (by omega) (by omega)]
  refine ⟨e, ?_⟩
  rw [e]; split <;> omega
theorem pickF_ok {n : Nat} {l st : List (List Int)} (h : ShopT n l) {wo k o : Int} (hko : (k = 0 ∧ o = 1) ∨ (k = 1 ∧ o = 0)) : ∀ (c i : Nat) (b m : Int), i + c = n → (b = -1 ∧ m = -1 ∨ ∃ y : Nat, y < n ∧ b = (y : Int)) →
    (pickF l st wo k o c (i : Int) b m = -1 ∧ b = -1 ∧ ∀ x : Nat, i ≤ x → x < n → colO st k x < 0 → wo = (x : Int)) ∨ (pickF l st wo k o c (i : Int) b m = b ∧ ∃ y : Nat, y < n ∧ b = (y : Int)) ∨ ∃ j : Nat, i ≤ j ∧ j < n ∧ pickF l st wo k o c (i : Int) b m = (j : Int) ∧ colO st k j < 0 ∧ wo ≠ (j : Int)
  | 0, i, b, m, hi, hb => by
    rw [pickF]
    rcases hb with hb | hb
    · exact .inl ⟨hb.1, hb.1, fun x h1 h2 => by omega⟩
    · exact .inr (.inl ⟨rfl, hb⟩)
  | c + 1, i, b, m, hi, hb => by
    have hn8 := h.small
    have hin : i < n := by omega
    have ho : o = 0 ∨ o = 1 := by rcases hko with h | h; exact .inr h.2; exact .inl h.2
    have hw : wrap64 ((i : Int) + 1) = ((i + 1 : Nat) : Int) := by rw [wr (by omega) (by omega)]; omega
    have hr := (rank_ge (st := st) h ho hin).2
    rw [pickF, hw]
    by_cases c1 : rd (rd_L1 st (i : Int)) k ≥ 0 ∨ wo = (i : Int)
    · rw [if_pos c1]
      rcases pickF_ok h hko c (i + 1) b m (by omega) hb with ⟨h1, h2, h3⟩ | h1 | ⟨j, h1, h2, h3⟩
      · refine .inl ⟨h1, h2, fun x hx hxn hS => ?_⟩
        by_cases e : x = i
        · subst e
          rcases c1 with c1 | c1
          · unfold colO at hS; omega
          · exact c1
        · exact h3 x (by omega) hxn hS
      · exact .inr (.inl h1)
      · exact .inr (.inr ⟨j, by omega, h2, h3⟩)
    · rw [if_neg c1]
      have c2 : colO st k i < 0 := Classical.byContradiction fun hc => c1 (.inl (by unfold colO at hc; omega))
      have c3 : wo ≠ (i : Int) := fun e => c1 (.inr e)
      by_cases c4 : pickRank l st o (i : Int) > m
      · rw [if_pos c4]
        rcases pickF_ok h hko c (i + 1) (i : Int) (pickRank l st o (i : Int)) (by omega) (.inr ⟨i, hin, rfl⟩) with ⟨_, h2, _⟩ | ⟨h1, _⟩ | ⟨j, h1, h2, h3⟩
        · omega
        · exact .inr (.inr ⟨i, Nat.le_refl _, hin, h1, c2, c3⟩)
        · exact .inr (.inr ⟨j, by omega, h2, h3⟩)
      · rw [if_neg c4]
        have hb' : ¬ b = -1 := fun e => by
          rcases hb with hb | ⟨y, _, hb⟩
          · omega
          · omega
        rcases pickF_ok h hko c (i + 1) b m (by omega) hb with ⟨_, h2, _⟩ | h1 | ⟨j, h1, h2, h3⟩
        · exact absurd h2 hb'
        · exact .inr (.inl h1)
        · exact .inr (.inr ⟨j, by omega, h2, h3⟩)
theorem pick_spec {n : Nat} {l st : List (List Int)} (h : ShopT n l) {wo k o : Int} (hko : (k = 0 ∧ o = 1) ∨ (k = 1 ∧ o = 0)) :
    (pickF l st wo k o n 0 (-1) (-1) = -1 ∧ ∀ x : Nat, x < n → colO st k x < 0 → wo = (x : Int)) ∨ ∃ j : Nat, j < n ∧ pickF l st wo k o n 0 (-1) (-1) = (j : Int) ∧ colO st k j < 0 ∧ wo ≠ (j : Int) := by
  rcases pickF_ok (st := st) (wo := wo) h hko n 0 (-1) (-1) (by omega) (.inl ⟨rfl, rfl⟩) with ⟨h1, _, h3⟩ | ⟨_, y, _, h2⟩ | ⟨j, _, h2, h3⟩
  · exact .inl ⟨h1, fun x => h3 x (Nat.zero_le _)⟩
  · omega
  · exact .inr ⟨j, h2, h3⟩
theorem l4_pick {n : Nat} {l st : List (List Int)} (h : ShopT n l) (hst : RowsTwo n st) {wo k o now x5 : Int} {fr : List Int} {R : List (List Int) × Bool} (hko : (k = 0 ∧ o = 1) ∨ (k = 1 ∧ o = 0)) (hS : ∀ i : Nat, i < n → colO st o i ≤ 1000000) (hw : ∀ i : Nat, i < n → colO st k i < 0 → (wo = (i : Int) ↔ 0 ≤ colO st o i ∧ 0 < colO l o i ∧ now < colO st o i + colO l o i)) :
    ∀ (c i : Nat) (b m : Int), i + c = n → (b = -1 ∧ m = -1 ∨ ∃ y : Nat, y < n ∧ b = (y : Int) ∧ m = pickRank l st o b) → Ev (fun r => impl_OpenSchedule.l4 r l st x5 fr now k o (pickF l st wo k o c (i : Int) b m) l (n : Int) (n : Int)) R → Ev (fun r => impl_OpenSchedule.l4 r l st x5 fr now k o b l (n : Int) (i : Int)) R
  | 0, i, b, m, hi, _, hE => by
    rw [show i = n by omega]
    rw [pickF] at hE
    exact hE
  | c + 1, i, b, m, hi, hb, hE => by
    have hn8 := h.small
    have hin : i < n := by omega
    have hll := h.two.1
    have hsl := hst.1
    have ho : o = 0 ∨ o = 1 := by rcases hko with h | h; exact .inr h.2; exact .inl h.2
    have hk : k = 0 ∨ k = 1 := by rcases hko with h | h; exact .inl h.1; exact .inr h.1
    have r1 : (rd_L1 st (i : Int)).length = 2 := rowsTwo_at hst (by omega) (by omega)
    have r2 : (rd_L1 l (i : Int)).length = 2 := rowsTwo_at h.two (by omega) (by omega)
    have hw1 : wrap64 ((i : Int) + 1) = ((i + 1 : Nat) : Int) := wr1 (by omega)
    obtain ⟨re, rg⟩ := rank_ge (st := st) h ho hin
    have hq := h.vals i hin o ho
    have hT := hS i hin
    rw [pickF, hw1] at hE
    by_cases c1 : colO st k i ≥ 0
    · rw [if_pos (.inl c1)] at hE
      refine ev_go _ (fun r => ?_) (l4_pick h hst hko hS hw c (i + 1) b m (by omega) hb hE)
      simp only [impl_OpenSchedule.l4]
      rw [if_pos (by omega), if_pos (by omega), if_pos (by omega), if_pos (by omega), if_pos (by omega), if_pos (by omega), if_pos (show rd (rd_L1 st (i : Int)) k ≥ 0 from c1), hw1]
    · have hwi := hw i hin (by omega)
      have step : Ev (fun r => impl_OpenSchedule.j5 r l st x5 fr now k o b (i : Int) (rd_L1 l (i : Int)) (decide (colO st o i ≥ 0)) l (n : Int) (i : Int) (decide (0 ≤ colO st o i ∧ 0 < colO l o i ∧ now < colO st o i + colO l o i))) R → Ev (fun r => impl_OpenSchedule.l4 r l st x5 fr now k o b l (n : Int) (i : Int)) R := fun hJ => by
        refine ev_go _ (fun r => ?_) hJ
        simp only [impl_OpenSchedule.l4]
        rw [if_pos (by omega), if_pos (by omega), if_pos (by omega), if_pos (by omega), if_pos (by omega), if_pos (by omega), if_neg (show ¬ rd (rd_L1 st (i : Int)) k ≥ 0 from c1), if_pos (by omega), if_pos (by omega)]
        show (if colO st o i ≥ 0 then _ else _) = _
        by_cases c2 : colO st o i ≥ 0
        · rw [if_pos c2, if_pos (by omega)]
          show (if colO l o i > 0 then _ else _) = _
          by_cases c3 : colO l o i > 0
          · rw [if_pos c3]
            show impl_OpenSchedule.j5 r l st x5 fr now k o b (i : Int) (rd_L1 l (i : Int)) (decide (colO st o i ≥ 0)) l (n : Int) (i : Int) (decide (wrap64 (colO st o i + colO l o i) > now)) = _
            rw [wr (by omega) (by omega)]
            congr 1
            rw [decide_eq_decide]
            exact ⟨fun h => ⟨c2, c3, h⟩, fun h => h.2.2⟩
          · rw [if_neg c3]
            show impl_OpenSchedule.j5 r l st x5 fr now k o b (i : Int) (rd_L1 l (i : Int)) (decide (colO st o i ≥ 0)) l (n : Int) (i : Int) false = _
            congr 1
            exact (decide_eq_false (fun h => c3 h.2.1)).symm
        · rw [if_neg c2]
          show impl_OpenSchedule.j5 r l st x5 fr now k o b (i : Int) (rd_L1 l (i : Int)) (decide (colO st o i ≥ 0)) l (n : Int) (i : Int) false = _
          congr 1
          exact (decide_eq_false (fun h => c2 h.1)).symm
      refine step ?_
      by_cases c2 : wo = (i : Int)
      · rw [if_pos (.inr c2)] at hE
        refine ev_go _ (fun r => ?_) (l4_pick h hst hko hS hw c (i + 1) b m (by omega) hb hE)
        simp only [impl_OpenSchedule.j5]
        rw [if_pos (decide_eq_true (hwi.1 c2)), hw1]
      · have hns : ¬ (0 ≤ colO st o i ∧ 0 < colO l o i ∧ now < colO st o i + colO l o i) := fun hc => c2 (hwi.2 hc)
        rw [if_neg (fun hc => by rcases hc with hc | hc; exact c1 hc; exact c2 hc)] at hE
        have take : pickRank l st o (i : Int) > m → Ev (fun r => impl_OpenSchedule.l4 r l st x5 fr now k o (i : Int) l (n : Int) ((i + 1 : Nat) : Int)) R := fun hc => by
          rw [if_pos hc] at hE
          exact l4_pick h hst hko hS hw c (i + 1) (i : Int) _ (by omega) (.inr ⟨i, hin, rfl, rfl⟩) hE
        have keep : ¬ pickRank l st o (i : Int) > m → Ev (fun r => impl_OpenSchedule.l4 r l st x5 fr now k o b l (n : Int) ((i + 1 : Nat) : Int)) R := fun hc => by
          rw [if_neg hc] at hE
          exact l4_pick h hst hko hS hw c (i + 1) b m (by omega) hb hE
        rcases hb with ⟨hb, hm⟩ | ⟨y, hy, hb, hm⟩
        · refine ev_go _ (fun r => ?_) (take (by omega))
          simp only [impl_OpenSchedule.j5]
          rw [if_neg (by simpa using hns), if_pos (by omega), hw1]
        · obtain ⟨ye, yg⟩ := rank_ge (st := st) h ho hy
          subst hb
          rw [ye] at hm
          have ry1 : (rd_L1 st (y : Int)).length = 2 := rowsTwo_at hst (by omega) (by omega)
          have ry2 : (rd_L1 l (y : Int)).length = 2 := rowsTwo_at h.two (by omega) (by omega)
          by_cases c3 : colO st o i ≥ 0
          · refine ev_go _ (fun r => ?_) (keep (by rw [re, hm, if_neg (by omega)]; have := h.vals y hy o ho; split <;> omega))
            simp only [impl_OpenSchedule.j5]
            rw [if_neg (by simpa using hns), if_neg (by omega), if_pos (decide_eq_true c3), hw1]
          · by_cases c4 : colO st o y ≥ 0
            · refine ev_go _ (fun r => ?_) (take (by rw [re, hm, if_pos (by omega), if_neg (by omega)]; omega))
              simp only [impl_OpenSchedule.j5]
              rw [if_neg (by simpa using hns), if_neg (by omega), if_neg (by simpa using c3), if_pos (by omega), if_pos (by omega), if_pos (by omega), if_pos (by omega), if_pos (show rd (rd_L1 st (y : Int)) o ≥ 0 from c4), hw1]
            · by_cases c5 : colO l o i > colO l o y
              · refine ev_go _ (fun r => ?_) (take (by rw [re, hm, if_pos (by omega), if_pos (by omega)]; omega))
                simp only [impl_OpenSchedule.j5]
                rw [if_neg (by simpa using hns), if_neg (by omega), if_neg (by simpa using c3), if_pos (by omega), if_pos (by omega), if_pos (by omega), if_pos (by omega), if_neg (show ¬ rd (rd_L1 st (y : Int)) o ≥ 0 from c4), if_pos (by omega), if_pos (by omega), if_pos (by omega), if_pos (show rd (rd_L1 l (i : Int)) o > rd (rd_L1 l (y : Int)) o from c5), hw1]
              · refine ev_go _ (fun r => ?_) (keep (by rw [re, hm, if_pos (by omega), if_pos (by omega)]; omega))
                simp only [impl_OpenSchedule.j5]
                rw [if_neg (by simpa using hns), if_neg (by omega), if_neg (by simpa using c3), if_pos (by omega), if_pos (by omega), if_pos (by omega), if_pos (by omega), if_neg (show ¬ rd (rd_L1 st (y : Int)) o ≥ 0 from c4), if_pos (by omega), if_pos (by omega), if_pos (by omega), if_neg (show ¬ rd (rd_L1 l (i : Int)) o > rd (rd_L1 l (y : Int)) o from c5), hw1]
theorem l4_take {n : Nat} {l st : List (List Int)} (h : ShopT n l) (hst : RowsTwo n st) {k o now x5 : Int} {fr : List Int} {R : List (List Int) × Bool} (hko : (k = 0 ∧ o = 1) ∨ (k = 1 ∧ o = 0)) (hfr : fr.length = 2) (hnow : 0 ≤ now ∧ now ≤ 1000000) (hx : 0 < x5 ∧ x5 ≤ 100000) {j : Nat} (hj : j < n) (hE : Ev (fun r => impl_OpenSchedule.l3 r l (st.set j ((rd_L1 st (j : Int)).set k.toNat now)) (x5 - 1) (fr.set k.toNat (wrap64 (now + colO l k j))) now (k + 1)) R) : Ev (fun r => impl_OpenSchedule.l4 r l st x5 fr now k o (j : Int) l (n : Int) (n : Int)) R := by
  have hn8 := h.small
  have hll := h.two.1
  have hsl := hst.1
  have hk : k = 0 ∨ k = 1 := by rcases hko with h | h; exact .inl h.1; exact .inr h.1
  have r1 : (rd_L1 st (j : Int)).length = 2 := rowsTwo_at hst (by omega) (by omega)
  have r2 : (rd_L1 l (j : Int)).length = 2 := rowsTwo_at h.two (by omega) (by omega)
  refine ev_go _ (fun r => ?_) hE
  simp only [impl_OpenSchedule.l4]
  rw [if_neg (by omega), if_pos (by omega), if_pos (by omega), if_pos (by omega), if_pos (by omega), if_pos (by omega), if_pos (by omega), if_pos (by omega), if_pos (by omega), wr (x := x5 - 1) (by omega) (by omega), wr (x := k + 1) (by omega) (by omega), Int.toNat_natCast]
  rfl
theorem l4_none {n : Nat} {l st : List (List Int)} {k o now x5 : Int} {fr : List Int} {R : List (List Int) × Bool} (hk : k = 0 ∨ k = 1) (hE : Ev (fun r => impl_OpenSchedule.l3 r l st x5 fr now (k + 1)) R) : Ev (fun r => impl_OpenSchedule.l4 r l st x5 fr now k o (-1) l (n : Int) (n : Int)) R := by
  refine ev_go _ (fun r => ?_) hE
  simp only [impl_OpenSchedule.l4]
  rw [if_neg (by omega), if_neg (by omega), wr (x := k + 1) (by omega) (by omega)]

def cneg (S : Nat → Int) : Nat → Int
  | 0 => 0
  | m + 1 => cneg S m + (if S m < 0 then 1 else 0)
theorem cneg_in {S : Nat → Int} : ∀ n : Nat, 0 ≤ cneg S n ∧ cneg S n ≤ (n : Int)
  | 0 => by simp [cneg]
  | n + 1 => by
    have := cneg_in (S := S) n
    rw [cneg]; split <;> omega
theorem cneg_zero {S : Nat → Int} : ∀ n : Nat, cneg S n = 0 → ∀ i, i < n → 0 ≤ S i
  | 0, _, i, h => by omega
  | n + 1, h, i, hi => by
    have h0 := (cneg_in (S := S) n).1
    rw [cneg] at h
    by_cases e : i = n
    · subst e
      split at h
      · omega
      · omega
    · exact cneg_zero n (by split at h <;> omega) i (by omega)
theorem cneg_none {S : Nat → Int} : ∀ n : Nat, (∀ i, i < n → 0 ≤ S i) → cneg S n = 0
  | 0, _ => rfl
  | n + 1, h => by
    have := h n (by omega)
    rw [cneg, cneg_none n (fun i hi => h i (by omega)), if_neg (by omega)]; rfl
theorem cneg_same {S : Nat → Int} {j : Nat} {v : Int} : ∀ n, n ≤ j → cneg (updF S j v) n = cneg S n
  | 0, _ => rfl
  | n + 1, h => by
    rw [cneg, cneg, cneg_same n (by omega)]
    have : updF S j v n = S n := by unfold updF; rw [if_neg (by omega)]
    rw [this]
theorem cneg_upd {S : Nat → Int} {j : Nat} {v : Int} (hj : S j < 0) (hv : 0 ≤ v) : ∀ n, j < n → cneg (updF S j v) n + 1 = cneg S n
  | 0, h => absurd h (by omega)
  | n + 1, h => by
    rw [cneg, cneg]
    by_cases e : j = n
    · subst e
      rw [cneg_same j (Nat.le_refl _)]
      have : updF S j v j = v := by unfold updF; rw [if_pos rfl]
      rw [this, if_neg (by omega), if_pos hj]; omega
    · have := cneg_upd hj hv n (by omega)
      have e2 : updF S j v n = S n := by unfold updF; rw [if_neg (by omega)]
      rw [e2]; omega
def cntO (st : List (List Int)) (n : Nat) : Int := cneg (colO st 0) n + cneg (colO st 1) n
def frO (k e f : Int) : List Int := if k = 0 then [e, f] else [f, e]
def stepK (l : List (List Int)) (now k o : Int) (st : List (List Int)) (w e v : Int) : List (List Int) × Int × Int := if w ≥ 0 then (st, w, e) else
  if pickF l st v k o l.length 0 (-1) (-1) ≥ 0 then (st.set (pickF l st v k o l.length 0 (-1) (-1)).toNat ((rd_L1 st (pickF l st v k o l.length 0 (-1) (-1))).set k.toNat now), pickF l st v k o l.length 0 (-1) (-1), wrap64 (now + rd (rd_L1 l (pickF l st v k o l.length 0 (-1) (-1))) k)) else (st, w, e)
theorem step0_eq (l : List (List Int)) (now : Int) (s : St8) : step0 l now s = ⟨(stepK l now 0 1 s.st s.w0 s.e0 s.w1).1, (stepK l now 0 1 s.st s.w0 s.e0 s.w1).2.1, s.w1, (stepK l now 0 1 s.st s.w0 s.e0 s.w1).2.2, s.e1⟩ := by
  unfold step0 stepK
  split
  · rfl
  · split <;> rfl
theorem step1_eq (l : List (List Int)) (now : Int) (s : St8) : step1 l now s = ⟨(stepK l now 1 0 s.st s.w1 s.e1 s.w0).1, s.w0, (stepK l now 1 0 s.st s.w1 s.e1 s.w0).2.1, s.e0, (stepK l now 1 0 s.st s.w1 s.e1 s.w0).2.2⟩ := by
  unfold step1 stepK
  split
  · rfl
  · split <;> rfl
theorem cnt_ko {n : Nat} {st st' : List (List Int)} {k o : Int} (hko : (k = 0 ∧ o = 1) ∨ (k = 1 ∧ o = 0)) (h1 : cneg (colO st' k) n + 1 = cneg (colO st k) n) (h2 : colO st' o = colO st o) : cntO st' n = cntO st n - 1 := by
  unfold cntO
  rcases hko with ⟨rfl, rfl⟩ | ⟨rfl, rfl⟩
  · rw [h2]; omega
  · rw [h2]; omega
theorem half {n : Nat} {l : List (List Int)} (h : ShopT n l) {L : Int} {k o : Int} (hko : (k = 0 ∧ o = 1) ∨ (k = 1 ∧ o = 0)) (hC : csumO (colO l k) n ≤ L) {st : List (List Int)} (hst : RowsTwo n st) {now w e v f : Int} (hnow : 0 ≤ now ∧ now ≤ 100000)
    (hI : InvO n (colO l k) (colO l o) L now (colO st k) (colO st o) w e) (hb : 0 ≤ w → now < e) (hO : OthO n (colO l o) now (colO st o) v f) (hlim : ∀ i : Nat, i < n → colO st k i ≤ now ∧ colO st o i ≤ now) :
    RowsTwo n (stepK l now k o st w e v).1 ∧ InvO n (colO l k) (colO l o) L (now + 1) (colO (stepK l now k o st w e v).1 k) (colO (stepK l now k o st w e v).1 o) (stepK l now k o st w e v).2.1 (stepK l now k o st w e v).2.2
    ∧ OthO n (colO l k) now (colO (stepK l now k o st w e v).1 k) (stepK l now k o st w e v).2.1 (stepK l now k o st w e v).2.2
    ∧ colO (stepK l now k o st w e v).1 o = colO st o ∧ (∀ i : Nat, i < n → colO (stepK l now k o st w e v).1 k i ≤ now)
    ∧ (∀ (now2 w2 e2 : Int), InvO n (colO l o) (colO l k) L now2 (colO st o) (colO st k) w2 e2 → InvO n (colO l o) (colO l k) L now2 (colO (stepK l now k o st w e v).1 o) (colO (stepK l now k o st w e v).1 k) w2 e2)
    ∧ ∀ R, Ev (fun r => impl_OpenSchedule.l3 r l (stepK l now k o st w e v).1 (cntO (stepK l now k o st w e v).1 n) (frO k (stepK l now k o st w e v).2.2 f) now (k + 1)) R → Ev (fun r => impl_OpenSchedule.l3 r l st (cntO st n) (frO k e f) now k) R := by
  have hn8 := h.small
  have hll := h.two.1
  have hk : k = 0 ∨ k = 1 := by rcases hko with h | h; exact .inl h.1; exact .inr h.1
  have hp : ∀ i : Nat, i < n → 0 ≤ colO l k i := fun i hi => (h.vals i hi k hk).1
  have hfl : (frO k e f).length = 2 := by unfold frO; split <;> rfl
  have hfk : rd (frO k e f) k = e := by rcases hk with rfl | rfl <;> rfl
  have hwo : wrap64 (1 - k) = o := by rcases hko with ⟨rfl, rfl⟩ | ⟨rfl, rfl⟩ <;> (rw [wr (by omega) (by omega)]; omega)
  have l3go : ∀ R, ¬ e > now → Ev (fun r => impl_OpenSchedule.l4 r l st (cntO st n) (frO k e f) now k o (-1) l (n : Int) 0) R → Ev (fun r => impl_OpenSchedule.l3 r l st (cntO st n) (frO k e f) now k) R := fun R he hE => by
    refine ev_go _ (fun r => ?_) hE
    simp only [impl_OpenSchedule.l3]
    rw [if_pos (by omega), if_pos (by omega), if_pos (by omega), hfk, if_neg he, hwo, hll]
  by_cases c : w ≥ 0
  · have es : stepK l now k o st w e v = (st, w, e) := by unfold stepK; rw [if_pos c]
    rw [es]
    have hI2 := inv_busy hI hb c
    refine ⟨hst, hI2, inv_oth hI hb, rfl, fun i hi => (hlim i hi).1, fun _ _ _ h => h, fun R hE => ?_⟩
    refine ev_go _ (fun r => ?_) hE
    simp only [impl_OpenSchedule.l3]
    rw [if_pos (by omega), if_pos (by omega), if_pos (by omega), hfk, if_pos (hb c), wr (x := k + 1) (by omega) (by omega)]
  · have he : ¬ e > now := fun hc => c (hI.busy hc)
    have hw : ∀ i : Nat, i < n → colO st k i < 0 → (v = (i : Int) ↔ 0 ≤ colO st o i ∧ 0 < colO l o i ∧ now < colO st o i + colO l o i) := fun i hi _ => by
      constructor
      · intro e1
        obtain ⟨x, hx, e2, h3, h4, h5, h6⟩ := hO.work (by omega)
        have : x = i := by omega
        subst this
        exact ⟨h3, h4, by omega⟩
      · intro e1
        exact hO.last i hi e1.1 e1.2.1 e1.2.2
    have pk := fun R => l4_pick (x5 := cntO st n) (fr := frO k e f) (R := R) h hst hko (fun i hi => by have := (hlim i hi).2; omega) hw n 0 (-1) (-1) (by omega) (.inl ⟨rfl, rfl⟩)
    rcases pick_spec (st := st) (wo := v) h hko with ⟨h1, h2⟩ | ⟨j, hj, h1, h2, h3⟩
    · have es : stepK l now k o st w e v = (st, w, e) := by unfold stepK; rw [if_neg c, hll, h1, if_neg (by omega)]
      rw [es]
      refine ⟨hst, inv_none hI c hO h2, inv_oth hI hb, rfl, fun i hi => (hlim i hi).1, fun _ _ _ h => h, fun R hE => l3go R he ?_⟩
      have := pk R
      rw [show ((0 : Nat) : Int) = 0 from rfl, h1] at this
      exact this (l4_none hk hE)
    · have hvj := h.vals j hj k hk
      have es : stepK l now k o st w e v = (st.set j ((rd_L1 st (j : Int)).set k.toNat now), (j : Int), now + colO l k j) := by
        unfold stepK
        rw [if_neg c, hll, h1, if_pos (by omega), Int.toNat_natCast]
        show (_, _, wrap64 (now + colO l k j)) = _
        rw [wr (by omega) (by omega)]
      rw [es]
      obtain ⟨c1, c2⟩ := colO_set hst hj (v := now) hko
      obtain ⟨t1, t2⟩ := inv_take hI hnow.1 c hj h2 hp hC
      have r1 : (rd_L1 st (j : Int)).length = 2 := rowsTwo_at hst (by omega) (by omega)
      have hcn := cneg_upd h2 hnow.1 n hj
      have hcnt := cnt_ko (st := st) (st' := st.set j ((rd_L1 st (j : Int)).set k.toNat now)) hko (by rw [c1]; exact hcn) c2
      have hcb : 0 < cntO st n ∧ cntO st n ≤ 100 := by
        have a1 := cneg_in (S := colO st 0) n
        have a2 := cneg_in (S := colO st 1) n
        have a3 := cneg_in (S := updF (colO st k) j now) n
        unfold cntO
        rcases hk with rfl | rfl <;> omega
      refine ⟨rowsTwo_set hst j (by rw [List.length_set]; exact r1), ?_, ?_, c2, fun i hi => ?_, fun now2 w2 e2 h4 => ?_, fun R hE => l3go R he ?_⟩
      · show InvO n (colO l k) (colO l o) L (now + 1) (colO (st.set j ((rd_L1 st (j : Int)).set k.toNat now)) k) (colO (st.set j ((rd_L1 st (j : Int)).set k.toNat now)) o) (j : Int) (now + colO l k j)
        rw [c1, c2]; exact t1
      · show OthO n (colO l k) now (colO (st.set j ((rd_L1 st (j : Int)).set k.toNat now)) k) (j : Int) (now + colO l k j)
        rw [c1]
        have hpj := hI.pend j hj h2
        have ej : updF (colO st k) j now j = now := by unfold updF; rw [if_pos rfl]
        refine ⟨fun _ => ⟨j, hj, rfl, by omega, hpj, by omega, by omega⟩, fun i hi h5 h6 h7 => ?_⟩
        by_cases q : i = j
        · rw [q]
        · have en : updF (colO st k) j now i = colO st k i := by unfold updF; rw [if_neg q]
          rw [en] at h5 h7
          have := hI.last i hi h5 h6 h7
          omega
      · show colO (st.set j ((rd_L1 st (j : Int)).set k.toNat now)) k i ≤ now
        rw [c1]
        unfold updF
        split
        · omega
        · exact (hlim i hi).1
      · show InvO n (colO l o) (colO l k) L now2 (colO (st.set j ((rd_L1 st (j : Int)).set k.toNat now)) o) (colO (st.set j ((rd_L1 st (j : Int)).set k.toNat now)) k) w2 e2
        rw [c1, c2]
        exact inv_other h4 h2 hnow.1
      · have := pk R
        rw [show ((0 : Nat) : Int) = 0 from rfl, h1] at this
        refine this (l4_take h hst hko hfl (by omega) (by omega) hj ?_)
        rw [← hcnt]
        rw [show (frO k e f).set k.toNat (wrap64 (now + colO l k j)) = frO k (now + colO l k j) f by
          rw [wr (by omega) (by omega)]
          rcases hk with rfl | rfl <;> rfl]
        exact hE
structure FullO (n : Nat) (l : List (List Int)) (L now : Int) (s : St8) : Prop where
  two : RowsTwo n s.st
  a : InvO n (colO l 0) (colO l 1) L now (colO s.st 0) (colO s.st 1) s.w0 s.e0
  b : InvO n (colO l 1) (colO l 0) L now (colO s.st 1) (colO s.st 0) s.w1 s.e1
  lim : ∀ i : Nat, i < n → colO s.st 0 i ≤ now ∧ colO s.st 1 i ≤ now
theorem go_full {n : Nat} {l : List (List Int)} (h : ShopT n l) {L : Int} (hC0 : csumO (colO l 0) n ≤ L) (hC1 : csumO (colO l 1) n ≤ L) {now : Int} (hnow : 0 ≤ now ∧ now ≤ 100000) {s : St8} (hF : FullO n l L now s) :
    FullO n l L (now + 1) (go8 l now s) ∧ ∀ R, 0 < cntO s.st n → Ev (fun r => impl_OpenSchedule.l2 r l (go8 l now s).st (cntO (go8 l now s).st n) [(go8 l now s).e0, (go8 l now s).e1] (now + 1)) R → Ev (fun r => impl_OpenSchedule.l2 r l s.st (cntO s.st n) [s.e0, s.e1] now) R := by
  obtain ⟨a1, a2⟩ := inv_free hF.a
  obtain ⟨b1, b2⟩ := inv_free hF.b
  have H0 := half h (k := 0) (o := 1) (.inl ⟨rfl, rfl⟩) hC0 hF.two hnow a1 a2 (inv_oth b1 b2) hF.lim
  obtain ⟨x1, x2, x3, x4, x5, x6, x7⟩ := H0
  have hs0 : step0 l now (free8 now s) = ⟨(stepK l now 0 1 s.st (freeW now s.w0 s.e0) s.e0 (freeW now s.w1 s.e1)).1, (stepK l now 0 1 s.st (freeW now s.w0 s.e0) s.e0 (freeW now s.w1 s.e1)).2.1, freeW now s.w1 s.e1, (stepK l now 0 1 s.st (freeW now s.w0 s.e0) s.e0 (freeW now s.w1 s.e1)).2.2, s.e1⟩ := step0_eq l now (free8 now s)
  generalize stepK l now 0 1 s.st (freeW now s.w0 s.e0) s.e0 (freeW now s.w1 s.e1) = q at *
  obtain ⟨st1, w1, e1⟩ := q
  have H1 := half h (k := 1) (o := 0) (.inr ⟨rfl, rfl⟩) hC1 x1 hnow (x6 _ _ _ b1) b2 x3 (fun i hi => ⟨by
    have := congrFun x4 i
    rw [this]; exact (hF.lim i hi).2, x5 i hi⟩)
  obtain ⟨y1, y2, y3, y4, y5, y6, y7⟩ := H1
  have hs1 : go8 l now s = ⟨(stepK l now 1 0 st1 (freeW now s.w1 s.e1) s.e1 w1).1, w1, (stepK l now 1 0 st1 (freeW now s.w1 s.e1) s.e1 w1).2.1, e1, (stepK l now 1 0 st1 (freeW now s.w1 s.e1) s.e1 w1).2.2⟩ := by
    unfold go8
    rw [hs0]
    exact step1_eq l now _
  generalize stepK l now 1 0 st1 (freeW now s.w1 s.e1) s.e1 w1 = q at *
  obtain ⟨st2, w2, e2⟩ := q
  rw [hs1]
  refine ⟨⟨y1, y6 _ _ _ x2, y2, fun i hi => ⟨?_, ?_⟩⟩, fun R hc hE => ?_⟩
  · have := congrFun y4 i
    show colO st2 0 i ≤ now + 1
    have h2 := x5 i hi
    rw [show colO st2 0 i = colO st1 0 i from this]
    have : colO st1 0 i ≤ now := h2
    omega
  · have : colO st2 1 i ≤ now := y5 i hi
    show colO st2 1 i ≤ now + 1
    omega
  · have z2 : Ev (fun r => impl_OpenSchedule.l3 r l st2 (cntO st2 n) (frO 1 e2 e1) now (1 + 1)) R := by
      refine ev_go _ (fun r => ?_) hE
      simp only [impl_OpenSchedule.l3]
      rw [if_neg (by omega), wr (x := now + 1) (by omega) (by omega)]
      rfl
    have z1 := x7 R (y7 R z2)
    refine ev_go _ (fun r => ?_) z1
    simp only [impl_OpenSchedule.l2]
    rw [if_pos (by omega)]
    rfl

theorem shopT_of {l : List (List Int)} (h : ShopOk l) (h2 : 0 < l.length → (machP l : Int) = 2) : ShopT l.length l := by
  have hr : ∀ r ∈ l, r.length = 2 := fun r hr => by
    have := List.length_pos_of_mem hr
    have := h2 this
    rw [(h.2.2 r hr).1]; omega
  refine ⟨⟨rfl, hr⟩, h.1, fun i hi k hk => ?_⟩
  unfold colO
  rw [rdL_nat hi]
  have hm := List.getElem_mem hi
  have h3 := hr _ hm
  have h4 := (h.2.2 _ hm).2
  rcases hk with rfl | rfl
  · rw [rd_zero (by omega)]; exact h4 _ (List.getElem_mem _)
  · rw [show (1 : Int) = ((1 : Nat) : Int) from rfl, rd_nat (by omega)]; exact h4 _ (List.getElem_mem _)
theorem mxW_in {x : Int} : ∀ (l : List Int) (a : Int), x ∈ l → x ≤ mxW l a
  | [], _, h => by cases h
  | y :: l, a, h => by
    rw [mxW]
    rcases List.mem_cons.1 h with rfl | h
    · refine Int.le_trans ?_ (mxW_ge l _)
      unfold mx; split <;> omega
    · exact mxW_in l _ h
theorem mxW_most {M : Int} : ∀ (l : List Int) (a : Int), a ≤ M → (∀ x ∈ l, x ≤ M) → mxW l a ≤ M
  | [], _, h, _ => h
  | y :: l, a, h, hx => by
    rw [mxW]
    refine mxW_most l _ ?_ (fun x h => hx x (List.mem_cons_of_mem _ h))
    have := hx y List.mem_cons_self
    unfold mx; split <;> omega
theorem csumO_in {n : Nat} {p : Nat → Int} : ∀ m, m ≤ n → (∀ i, i < n → 0 ≤ p i ∧ p i ≤ 30) → 0 ≤ csumO p m ∧ csumO p m ≤ 30 * (m : Int)
  | 0, _, _ => by simp [csumO]
  | m + 1, hm, h => by
    have := csumO_in m (by omega) h
    have := h m (by omega)
    rw [csumO]; omega
theorem colW_csum {l : List (List Int)} (h : ShopT l.length l) {k : Int} (hk : k = 0 ∨ k = 1) : colW l k 0 = csumO (colO l k) l.length := by
  have hn8 := h.small
  have key := rev_ind (P := fun i => colW (l.drop i) k (csumO (colO l k) i) = csumO (colO l k) l.length) l.length ?_ ?_ 0 (Nat.zero_le _)
  · simpa [csumO] using key
  · rw [List.drop_length]; rfl
  · intro i hi ih
    have b := csumO_in (n := l.length) i (by omega) (fun i hi => h.vals i hi k hk)
    have v := h.vals i hi k hk
    rw [drop_cons hi, colW]
    have e : rd l[i] k = colO l k i := by unfold colO; rw [rdL_nat hi]
    rw [e, wr (by omega) (by omega)]
    rw [csumO] at ih
    exact ih
theorem load_in {l : List (List Int)} (h : ShopOk l) (h2 : 0 < l.length → (machP l : Int) = 2) : ∃ L : Int, Ev (fun k => spec_l8Load.f k l) L ∧ 0 ≤ L ∧ L ≤ 1000 ∧ csumO (colO l 0) l.length ≤ L ∧ csumO (colO l 1) l.length ≤ L := by
  have hT := shopT_of h h2
  refine ⟨_, spec_l8Load.ev l h, ?_⟩
  have hc := colsF_len l (List.replicate (machP l) 0) (fun r hr => by rw [(h.2.2 r hr).1]; simp)
  rw [List.length_replicate] at hc
  have hg := fun (j : Nat) (hj : j < machP l) => colsF_get l (List.replicate (machP l) 0) j (fun r hr => by rw [(h.2.2 r hr).1]; simp) (by simpa using hj)
  have hz : ∀ j : Nat, j < machP l → rd (List.replicate (machP l) (0 : Int)) (j : Int) = 0 := fun j hj => by
    rw [rd_nat (by simpa using hj), List.getElem_replicate]
  have s0 := csumO_in (n := l.length) (p := colO l 0) l.length (Nat.le_refl _) (fun i hi => hT.vals i hi 0 (.inl rfl))
  have s1 := csumO_in (n := l.length) (p := colO l 1) l.length (Nat.le_refl _) (fun i hi => hT.vals i hi 1 (.inr rfl))
  have hn8 := hT.small
  have m0 := mxW_ge (colsF l (List.replicate (machP l) 0)) 0
  have m1 := mxW_ge (l.map fun r => sumW r 0) 0
  have u1 : mxW (l.map fun r => sumW r 0) 0 ≤ 1000 := mxW_most _ _ (by omega) fun x hx => by
    obtain ⟨r, hr, rfl⟩ := List.mem_map.1 hx
    have h3 := hT.two.2 r hr
    have h4 := (h.2.2 r hr).2
    match r, h3 with
    | [a, b], _ =>
      have ha := h4 a (by simp)
      have hb := h4 b (by simp)
      rw [sumW, sumW, sumW, wr (x := 0 + a) (by omega) (by omega), wr (by omega) (by omega)]
      omega
  by_cases h0 : 0 < l.length
  · have hm : machP l = 2 := by have := h2 h0; omega
    have g0 : rd (colsF l (List.replicate (machP l) 0)) 0 = csumO (colO l 0) l.length := by
      have := hg 0 (by omega)
      rw [hz 0 (by omega)] at this
      exact this.trans (colW_csum hT (.inl rfl))
    have g1 : rd (colsF l (List.replicate (machP l) 0)) 1 = csumO (colO l 1) l.length := by
      have := hg 1 (by omega)
      rw [hz 1 (by omega)] at this
      exact this.trans (colW_csum hT (.inr rfl))
    generalize colsF l (List.replicate (machP l) 0) = C at *
    rw [hm] at hc
    match C, hc with
    | [a, b], _ =>
      have ga : a = csumO (colO l 0) l.length := g0
      have gb : b = csumO (colO l 1) l.length := g1
      have q0 := mxW_in (x := a) [a, b] 0 (by simp)
      have q1 := mxW_in (x := b) [a, b] 0 (by simp)
      have q2 : mxW [a, b] 0 ≤ 1000 := mxW_most _ _ (by omega) fun x hx => by
        simp only [List.mem_cons, List.not_mem_nil, or_false] at hx
        rcases hx with rfl | rfl <;> omega
      unfold mx
      split <;> omega
  · have hl : l = [] := List.length_eq_zero_iff.1 (by omega)
    subst hl
    simp only [csumO, List.length_nil]
    have : mxW (colsF [] (List.replicate (machP ([] : List (List Int))) 0)) 0 ≤ 1000 := by decide
    unfold mx
    split <;> omega
theorem spec_l8Copy.ev (l : List (List Int)) (hl : l.length ≤ 1000000) (hr : ∀ r ∈ l, r.length = 2) (a b c d : Int) : Ev (fun k => spec_l8Copy.f k l a b c d) (l, a, b, c, d) := by
  have key := rev_ind (P := fun i => Ev (fun k => spec_l8Copy.l0 k (l.take i) (i : Int) l a b c d) (l, a, b, c, d)) l.length ?_ ?_ 0 (Nat.zero_le _)
  · simpa [spec_l8Copy.f] using key
  · refine ev_stop fun k => ?_
    simp only [spec_l8Copy.l0]; rw [if_neg (by omega), List.take_length]
  · intro i hi ih
    refine ev_go _ (fun k => ?_) ih
    have h2 := hr _ (List.getElem_mem hi)
    simp only [spec_l8Copy.l0]
    rw [if_pos (by omega), if_pos (by omega), rdL_nat hi, spec_l1Own.eq _ (by omega), Option.bind_some, if_pos (by rw [List.length_take]; omega), wr1 (by omega), List.take_succ_eq_append_getElem hi]
theorem spec_l8Go.ev {l : List (List Int)} (h : ShopT l.length l) (now : Int) (s : St8) (hs : RowsTwo l.length s.st) : Ev (fun k => spec_l8Go.f k l s.st s.w0 s.w1 s.e0 s.e1 now) ((go8 l now s).st, (go8 l now s).w0, (go8 l now s).w1, (go8 l now s).e0, (go8 l now s).e1) := by
  have hn8 := h.small
  obtain ⟨K, hK⟩ := spec_l8Copy.ev s.st (by rw [hs.1]; omega) hs.2 s.w0 s.w1 s.e0 s.e1
  refine ⟨K, fun k hk => ?_⟩
  unfold spec_l8Go.f
  exact if_pos ⟨h.two, hs, by omega, hK k hk⟩
theorem go_keeps {l : List (List Int)} (h : ShopT l.length l) (now : Int) (s : St8) (hc : cntO s.st l.length = 0) : (go8 l now s).st = s.st := by
  have c0 := cneg_in (S := colO s.st 0) l.length
  have c1 := cneg_in (S := colO s.st 1) l.length
  unfold cntO at hc
  have z0 := cneg_zero (S := colO s.st 0) l.length (by omega)
  have z1 := cneg_zero (S := colO s.st 1) l.length (by omega)
  have k0 : ∀ w e v, stepK l now 0 1 s.st w e v = (s.st, w, e) := fun w e v => by
    unfold stepK
    rcases pick_spec (st := s.st) (wo := v) h (k := 0) (o := 1) (.inl ⟨rfl, rfl⟩) with ⟨h1, _⟩ | ⟨j, hj, h1, h2, _⟩
    · rw [h1, if_neg (show ¬ (-1 : Int) ≥ 0 by omega)]; split <;> rfl
    · have := z0 j hj; omega
  have k1 : ∀ w e v, stepK l now 1 0 s.st w e v = (s.st, w, e) := fun w e v => by
    unfold stepK
    rcases pick_spec (st := s.st) (wo := v) h (k := 1) (o := 0) (.inr ⟨rfl, rfl⟩) with ⟨h1, _⟩ | ⟨j, hj, h1, h2, _⟩
    · rw [h1, if_neg (show ¬ (-1 : Int) ≥ 0 by omega)]; split <;> rfl
    · have := z1 j hj; omega
  unfold go8
  rw [step1_eq, step0_eq]
  simp only [free8, k0, k1]
theorem made_both {l : List (List Int)} (h : ShopT l.length l) {L : Int} (hL : Ev (fun k => spec_l8Load.f k l) L) (hL0 : 0 ≤ L ∧ L ≤ 1000) (hC0 : csumO (colO l 0) l.length ≤ L) (hC1 : csumO (colO l 1) l.length ≤ L) :
    ∀ (c : Nat) (now : Int) (s : St8), 0 ≤ now → now + (c : Int) = L + 1 → FullO l.length l L now s → ∃ R, RowsTwo l.length R ∧ (cntO s.st l.length = 0 → R = s.st) ∧ Ev (fun k => spec_l8Made.l2 k l now s.st s.w0 s.w1 s.e0 s.e1) R ∧ Ev (fun k => impl_OpenSchedule.l2 k l s.st (cntO s.st l.length) [s.e0, s.e1] now) (R, true)
  | 0, now, s, h0, hc, hF => by
    have p0 : ∀ i : Nat, i < l.length → 0 ≤ colO l 0 i := fun i hi => (h.vals i hi 0 (.inl rfl)).1
    have p1 : ∀ i : Nat, i < l.length → 0 ≤ colO l 1 i := fun i hi => (h.vals i hi 1 (.inr rfl)).1
    have z0 : ∀ i, i < l.length → 0 ≤ colO s.st 0 i := fun i hi => Classical.byContradiction fun hn => by
      have := inv_end hF.a (fun x hx h1 h2 => hF.b.due x hx h1 h2) hi (by omega) p0 hC0
      omega
    have z1 : ∀ i, i < l.length → 0 ≤ colO s.st 1 i := fun i hi => Classical.byContradiction fun hn => by
      have := inv_end hF.b (fun x hx h1 h2 => hF.a.due x hx h1 h2) hi (by omega) p1 hC1
      omega
    have hz : cntO s.st l.length = 0 := by unfold cntO; rw [cneg_none _ z0, cneg_none _ z1]; rfl
    refine ⟨s.st, hF.two, fun _ => rfl, ?_, ?_⟩
    · refine ev_go (fun k => (spec_l8Load.f k l).bind fun t154 => (if now ≤ t154 then ((spec_l8Go.f k l s.st s.w0 s.w1 s.e0 s.e1 now).bind fun bt155 => (spec_l8Made.l2 k l (wrap64 (now + 1)) bt155.1 bt155.2.1 bt155.2.2.1 bt155.2.2.2.1 bt155.2.2.2.2)) else (some s.st))) (fun k => by simp only [spec_l8Made.l2]) (ev_bind L hL ?_)
      simp only [if_neg (show ¬ now ≤ L by omega)]
      exact Ev.now _
    · refine ev_stop fun k => ?_
      simp only [impl_OpenSchedule.l2]
      rw [if_neg (by omega)]
  | c + 1, now, s, h0, hc, hF => by
    obtain ⟨hF', hgo⟩ := go_full h hC0 hC1 ⟨h0, by omega⟩ hF
    obtain ⟨R, h1, h2, h3, h4⟩ := made_both h hL hL0 hC0 hC1 c (now + 1) (go8 l now s) (by omega) (by omega) hF'
    have hk : cntO s.st l.length = 0 → R = s.st := fun hz => by
      have e := go_keeps h now s hz
      rw [← e]; exact h2 (by rw [e]; exact hz)
    refine ⟨R, h1, hk, ?_, ?_⟩
    · refine ev_go (fun k => (spec_l8Load.f k l).bind fun t154 => (if now ≤ t154 then ((spec_l8Go.f k l s.st s.w0 s.w1 s.e0 s.e1 now).bind fun bt155 => (spec_l8Made.l2 k l (wrap64 (now + 1)) bt155.1 bt155.2.1 bt155.2.2.1 bt155.2.2.2.1 bt155.2.2.2.2)) else (some s.st))) (fun k => by simp only [spec_l8Made.l2]) (ev_bind L hL ?_)
      simp only [if_pos (show now ≤ L by omega)]
      refine ev_bind _ (spec_l8Go.ev h now s hF.two) ?_
      rw [wr (by omega) (by omega)]
      exact h3
    · by_cases hz : cntO s.st l.length = 0
      · rw [hk hz]
        refine ev_stop fun k => ?_
        simp only [impl_OpenSchedule.l2]
        rw [if_neg (by omega)]
      · have c0 := (cneg_in (S := colO s.st 0) l.length).1
        have c1 := (cneg_in (S := colO s.st 1) l.length).1
        exact hgo _ (by unfold cntO at hz ⊢; omega) h4
def zf (v : Int) : Int := if v = 0 then 0 else -1
def rowF (r : List Int) : List Int := [zf (rd r 0), zf (rd r 1)]
theorem col_start {l : List (List Int)} {k : Int} (hk : k = 0 ∨ k = 1) {i : Nat} (hi : i < l.length) : colO (l.map rowF) k i = zf (colO l k i) := by
  unfold colO
  rw [rdL_nat hi, rdL_nat (by rw [List.length_map]; exact hi), List.getElem_map]
  rcases hk with rfl | rfl <;> rfl
theorem bsum_zero {S p : Nat → Int} : ∀ n, (∀ i, i < n → 0 ≤ S i → p i = 0) → bsum S p n = 0
  | 0, _ => rfl
  | n + 1, h => by
    rw [bsum, bsum_zero n (fun i hi => h i (by omega))]
    split
    · rename_i c; have := h n (by omega) c; omega
    · rfl
theorem inv_start {n : Nat} {p q S T : Nat → Int} {L : Int} (hL : 0 ≤ L) (hp : ∀ i, i < n → 0 ≤ p i) (hS : ∀ i, i < n → S i = zf (p i)) : InvO n p q L 0 S T (-1) 0 := by
  have hz : ∀ i, i < n → 0 ≤ S i → p i = 0 ∧ S i = 0 := fun i hi h => by
    have h1 := hS i hi
    unfold zf at h1
    split at h1 <;> omega
  refine ⟨fun h => by omega, fun h => by omega, fun i hi h1 h2 _ => by have := hz i hi h1; omega, fun i hi h1 => ?_, fun i hi h1 _ => by have := hz i hi h1; omega, fun i hi h1 => .inl ⟨(bsum_zero n fun i hi h => (hz i hi h).1).symm, by omega⟩⟩
  have h2 := hS i hi
  have h3 := hp i hi
  unfold zf at h2
  split at h2 <;> omega
theorem full_start {l : List (List Int)} (h : ShopT l.length l) {L : Int} (hL : 0 ≤ L) : FullO l.length l L 0 ⟨l.map rowF, -1, -1, 0, 0⟩ := by
  have z : ∀ v, zf v ≤ 0 := fun v => by unfold zf; split <;> omega
  refine ⟨⟨List.length_map _, fun r hr => ?_⟩, ?_, ?_, fun i hi => ?_⟩
  · obtain ⟨x, _, rfl⟩ := List.mem_map.1 hr
    rfl
  · exact inv_start hL (fun i hi => (h.vals i hi 0 (.inl rfl)).1) (fun i hi => col_start (.inl rfl) hi)
  · exact inv_start hL (fun i hi => (h.vals i hi 1 (.inr rfl)).1) (fun i hi => col_start (.inr rfl) hi)
  · show colO (l.map rowF) 0 i ≤ 0 ∧ colO (l.map rowF) 1 i ≤ 0
    rw [col_start (.inl rfl) hi, col_start (.inr rfl) hi]
    exact ⟨z _, z _⟩
theorem spec_start {l : List (List Int)} (h : ShopT l.length l) {R : List (List Int)} (hE : Ev (fun k => spec_l8Made.l2 k l 0 (l.map rowF) (-1) (-1) 0 0) R) : Ev (fun k => spec_l8Made.f k l) R := by
  have hn8 := h.small
  have key := rev_ind (P := fun i => Ev (fun k => spec_l8Made.l0 k l (i : Int) ((l.map rowF).take i) (-1) (-1) 0 0) R) l.length ?_ ?_ 0 (Nat.zero_le _)
  · simpa [spec_l8Made.f] using key
  · refine ev_go _ (fun k => ?_) hE
    simp only [spec_l8Made.l0]
    rw [if_neg (by omega), List.take_of_length_le (by rw [List.length_map]; exact Nat.le_refl _)]
  · intro i hi ih
    have hm : i < (l.map rowF).length := by rw [List.length_map]; exact hi
    have h2 := h.two.2 _ (List.getElem_mem hi)
    have e : (l.map rowF).take (i + 1) = (l.map rowF).take i ++ [rowF l[i]] := by rw [List.take_succ_eq_append_getElem hm, List.getElem_map]
    rw [e] at ih
    have one : ∀ (x5 : List Int) (x6 : Int), 0 ≤ x6 → x6 < 2 → x5.length ≤ 2 → Ev (fun k => spec_l8Made.l1 k l (i : Int) (x5 ++ [zf (rd l[i] x6)]) (x6 + 1) ((l.map rowF).take i) (-1) (-1) 0 0) R → Ev (fun k => spec_l8Made.l1 k l (i : Int) x5 x6 ((l.map rowF).take i) (-1) (-1) 0 0) R := fun x5 x6 a b c hj => by
      refine ev_go _ (fun k => ?_) hj
      simp only [spec_l8Made.l1]
      rw [if_pos b, if_pos (by omega), if_pos (by omega), if_pos a, rdL_nat hi, if_pos (by omega), wr (x := x6 + 1) (by omega) (by omega)]
      unfold zf
      by_cases q : rd l[i] x6 = 0
      · rw [if_pos q, if_pos q, if_pos (by omega)]
      · rw [if_neg q, if_neg q, if_pos (by omega)]
    refine ev_go _ (fun k => ?_) (one [] 0 (by omega) (by omega) (by simp) (one _ 1 (by omega) (by omega) (by simp) (ev_go _ (fun k => ?_) ih)))
    · simp only [spec_l8Made.l0]
      rw [if_pos (by omega)]
    · simp only [spec_l8Made.l1]
      rw [if_neg (by omega), if_pos (by rw [List.length_take]; omega), wr1 (by omega)]
      rfl
theorem impl_start {l : List (List Int)} (h : ShopT l.length l) {R : List (List Int) × Bool} (hE : Ev (fun k => impl_OpenSchedule.l2 k l (l.map rowF) (cntO (l.map rowF) l.length) [0, 0] 0) R) : Ev (fun k => impl_OpenSchedule.l0 k l (List.replicate l.length []) 0 l (l.length : Int) 0) R := by
  have hn8 := h.small
  have hml : (l.map rowF).length = l.length := List.length_map _
  have key := rev_ind (P := fun i => Ev (fun k => impl_OpenSchedule.l0 k l ((l.map rowF).take i ++ (List.replicate l.length []).drop i) (cntO (l.map rowF) i) l (l.length : Int) (i : Int)) R) l.length ?_ ?_ 0 (Nat.zero_le _)
  · simpa [cntO, cneg] using key
  · refine ev_go _ (fun k => ?_) hE
    simp only [impl_OpenSchedule.l0]
    rw [if_neg (by omega), List.take_of_length_le (by omega), List.drop_of_length_le (by simp), List.append_nil]
  · intro i hi ih
    have hm : i < (l.map rowF).length := by omega
    have h2 := h.two.2 _ (List.getElem_mem hi)
    have e := set_copy (l := l.map rowF) (z := List.replicate l.length []) hm (by simpa using hi)
    rw [List.getElem_map] at e
    rw [← e] at ih
    have hlen : ((l.map rowF).take i ++ (List.replicate l.length ([] : List Int)).drop i).length = l.length := by simp; omega
    generalize (l.map rowF).take i ++ (List.replicate l.length ([] : List Int)).drop i = A at *
    have a0 := cneg_in (S := colO (l.map rowF) 0) i
    have a1 := cneg_in (S := colO (l.map rowF) 1) i
    have cb : 0 ≤ cntO (l.map rowF) i ∧ cntO (l.map rowF) i ≤ 100 := by unfold cntO; omega
    have v0 : colO (l.map rowF) 0 i = zf (rd l[i] 0) := by rw [col_start (.inl rfl) hi]; unfold colO; rw [rdL_nat hi]
    have v1 : colO (l.map rowF) 1 i = zf (rd l[i] 1) := by rw [col_start (.inr rfl) hi]; unfold colO; rw [rdL_nat hi]
    have ec : cntO (l.map rowF) (i + 1) = cntO (l.map rowF) i + (if rd l[i] 0 = 0 then 0 else 1) + (if rd l[i] 1 = 0 then 0 else 1) := by
      unfold cntO
      rw [cneg, cneg, v0, v1]
      unfold zf
      by_cases q0 : rd l[i] 0 = 0
      · by_cases q1 : rd l[i] 1 = 0
        · simp only [if_pos q0, if_pos q1]; omega
        · simp only [if_pos q0, if_neg q1]; omega
      · by_cases q1 : rd l[i] 1 = 0
        · simp only [if_neg q0, if_pos q1]; omega
        · simp only [if_neg q0, if_neg q1]; omega
    generalize cntO (l.map rowF) i = c at *
    have one : ∀ (row : List Int) (x5 : Int) (x : Int), row.length = 2 → 0 ≤ x → x < 2 → 0 ≤ x5 ∧ x5 ≤ 1000 → rd row x = -1 → row.set x.toNat (-1) = row → Ev (fun k => impl_OpenSchedule.l1 k l (A.set i (row.set x.toNat (zf (rd l[i] x)))) (x5 + (if rd l[i] x = 0 then 0 else 1)) (i : Int) l (l.length : Int) (i : Int) l[i] (l[i].length : Int) (x + 1)) R → Ev (fun k => impl_OpenSchedule.l1 k l (A.set i row) x5 (i : Int) l (l.length : Int) (i : Int) l[i] (l[i].length : Int) x) R := fun row x5 x hrow hx0 hx1 hx5 _ hset hj => by
      have er : rd_L1 (A.set i row) (i : Int) = row := by rw [rdLO_set (by omega), if_pos rfl]
      refine ev_go _ (fun k => ?_) hj
      simp only [impl_OpenSchedule.l1]
      rw [if_pos (by omega), if_pos (by omega), if_pos (by omega), wr (x := x + 1) (by omega) (by omega)]
      by_cases c1 : rd l[i] x = 0
      · rw [if_pos c1, if_pos (by omega), if_pos (by rw [List.length_set]; omega), er, if_pos (by omega), Int.toNat_natCast, List.set_set, if_pos c1, Int.add_zero]
        unfold zf
        rw [if_pos c1]
      · rw [if_neg c1, if_neg c1, wr (x := x5 + 1) (by omega) (by omega)]
        unfold zf
        rw [if_neg c1, hset]
    refine ev_go _ (fun k => ?_) (one [-1, -1] c 0 rfl (by omega) (by omega) (by omega) rfl rfl (one _ _ 1 (by simp) (by omega) (by omega) ?_ rfl rfl (ev_go _ (fun k => ?_) ih)))
    · simp only [impl_OpenSchedule.l0]
      rw [if_pos (by omega), if_pos (by omega), if_pos (by omega), if_pos (by omega), Int.toNat_natCast, rdL_nat hi]
    · split <;> omega
    · simp only [impl_OpenSchedule.l1]
      rw [if_neg (by omega), wr1 (by omega), ec]
      rfl

theorem core_OpenSchedule (l : List (List Int)) (hl : l.length ≤ 1048576) (hr : ∀ y ∈ l, y.length ≤ 1048576) : ∃ r b, Ev (fun k => spec_OpenSchedule.f k l) (r, b) ∧ Ev (fun k => impl_OpenSchedule.f k l) (r, b) ∧ r.length ≤ 1048576 ∧ ∀ y ∈ r, y.length ≤ 1048576 := by
  have e1 := spec_l8Pair.ev l (by omega) (fun y hy => by have := hr y hy; omega)
  have e2 := impl_isShopOf.ev l 2 (fun y hy => by have := hr y hy; omega)
  by_cases h : ShopOk l ∧ (0 < l.length → (machP l : Int) = 2)
  · have hT := shopT_of h.1 h.2
    have hn8 := hT.small
    obtain ⟨L, hL, l0, l1, c0, c1⟩ := load_in h.1 h.2
    obtain ⟨R, h1, _, h3, h4⟩ := made_both hT hL ⟨l0, l1⟩ c0 c1 (L + 1).toNat 0 ⟨l.map rowF, -1, -1, 0, 0⟩ (by omega) (by omega) (full_start hT l0)
    refine ⟨R, true, ev_guard' e1 (fun _ => ev_bind R (spec_start hT h3) ?_) (fun hn => absurd h hn), ev_guard' e2 (fun _ => ?_) (fun hn => absurd h hn), by rw [h1.1]; omega, fun y hy => by rw [h1.2 y hy]; omega⟩
    · have key := rev_ind (P := fun i => Ev (fun k => spec_OpenSchedule.l0 k (R.take i) R (i : Int)) (R, true)) R.length ?_ ?_ 0 (Nat.zero_le _)
      · simpa using key
      · refine ev_stop fun k => ?_
        simp only [spec_OpenSchedule.l0]; rw [if_neg (by omega), List.take_length]
      · intro i hi ih
        refine ev_go _ (fun k => ?_) ih
        have h2 := h1.2 _ (List.getElem_mem hi)
        have := h1.1
        simp only [spec_OpenSchedule.l0]
        rw [if_pos (by omega), if_pos (by omega), rdL_nat hi, spec_l1Own.eq _ (by omega), Option.bind_some, if_pos (by rw [List.length_take]; omega), wr1 (by omega), List.take_succ_eq_append_getElem hi]
    · simp only [if_pos (show 0 ≤ (l.length : Int) by omega), Int.toNat_natCast, if_pos (show l.length ≤ 11728124029610 by omega)]
      exact impl_start hT h4
  · exact ⟨[], false, ev_guard' e1 (fun hn => absurd hn h) (fun _ => Ev.now _), ev_guard' e2 (fun hn => absurd hn h) (fun _ => Ev.now _), by simp, by simp⟩

end Go.Proofs.Ytbblhmpcpmamfaa.Pure
