/- Proved here: what functions that the law FnExactWrapAround reaches answer (core_WrapAround). Conditions: those that each theorem names. -/
import Derived.Test.YtplbabjigikgjaaQFnExactWrapAroundxh
set_option linter.unusedVariables false
set_option linter.unusedSimpArgs false
namespace Go.Proofs.Ytplbabjigikgjaa.Pure
open Go.RowKit Go.Proofs.Ytplbabjigikgjaa.XFnExactWrapAround Go.Proofs.YtplbabjigikgjaaW.PrintWords Go.Proofs.YtplbabjigikgjaaW.PrintLast

theorem mxW_at2 : ∀ (l : List Int) (s : Int), mxW l s = s ∨ mxW l s ∈ l
  | [], _ => .inl rfl
  | x :: l, s => by
    rw [mxW]
    rcases mxW_at2 l (mx s x) with h | h
    · rcases (mx_ge2 s x).2.2 with e | e
      · exact .inl (h.trans e)
      · exact .inr (by rw [h, e]; exact List.mem_cons_self)
    · exact .inr (List.mem_cons_of_mem _ h)
theorem mn_eq (a b : Int) : mn a b = if a < b then a else b := by unfold mn; split <;> split <;> omega
/-- Where both walks stand: the reference's machine and time, and the program's. -/
structure WaInv (n m : Nat) (L T : Int) (out : List (List PSpan)) (C P : Int) (a : Nat) (st im it : Int) : Prop where
  len : out.length = m
  row : ∀ y ∈ out, (y.length : Int) ≤ C
  c0 : 0 ≤ C ∧ C ≤ T
  eq : C = P + st
  hP : P = (a : Int) * L
  hst : 0 ≤ st ∧ st < L
  rel : (im = (a : Int) ∧ it = st) ∨ (it = L ∧ (a : Int) = im + 1 ∧ st = 0 ∧ 0 ≤ im)
theorem wa_lt {a m : Nat} {L P C T st : Int} (hP : P = (a : Int) * L) (h : C = P + st) (h0 : 0 ≤ st) (hC : C < T) (hT : T ≤ (m : Int) * L) (hL : 1 ≤ L) : a < m := by
  apply Nat.lt_of_not_le
  intro hma
  have h1 : (m : Int) * L ≤ (a : Int) * L := Int.mul_le_mul_of_nonneg_right (by omega) (by omega)
  omega
theorem WaInv.next {n m : Nat} {L T C P st im it p : Int} {out out' : List (List PSpan)} {a : Nat} (hI : WaInv n m L T out C P a st im it) (hlen : out'.length = m) (hrow : ∀ y ∈ out', (y.length : Int) ≤ C + p) (hp : 1 ≤ p) (hT : C + p ≤ T) (hs : st + p < L) : WaInv n m L T out' (C + p) P a (st + p) (a : Int) (st + p) := by
  obtain ⟨_, _, h3, h4, h5, h6, _⟩ := hI
  refine ⟨hlen, hrow, ?_, ?_, h5, ?_, .inl ⟨rfl, rfl⟩⟩
  · exact ⟨by omega, hT⟩
  · rw [h4, Int.add_assoc]
  · exact ⟨by omega, hs⟩
theorem WaInv.wrap {n m : Nat} {L T C P st im it p : Int} {out out' : List (List PSpan)} {a : Nat} (hI : WaInv n m L T out C P a st im it) (hlen : out'.length = m) (hrow : ∀ y ∈ out', (y.length : Int) ≤ C + p) (hp : 1 ≤ p) (hT : C + p ≤ T) (hE : st + p = L) : WaInv n m L T out' (C + p) (P + L) (a + 1) 0 (a : Int) (st + p) := by
  obtain ⟨_, _, h3, h4, h5, h6, _⟩ := hI
  have e : ((a + 1 : Nat) : Int) = (a : Int) + 1 := by omega
  refine ⟨hlen, hrow, ?_, ?_, ?_, ?_, .inr ⟨hE, e, rfl, by omega⟩⟩
  · exact ⟨by omega, hT⟩
  · rw [h4, Int.add_zero, Int.add_assoc, hE]
  · rw [e, h5, Int.add_mul, Int.one_mul]
  · exact ⟨by omega, by omega⟩
theorem wa_l1 (jobs : List J) (n m : Nat) (hm : m ≤ 4) (L T : Int) (hL : 1 ≤ L ∧ L ≤ 100000) (hT0 : T ≤ 1000) (hT : T ≤ (m : Int) * L) (i : Nat) (hi : i < 1000) (left : Int) (hleft : 0 ≤ left) (Good : List (List PSpan) × Bool → Prop)
    (next : ∀ (out : List (List PSpan)) (C P : Int) (a : Nat) (st im it : Int), WaInv n m L T out C P a st im it → C + left = T → ∃ R, Ev (fun k => spec_WrapAround.l0 k jobs L out (a : Int) st ((i + 1 : Nat) : Int)) R ∧ Ev (fun k => impl_WrapAround.l0 k L out im it jobs (jobs.length : Int) ((i + 1 : Nat) : Int)) R ∧ Good R) :
    ∀ (c : Nat) (r : Int) (out : List (List PSpan)) (C P : Int) (a : Nat) (st im it : Int), r ≤ c → 0 ≤ r → WaInv n m L T out C P a st im it → C + r + left = T → ∃ R, Ev (fun k => spec_WrapAround.l1 k jobs L out (a : Int) st (i : Int) r) R ∧ Ev (fun k => impl_WrapAround.l1 k L out im it (i : Int) r jobs (jobs.length : Int) (i : Int)) R ∧ Good R := by
  intro c
  induction c with
  | zero =>
    intro r out C P a st im it h1 h2 hI hC
    obtain ⟨R, e1, e2, hG⟩ := next out C P a st im it hI (by omega)
    refine ⟨R, ev_go _ (fun k => ?_) e1, ev_go _ (fun k => ?_) e2, hG⟩
    · simp only [spec_WrapAround.l1]; rw [if_neg (by omega), wr1 (by omega)]
    · simp only [impl_WrapAround.l1]; rw [if_neg (by omega), wr1 (by omega)]
  | succ c ih =>
    intro r out C P a st im it h1 h2 hI hC
    by_cases hr : r > 0
    · have hI0 := hI
      obtain ⟨i1, i2, i3, i4, i5, i6, i7⟩ := hI
      have ha : a < m := wa_lt i5 i4 i6.1 (by omega) hT hL.1
      have hal : a < out.length := by omega
      obtain ⟨p, hp⟩ : ∃ p, p = if r < L - st then r else L - st := ⟨_, rfl⟩
      have hp1 : 1 ≤ p ∧ p ≤ r ∧ st + p ≤ L := by subst hp; split <;> omega
      have hrow : rd_L7 out (a : Int) = out[a] := rdLSS hal
      have hrl : ((rd_L7 out (a : Int)).length : Int) ≤ C := by rw [hrow]; exact i2 _ (List.getElem_mem hal)
      have w1 := Aside0.mk (show wrap64 (L - st) = L - st from wr (by omega) (by omega))
      have w2 := Aside0.mk (show wrap64 (st + p) = st + p from wr (by omega) (by omega))
      have w3 := Aside0.mk (show wrap64 (r - p) = r - p from wr (by omega) (by omega))
      have w4 := Aside0.mk (show wrap64 ((a : Int) + 1) = ((a + 1 : Nat) : Int) from by rw [wr (by omega) (by omega)]; omega)
      have hls : spec_l1Least.f r (L - st) = some p := by unfold spec_l1Least.f; rw [hp]; split <;> rfl
      have hmn := Aside0.mk (show mn r (L - st) = p from by rw [mn_eq, hp])
      obtain ⟨out', ho⟩ : ∃ o, o = out.set a ((rd_L7 out (a : Int)) ++ [(⟨(i : Int), st, st + p⟩ : PSpan)]) := ⟨_, rfl⟩
      have hlen' : out'.length = m := by rw [ho]; simpa using i1
      have hrow' : ∀ y ∈ out', (y.length : Int) ≤ C + p := by
        intro y hy
        rw [ho] at hy
        rcases List.mem_or_eq_of_mem_set hy with hy | hy
        · have := i2 y hy; omega
        · rw [hy, List.length_append]; simp; omega
      -- the program's step
      have stepI : ∀ k, impl_WrapAround.l1 (k + 1) L out im it (i : Int) r jobs (jobs.length : Int) (i : Int) = impl_WrapAround.l1 k L out' (a : Int) (st + p) (i : Int) (r - p) jobs (jobs.length : Int) (i : Int) := fun k => by
        rcases i7 with ⟨q1, q2⟩ | ⟨q1, q2, q3, q4⟩
        · subst q1 q2
          simp only [impl_WrapAround.l1]
          rw [if_pos hr, if_neg (by omega), if_pos (by omega), if_pos (by omega), if_pos (by omega), w1.out, hmn.out, w2.out, w3.out, Int.toNat_natCast, ← ho]
        · subst q1 q3
          have w5 := Aside0.mk (show wrap64 (im + 1) = (a : Int) from by rw [wr (by omega) (by omega)]; omega)
          simp only [impl_WrapAround.l1]
          rw [if_pos hr, if_pos trivial, w5.out, if_pos (by omega), if_pos (by omega), if_pos (by omega), w1.out, hmn.out, w2.out, w3.out, Int.toNat_natCast, ← ho]
      by_cases hE : st + p = L
      · have hI' : WaInv n m L T out' (C + p) (P + L) (a + 1) 0 (a : Int) (st + p) := WaInv.wrap hI0 hlen' hrow' hp1.1 (by omega) hE
        obtain ⟨R, e1, e2, hG⟩ := ih (r - p) out' (C + p) (P + L) (a + 1) 0 (a : Int) (st + p) (by omega) (by omega) hI' (by omega)
        refine ⟨R, ev_go _ (fun k => ?_) e1, ev_go _ stepI e2, hG⟩
        simp only [spec_WrapAround.l1]
        rw [if_pos hr, w1.out, hls, Option.bind_some, if_pos (by omega), if_pos (by omega), if_pos (by omega), if_pos (by omega), Option.bind_some, w2.out, w3.out, w4.out, if_pos hE, Int.toNat_natCast, ← ho]
      · have hI' : WaInv n m L T out' (C + p) P a (st + p) (a : Int) (st + p) := WaInv.next hI0 hlen' hrow' hp1.1 (by omega) (by omega)
        obtain ⟨R, e1, e2, hG⟩ := ih (r - p) out' (C + p) P a (st + p) (a : Int) (st + p) (by omega) (by omega) hI' (by omega)
        refine ⟨R, ev_go _ (fun k => ?_) e1, ev_go _ stepI e2, hG⟩
        simp only [spec_WrapAround.l1]
        rw [if_pos hr, w1.out, hls, Option.bind_some, if_pos (by omega), if_pos (by omega), if_pos (by omega), if_pos (by omega), Option.bind_some, w2.out, w3.out, if_neg hE, Int.toNat_natCast, ← ho]
    · obtain ⟨R, e1, e2, hG⟩ := next out C P a st im it hI (by omega)
      refine ⟨R, ev_go _ (fun k => ?_) e1, ev_go _ (fun k => ?_) e2, hG⟩
      · simp only [spec_WrapAround.l1]; rw [if_neg hr, wr1 (by omega)]
      · simp only [impl_WrapAround.l1]; rw [if_neg hr, wr1 (by omega)]
theorem wa_l0 (jobs : List J) (hj : JobsOk jobs) (m : Nat) (hm : m ≤ 4) (L T : Int) (hL : 1 ≤ L ∧ L ≤ 100000) (hT0 : T ≤ 1000) (hT : T ≤ (m : Int) * L) : ∀ (c i : Nat) (out : List (List PSpan)) (C P : Int) (a : Nat) (st im it : Int), i + c = jobs.length → WaInv jobs.length m L T out C P a st im it → C + sumD (jobs.drop i) = T → ∃ R, Ev (fun k => spec_WrapAround.l0 k jobs L out (a : Int) st (i : Int)) R ∧ Ev (fun k => impl_WrapAround.l0 k L out im it jobs (jobs.length : Int) (i : Int)) R ∧ (R.1.length = m ∧ ∀ y ∈ R.1, (y.length : Int) ≤ 1000) ∧ R.2 = true := by
  have h8 := hj.1
  intro c
  induction c with
  | zero =>
    intro i out C P a st im it h1 hI _
    refine ⟨(out, true), ev_stop fun k => ?_, ev_stop fun k => ?_, ⟨hI.len, fun y hy => by have := hI.row y hy; have := hI.c0; omega⟩, rfl⟩
    · simp only [spec_WrapAround.l0]; rw [if_neg (by omega)]
    · simp only [impl_WrapAround.l0]; rw [if_neg (by omega)]
  | succ c ih =>
    intro i out C P a st im it h1 hI hC
    have hi : i < jobs.length := by omega
    have ht := (hj.2 _ (List.getElem_mem hi)).1
    have hs := sumD_in (jobs.drop (i + 1)) (fun j h => job_times jobs hj j (List.mem_of_mem_drop h))
    rw [drop_cons hi, sumD] at hC
    obtain ⟨R, e1, e2, hG⟩ := wa_l1 jobs jobs.length m hm L T hL hT0 hT i (by omega) (sumD (jobs.drop (i + 1))) hs.1 (fun R => (R.1.length = m ∧ ∀ y ∈ R.1, (y.length : Int) ≤ 1000) ∧ R.2 = true) (fun out C P a st im it hI hC => ih (i + 1) out C P a st im it (by omega) hI hC) jobs[i].f0.toNat jobs[i].f0 out C P a st im it (by omega) (by omega) hI (by omega)
    refine ⟨R, ev_go _ (fun k => ?_) e1, ev_go _ (fun k => ?_) e2, hG⟩
    · simp only [spec_WrapAround.l0]; rw [if_pos (by omega), if_pos (by omega), rdJ hi]
    · simp only [impl_WrapAround.l0]; rw [if_pos (by omega), if_pos (by omega), if_pos (by omega), rdJ hi]
theorem core_WrapAround (jobs : List J) (m : Int) (hj : jobs.length ≤ 1048576) (hw : (Lit.int .i64 m).wf = true) : ∃ r b, Ev (fun k => spec_WrapAround.f k jobs m) (r, b) ∧ Ev (fun k => impl_WrapAround.f k jobs m) (r, b) ∧ r.length ≤ 1048576 ∧ ∀ y ∈ r, y.length ≤ 1048576 := by
  unfold spec_WrapAround.f impl_WrapAround.f
  have es := spec_l7Good.ev jobs m [] hj (by simp)
  have ei := impl_isParallel.ev jobs m [] hj (by simp)
  by_cases h : ParOk jobs m []
  · have hm := h.2.1
    have hJ := h.1.1
    have h8 := hJ.1
    have hs := sumD_in jobs (job_times jobs hJ)
    have e1 := spec_l7Bound.ev jobs m [] hJ h.2.2 hm
    have e2 := impl_lengthBound.ev jobs m [] hJ h.2.2 hm
    have hc := ceil_le (sumD jobs) m hs.1 hm
    have hg := ceil_ge (sumD jobs) m hm
    have hmw : mxW (tailsL jobs (cloF jobs.length [])) 0 ≤ 400 := by
      rcases mxW_at2 (tailsL jobs (cloF jobs.length [])) 0 with e | e
      · omega
      · obtain ⟨i, hi, e⟩ := List.mem_map.1 e
        rw [← e]; exact (TL_pos jobs hJ h.pre i (List.mem_range.1 hi)).2.2
    have hLx : (sumD jobs + m - 1) / m ≤ lenF jobs m [] ∧ lenF jobs m [] ≤ 1000 := by
      unfold lenF
      have := mx_ge2 (mxW (tailsL jobs (cloF jobs.length [])) 0) ((sumD jobs + m - 1) / m)
      omega
    have hmN : (m.toNat : Int) = m := Int.toNat_of_nonneg (by omega)
    by_cases h0 : jobs.length = 0
    · have hz : ∀ o : List (List PSpan), Ev (fun k => spec_WrapAround.l0 k jobs (lenF jobs m []) o 0 0 0) (o, true) ∧ Ev (fun k => impl_WrapAround.l0 k (lenF jobs m []) o 0 0 jobs (jobs.length : Int) 0) (o, true) := fun o => ⟨ev_stop fun k => by simp only [spec_WrapAround.l0]; rw [if_neg (by omega)], ev_stop fun k => by simp only [impl_WrapAround.l0]; rw [if_neg (by omega)]⟩
      refine ⟨List.replicate m.toNat [], true, ev_guard' es (fun _ => ev_bind _ e1 ?_) (fun hn => absurd h hn), ev_guard' ei (fun _ => ev_bind _ e2 ?_) (fun hn => absurd h hn), by simp; omega, fun y hy => by rw [(List.mem_replicate.1 hy).2]; simp⟩
      · simp only [if_pos (show 0 ≤ m by omega), if_pos (show m.toNat ≤ 11728124029610 by omega)]
        exact (hz _).1
      · simp only [if_pos (show 0 ≤ m by omega), if_pos (show m.toNat ≤ 11728124029610 by omega)]
        exact (hz _).2
    · have hpos : 1 ≤ sumD jobs := by
        cases hjl : jobs with
        | nil => rw [hjl] at h0; simp at h0
        | cons x xs =>
          have h1 := job_times jobs hJ x (by rw [hjl]; exact List.mem_cons_self)
          have h2 := sumD_in xs (fun j hx => job_times jobs hJ j (by rw [hjl]; exact List.mem_cons_of_mem _ hx))
          rw [sumD]; omega
      have hT : sumD jobs ≤ (m.toNat : Int) * lenF jobs m [] := by
        rw [hmN]
        have h1 : (sumD jobs + m - 1) / m * m ≤ lenF jobs m [] * m := Int.mul_le_mul_of_nonneg_right hLx.1 (by omega)
        rw [Int.mul_comm m]
        omega
      obtain ⟨R, s1, s2, ⟨g1, g2⟩, g3⟩ := wa_l0 jobs hJ m.toNat (by omega) (lenF jobs m []) (sumD jobs) (by omega) (by omega) hT jobs.length 0 (List.replicate m.toNat []) 0 0 0 0 0 0 (by omega) ⟨by simp, fun y hy => by rw [(List.mem_replicate.1 hy).2]; simp, by omega, by omega, by simp, by omega, .inl ⟨rfl, rfl⟩⟩ (by simp)
      obtain ⟨R1, R2⟩ := R
      have g3' : R2 = true := g3
      subst g3'
      refine ⟨R1, true, ev_guard' es (fun _ => ev_bind _ e1 ?_) (fun hn => absurd h hn), ev_guard' ei (fun _ => ev_bind _ e2 ?_) (fun hn => absurd h hn), by have : R1.length = m.toNat := g1; omega, fun y hy => by have := g2 y hy; omega⟩
      · simp only [if_pos (show 0 ≤ m by omega), if_pos (show m.toNat ≤ 11728124029610 by omega)]
        exact s1
      · simp only [if_pos (show 0 ≤ m by omega), if_pos (show m.toNat ≤ 11728124029610 by omega)]
        exact s2
  · exact ⟨[], false, ev_guard' es (fun h1 => absurd h1 h) (fun _ => Ev.now _), ev_guard' ei (fun h1 => absurd h1 h) (fun _ => Ev.now _), by simp, by simp⟩

end Go.Proofs.Ytplbabjigikgjaa.Pure
