-- Written by a program of this session (the kit's print, widened). Proved here: what each function answers, for the arguments that its contract names.
import Derived.Test.YtbblhmpcpmamfaaXFnExactOpenSchedulex0
import Derived.Test.YtbblhmpcpmamfaaXFnExactOpenSchedulex2
import Derived.Test.YtbblhmpcpmamfaaXFnExactOpenSchedulex3
import Derived.Test.YtbblhmpcpmamfaaXFnExactOpenSchedulex4
namespace Go.Proofs.Ytbblhmpcpmamfaa.XFnExactOpenSchedule
open Go.RowKit Go.Proofs.YtbblhmpcpmamfaaW.PrintWords Go.Proofs.YtbblhmpcpmamfaaW.PrintLast Go.Proofs.YtbblhmpcpmamfaaW.PrintMore
attribute [local go_sem] max2_int min2_int max_two min_two max_three min_three max_four min_four   -- for this text's walks alone
attribute [local go_sem] idxA_77_0 idxA_77_1 fldS_68_0 fldS_68_1 fldS_73_0 fldS_73_1 fldS_73_2
set_option linter.unusedVariables false
set_option linter.unusedSimpArgs false

/-! ### spec_l8Go: function 83, by hand -/
/-! ### spec_l8Go, by hand -/
theorem row_store {W : World} {base : Nat} {ad : Addr} {n c : Nat} {st : List (List Int)} (hS : Kd.S (Kd.slice 3 (Kd.int .i64)) 41 W base (fun _ => True) (.slice (some ad) n c) st) (i k : Int) (hi : 0 ≤ i ∧ i < (n : Int)) (hk : 0 ≤ k ∧ k < ((rd_L1 st i).length : Int)) (v : Int) :
    ∃ g cr, W.cell? (ad.add i.toNat) = some (.slice (some ⟨g, 0, none⟩) (rd_L1 st i).length cr) ∧ W.cell? ⟨g, k.toNat, none⟩ = some (.int .i64 (rd (rd_L1 st i) k)) ∧ W.frozen? ⟨g, k.toNat, none⟩ = false ∧ base ≤ g ∧ (∃ cells, W.heap[g]? = some (.cells cells 3 (0, 0))) ∧ Kd.S (Kd.slice 3 (Kd.int .i64)) 41 (W.setCell ⟨g, k.toNat, none⟩ (.int .i64 v)) base (fun _ => True) (.slice (some ad) n c) (st.set i.toNat ((rd_L1 st i).set k.toNat v)) := by
  obtain ⟨oki, ce, hcl, hM, hcc, hok, hbk⟩ := Kd.S_borrow hS [] i hi.1 hi.2
  obtain ⟨ve, rfl, ge⟩ := hM
  have hv := hcc 0 _ rfl
  rw [Nat.add_zero, show ((Kd.slice 3 (Kd.int .i64))).sz = 1 from rfl, Nat.mul_one] at hv
  replace ge := (show Kd.R (Kd.int .i64) 3 _ _ _ _ (rd_L1 st i) from ge)
  obtain ⟨A, cr, rfl⟩ := Kd.R_slice ge
  obtain ⟨g, co, eo, gb, gl, cl, HG⟩ := Kd.R_form ge (by omega)
  injection eo with ea en ec
  subst ea
  subst ec
  clear en
  obtain ⟨hx, hf⟩ := Kd.R_celln 0 ge k hk.1 hk.2
  have HP := Kd.R_putg ge k v
  exact ⟨g, _, hv, hx, hf, gb, ⟨cl, HG⟩, hbk HP.2 (fun k_ e_ => by injection e_ with e_; subst e_; exact ge.1 _ rfl) (Kd.M_row HP.1)⟩
/-- a state in memory -/
def Blk8 (W : World) (g : Nat) (v : Value) (a b c d : Int) : Prop := W.heap[g]? = some (.cells #[v, .int .i64 a, .int .i64 b, .int .i64 c, .int .i64 d] 92 (0, 0))
structure St8 where
  st : List (List Int)
  w0 : Int
  w1 : Int
  e0 : Int
  e1 : Int
def freeW (now w e : Int) : Int := if w ≥ 0 ∧ e ≤ now then -1 else w
def free8 (now : Int) (s : St8) : St8 := ⟨s.st, freeW now s.w0 s.e0, freeW now s.w1 s.e1, s.e0, s.e1⟩
def step0 (shop : List (List Int)) (now : Int) (s : St8) : St8 := if s.w0 ≥ 0 then s else
  if pickF shop s.st s.w1 0 1 shop.length 0 (-1) (-1) ≥ 0 then ⟨s.st.set (pickF shop s.st s.w1 0 1 shop.length 0 (-1) (-1)).toNat ((rd_L1 s.st (pickF shop s.st s.w1 0 1 shop.length 0 (-1) (-1))).set 0 now), pickF shop s.st s.w1 0 1 shop.length 0 (-1) (-1), s.w1, wrap64 (now + rd (rd_L1 shop (pickF shop s.st s.w1 0 1 shop.length 0 (-1) (-1))) 0), s.e1⟩ else s
def step1 (shop : List (List Int)) (now : Int) (s : St8) : St8 := if s.w1 ≥ 0 then s else
  if pickF shop s.st s.w0 1 0 shop.length 0 (-1) (-1) ≥ 0 then ⟨s.st.set (pickF shop s.st s.w0 1 0 shop.length 0 (-1) (-1)).toNat ((rd_L1 s.st (pickF shop s.st s.w0 1 0 shop.length 0 (-1) (-1))).set 1 now), s.w0, pickF shop s.st s.w0 1 0 shop.length 0 (-1) (-1), s.e0, wrap64 (now + rd (rd_L1 shop (pickF shop s.st s.w0 1 0 shop.length 0 (-1) (-1))) 1)⟩ else s
def go8 (shop : List (List Int)) (now : Int) (s : St8) : St8 := step1 shop now (step0 shop now (free8 now s))
theorem pickF_in {n : Nat} (shop st : List (List Int)) (wo kk o : Int) (hn : n ≤ 1048576) : ∀ (c i : Nat) (b m : Int), i + c = n → (b = -1 ∨ 0 ≤ b ∧ b < (n : Int)) → (pickF shop st wo kk o c (i : Int) b m = -1 ∨ 0 ≤ pickF shop st wo kk o c (i : Int) b m ∧ pickF shop st wo kk o c (i : Int) b m < (n : Int))
  | 0, _, b, _, _, h => by rw [pickF]; exact h
  | c + 1, i, b, m, hi, h => by
    have hw : wrap64 ((i : Int) + 1) = ((i + 1 : Nat) : Int) := by unfold wrap64; omega
    rw [pickF, hw]
    split
    · exact pickF_in shop st wo kk o hn c (i + 1) b m (by omega) h
    · split
      · exact pickF_in shop st wo kk o hn c (i + 1) (i : Int) _ (by omega) (.inr (by omega))
      · exact pickF_in shop st wo kk o hn c (i + 1) b m (by omega) h
theorem rowsTwo_set {n : Nat} {l : List (List Int)} (h : RowsTwo n l) (i : Nat) {r : List Int} (hr : r.length = 2) : RowsTwo n (l.set i r) := by
  refine ⟨by rw [List.length_set]; exact h.1, fun x hx => ?_⟩
  rcases List.mem_or_eq_of_mem_set hx with hx | rfl
  · exact h.2 x hx
  · exact hr
theorem step0_two {shop : List (List Int)} {now : Int} {s : St8} (hl : shop.length ≤ 1048576) (h : RowsTwo shop.length s.st) : RowsTwo shop.length (step0 shop now s).st := by
  unfold step0
  split
  · exact h
  · split
    · rename_i hp
      have := pickF_in shop s.st s.w1 0 1 hl shop.length 0 (-1) (-1) (by omega) (.inl rfl)
      refine rowsTwo_set h _ ?_
      rw [List.length_set, rowsTwo_at h (by omega) (by simp at this; omega)]
    · exact h
theorem step1_two {shop : List (List Int)} {now : Int} {s : St8} (hl : shop.length ≤ 1048576) (h : RowsTwo shop.length s.st) : RowsTwo shop.length (step1 shop now s).st := by
  unfold step1
  split
  · exact h
  · split
    · rename_i hp
      have := pickF_in shop s.st s.w0 1 0 hl shop.length 0 (-1) (-1) (by omega) (.inl rfl)
      refine rowsTwo_set h _ ?_
      rw [List.length_set, rowsTwo_at h (by omega) (by simp at this; omega)]
    · exact h
def spec_l8Go.f (k : Nat) (l0 l1 : List (List Int)) (w0 w1 e0 e1 a2 : Int) : Option (List (List Int) × Int × Int × Int × Int) := if RowsTwo l0.length l0 ∧ RowsTwo l0.length l1 ∧ l0.length ≤ 1048576 ∧ spec_l8Copy.f k l1 w0 w1 e0 e1 = some (l1, w0, w1, e0, e1) then some ((go8 l0 a2 ⟨l1, w0, w1, e0, e1⟩).st, (go8 l0 a2 ⟨l1, w0, w1, e0, e1⟩).w0, (go8 l0 a2 ⟨l1, w0, w1, e0, e1⟩).w1, (go8 l0 a2 ⟨l1, w0, w1, e0, e1⟩).e0, (go8 l0 a2 ⟨l1, w0, w1, e0, e1⟩).e1) else none
theorem spec_l8Go.mono : ∀ l0 l1 w0 w1 e0 e1 a2 k, LeO (spec_l8Go.f k l0 l1 w0 w1 e0 e1 a2) (spec_l8Go.f (k + 1) l0 l1 w0 w1 e0 e1 a2) := by
  intro l0 l1 w0 w1 e0 e1 a2 k r h
  unfold spec_l8Go.f at h ⊢
  split at h
  · rename_i c
    rw [if_pos ⟨c.1, c.2.1, c.2.2.1, spec_l8Copy.mono _ _ _ _ _ _ _ c.2.2.2⟩]
    exact h
  · cases h
theorem blk8_0 {W : World} {g : Nat} {v : Value} {a b c d : Int} (h : Blk8 W g v a b c d) (u : Value) : Blk8 (W.setCell ⟨g, 0, none⟩ u) g u a b c d := blk_put h 0 _ rfl
theorem blk8_1 {W : World} {g : Nat} {v : Value} {a b c d : Int} (h : Blk8 W g v a b c d) (x : Int) : Blk8 (W.setCell ⟨g, 1, none⟩ (.int .i64 x)) g v x b c d := blk_put h 1 _ rfl
theorem blk8_2 {W : World} {g : Nat} {v : Value} {a b c d : Int} (h : Blk8 W g v a b c d) (x : Int) : Blk8 (W.setCell ⟨g, 2, none⟩ (.int .i64 x)) g v a x c d := blk_put h 2 _ rfl
theorem blk8_3 {W : World} {g : Nat} {v : Value} {a b c d : Int} (h : Blk8 W g v a b c d) (x : Int) : Blk8 (W.setCell ⟨g, 3, none⟩ (.int .i64 x)) g v a b x d := blk_put h 3 _ rfl
theorem blk8_4 {W : World} {g : Nat} {v : Value} {a b c d : Int} (h : Blk8 W g v a b c d) (x : Int) : Blk8 (W.setCell ⟨g, 4, none⟩ (.int .i64 x)) g v a b c x := blk_put h 4 _ rfl
theorem blk8_far {W : World} {g : Nat} {v : Value} {a b c d : Int} (h : Blk8 W g v a b c d) {g2 j : Nat} (hp : g ≠ g2) (u : Value) : Blk8 (W.setCell ⟨g2, j, none⟩ u) g v a b c d := blk_far h hp u
theorem blk8_below {W W' : World} {g : Nat} {v : Value} {a b c d : Int} (h : Blk8 W g v a b c d) (hb : Below W.heap.size W W') : Blk8 W' g v a b c d := blk_below h hb
theorem blk8_cells {W : World} {g : Nat} {v : Value} {a b c d : Int} (h : Blk8 W g v a b c d) : W.cell? ⟨g, 0, none⟩ = some v ∧ W.cell? ⟨g, 1, none⟩ = some (.int .i64 a) ∧ W.cell? ⟨g, 2, none⟩ = some (.int .i64 b) ∧ W.cell? ⟨g, 3, none⟩ = some (.int .i64 c) ∧ W.cell? ⟨g, 4, none⟩ = some (.int .i64 d) := ⟨(blk_cell h 0).trans rfl, (blk_cell h 1).trans rfl, (blk_cell h 2).trans rfl, (blk_cell h 3).trans rfl, (blk_cell h 4).trans rfl⟩
theorem blk8_frozen {W : World} {g : Nat} {v : Value} {a b c d : Int} (h : Blk8 W g v a b c d) : W.frozen? ⟨g, 0, none⟩ = false ∧ W.frozen? ⟨g, 1, none⟩ = false ∧ W.frozen? ⟨g, 2, none⟩ = false ∧ W.frozen? ⟨g, 3, none⟩ = false ∧ W.frozen? ⟨g, 4, none⟩ = false := ⟨blk_frozen h 0, blk_frozen h 1, blk_frozen h 2, blk_frozen h 3, blk_frozen h 4⟩
theorem blk8_S {W : World} {g : Nat} {v : Value} {a b c d : Int} (h : Blk8 W g v a b c d) {base : Nat} {V : Value} {st : List (List Int)} (hS : Kd.S (Kd.slice 3 (Kd.int .i64)) 41 W base (fun _ => True) V st) (j : Nat) (u : Value) : Kd.S (Kd.slice 3 (Kd.int .i64)) 41 (W.setCell ⟨g, j, none⟩ u) base (fun _ => True) V st := Kd.S_set hS h (by decide) j u
theorem blk8_ne {W : World} {g g2 : Nat} {v : Value} {a b c d : Int} (h : Blk8 W g v a b c d) (h2 : ∃ cells, W.heap[g2]? = some (.cells cells 3 (0, 0))) : g ≠ g2 := by
  rintro rfl
  obtain ⟨cells, h2⟩ := h2
  have h3 := (h : W.heap[g]? = _).symm.trans h2
  injection h3 with h3
  injection h3 with _ h3
  exact absurd h3 (by decide)
theorem spec_l8Pick.callsN0 (A0 : Option Addr) (c0 : Nat) (l0 : List (List Int)) (A1 : Option Addr) (n c1 : Nat) (l1 : List (List Int)) (w0 w1 e0 e1 r : Int) (w : World) (hn : n = l1.length) (hr0 : Kd.C (Kd.slice 3 (Kd.int .i64)) w A0 l0.length l0) (hc0 : l0.length ≤ c0) (hr1 : Kd.C (Kd.slice 3 (Kd.int .i64)) w A1 l1.length l1) (hc1 : n ≤ c1) (ht0 : RowsTwo l0.length l0) (ht1 : RowsTwo l0.length l1) (hl : l0.length ≤ 1048576) (h : pickF l0 l1 w1 0 1 l0.length 0 (-1) (-1) = r) :
    Calls Try.prog 116 #[.slice A0 l0.length c0, .agg #[.slice A1 n c1, .int .i64 w0, .int .i64 w1, .int .i64 e0, .int .i64 e1], .int .i64 0] w fun e w' => e = .returned (.int .i64 r) ∧ Below w.heap.size w w' := by
  subst hn
  exact spec_l8Pick.calls0 A0 c0 l0 A1 c1 l1 w0 w1 e0 e1 r w hr0 hc0 hr1 hc1 ht0 ht1 hl h
theorem spec_l8Pick.callsN1 (A0 : Option Addr) (c0 : Nat) (l0 : List (List Int)) (A1 : Option Addr) (n c1 : Nat) (l1 : List (List Int)) (w0 w1 e0 e1 r : Int) (w : World) (hn : n = l1.length) (hr0 : Kd.C (Kd.slice 3 (Kd.int .i64)) w A0 l0.length l0) (hc0 : l0.length ≤ c0) (hr1 : Kd.C (Kd.slice 3 (Kd.int .i64)) w A1 l1.length l1) (hc1 : n ≤ c1) (ht0 : RowsTwo l0.length l0) (ht1 : RowsTwo l0.length l1) (hl : l0.length ≤ 1048576) (h : pickF l0 l1 w0 1 0 l0.length 0 (-1) (-1) = r) :
    Calls Try.prog 116 #[.slice A0 l0.length c0, .agg #[.slice A1 n c1, .int .i64 w0, .int .i64 w1, .int .i64 e0, .int .i64 e1], .int .i64 1] w fun e w' => e = .returned (.int .i64 r) ∧ Below w.heap.size w w' := by
  subst hn
  exact spec_l8Pick.calls1 A0 c0 l0 A1 c1 l1 w0 w1 e0 e1 r w hr0 hc0 hr1 hc1 ht0 ht1 hl h
set_option maxHeartbeats 8000000 in
set_option maxRecDepth 100000 in
theorem spec_l8Go.calls (k : Nat) (A0 : Option Addr) (c0 : Nat) (l0 : List (List Int)) (A1 : Option Addr) (c1 : Nat) (l1 : List (List Int)) (w0 w1 e0 e1 a2 : Int) (r1 : List (List Int)) (r2 r3 r4 r5 : Int) (w : World) (hr0 : Kd.C (Kd.slice 3 (Kd.int .i64)) w A0 l0.length l0) (hc0 : l0.length ≤ c0) (hr1 : Kd.C (Kd.slice 3 (Kd.int .i64)) w A1 l1.length l1) (hc1 : l1.length ≤ c1) (h : spec_l8Go.f k l0 l1 w0 w1 e0 e1 a2 = some (r1, r2, r3, r4, r5)) :
    Calls Try.prog 83 #[.slice A0 l0.length c0, .agg #[.slice A1 l1.length c1, .int .i64 w0, .int .i64 w1, .int .i64 e0, .int .i64 e1], .int .i64 a2] w fun e w' => ∃ v0_ : Value, e = .returned (.agg #[v0_, .int .i64 r2, .int .i64 r3, .int .i64 r4, .int .i64 r5]) ∧ Kd.S (Kd.slice 3 (Kd.int .i64)) 41 w' w.heap.size (fun _ => True) v0_ r1 ∧ Below w.heap.size w w' := by
  unfold spec_l8Go.f at h
  split at h
  case isFalse => cases h
  case isTrue hg =>
  have h := Option.some.inj h
  have HR0 := Aside0.mk hr0
  have HC0 := Aside0.mk hc0
  have HR1 := Aside0.mk hr1
  have HC1 := Aside0.mk hc1
  have HT0 := Aside0.mk hg.1
  have HT1 := Aside0.mk hg.2.1
  have HL := Aside0.mk hg.2.2.1
  have HCP := Aside0.mk hg.2.2.2
  have H := Aside0.mk h
  have HB := Aside0.mk (Below.refl w.heap.size w)
  clear hr0 hr1 hc0 hc1 hg h
  go_enter Try.func83, Try.ntmps83
  go_wp2_with (fail)
  obtain ⟨wc, hwc⟩ : ∃ w_, w_ = (w.alloc (Obj.cells #[Value.slice A1 l1.length c1, Value.int IntKind.i64 w0, Value.int IntKind.i64 w1, Value.int IntKind.i64 e0, Value.int IntKind.i64 e1] 92)).alloc (Obj.cells #[Value.slice none 0 0, Value.int IntKind.i64 0, Value.int IntKind.i64 0, Value.int IntKind.i64 0, Value.int IntKind.i64 0] 92) := ⟨_, rfl⟩
  rw [← hwc]
  have B6c : Blk8 wc (w.heap.size + 1) (.slice none 0 0) 0 0 0 0 := by
    rw [hwc]
    have h := World.alloc_heap_new (w.alloc (Obj.cells #[Value.slice A1 l1.length c1, Value.int IntKind.i64 w0, Value.int IntKind.i64 w1, Value.int IntKind.i64 e0, Value.int IntKind.i64 e1] 92)) (Obj.cells #[Value.slice none 0 0, Value.int IntKind.i64 0, Value.int IntKind.i64 0, Value.int IntKind.i64 0, Value.int IntKind.i64 0] 92)
    rw [alloc_size] at h
    exact h
  have HBc : Aside0 (Below w.heap.size w wc) := ⟨by rw [hwc]; repeat (first | exact Below.refl _ _ | apply below_alloc)⟩
  clear hwc HB
  refine (spec_l8Copy.calls k A1 c1 l1 w0 w1 e0 e1 l1 w0 w1 e0 e1 _ (Kd.C_below HR1.out HBc.out) HC1.out HCP.out).mono ?_
  rintro e w2 ⟨v2, rfl, hS, hb⟩
  dsimp only
  obtain ⟨Av, cv, ev⟩ := Kd.S_slice hS
  subst ev
  have B62 := blk8_below B6c hb
  have hlt6 : w.heap.size + 1 < w2.heap.size := blk_lt B62
  go_wp2
  obtain ⟨wq, hwq⟩ : ∃ w_, w_ = w2.alloc (Obj.cells #[Value.slice Av l1.length cv, Value.int IntKind.i64 w0, Value.int IntKind.i64 w1, Value.int IntKind.i64 e0, Value.int IntKind.i64 e1] 92) := ⟨_, rfl⟩
  rw [← hwq]
  obtain ⟨g, hg⟩ : ∃ g_, g_ = w2.heap.size := ⟨_, rfl⟩
  rw [← hg]
  have BQ : Aside0 (Blk8 wq g (.slice Av l1.length cv) w0 w1 e0 e1) := ⟨by rw [hwq, hg]; exact World.alloc_heap_new w2 _⟩
  obtain ⟨g6, hg6⟩ : ∃ g_, g_ = w.heap.size + 1 := ⟨_, rfl⟩
  rw [← hg6]
  rw [← hg6] at B62 hlt6
  have B6 : Aside0 (Blk8 wq g6 (.slice none 0 0) 0 0 0 0) := ⟨by rw [hwq]; exact blk8_below B62 (below_alloc (Below.refl _ _) _)⟩
  have HNE : Aside0 (g6 ≠ g ∧ w.heap.size ≤ g ∧ w.heap.size ≤ g6) := ⟨by have := below_size HBc.out; have := below_size hb; omega⟩
  have HS : Aside0 (Kd.S (Kd.slice 3 (Kd.int .i64)) 41 wq w.heap.size (fun _ => True) (.slice Av l1.length cv) l1) := ⟨by rw [hwq]; exact Kd.S_alloc (Kd.S_lower hS (below_size HBc.out)) _⟩
  have HB : Aside0 (Below w.heap.size w wq) := ⟨by rw [hwq]; exact below_alloc (below_step HBc.out hb) _⟩
  clear hwq hg hg6 B62 hlt6 hS hb B6c HBc
  go_loopg [8] 2 (fun kq v8 w' => ∃ (i : Nat) (a b : Int), v8 = .int .i64 (i : Int) ∧ Aside0 (i + kq = 2 ∧ a = (if 1 ≤ i then freeW a2 w0 e0 else w0) ∧ b = (if 2 ≤ i then freeW a2 w1 e1 else w1)) ∧ Aside0 (Blk8 w' g (.slice Av l1.length cv) a b e0 e1) ∧ Aside0 (Blk8 w' g6 (.slice none 0 0) 0 0 0 0) ∧ Aside0 (Kd.S (Kd.slice 3 (Kd.int .i64)) 41 w' w.heap.size (fun _ => True) (.slice Av l1.length cv) l1) ∧ Aside0 (Below w.heap.size w w'))
  case atStart => exact ⟨0, w0, w1, (by first | rfl | (simp; done)), ⟨by simp⟩, BQ, B6, HS, HB⟩
  case round =>
    clear BQ B6 HS HB
    obtain ⟨i, a, b, rfl, HK, BQ, B6, HS, HB⟩ := hrel
    obtain ⟨hk1, hk2, hk3⟩ := HK.out
    have hi : i = 0 ∨ i = 1 ∨ i = 2 := by omega
    rcases hi with rfl | rfl | rfl
    ·
      obtain ⟨hcg0, hcg1, hcg2, hcg3, hcg4⟩ := blk8_cells BQ.out
      obtain ⟨hfg0, hfg1, hfg2, hfg3, hfg4⟩ := blk8_frozen BQ.out
      rw [if_neg (by omega)] at hk2
      rw [if_neg (by omega)] at hk3
      replace hk2 := hk2.symm
      subst hk2
      replace hk3 := hk3.symm
      subst hk3
      have HG : Aside0 (gk = 1 + 1) := ⟨by omega⟩
      clear hk1
      by_cases c : 0 ≤ w0
      · have cb : decide (0 ≤ w0) = true := decide_eq_true c
        by_cases d : e0 ≤ a2
        · have db : decide (e0 ≤ a2) = true := decide_eq_true d
          have HF : Aside0 (freeW a2 w0 e0 = -1) := ⟨if_pos ⟨c, d⟩⟩
          clear c d
          go_wp2
          go_roundg 1
          case measure => have := HG.out; omega
          case rel => exact ⟨1, -1, w1, (by first | rfl | (simp; done)), ⟨by rw [HF.out]; simp⟩, ⟨blk8_1 BQ.out (-1)⟩, ⟨blk8_far B6.out HNE.out.1 _⟩, ⟨blk8_S BQ.out HS.out _ _⟩, ⟨below_set HB.out HNE.out.2.1⟩⟩
        · have db : decide (e0 ≤ a2) = false := decide_eq_false d
          have HF : Aside0 (freeW a2 w0 e0 = w0) := ⟨if_neg (fun h => d h.2)⟩
          clear c d
          go_wp2
          go_roundg 1
          case measure => have := HG.out; omega
          case rel => exact ⟨1, w0, w1, (by first | rfl | (simp; done)), ⟨by rw [HF.out]; simp⟩, BQ, B6, HS, HB⟩
      · have cb : decide (0 ≤ w0) = false := decide_eq_false c
        have HF : Aside0 (freeW a2 w0 e0 = w0) := ⟨if_neg (fun h => c h.1)⟩
        clear c
        go_wp2
        go_roundg 1
        case measure => have := HG.out; omega
        case rel => exact ⟨1, w0, w1, (by first | rfl | (simp; done)), ⟨by rw [HF.out]; simp⟩, BQ, B6, HS, HB⟩
    ·
      obtain ⟨hcg0, hcg1, hcg2, hcg3, hcg4⟩ := blk8_cells BQ.out
      obtain ⟨hfg0, hfg1, hfg2, hfg3, hfg4⟩ := blk8_frozen BQ.out
      rw [if_pos (by omega)] at hk2
      rw [if_neg (by omega)] at hk3
      replace hk2 := hk2.symm
      subst hk2
      replace hk3 := hk3.symm
      subst hk3
      have HG : Aside0 (gk = 0 + 1) := ⟨by omega⟩
      clear hk1
      by_cases c : 0 ≤ w1
      · have cb : decide (0 ≤ w1) = true := decide_eq_true c
        by_cases d : e1 ≤ a2
        · have db : decide (e1 ≤ a2) = true := decide_eq_true d
          have HF : Aside0 (freeW a2 w1 e1 = -1) := ⟨if_pos ⟨c, d⟩⟩
          clear c d
          go_wp2
          go_roundg 0
          case measure => have := HG.out; omega
          case rel => exact ⟨2, freeW a2 w0 e0, -1, (by first | rfl | (simp; done)), ⟨by rw [HF.out]; simp⟩, ⟨blk8_2 BQ.out (-1)⟩, ⟨blk8_far B6.out HNE.out.1 _⟩, ⟨blk8_S BQ.out HS.out _ _⟩, ⟨below_set HB.out HNE.out.2.1⟩⟩
        · have db : decide (e1 ≤ a2) = false := decide_eq_false d
          have HF : Aside0 (freeW a2 w1 e1 = w1) := ⟨if_neg (fun h => d h.2)⟩
          clear c d
          go_wp2
          go_roundg 0
          case measure => have := HG.out; omega
          case rel => exact ⟨2, freeW a2 w0 e0, w1, (by first | rfl | (simp; done)), ⟨by rw [HF.out]; simp⟩, BQ, B6, HS, HB⟩
      · have cb : decide (0 ≤ w1) = false := decide_eq_false c
        have HF : Aside0 (freeW a2 w1 e1 = w1) := ⟨if_neg (fun h => c h.1)⟩
        clear c
        go_wp2
        go_roundg 0
        case measure => have := HG.out; omega
        case rel => exact ⟨2, freeW a2 w0 e0, w1, (by first | rfl | (simp; done)), ⟨by rw [HF.out]; simp⟩, BQ, B6, HS, HB⟩
    · rw [if_pos (by omega)] at hk2
      rw [if_pos (by omega)] at hk3
      replace hk2 := hk2.symm
      subst hk2
      replace hk3 := hk3.symm
      subst hk3
      obtain ⟨s1, hs1⟩ : ∃ s_, s_ = free8 a2 ⟨l1, w0, w1, e0, e1⟩ := ⟨_, rfl⟩
      have BQ1 : Aside0 (Blk8 wr g (.slice Av l1.length cv) s1.w0 s1.w1 s1.e0 s1.e1) := ⟨by rw [hs1]; exact BQ.out⟩
      have HS1 : Aside0 (Kd.S (Kd.slice 3 (Kd.int .i64)) 41 wr w.heap.size (fun _ => True) (.slice Av l1.length cv) s1.st) := ⟨by rw [hs1]; exact HS.out⟩
      have HT : Aside0 (RowsTwo l0.length s1.st) := ⟨by rw [hs1]; exact HT1.out⟩
      have HR := Aside0.mk (show step1 l0 a2 (step0 l0 a2 s1) = go8 l0 a2 ⟨l1, w0, w1, e0, e1⟩ by rw [hs1]; rfl)
      clear hs1 hk1 HK BQ HS
      go_wp2
      go_loopg [9] 2 (fun kq v9 w' => ∃ (i : Nat) (s : St8), v9 = .int .i64 (i : Int) ∧ Aside0 (i + kq = 2 ∧ s = (if i = 0 then s1 else if i = 1 then step0 l0 a2 s1 else step1 l0 a2 (step0 l0 a2 s1))) ∧ Aside0 (Blk8 w' g (.slice Av l1.length cv) s.w0 s.w1 s.e0 s.e1) ∧ Aside0 (Blk8 w' g6 (.slice none 0 0) 0 0 0 0) ∧ Aside0 (Kd.S (Kd.slice 3 (Kd.int .i64)) 41 w' w.heap.size (fun _ => True) (.slice Av l1.length cv) s.st) ∧ Aside0 (RowsTwo l0.length s.st) ∧ Aside0 (Below w.heap.size w w'))
      case atStart => exact ⟨0, s1, (by first | rfl | (simp; done)), ⟨by simp⟩, BQ1, B6, HS1, HT, HB⟩
      case round =>
        clear BQ1 B6 HS1 HB HT
        obtain ⟨i, s, rfl, HK, BQ, B6, HS, HT, HB⟩ := hrel
        obtain ⟨hk1, hk2⟩ := HK.out
        have hi : i = 0 ∨ i = 1 ∨ i = 2 := by omega
        rcases hi with rfl | rfl | rfl
        ·
          obtain ⟨hcg0, hcg1, hcg2, hcg3, hcg4⟩ := blk8_cells BQ.out
          obtain ⟨hfg0, hfg1, hfg2, hfg3, hfg4⟩ := blk8_frozen BQ.out
          rw [if_pos rfl] at hk2
          have HS2 := Aside0.mk hk2
          have HG : Aside0 (gk = 1 + 1) := ⟨by omega⟩
          clear hk1 hk2
          by_cases c : 0 ≤ s.w0
          · have cb : decide (0 ≤ s.w0) = true := decide_eq_true c
            have HF : Aside0 (step0 l0 a2 s = s) := ⟨if_pos c⟩
            clear c
            go_wp2
            go_roundg 1
            case measure => have := HG.out; omega
            case rel => exact ⟨1, s, (by first | rfl | (simp; done)), ⟨by refine ⟨by omega, ?_⟩; rw [if_neg (by omega), if_pos rfl, ← HS2.out, HF.out]⟩, BQ, B6, HS, HT, HB⟩
          · have cb : decide (0 ≤ s.w0) = false := decide_eq_false c
            have HCN := Aside0.mk c
            clear c
            have HN := Aside0.mk ((Kd.S_reads' HS.out).1)
            go_wp2_with (fail)
            obtain ⟨j, hj⟩ : ∃ j_, pickF l0 s.st s.w1 0 1 l0.length 0 (-1) (-1) = j_ := ⟨_, rfl⟩
            refine (spec_l8Pick.callsN0 A0 c0 l0 Av l1.length cv s.st s.w0 s.w1 s.e0 s.e1 j _ HN.out (Kd.C_below HR0.out (by repeat (first | exact HB.out | apply below_alloc | apply pw_below_drewN | apply below_drew1))) HC0.out (Kd.C_below (Kd.S_reads' HS.out).2.2 (by repeat (first | exact Below.refl _ _ | apply below_alloc | apply pw_below_drewN | apply below_drew1))) (Kd.S_reads' HS.out).2.1 HT0.out HT.out HL.out hj).mono ?_
            rintro e w3 ⟨rfl, hb⟩
            dsimp only
            have hjin := pickF_in l0 s.st s.w1 0 1 HL.out l0.length 0 (-1) (-1) (by omega) (.inl rfl)
            rw [show ((0 : Nat) : Int) = 0 from rfl, hj] at hjin
            have hbw : Below wr.heap.size wr w3 := below_step (by repeat (first | exact Below.refl _ _ | apply below_alloc | apply pw_below_drewN | apply below_drew1)) hb
            have BQ3 := Aside0.mk (blk8_below BQ.out hbw)
            have B63 := Aside0.mk (blk8_below B6.out hbw)
            have HS3 := Aside0.mk (Kd.S_below HS.out hbw)
            have HB3 := Aside0.mk (below_step HB.out hbw)
            clear BQ B6 HS HB hb hbw hcg0 hcg1 hcg2 hcg3 hcg4 hfg0 hfg1 hfg2 hfg3 hfg4
            by_cases d : 0 ≤ j
            · have db : decide (0 ≤ j) = true := decide_eq_true d
              have hj1 : j < (l0.length : Int) := by omega
              have hjs : j < (l1.length : Int) := by have := HN.out; have := HT.out.1; omega
              have HF : Aside0 (step0 l0 a2 s = ⟨s.st.set j.toNat ((rd_L1 s.st j).set 0 a2), j, s.w1, wrap64 (a2 + rd (rd_L1 l0 j) 0), s.e1⟩) := ⟨by unfold step0; rw [if_neg (by have := HCN.out; omega), hj, if_pos d]⟩
              obtain ⟨adv, hadv⟩ : ∃ a_, Av = some a_ := by
                obtain ⟨a_, _, _, h_, _⟩ := at_L1 (Kd.S_reads' HS3.out).2.2 j d (by have := HN.out; omega)
                exact ⟨a_, h_⟩
              subst hadv
              have z1 := rowsTwo_at HT.out d hj1
              have z0 := rowsTwo_at HT0.out d hj1
              obtain ⟨gr, cr, hrow, hrx, hrf, hrb, hrt, hrS⟩ := row_store HS3.out j 0 ⟨d, hjs⟩ ⟨by omega, by rw [z1]; omega⟩ a2
              rw [z1] at hrow
              have NEG := Aside0.mk (blk8_ne BQ3.out hrt)
              have NE6 := Aside0.mk (blk8_ne B63.out hrt)
              have HRB := Aside0.mk hrb
              have HRS := Aside0.mk hrS
              have HJ := Aside0.mk (And.intro d hj1)
              have pj := eq_true d
              have qj := eq_true hj1
              have qs := eq_true hjs
              clear d hj hj1 hjs hjin hrt z1 hrb hrS
              obtain ⟨hcg0, hcg1, hcg2, hcg3, hcg4⟩ := blk8_cells BQ3.out
              obtain ⟨hfg0, hfg1, hfg2, hfg3, hfg4⟩ := blk8_frozen BQ3.out
              replace hrx : w3.cell? ⟨gr, 0, none⟩ = some (.int .i64 (rd (rd_L1 s.st j) 0)) := hrx
              replace hrf : w3.frozen? ⟨gr, 0, none⟩ = false := hrf
              go_upto_region 14 with (fail)
              obtain ⟨w4, hw4⟩ : ∃ w_, w_ = w3.setCell ⟨gr, 0, none⟩ (.int .i64 a2) := ⟨_, rfl⟩
              rw [← hw4]
              have BQ4 : Aside0 (Blk8 w4 g (.slice (some adv) l1.length cv) s.w0 s.w1 s.e0 s.e1) := ⟨by rw [hw4]; exact blk8_far BQ3.out NEG.out _⟩
              have B64 : Aside0 (Blk8 w4 g6 (.slice none 0 0) 0 0 0 0) := ⟨by rw [hw4]; exact blk8_far B63.out NE6.out _⟩
              have HS4 : Aside0 (Kd.S (Kd.slice 3 (Kd.int .i64)) 41 w4 w.heap.size (fun _ => True) (.slice (some adv) l1.length cv) (s.st.set j.toNat ((rd_L1 s.st j).set 0 a2))) := ⟨by rw [hw4]; exact HRS.out⟩
              have HB4 : Aside0 (Below w.heap.size w w4) := ⟨by rw [hw4]; exact below_set HB3.out HRB.out⟩
              clear hw4 BQ3 B63 HS3 HB3 HRS hrow hrx hrf hcg0 hcg1 hcg2 hcg3 hcg4 hfg0 hfg1 hfg2 hfg3 hfg4
              obtain ⟨hcg0, hcg1, hcg2, hcg3, hcg4⟩ := blk8_cells BQ4.out
              obtain ⟨hfg0, hfg1, hfg2, hfg3, hfg4⟩ := blk8_frozen BQ4.out
              go_upto_region 15 with (fail)
              obtain ⟨w5, hw5⟩ : ∃ w_, w_ = w4.setCell ⟨g, 1, none⟩ (.int .i64 j) := ⟨_, rfl⟩
              rw [← hw5]
              have BQ5 : Aside0 (Blk8 w5 g (.slice (some adv) l1.length cv) j s.w1 s.e0 s.e1) := ⟨by rw [hw5]; exact blk8_1 BQ4.out j⟩
              have B65 : Aside0 (Blk8 w5 g6 (.slice none 0 0) 0 0 0 0) := ⟨by rw [hw5]; exact blk8_far B64.out HNE.out.1 _⟩
              have HS5 : Aside0 (Kd.S (Kd.slice 3 (Kd.int .i64)) 41 w5 w.heap.size (fun _ => True) (.slice (some adv) l1.length cv) (s.st.set j.toNat ((rd_L1 s.st j).set 0 a2))) := ⟨by rw [hw5]; exact blk8_S BQ4.out HS4.out _ _⟩
              have HB5 : Aside0 (Below w.heap.size w w5) := ⟨by rw [hw5]; exact below_set HB4.out HNE.out.2.1⟩
              clear hw5 BQ4 B64 HS4 HB4 hcg0 hcg1 hcg2 hcg3 hcg4 hfg0 hfg1 hfg2 hfg3 hfg4
              obtain ⟨ad0, Ah, ch, ea0, hx0, hl0, hi0⟩ := at_L1 (Kd.C_below HR0.out HB5.out) j HJ.out.1 HJ.out.2
              subst ea0
              have z0 := rowsTwo_at HT0.out HJ.out.1 HJ.out.2
              obtain ⟨adh, eh, hz1⟩ := Kd.at_int hi0 0 (by omega) (by rw [z0]; omega)
              subst eh
              rw [z0] at hx0
              obtain ⟨vt, hvt⟩ : ∃ x_, rd (rd_L1 l0 j) 0 = x_ := ⟨_, rfl⟩
              rw [hvt] at hz1
              replace hz1 : w5.cell? adh = some (.int .i64 vt) := hz1
              have HVT := Aside0.mk hvt
              clear hi0 hl0 z0 hvt
              obtain ⟨hcg0, hcg1, hcg2, hcg3, hcg4⟩ := blk8_cells BQ5.out
              obtain ⟨hfg0, hfg1, hfg2, hfg3, hfg4⟩ := blk8_frozen BQ5.out
              go_wp2
              go_roundg 1
              case measure => have := HG.out; omega
              case rel => exact ⟨1, ⟨s.st.set j.toNat ((rd_L1 s.st j).set 0 a2), j, s.w1, wrap64 (a2 + rd (rd_L1 l0 j) 0), s.e1⟩, (by first | rfl | (simp; done)), ⟨by refine ⟨by omega, ?_⟩; rw [if_neg (by omega), if_pos rfl, ← HS2.out]; exact HF.out.symm⟩, ⟨by have h := blk8_3 BQ5.out (wrap64 (a2 + vt)); rw [← HVT.out] at h ⊢; first | exact h | (rw [i64_w]; exact h)⟩, ⟨blk8_far B65.out HNE.out.1 _⟩, ⟨blk8_S BQ5.out HS5.out _ _⟩, ⟨by rw [← HF.out]; exact step0_two HL.out HT.out⟩, ⟨below_set HB5.out HNE.out.2.1⟩⟩
            · have db : decide (0 ≤ j) = false := decide_eq_false d
              have HF : Aside0 (step0 l0 a2 s = s) := ⟨by unfold step0; rw [if_neg (by have := HCN.out; omega), hj, if_neg d]⟩
              clear d hj hjin
              go_wp2
              go_roundg 1
              case measure => have := HG.out; omega
              case rel => exact ⟨1, s, (by first | rfl | (simp; done)), ⟨by refine ⟨by omega, ?_⟩; rw [if_neg (by omega), if_pos rfl, ← HS2.out, HF.out]⟩, BQ3, B63, HS3, HT, HB3⟩
        ·
          obtain ⟨hcg0, hcg1, hcg2, hcg3, hcg4⟩ := blk8_cells BQ.out
          obtain ⟨hfg0, hfg1, hfg2, hfg3, hfg4⟩ := blk8_frozen BQ.out
          rw [if_neg (by omega), if_pos rfl] at hk2
          have HS2 := Aside0.mk hk2
          have HG : Aside0 (gk = 0 + 1) := ⟨by omega⟩
          clear hk1 hk2
          by_cases c : 0 ≤ s.w1
          · have cb : decide (0 ≤ s.w1) = true := decide_eq_true c
            have HF : Aside0 (step1 l0 a2 s = s) := ⟨if_pos c⟩
            clear c
            go_wp2
            go_roundg 0
            case measure => have := HG.out; omega
            case rel => exact ⟨2, s, (by first | rfl | (simp; done)), ⟨by refine ⟨by omega, ?_⟩; rw [if_neg (by omega), if_neg (by omega), ← HS2.out, HF.out]⟩, BQ, B6, HS, HT, HB⟩
          · have cb : decide (0 ≤ s.w1) = false := decide_eq_false c
            have HCN := Aside0.mk c
            clear c
            have HN := Aside0.mk ((Kd.S_reads' HS.out).1)
            go_wp2_with (fail)
            obtain ⟨j, hj⟩ : ∃ j_, pickF l0 s.st s.w0 1 0 l0.length 0 (-1) (-1) = j_ := ⟨_, rfl⟩
            refine (spec_l8Pick.callsN1 A0 c0 l0 Av l1.length cv s.st s.w0 s.w1 s.e0 s.e1 j _ HN.out (Kd.C_below HR0.out (by repeat (first | exact HB.out | apply below_alloc | apply pw_below_drewN | apply below_drew1))) HC0.out (Kd.C_below (Kd.S_reads' HS.out).2.2 (by repeat (first | exact Below.refl _ _ | apply below_alloc | apply pw_below_drewN | apply below_drew1))) (Kd.S_reads' HS.out).2.1 HT0.out HT.out HL.out hj).mono ?_
            rintro e w3 ⟨rfl, hb⟩
            dsimp only
            have hjin := pickF_in l0 s.st s.w0 1 0 HL.out l0.length 0 (-1) (-1) (by omega) (.inl rfl)
            rw [show ((0 : Nat) : Int) = 0 from rfl, hj] at hjin
            have hbw : Below wr.heap.size wr w3 := below_step (by repeat (first | exact Below.refl _ _ | apply below_alloc | apply pw_below_drewN | apply below_drew1)) hb
            have BQ3 := Aside0.mk (blk8_below BQ.out hbw)
            have B63 := Aside0.mk (blk8_below B6.out hbw)
            have HS3 := Aside0.mk (Kd.S_below HS.out hbw)
            have HB3 := Aside0.mk (below_step HB.out hbw)
            clear BQ B6 HS HB hb hbw hcg0 hcg1 hcg2 hcg3 hcg4 hfg0 hfg1 hfg2 hfg3 hfg4
            by_cases d : 0 ≤ j
            · have db : decide (0 ≤ j) = true := decide_eq_true d
              have hj1 : j < (l0.length : Int) := by omega
              have hjs : j < (l1.length : Int) := by have := HN.out; have := HT.out.1; omega
              have HF : Aside0 (step1 l0 a2 s = ⟨s.st.set j.toNat ((rd_L1 s.st j).set 1 a2), s.w0, j, s.e0, wrap64 (a2 + rd (rd_L1 l0 j) 1)⟩) := ⟨by unfold step1; rw [if_neg (by have := HCN.out; omega), hj, if_pos d]⟩
              obtain ⟨adv, hadv⟩ : ∃ a_, Av = some a_ := by
                obtain ⟨a_, _, _, h_, _⟩ := at_L1 (Kd.S_reads' HS3.out).2.2 j d (by have := HN.out; omega)
                exact ⟨a_, h_⟩
              subst hadv
              have z1 := rowsTwo_at HT.out d hj1
              have z0 := rowsTwo_at HT0.out d hj1
              obtain ⟨gr, cr, hrow, hrx, hrf, hrb, hrt, hrS⟩ := row_store HS3.out j 1 ⟨d, hjs⟩ ⟨by omega, by rw [z1]; omega⟩ a2
              rw [z1] at hrow
              have NEG := Aside0.mk (blk8_ne BQ3.out hrt)
              have NE6 := Aside0.mk (blk8_ne B63.out hrt)
              have HRB := Aside0.mk hrb
              have HRS := Aside0.mk hrS
              have HJ := Aside0.mk (And.intro d hj1)
              have pj := eq_true d
              have qj := eq_true hj1
              have qs := eq_true hjs
              clear d hj hj1 hjs hjin hrt z1 hrb hrS
              obtain ⟨hcg0, hcg1, hcg2, hcg3, hcg4⟩ := blk8_cells BQ3.out
              obtain ⟨hfg0, hfg1, hfg2, hfg3, hfg4⟩ := blk8_frozen BQ3.out
              replace hrx : w3.cell? ⟨gr, 1, none⟩ = some (.int .i64 (rd (rd_L1 s.st j) 1)) := hrx
              replace hrf : w3.frozen? ⟨gr, 1, none⟩ = false := hrf
              go_upto_region 14 with (fail)
              obtain ⟨w4, hw4⟩ : ∃ w_, w_ = w3.setCell ⟨gr, 1, none⟩ (.int .i64 a2) := ⟨_, rfl⟩
              rw [← hw4]
              have BQ4 : Aside0 (Blk8 w4 g (.slice (some adv) l1.length cv) s.w0 s.w1 s.e0 s.e1) := ⟨by rw [hw4]; exact blk8_far BQ3.out NEG.out _⟩
              have B64 : Aside0 (Blk8 w4 g6 (.slice none 0 0) 0 0 0 0) := ⟨by rw [hw4]; exact blk8_far B63.out NE6.out _⟩
              have HS4 : Aside0 (Kd.S (Kd.slice 3 (Kd.int .i64)) 41 w4 w.heap.size (fun _ => True) (.slice (some adv) l1.length cv) (s.st.set j.toNat ((rd_L1 s.st j).set 1 a2))) := ⟨by rw [hw4]; exact HRS.out⟩
              have HB4 : Aside0 (Below w.heap.size w w4) := ⟨by rw [hw4]; exact below_set HB3.out HRB.out⟩
              clear hw4 BQ3 B63 HS3 HB3 HRS hrow hrx hrf hcg0 hcg1 hcg2 hcg3 hcg4 hfg0 hfg1 hfg2 hfg3 hfg4
              obtain ⟨hcg0, hcg1, hcg2, hcg3, hcg4⟩ := blk8_cells BQ4.out
              obtain ⟨hfg0, hfg1, hfg2, hfg3, hfg4⟩ := blk8_frozen BQ4.out
              go_upto_region 15 with (fail)
              obtain ⟨w5, hw5⟩ : ∃ w_, w_ = w4.setCell ⟨g, 2, none⟩ (.int .i64 j) := ⟨_, rfl⟩
              rw [← hw5]
              have BQ5 : Aside0 (Blk8 w5 g (.slice (some adv) l1.length cv) s.w0 j s.e0 s.e1) := ⟨by rw [hw5]; exact blk8_2 BQ4.out j⟩
              have B65 : Aside0 (Blk8 w5 g6 (.slice none 0 0) 0 0 0 0) := ⟨by rw [hw5]; exact blk8_far B64.out HNE.out.1 _⟩
              have HS5 : Aside0 (Kd.S (Kd.slice 3 (Kd.int .i64)) 41 w5 w.heap.size (fun _ => True) (.slice (some adv) l1.length cv) (s.st.set j.toNat ((rd_L1 s.st j).set 1 a2))) := ⟨by rw [hw5]; exact blk8_S BQ4.out HS4.out _ _⟩
              have HB5 : Aside0 (Below w.heap.size w w5) := ⟨by rw [hw5]; exact below_set HB4.out HNE.out.2.1⟩
              clear hw5 BQ4 B64 HS4 HB4 hcg0 hcg1 hcg2 hcg3 hcg4 hfg0 hfg1 hfg2 hfg3 hfg4
              obtain ⟨ad0, Ah, ch, ea0, hx0, hl0, hi0⟩ := at_L1 (Kd.C_below HR0.out HB5.out) j HJ.out.1 HJ.out.2
              subst ea0
              have z0 := rowsTwo_at HT0.out HJ.out.1 HJ.out.2
              obtain ⟨adh, eh, hz1⟩ := Kd.at_int hi0 1 (by omega) (by rw [z0]; omega)
              subst eh
              rw [z0] at hx0
              obtain ⟨vt, hvt⟩ : ∃ x_, rd (rd_L1 l0 j) 1 = x_ := ⟨_, rfl⟩
              rw [hvt] at hz1
              replace hz1 : w5.cell? ⟨adh.block, adh.off + 1, none⟩ = some (.int .i64 vt) := hz1
              have HVT := Aside0.mk hvt
              clear hi0 hl0 z0 hvt
              obtain ⟨hcg0, hcg1, hcg2, hcg3, hcg4⟩ := blk8_cells BQ5.out
              obtain ⟨hfg0, hfg1, hfg2, hfg3, hfg4⟩ := blk8_frozen BQ5.out
              go_wp2
              go_roundg 0
              case measure => have := HG.out; omega
              case rel => exact ⟨2, ⟨s.st.set j.toNat ((rd_L1 s.st j).set 1 a2), s.w0, j, s.e0, wrap64 (a2 + rd (rd_L1 l0 j) 1)⟩, (by first | rfl | (simp; done)), ⟨by refine ⟨by omega, ?_⟩; rw [if_neg (by omega), if_neg (by omega), ← HS2.out]; exact HF.out.symm⟩, ⟨by have h := blk8_4 BQ5.out (wrap64 (a2 + vt)); rw [← HVT.out] at h ⊢; first | exact h | (rw [i64_w]; exact h)⟩, ⟨blk8_far B65.out HNE.out.1 _⟩, ⟨blk8_S BQ5.out HS5.out _ _⟩, ⟨by rw [← HF.out]; exact step1_two HL.out HT.out⟩, ⟨below_set HB5.out HNE.out.2.1⟩⟩
            · have db : decide (0 ≤ j) = false := decide_eq_false d
              have HF : Aside0 (step1 l0 a2 s = s) := ⟨by unfold step1; rw [if_neg (by have := HCN.out; omega), hj, if_neg d]⟩
              clear d hj hjin
              go_wp2
              go_roundg 0
              case measure => have := HG.out; omega
              case rel => exact ⟨2, s, (by first | rfl | (simp; done)), ⟨by refine ⟨by omega, ?_⟩; rw [if_neg (by omega), if_neg (by omega), ← HS2.out, HF.out]⟩, BQ3, B63, HS3, HT, HB3⟩
        · rw [if_neg (by omega), if_neg (by omega), HR.out] at hk2
          have hh := H.out
          rw [← hk2] at hh
          obtain ⟨q1, q2, q3, q4, q5⟩ : s.st = r1 ∧ s.w0 = r2 ∧ s.w1 = r3 ∧ s.e0 = r4 ∧ s.e1 = r5 := by simpa using hh
          have BQ' : Aside0 (Blk8 wr g (.slice Av l1.length cv) r2 r3 r4 r5) := ⟨by rw [← q2, ← q3, ← q4, ← q5]; exact BQ.out⟩
          have HS' : Aside0 (Kd.S (Kd.slice 3 (Kd.int .i64)) 41 wr w.heap.size (fun _ => True) (.slice Av l1.length cv) r1) := ⟨by rw [← q1]; exact HS.out⟩
          clear hk1 hk2 hh q1 q2 q3 q4 q5 BQ HS H HT
          obtain ⟨hcz0, hcz1, hcz2, hcz3, hcz4⟩ := blk8_cells B6.out
          obtain ⟨hfz0, hfz1, hfz2, hfz3, hfz4⟩ := blk8_frozen B6.out
          obtain ⟨hcg0, hcg1, hcg2, hcg3, hcg4⟩ := blk8_cells BQ'.out
          obtain ⟨hfg0, hfg1, hfg2, hfg3, hfg4⟩ := blk8_frozen BQ'.out
          go_wp2
          have b1 := blk8_0 B6.out (.slice Av l1.length cv)
          have b2 := blk8_1 b1 r2
          have b3 := blk8_2 b2 r3
          have b4 := blk8_3 b3 r4
          have b5 := blk8_4 b4 r5
          refine bodyPost_ret (results_cell_row rfl _ _ g6 92 #[.slice Av l1.length cv, .int .i64 r2, .int .i64 r3, .int .i64 r4, .int .i64 r5] (0, 0) _ rfl b5 Try.underlying92 rfl (by kernel_rfl)) rfl ?_
          exact ⟨_, rfl, blk8_S b4 (blk8_S b3 (blk8_S b2 (blk8_S b1 (blk8_S B6.out HS'.out _ _) _ _) _ _) _ _) _ _, below_set (below_set (below_set (below_set (below_set HB.out HNE.out.2.2) HNE.out.2.2) HNE.out.2.2) HNE.out.2.2) HNE.out.2.2⟩

end Go.Proofs.Ytbblhmpcpmamfaa.XFnExactOpenSchedule
