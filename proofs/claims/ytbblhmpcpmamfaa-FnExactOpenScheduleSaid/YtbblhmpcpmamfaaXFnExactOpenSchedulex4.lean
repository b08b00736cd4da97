-- Written by a program of this session (the kit's print, widened). Proved here: what each function answers, for the arguments that its contract names.
import Derived.Test.YtbblhmpcpmamfaaXFnExactOpenSchedulex0
import Derived.Test.YtbblhmpcpmamfaaXFnExactOpenSchedulex3
namespace Go.Proofs.Ytbblhmpcpmamfaa.XFnExactOpenSchedule
open Go.RowKit Go.Proofs.YtbblhmpcpmamfaaW.PrintWords Go.Proofs.YtbblhmpcpmamfaaW.PrintLast Go.Proofs.YtbblhmpcpmamfaaW.PrintMore
attribute [local go_sem] max2_int min2_int max_two min_two max_three min_three max_four min_four   -- for this text's walks alone
attribute [local go_sem] idxA_77_0 idxA_77_1 fldS_68_0 fldS_68_1 fldS_73_0 fldS_73_1 fldS_73_2
set_option linter.unusedVariables false
set_option linter.unusedSimpArgs false

/-! ### spec_l8Pick: function 116, by hand -/
/-! ### spec_l8Pick, by hand: the state is a boxed struct (starts, work, ends), told by its five fields -/
/-- rows of two, as many as the shop has -/
def RowsTwo (n : Nat) (l : List (List Int)) : Prop := l.length = n ∧ ∀ r ∈ l, r.length = 2
theorem rowsTwo_at {n : Nat} {l : List (List Int)} (h : RowsTwo n l) {i : Int} (h0 : 0 ≤ i) (h1 : i < (n : Int)) : (rd_L1 l i).length = 2 := by
  have hl : i.toNat < l.length := by rw [h.1]; omega
  have : rd_L1 l i = l[i.toNat] := by simp [rd_L1, List.getD_eq_getElem?_getD, List.getElem?_eq_getElem hl]
  rw [this]; exact h.2 _ (List.getElem_mem hl)
def pickRank (shop st : List (List Int)) (o i : Int) : Int := if rd (rd_L1 st i) o < 0 then wrap64 (1 + rd (rd_L1 shop i) o) else 0
def pickF (shop st : List (List Int)) (wo kk o : Int) : Nat → Int → Int → Int → Int
  | 0, _, b, _ => b
  | c + 1, i, b, m => if rd (rd_L1 st i) kk ≥ 0 ∨ wo = i then pickF shop st wo kk o c (wrap64 (i + 1)) b m else if pickRank shop st o i > m then pickF shop st wo kk o c (wrap64 (i + 1)) i (pickRank shop st o i) else pickF shop st wo kk o c (wrap64 (i + 1)) b m
instance (n : Nat) (l : List (List Int)) : Decidable (RowsTwo n l) := inferInstanceAs (Decidable (_ ∧ _))
def spec_l8Pick.f (k : Nat) (l0 l1 : List (List Int)) (w0 w1 e0 e1 a2 : Int) : Option Int := if RowsTwo l0.length l0 ∧ RowsTwo l0.length l1 ∧ l0.length ≤ 1048576 ∧ (a2 = 0 ∨ a2 = 1) then some (pickF l0 l1 (if a2 = 0 then w1 else w0) a2 (1 - a2) l0.length 0 (-1) (-1)) else none
theorem spec_l8Pick.mono : ∀ l0 l1 w0 w1 e0 e1 a2 k, LeO (spec_l8Pick.f k l0 l1 w0 w1 e0 e1 a2) (spec_l8Pick.f (k + 1) l0 l1 w0 w1 e0 e1 a2) := fun _ _ _ _ _ _ _ _ _ h => h
set_option maxHeartbeats 8000000 in
set_option maxRecDepth 100000 in
theorem spec_l8Pick.calls0 (A0 : Option Addr) (c0 : Nat) (l0 : List (List Int)) (A1 : Option Addr) (c1 : Nat) (l1 : List (List Int)) (w0 w1 e0 e1 r : Int) (w : World) (hr0 : Kd.C (Kd.slice 3 (Kd.int .i64)) w A0 l0.length l0) (hc0 : l0.length ≤ c0) (hr1 : Kd.C (Kd.slice 3 (Kd.int .i64)) w A1 l1.length l1) (hc1 : l1.length ≤ c1) (ht0 : RowsTwo l0.length l0) (ht1 : RowsTwo l0.length l1) (hl : l0.length ≤ 1048576) (h : pickF l0 l1 w1 0 1 l0.length 0 (-1) (-1) = r) :
    Calls Try.prog 116 #[.slice A0 l0.length c0, .agg #[.slice A1 l1.length c1, .int .i64 w0, .int .i64 w1, .int .i64 e0, .int .i64 e1], .int .i64 0] w fun e w' => e = .returned (.int .i64 r) ∧ Below w.heap.size w w' := by
  have HR0 := Aside0.mk hr0
  have HR1 := Aside0.mk hr1
  have HT0 := Aside0.mk ht0
  have HT1 := Aside0.mk ht1
  have HL := Aside0.mk hl
  have H := Aside0.mk h
  clear hr0 hr1 hc0 hc1 ht0 ht1 hl h
  go_enter Try.func116, Try.ntmps116
  go_wp2
  obtain ⟨wq, hwq⟩ : ∃ w_, w_ = w.alloc (Obj.cells #[Value.slice A1 l1.length c1, Value.int IntKind.i64 w0, Value.int IntKind.i64 w1, Value.int IntKind.i64 e0, Value.int IntKind.i64 e1] 92) := ⟨_, rfl⟩
  have BP : Aside0 (wq.heap[w.heap.size]? = some (.cells #[Value.slice A1 l1.length c1, Value.int IntKind.i64 w0, Value.int IntKind.i64 w1, Value.int IntKind.i64 e0, Value.int IntKind.i64 e1] 92 (0, 0))) := ⟨by rw [hwq]; exact World.alloc_heap_new w _⟩
  have HSP : Aside0 (w.heap.size < wq.heap.size) := ⟨by rw [hwq, alloc_size]; omega⟩
  have HBQ : Aside0 (Below w.heap.size w wq) := ⟨by rw [hwq]; exact below_alloc (Below.refl _ _) _⟩
  obtain ⟨g, hg⟩ : ∃ g_, g_ = w.heap.size := ⟨_, rfl⟩
  rw [← hwq, ← hg]
  rw [← hg] at BP HSP
  clear hwq hg
  go_loopg [7, 8, 9] l0.length (fun kq v7 v8 v9 w' => ∃ (i : Nat) (b m : Int), v7 = .int .i64 b ∧ v8 = .int .i64 m ∧ v9 = .int .i64 (i : Int) ∧ Aside0 (i + kq = l0.length) ∧ Aside0 (pickF l0 l1 w1 0 1 kq (i : Int) b m = r) ∧ Aside0 (Below wq.heap.size wq w'))
  case atStart => exact ⟨0, -1, -1, (by first | rfl | (simp; done)), (by first | rfl | (simp; done)), (by first | rfl | (simp; done)), ⟨by omega⟩, ⟨H.out⟩, ⟨by repeat (first | exact Below.refl _ _ | apply below_alloc | apply pw_below_drewN | apply below_drew1)⟩⟩
  case round =>
    clear H
    obtain ⟨i, b, m, rfl, rfl, rfl, HK, H, HBW⟩ := hrel
    have HBR := Aside0.mk (below_step HBQ.out HBW.out)
    cases gk with
    | zero =>
      have cb : decide ((i : Int) < (l0.length : Int)) = false := decide_eq_false (by have := HK.out; omega)
      have cbn : decide (i < l0.length) = false := decide_eq_false (by have := HK.out; omega)
      have HE : Aside0 (b = r) := ⟨by have := H.out; rwa [pickF] at this⟩
      go_wp2
      go_ret
      exact ⟨by rw [HE.out]; rfl, by repeat (first | exact HBR.out | apply below_alloc | apply pw_below_drewN | apply below_drew1)⟩
    | succ gc =>
      have ci : (i : Int) < (l0.length : Int) := by have := HK.out; omega
      have cis : (i : Int) < (l1.length : Int) := by have := HT1.out.1; omega
      have cb : decide ((i : Int) < (l0.length : Int)) = true := decide_eq_true ci
      have cbn : decide (i < l0.length) = true := decide_eq_true (by omega)
      have pi : 0 ≤ (i : Int) := by omega
      have bpw : wr.heap[g]? = some (.cells #[Value.slice A1 l1.length c1, Value.int IntKind.i64 w0, Value.int IntKind.i64 w1, Value.int IntKind.i64 e0, Value.int IntKind.i64 e1] 92 (0, 0)) := (HBW.out.block _ HSP.out).trans BP.out
      have hc_0 : wr.cell? ⟨g, 0, none⟩ = some (.slice A1 l1.length c1) := (blk_cell bpw 0).trans rfl
      have hc_1 : wr.cell? ⟨g, 1, none⟩ = some (.int .i64 w0) := (blk_cell bpw 1).trans rfl
      have hc_2 : wr.cell? ⟨g, 2, none⟩ = some (.int .i64 w1) := (blk_cell bpw 2).trans rfl
      obtain ⟨ad1, As, cs, ea1, hx1, hl1, hi1⟩ := at_L1 (Kd.C_below HR1.out HBR.out) (i : Int) pi cis
      obtain ⟨ad0, Ah, ch, ea0, hx0, hl0, hi0⟩ := at_L1 (Kd.C_below HR0.out HBR.out) (i : Int) pi ci
      subst ea1
      subst ea0
      have z1 := rowsTwo_at HT1.out pi ci
      have z0 := rowsTwo_at HT0.out pi ci
      obtain ⟨adk, ek, hy0⟩ := Kd.at_int hi1 0 (by omega) (by rw [z1]; omega)
      obtain ⟨ad_, e_, hy1⟩ := Kd.at_int hi1 1 (by omega) (by rw [z1]; omega)
      subst ek
      obtain rfl : adk = ad_ := by injection e_
      obtain ⟨adh, eh, hz1⟩ := Kd.at_int hi0 1 (by omega) (by rw [z0]; omega)
      subst eh
      rw [z1] at hx1
      rw [z0] at hx0
      obtain ⟨va, hva⟩ : ∃ x_, rd (rd_L1 l1 (i : Int)) 0 = x_ := ⟨_, rfl⟩
      obtain ⟨vb, hvb⟩ : ∃ x_, rd (rd_L1 l1 (i : Int)) 1 = x_ := ⟨_, rfl⟩
      obtain ⟨vc, hvc⟩ : ∃ x_, rd (rd_L1 l0 (i : Int)) 1 = x_ := ⟨_, rfl⟩
      rw [hva] at hy0
      rw [hvb] at hy1
      rw [hvc] at hz1
      have HW : Aside0 (wrap64 ((i : Int) + 1) = (i : Int) + 1) := ⟨by unfold wrap64; have := HL.out; omega⟩
      have hw1 : IntKind.i64.wrap ((i : Int) + 1) = (i : Int) + 1 := (i64_w _).trans HW.out
      have hh := H.out
      rw [pickF, hva, HW.out] at hh
      have hrk : pickRank l0 l1 1 (i : Int) = if vb < 0 then wrap64 (1 + vc) else 0 := by unfold pickRank; rw [hvb, hvc]
      rw [hrk] at hh
      clear hva hvb hvc hrk hi0 hi1 hl0 hl1 z0 z1 e_ bpw H
      replace hy0 : wr.cell? adk = some (.int .i64 va) := hy0
      replace hy1 : wr.cell? ⟨adk.block, adk.off + 1, none⟩ = some (.int .i64 vb) := hy1
      replace hz1 : wr.cell? ⟨adh.block, adh.off + 1, none⟩ = some (.int .i64 vc) := hz1
      try rw [Int.toNat_natCast] at hx1
      try rw [Int.toNat_natCast] at hx0
      have qi := eq_true ci
      have qs := eq_true cis
      replace pi := eq_true pi
      by_cases ca : 0 ≤ va
      · have cab : decide (0 ≤ va) = true := decide_eq_true ca
        rw [if_pos (.inl ca)] at hh
        have HN := Aside0.mk hh
        clear hh ca ci cis
        go_wp2
        go_roundg gc
        case measure => omega
        case rel => exact ⟨i + 1, b, m, (by first | rfl | (simp; done)), (by first | rfl | (simp; done)), (by first | rfl | (rw [hw1]) | (rw [i64_w, HW.out])), ⟨by have := HK.out; omega⟩, ⟨HN.out⟩, ⟨by repeat (first | exact HBW.out | apply below_alloc | apply pw_below_drewN | apply below_drew1)⟩⟩
      · by_cases cw : w1 = (i : Int)
        · have cab : decide (0 ≤ va) = false := decide_eq_false ca
          have cwb : decide (w1 = (i : Int)) = true := decide_eq_true cw
          have cwc : (w1 == (i : Int)) = true := by simpa using cw
          rw [if_pos (.inr cw)] at hh
          have HN := Aside0.mk hh
          clear hh ca ci cis cw
          go_wp2
          go_roundg gc
          case measure => omega
          case rel => exact ⟨i + 1, b, m, (by first | rfl | (simp; done)), (by first | rfl | (simp; done)), (by first | rfl | (rw [hw1]) | (rw [i64_w, HW.out])), ⟨by have := HK.out; omega⟩, ⟨HN.out⟩, ⟨by repeat (first | exact HBW.out | apply below_alloc | apply pw_below_drewN | apply below_drew1)⟩⟩
        · have cab : decide (0 ≤ va) = false := decide_eq_false ca
          have cwb : decide (w1 = (i : Int)) = false := decide_eq_false cw
          have cwc : (w1 == (i : Int)) = false := by simpa using cw
          rw [if_neg (fun h => h.elim ca cw)] at hh
          clear ca ci cis cw
          by_cases cv : vb < 0
          · have cvb : decide (vb < 0) = true := decide_eq_true cv
            rw [if_pos cv] at hh
            obtain ⟨rk, hrk⟩ : ∃ x_, wrap64 (1 + vc) = x_ := ⟨_, rfl⟩
            have hrk2 : IntKind.i64.wrap (1 + vc) = rk := (i64_w _).trans hrk
            rw [hrk] at hh
            by_cases cm : m < rk
            · have cmb : decide (m < rk) = true := decide_eq_true cm
              rw [if_pos cm] at hh
              have HN := Aside0.mk hh
              clear hh cv cm hrk
              go_wp2
              go_roundg gc
              case measure => omega
              case rel => exact ⟨i + 1, (i : Int), rk, (by first | rfl | (simp; done)), (by first | rfl | (simp; done)), (by first | rfl | (rw [hw1]) | (rw [i64_w, HW.out])), ⟨by have := HK.out; omega⟩, ⟨HN.out⟩, ⟨by repeat (first | exact HBW.out | apply below_alloc | apply pw_below_drewN | apply below_drew1)⟩⟩
            · have cmb : decide (m < rk) = false := decide_eq_false cm
              rw [if_neg cm] at hh
              have HN := Aside0.mk hh
              clear hh cv cm hrk
              go_wp2
              go_roundg gc
              case measure => omega
              case rel => exact ⟨i + 1, b, m, (by first | rfl | (simp; done)), (by first | rfl | (simp; done)), (by first | rfl | (rw [hw1]) | (rw [i64_w, HW.out])), ⟨by have := HK.out; omega⟩, ⟨HN.out⟩, ⟨by repeat (first | exact HBW.out | apply below_alloc | apply pw_below_drewN | apply below_drew1)⟩⟩
          · have cvb : decide (vb < 0) = false := decide_eq_false cv
            rw [if_neg cv] at hh
            by_cases cm : m < 0
            · have cmb : decide (m < 0) = true := decide_eq_true cm
              rw [if_pos cm] at hh
              have HN := Aside0.mk hh
              clear hh cv cm
              go_wp2
              go_roundg gc
              case measure => omega
              case rel => exact ⟨i + 1, (i : Int), 0, (by first | rfl | (simp; done)), (by first | rfl | (simp; done)), (by first | rfl | (rw [hw1]) | (rw [i64_w, HW.out])), ⟨by have := HK.out; omega⟩, ⟨HN.out⟩, ⟨by repeat (first | exact HBW.out | apply below_alloc | apply pw_below_drewN | apply below_drew1)⟩⟩
            · have cmb : decide (m < 0) = false := decide_eq_false cm
              rw [if_neg cm] at hh
              have HN := Aside0.mk hh
              clear hh cv cm
              go_wp2
              go_roundg gc
              case measure => omega
              case rel => exact ⟨i + 1, b, m, (by first | rfl | (simp; done)), (by first | rfl | (simp; done)), (by first | rfl | (rw [hw1]) | (rw [i64_w, HW.out])), ⟨by have := HK.out; omega⟩, ⟨HN.out⟩, ⟨by repeat (first | exact HBW.out | apply below_alloc | apply pw_below_drewN | apply below_drew1)⟩⟩
set_option maxHeartbeats 8000000 in
set_option maxRecDepth 100000 in
theorem spec_l8Pick.calls1 (A0 : Option Addr) (c0 : Nat) (l0 : List (List Int)) (A1 : Option Addr) (c1 : Nat) (l1 : List (List Int)) (w0 w1 e0 e1 r : Int) (w : World) (hr0 : Kd.C (Kd.slice 3 (Kd.int .i64)) w A0 l0.length l0) (hc0 : l0.length ≤ c0) (hr1 : Kd.C (Kd.slice 3 (Kd.int .i64)) w A1 l1.length l1) (hc1 : l1.length ≤ c1) (ht0 : RowsTwo l0.length l0) (ht1 : RowsTwo l0.length l1) (hl : l0.length ≤ 1048576) (h : pickF l0 l1 w0 1 0 l0.length 0 (-1) (-1) = r) :
    Calls Try.prog 116 #[.slice A0 l0.length c0, .agg #[.slice A1 l1.length c1, .int .i64 w0, .int .i64 w1, .int .i64 e0, .int .i64 e1], .int .i64 1] w fun e w' => e = .returned (.int .i64 r) ∧ Below w.heap.size w w' := by
  have HR0 := Aside0.mk hr0
  have HR1 := Aside0.mk hr1
  have HT0 := Aside0.mk ht0
  have HT1 := Aside0.mk ht1
  have HL := Aside0.mk hl
  have H := Aside0.mk h
  clear hr0 hr1 hc0 hc1 ht0 ht1 hl h
  go_enter Try.func116, Try.ntmps116
  go_wp2
  obtain ⟨wq, hwq⟩ : ∃ w_, w_ = w.alloc (Obj.cells #[Value.slice A1 l1.length c1, Value.int IntKind.i64 w0, Value.int IntKind.i64 w1, Value.int IntKind.i64 e0, Value.int IntKind.i64 e1] 92) := ⟨_, rfl⟩
  have BP : Aside0 (wq.heap[w.heap.size]? = some (.cells #[Value.slice A1 l1.length c1, Value.int IntKind.i64 w0, Value.int IntKind.i64 w1, Value.int IntKind.i64 e0, Value.int IntKind.i64 e1] 92 (0, 0))) := ⟨by rw [hwq]; exact World.alloc_heap_new w _⟩
  have HSP : Aside0 (w.heap.size < wq.heap.size) := ⟨by rw [hwq, alloc_size]; omega⟩
  have HBQ : Aside0 (Below w.heap.size w wq) := ⟨by rw [hwq]; exact below_alloc (Below.refl _ _) _⟩
  obtain ⟨g, hg⟩ : ∃ g_, g_ = w.heap.size := ⟨_, rfl⟩
  rw [← hwq, ← hg]
  rw [← hg] at BP HSP
  clear hwq hg
  go_loopg [7, 8, 9] l0.length (fun kq v7 v8 v9 w' => ∃ (i : Nat) (b m : Int), v7 = .int .i64 b ∧ v8 = .int .i64 m ∧ v9 = .int .i64 (i : Int) ∧ Aside0 (i + kq = l0.length) ∧ Aside0 (pickF l0 l1 w0 1 0 kq (i : Int) b m = r) ∧ Aside0 (Below wq.heap.size wq w'))
  case atStart => exact ⟨0, -1, -1, (by first | rfl | (simp; done)), (by first | rfl | (simp; done)), (by first | rfl | (simp; done)), ⟨by omega⟩, ⟨H.out⟩, ⟨by repeat (first | exact Below.refl _ _ | apply below_alloc | apply pw_below_drewN | apply below_drew1)⟩⟩
  case round =>
    clear H
    obtain ⟨i, b, m, rfl, rfl, rfl, HK, H, HBW⟩ := hrel
    have HBR := Aside0.mk (below_step HBQ.out HBW.out)
    cases gk with
    | zero =>
      have cb : decide ((i : Int) < (l0.length : Int)) = false := decide_eq_false (by have := HK.out; omega)
      have cbn : decide (i < l0.length) = false := decide_eq_false (by have := HK.out; omega)
      have HE : Aside0 (b = r) := ⟨by have := H.out; rwa [pickF] at this⟩
      go_wp2
      go_ret
      exact ⟨by rw [HE.out]; rfl, by repeat (first | exact HBR.out | apply below_alloc | apply pw_below_drewN | apply below_drew1)⟩
    | succ gc =>
      have ci : (i : Int) < (l0.length : Int) := by have := HK.out; omega
      have cis : (i : Int) < (l1.length : Int) := by have := HT1.out.1; omega
      have cb : decide ((i : Int) < (l0.length : Int)) = true := decide_eq_true ci
      have cbn : decide (i < l0.length) = true := decide_eq_true (by omega)
      have pi : 0 ≤ (i : Int) := by omega
      have bpw : wr.heap[g]? = some (.cells #[Value.slice A1 l1.length c1, Value.int IntKind.i64 w0, Value.int IntKind.i64 w1, Value.int IntKind.i64 e0, Value.int IntKind.i64 e1] 92 (0, 0)) := (HBW.out.block _ HSP.out).trans BP.out
      have hc_0 : wr.cell? ⟨g, 0, none⟩ = some (.slice A1 l1.length c1) := (blk_cell bpw 0).trans rfl
      have hc_1 : wr.cell? ⟨g, 1, none⟩ = some (.int .i64 w0) := (blk_cell bpw 1).trans rfl
      have hc_2 : wr.cell? ⟨g, 2, none⟩ = some (.int .i64 w1) := (blk_cell bpw 2).trans rfl
      obtain ⟨ad1, As, cs, ea1, hx1, hl1, hi1⟩ := at_L1 (Kd.C_below HR1.out HBR.out) (i : Int) pi cis
      obtain ⟨ad0, Ah, ch, ea0, hx0, hl0, hi0⟩ := at_L1 (Kd.C_below HR0.out HBR.out) (i : Int) pi ci
      subst ea1
      subst ea0
      have z1 := rowsTwo_at HT1.out pi ci
      have z0 := rowsTwo_at HT0.out pi ci
      obtain ⟨adk, ek, hy0⟩ := Kd.at_int hi1 1 (by omega) (by rw [z1]; omega)
      obtain ⟨ad_, e_, hy1⟩ := Kd.at_int hi1 0 (by omega) (by rw [z1]; omega)
      subst ek
      obtain rfl : adk = ad_ := by injection e_
      obtain ⟨adh, eh, hz1⟩ := Kd.at_int hi0 0 (by omega) (by rw [z0]; omega)
      subst eh
      rw [z1] at hx1
      rw [z0] at hx0
      obtain ⟨va, hva⟩ : ∃ x_, rd (rd_L1 l1 (i : Int)) 1 = x_ := ⟨_, rfl⟩
      obtain ⟨vb, hvb⟩ : ∃ x_, rd (rd_L1 l1 (i : Int)) 0 = x_ := ⟨_, rfl⟩
      obtain ⟨vc, hvc⟩ : ∃ x_, rd (rd_L1 l0 (i : Int)) 0 = x_ := ⟨_, rfl⟩
      rw [hva] at hy0
      rw [hvb] at hy1
      rw [hvc] at hz1
      have HW : Aside0 (wrap64 ((i : Int) + 1) = (i : Int) + 1) := ⟨by unfold wrap64; have := HL.out; omega⟩
      have hw1 : IntKind.i64.wrap ((i : Int) + 1) = (i : Int) + 1 := (i64_w _).trans HW.out
      have hh := H.out
      rw [pickF, hva, HW.out] at hh
      have hrk : pickRank l0 l1 0 (i : Int) = if vb < 0 then wrap64 (1 + vc) else 0 := by unfold pickRank; rw [hvb, hvc]
      rw [hrk] at hh
      clear hva hvb hvc hrk hi0 hi1 hl0 hl1 z0 z1 e_ bpw H
      replace hy0 : wr.cell? ⟨adk.block, adk.off + 1, none⟩ = some (.int .i64 va) := hy0
      replace hy1 : wr.cell? adk = some (.int .i64 vb) := hy1
      replace hz1 : wr.cell? adh = some (.int .i64 vc) := hz1
      try rw [Int.toNat_natCast] at hx1
      try rw [Int.toNat_natCast] at hx0
      have qi := eq_true ci
      have qs := eq_true cis
      replace pi := eq_true pi
      by_cases ca : 0 ≤ va
      · have cab : decide (0 ≤ va) = true := decide_eq_true ca
        rw [if_pos (.inl ca)] at hh
        have HN := Aside0.mk hh
        clear hh ca ci cis
        go_wp2
        go_roundg gc
        case measure => omega
        case rel => exact ⟨i + 1, b, m, (by first | rfl | (simp; done)), (by first | rfl | (simp; done)), (by first | rfl | (rw [hw1]) | (rw [i64_w, HW.out])), ⟨by have := HK.out; omega⟩, ⟨HN.out⟩, ⟨by repeat (first | exact HBW.out | apply below_alloc | apply pw_below_drewN | apply below_drew1)⟩⟩
      · by_cases cw : w0 = (i : Int)
        · have cab : decide (0 ≤ va) = false := decide_eq_false ca
          have cwb : decide (w0 = (i : Int)) = true := decide_eq_true cw
          have cwc : (w0 == (i : Int)) = true := by simpa using cw
          rw [if_pos (.inr cw)] at hh
          have HN := Aside0.mk hh
          clear hh ca ci cis cw
          go_wp2
          go_roundg gc
          case measure => omega
          case rel => exact ⟨i + 1, b, m, (by first | rfl | (simp; done)), (by first | rfl | (simp; done)), (by first | rfl | (rw [hw1]) | (rw [i64_w, HW.out])), ⟨by have := HK.out; omega⟩, ⟨HN.out⟩, ⟨by repeat (first | exact HBW.out | apply below_alloc | apply pw_below_drewN | apply below_drew1)⟩⟩
        · have cab : decide (0 ≤ va) = false := decide_eq_false ca
          have cwb : decide (w0 = (i : Int)) = false := decide_eq_false cw
          have cwc : (w0 == (i : Int)) = false := by simpa using cw
          rw [if_neg (fun h => h.elim ca cw)] at hh
          clear ca ci cis cw
          by_cases cv : vb < 0
          · have cvb : decide (vb < 0) = true := decide_eq_true cv
            rw [if_pos cv] at hh
            obtain ⟨rk, hrk⟩ : ∃ x_, wrap64 (1 + vc) = x_ := ⟨_, rfl⟩
            have hrk2 : IntKind.i64.wrap (1 + vc) = rk := (i64_w _).trans hrk
            rw [hrk] at hh
            by_cases cm : m < rk
            · have cmb : decide (m < rk) = true := decide_eq_true cm
              rw [if_pos cm] at hh
              have HN := Aside0.mk hh
              clear hh cv cm hrk
              go_wp2
              go_roundg gc
              case measure => omega
              case rel => exact ⟨i + 1, (i : Int), rk, (by first | rfl | (simp; done)), (by first | rfl | (simp; done)), (by first | rfl | (rw [hw1]) | (rw [i64_w, HW.out])), ⟨by have := HK.out; omega⟩, ⟨HN.out⟩, ⟨by repeat (first | exact HBW.out | apply below_alloc | apply pw_below_drewN | apply below_drew1)⟩⟩
            · have cmb : decide (m < rk) = false := decide_eq_false cm
              rw [if_neg cm] at hh
              have HN := Aside0.mk hh
              clear hh cv cm hrk
              go_wp2
              go_roundg gc
              case measure => omega
              case rel => exact ⟨i + 1, b, m, (by first | rfl | (simp; done)), (by first | rfl | (simp; done)), (by first | rfl | (rw [hw1]) | (rw [i64_w, HW.out])), ⟨by have := HK.out; omega⟩, ⟨HN.out⟩, ⟨by repeat (first | exact HBW.out | apply below_alloc | apply pw_below_drewN | apply below_drew1)⟩⟩
          · have cvb : decide (vb < 0) = false := decide_eq_false cv
            rw [if_neg cv] at hh
            by_cases cm : m < 0
            · have cmb : decide (m < 0) = true := decide_eq_true cm
              rw [if_pos cm] at hh
              have HN := Aside0.mk hh
              clear hh cv cm
              go_wp2
              go_roundg gc
              case measure => omega
              case rel => exact ⟨i + 1, (i : Int), 0, (by first | rfl | (simp; done)), (by first | rfl | (simp; done)), (by first | rfl | (rw [hw1]) | (rw [i64_w, HW.out])), ⟨by have := HK.out; omega⟩, ⟨HN.out⟩, ⟨by repeat (first | exact HBW.out | apply below_alloc | apply pw_below_drewN | apply below_drew1)⟩⟩
            · have cmb : decide (m < 0) = false := decide_eq_false cm
              rw [if_neg cm] at hh
              have HN := Aside0.mk hh
              clear hh cv cm
              go_wp2
              go_roundg gc
              case measure => omega
              case rel => exact ⟨i + 1, b, m, (by first | rfl | (simp; done)), (by first | rfl | (simp; done)), (by first | rfl | (rw [hw1]) | (rw [i64_w, HW.out])), ⟨by have := HK.out; omega⟩, ⟨HN.out⟩, ⟨by repeat (first | exact HBW.out | apply below_alloc | apply pw_below_drewN | apply below_drew1)⟩⟩
theorem spec_l8Pick.calls (k : Nat) (A0 : Option Addr) (c0 : Nat) (l0 : List (List Int)) (A1 : Option Addr) (c1 : Nat) (l1 : List (List Int)) (w0 w1 e0 e1 a2 r : Int) (w : World) (hr0 : Kd.C (Kd.slice 3 (Kd.int .i64)) w A0 l0.length l0) (hc0 : l0.length ≤ c0) (hr1 : Kd.C (Kd.slice 3 (Kd.int .i64)) w A1 l1.length l1) (hc1 : l1.length ≤ c1) (h : spec_l8Pick.f k l0 l1 w0 w1 e0 e1 a2 = some r) :
    Calls Try.prog 116 #[.slice A0 l0.length c0, .agg #[.slice A1 l1.length c1, .int .i64 w0, .int .i64 w1, .int .i64 e0, .int .i64 e1], .int .i64 a2] w fun e w' => e = .returned (.int .i64 r) ∧ Below w.heap.size w w' := by
  unfold spec_l8Pick.f at h
  split at h
  case isFalse => cases h
  case isTrue hg =>
  have h := Option.some.inj h
  rcases hg.2.2.2 with rfl | rfl
  · exact spec_l8Pick.calls0 A0 c0 l0 A1 c1 l1 w0 w1 e0 e1 r w hr0 hc0 hr1 hc1 hg.1 hg.2.1 hg.2.2.1 (by simpa using h)
  · exact spec_l8Pick.calls1 A0 c0 l0 A1 c1 l1 w0 w1 e0 e1 r w hr0 hc0 hr1 hc1 hg.1 hg.2.1 hg.2.2.1 (by simpa using h)

end Go.Proofs.Ytbblhmpcpmamfaa.XFnExactOpenSchedule
