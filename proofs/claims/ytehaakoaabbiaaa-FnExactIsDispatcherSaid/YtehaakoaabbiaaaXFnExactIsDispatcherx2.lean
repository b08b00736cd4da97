-- Written by a program of this session (the kit's print, widened). Proved here: what each function answers, for the arguments that its contract names.
import Derived.Test.YtehaakoaabbiaaaXFnExactIsDispatcherx0
import Derived.Test.YtehaakoaabbiaaaXFnExactIsDispatcherx1
namespace Go.Proofs.Ytehaakoaabbiaaa.XFnExactIsDispatcher
open Go.RowKit Go.Proofs.YtehaakoaabbiaaaW.PrintWords Go.Proofs.YtehaakoaabbiaaaW.PrintLast Go.Proofs.YtehaakoaabbiaaaW.PrintMore
attribute [local go_sem] max2_int min2_int max_two min_two max_three min_three max_four min_four   -- for this text's walks alone
set_option linter.unusedVariables false
set_option linter.unusedSimpArgs false

/-! ### spec_l12Tasks: function 62 -/
mutual
def spec_l12Tasks.l0 : Nat → Int → Int → Int → Int → List (S69) → List (S66) → Option (Bool)
 | 0, _, _, _, _, _, _ => none
 | k + 1, x3, x113000, x113001, x113002, x113003, x113004 => if x3 < (x113004.length : Int) then (if 0 ≤ x3 then ((spec_l3Job.f x113003 ((rd_T66 x113004 x3).f0)).bind fun t115 => (if t115 = true then ((spec_l1In.f ((rd_T66 x113004 x3).f1) 0 (wrap64 (x113000 - 1))).bind fun t116 => (if t116 = true then (if ((rd_T66 x113004 x3).f2) ≥ x113002 then (spec_l12Tasks.j1 k x3 true x113000 x113001 x113002 x113003 x113004 ((rd_T66 x113004 x3).f0) ((rd_T66 x113004 x3).f1) ((rd_T66 x113004 x3).f2)) else (if 0 ≤ ((rd_T66 x113004 x3).f0) then (if ((rd_T66 x113004 x3).f0) < (x113003.length : Int) then (spec_l12Tasks.j1 k x3 (decide (((rd_T66 x113004 x3).f2) < ((rd_T69 x113003 ((rd_T66 x113004 x3).f0)).f2))) x113000 x113001 x113002 x113003 x113004 ((rd_T66 x113004 x3).f0) ((rd_T66 x113004 x3).f1) ((rd_T66 x113004 x3).f2)) else (none)) else (none))) else (spec_l12Tasks.j1 k x3 true x113000 x113001 x113002 x113003 x113004 ((rd_T66 x113004 x3).f0) ((rd_T66 x113004 x3).f1) ((rd_T66 x113004 x3).f2)))) else (spec_l12Tasks.j1 k x3 true x113000 x113001 x113002 x113003 x113004 ((rd_T66 x113004 x3).f0) ((rd_T66 x113004 x3).f1) ((rd_T66 x113004 x3).f2)))) else (none)) else (some true)
def spec_l12Tasks.j1 : Nat → Int → Bool → Int → Int → Int → List (S69) → List (S66) → Int → Int → Int → Option (Bool)
 | 0, _, _, _, _, _, _, _, _, _, _ => none
 | k + 1, x3, x52, x113000, x113001, x113002, x113003, x113004, x115000, x115001, x115002 => if x52 = true then (some false) else (spec_l12Tasks.l1 k x3 0 x113000 x113001 x113002 x113003 x113004 x115000 x115001 x115002)
def spec_l12Tasks.l1 : Nat → Int → Int → Int → Int → Int → List (S69) → List (S66) → Int → Int → Int → Option (Bool)
 | 0, _, _, _, _, _, _, _, _, _, _ => none
 | k + 1, x3, x5, x113000, x113001, x113002, x113003, x113004, x115000, x115001, x115002 => if x5 < x3 then (if 0 ≤ x5 then (if x5 < (x113004.length : Int) then (if ((rd_T66 x113004 x5).f0) = x115000 then (some false) else (if ((rd_T66 x113004 x5).f1) = x115001 then (if 0 ≤ ((rd_T66 x113004 x5).f0) then (if ((rd_T66 x113004 x5).f0) < (x113003.length : Int) then (if (wrap64 (((rd_T66 x113004 x5).f2) + ((rd_T69 x113003 ((rd_T66 x113004 x5).f0)).f0))) > x115002 then (some false) else (spec_l12Tasks.l1 k x3 (wrap64 (x5 + 1)) x113000 x113001 x113002 x113003 x113004 x115000 x115001 x115002)) else (none)) else (none)) else (spec_l12Tasks.l1 k x3 (wrap64 (x5 + 1)) x113000 x113001 x113002 x113003 x113004 x115000 x115001 x115002))) else (none)) else (none)) else (if x3 > 0 then (if 0 ≤ (wrap64 (x3 - 1)) then (if (wrap64 (x3 - 1)) < (x113004.length : Int) then (if ((rd_T66 x113004 (wrap64 (x3 - 1))).f2) > x115002 then (some false) else (if ((rd_T66 x113004 (wrap64 (x3 - 1))).f2) = x115002 then (if ((rd_T66 x113004 (wrap64 (x3 - 1))).f1) ≥ x115001 then (some false) else (spec_l12Tasks.l0 k (wrap64 (x3 + 1)) x113000 x113001 x113002 x113003 x113004)) else (spec_l12Tasks.l0 k (wrap64 (x3 + 1)) x113000 x113001 x113002 x113003 x113004))) else (none)) else (none)) else (spec_l12Tasks.l0 k (wrap64 (x3 + 1)) x113000 x113001 x113002 x113003 x113004))
end
def spec_l12Tasks.f (k : Nat) (a0_0 : Int) (a0_1 : Int) (a0_2 : Int) (l0_3 : List (S69)) (l0_4 : List (S66)) : Option (Bool) := spec_l12Tasks.l0 k 0 a0_0 a0_1 a0_2 l0_3 l0_4
theorem spec_l12Tasks.mono_l : ∀ k, (∀ y0 y1 y2 y3 y4 y5, LeO (spec_l12Tasks.l0 k y0 y1 y2 y3 y4 y5) (spec_l12Tasks.l0 (k + 1) y0 y1 y2 y3 y4 y5)) ∧ (∀ y0 y1 y2 y3 y4 y5 y6 y7 y8 y9, LeO (spec_l12Tasks.j1 k y0 y1 y2 y3 y4 y5 y6 y7 y8 y9) (spec_l12Tasks.j1 (k + 1) y0 y1 y2 y3 y4 y5 y6 y7 y8 y9)) ∧ (∀ y0 y1 y2 y3 y4 y5 y6 y7 y8 y9, LeO (spec_l12Tasks.l1 k y0 y1 y2 y3 y4 y5 y6 y7 y8 y9) (spec_l12Tasks.l1 (k + 1) y0 y1 y2 y3 y4 y5 y6 y7 y8 y9))
 | 0 => ⟨fun _ _ _ _ _ _ r h => by simp [spec_l12Tasks.l0] at h, fun _ _ _ _ _ _ _ _ _ _ r h => by simp [spec_l12Tasks.j1] at h, fun _ _ _ _ _ _ _ _ _ _ r h => by simp [spec_l12Tasks.l1] at h⟩
 | k + 1 => by
  obtain ⟨ih0, ih1, ih2⟩ := spec_l12Tasks.mono_l k
  refine ⟨?_, ?_, ?_⟩
  ·
   intro y0 y1 y2 y3 y4 y5
   unfold spec_l12Tasks.l0
   repeat' first
   | (with_reducible exact ih0 _ _ _ _ _ _)
   | (with_reducible exact ih1 _ _ _ _ _ _ _ _ _ _)
   | (with_reducible exact ih2 _ _ _ _ _ _ _ _ _ _)
   | (with_reducible exact LeO.refl _)
   | (with_reducible exact LeO.none _)
   | (with_reducible refine LeO.ite ?_ ?_)
   | (with_reducible refine LeO.bind ?_ (fun _ => ?_))
   | exact ih0 _ _ _ _ _ _
   | exact ih1 _ _ _ _ _ _ _ _ _ _
   | exact ih2 _ _ _ _ _ _ _ _ _ _
   | exact LeO.none _
   | refine LeO.ite ?_ ?_
   | refine LeO.bind ?_ (fun _ => ?_)
  ·
   intro y0 y1 y2 y3 y4 y5 y6 y7 y8 y9
   unfold spec_l12Tasks.j1
   repeat' first
   | (with_reducible exact ih0 _ _ _ _ _ _)
   | (with_reducible exact ih1 _ _ _ _ _ _ _ _ _ _)
   | (with_reducible exact ih2 _ _ _ _ _ _ _ _ _ _)
   | (with_reducible exact LeO.refl _)
   | (with_reducible exact LeO.none _)
   | (with_reducible refine LeO.ite ?_ ?_)
   | (with_reducible refine LeO.bind ?_ (fun _ => ?_))
   | exact ih0 _ _ _ _ _ _
   | exact ih1 _ _ _ _ _ _ _ _ _ _
   | exact ih2 _ _ _ _ _ _ _ _ _ _
   | exact LeO.none _
   | refine LeO.ite ?_ ?_
   | refine LeO.bind ?_ (fun _ => ?_)
  ·
   intro y0 y1 y2 y3 y4 y5 y6 y7 y8 y9
   unfold spec_l12Tasks.l1
   repeat' first
   | (with_reducible exact ih0 _ _ _ _ _ _)
   | (with_reducible exact ih1 _ _ _ _ _ _ _ _ _ _)
   | (with_reducible exact ih2 _ _ _ _ _ _ _ _ _ _)
   | (with_reducible exact LeO.refl _)
   | (with_reducible exact LeO.none _)
   | (with_reducible refine LeO.ite ?_ ?_)
   | (with_reducible refine LeO.bind ?_ (fun _ => ?_))
   | exact ih0 _ _ _ _ _ _
   | exact ih1 _ _ _ _ _ _ _ _ _ _
   | exact ih2 _ _ _ _ _ _ _ _ _ _
   | exact LeO.none _
   | refine LeO.ite ?_ ?_
   | refine LeO.bind ?_ (fun _ => ?_)
theorem spec_l12Tasks.mono : ∀ a0 a1 a2 a3 a4 k, LeO (spec_l12Tasks.f k a0 a1 a2 a3 a4) (spec_l12Tasks.f (k + 1) a0 a1 a2 a3 a4) := by
 intro a0 a1 a2 a3 a4 k
 obtain ⟨ih0, ih1, ih2⟩ := spec_l12Tasks.mono_l k
 unfold spec_l12Tasks.f
 repeat' first
   | (with_reducible exact ih0 _ _ _ _ _ _)
   | (with_reducible exact ih1 _ _ _ _ _ _ _ _ _ _)
   | (with_reducible exact ih2 _ _ _ _ _ _ _ _ _ _)
   | (with_reducible exact LeO.refl _)
   | (with_reducible exact LeO.none _)
   | (with_reducible refine LeO.ite ?_ ?_)
   | (with_reducible refine LeO.bind ?_ (fun _ => ?_))
   | exact ih0 _ _ _ _ _ _
   | exact ih1 _ _ _ _ _ _ _ _ _ _
   | exact ih2 _ _ _ _ _ _ _ _ _ _
   | exact LeO.none _
   | refine LeO.ite ?_ ?_
   | refine LeO.bind ?_ (fun _ => ?_)
def spec_l12Tasks.T5 : Bool × List (List Nat × List Nat) := (true, [([], []), ([0], [0]), ([], []), ([2], [2]), ([1, 3], [1, 3]), ([4], [4]), ([5, 4], [5]), ([6], [6]), ([7, 6], [6, 7]), ([6], [6]), ([9, 6], [6, 9]), ([10, 6], [6, 10]), ([8, 11, 6, 6], [6, 8, 11]), ([12, 6], [6, 12]), ([6, 13], [6, 13]), ([14, 12], [14]), ([15], [15]), ([16, 15], [15, 16]), ([15], [15]), ([18, 15], [15, 18]), ([17, 19, 15], [15, 17, 19]), ([15, 20], [15, 20]), ([21, 15], [21]), ([22], [22]), ([23, 22], [22, 23]), ([22], [22]), ([25, 22], [22, 25]), ([22], [22]), ([27, 22], [22, 27]), ([26, 28, 22], [22, 26, 28]), ([29, 22], [22, 29]), ([30, 22], [22, 30]), ([24, 31, 22], [22, 24, 31]), ([22, 32], [22, 32])])
def spec_l12Tasks.B5 : List Nat := [0, 1, 0, 4, 15, 31, 63, 127, 255, 127, 639, 1663, 4095, 8191, 16383, 32767, 65535, 131071, 65535, 327679, 1048575, 2097151, 4194303, 8388607, 16777215, 8388607, 41943039, 8388607, 142606335, 511705087, 1048575999, 2122317823, 4294967295, 8589934591]
theorem spec_l12Tasks.tab5 : rtab .any (opsOf Try.f62 5) = spec_l12Tasks.T5 := by kernel_rfl
theorem spec_l12Tasks.bits5 : waitsOk spec_l12Tasks.T5.2 spec_l12Tasks.B5 = true := by kernel_rfl
def spec_l12Tasks.T11 : Bool × List (List Nat × List Nat) := (true, [([], []), ([0], [0]), ([], []), ([2], [2]), ([1, 3], [1, 3]), ([4], [4]), ([5], [5]), ([6, 5], [5, 6]), ([5], [5]), ([8, 5], [5, 8]), ([7, 9, 5], [5, 7, 9]), ([10, 5, 5], [5, 10]), ([11], [11]), ([12, 11], [11, 12]), ([11], [11]), ([14, 11], [11, 14]), ([11], [11]), ([16, 11], [11, 16]), ([15, 17, 11], [11, 15, 17]), ([18, 11], [11, 18]), ([19, 11], [11, 19]), ([13, 20, 11], [11, 13, 20]), ([11], [11]), ([22, 11], [11, 22]), ([21, 23, 11], [11, 21, 23]), ([11, 24, 5], [5, 11, 24]), ([5, 25], [5, 25])])
def spec_l12Tasks.B11 : List Nat := [0, 1, 0, 4, 15, 31, 63, 127, 63, 319, 1023, 2047, 4095, 8191, 4095, 20479, 4095, 69631, 249855, 511999, 1036287, 2097151, 4095, 4198399, 16777215, 33554431, 67108863]
theorem spec_l12Tasks.tab11 : rtab .any (opsOf Try.f62 11) = spec_l12Tasks.T11 := by kernel_rfl
theorem spec_l12Tasks.bits11 : waitsOk spec_l12Tasks.T11.2 spec_l12Tasks.B11 = true := by kernel_rfl
def spec_l12Tasks.T13 : Bool × List (List Nat × List Nat) := (true, [([], []), ([0], [0]), ([1], [1]), ([2], [2]), ([3, 2], [2, 3]), ([2], [2]), ([5, 2], [2, 5]), ([4, 6, 2], [2, 4, 6]), ([7, 2], [2, 7]), ([8, 2], [2, 8]), ([2], [2]), ([10, 2], [2, 10]), ([9, 11, 2], [2, 9, 11]), ([12, 2, 2], [2, 12]), ([13], [13]), ([14, 13], [13, 14]), ([13], [13]), ([16, 13], [13, 16]), ([15, 17, 13], [13, 15, 17]), ([18, 13], [13, 18]), ([19, 13], [13, 19]), ([13], [13]), ([21, 13], [13, 21]), ([20, 22, 13], [13, 20, 22]), ([23, 13, 13], [13, 23]), ([24], [24]), ([25, 24], [24, 25]), ([24], [24]), ([27, 24], [24, 27]), ([26, 28, 24], [24, 26, 28]), ([29, 24], [24, 29]), ([30, 24], [24, 30]), ([24], [24]), ([32, 24], [24, 32]), ([31, 33, 24], [24, 31, 33]), ([24, 34, 13], [13, 24, 34]), ([13, 35, 2], [2, 13, 35]), ([2, 36], [2, 36])])
def spec_l12Tasks.B13 : List Nat := [0, 1, 3, 7, 15, 7, 39, 127, 255, 511, 7, 1031, 4095, 8191, 16383, 32767, 16383, 81919, 262143, 524287, 1048575, 16383, 2113535, 8388607, 16777215, 33554431, 67108863, 33554431, 167772159, 536870911, 1073741823, 2147483647, 33554431, 4328521727, 17179869183, 34359738367, 68719476735, 137438953471]
theorem spec_l12Tasks.tab13 : rtab .any (opsOf Try.f62 13) = spec_l12Tasks.T13 := by kernel_rfl
theorem spec_l12Tasks.bits13 : waitsOk spec_l12Tasks.T13.2 spec_l12Tasks.B13 = true := by kernel_rfl
set_option maxHeartbeats 8000000 in
set_option maxRecDepth 100000 in
theorem spec_l12Tasks.calls (k : Nat) (a0_0 : Int) (a0_1 : Int) (a0_2 : Int) (A0_3 : Option Addr) (c0_3 : Nat) (l0_3 : List (S69)) (A0_4 : Option Addr) (c0_4 : Nat) (l0_4 : List (S66)) (r : Bool) (w : World) (hr0_3 : Kd.C k69 w A0_3 l0_3.length l0_3) (hc0_3 : l0_3.length ≤ c0_3) (hr0_4 : Kd.C k66 w A0_4 l0_4.length l0_4) (hc0_4 : l0_4.length ≤ c0_4) (h : spec_l12Tasks.f k a0_0 a0_1 a0_2 l0_3 l0_4 = some r) :
  Calls Try.prog 62 #[.agg #[.int .i64 a0_0, .int .i64 a0_1, .int .i64 a0_2, .slice A0_3 l0_3.length c0_3, .slice A0_4 l0_4.length c0_4]] w fun e w' => e = .returned (.bool r) ∧ Below w.heap.size w w' := by
 have hu31 := Try.underlying31
 have hu66 := Try.underlying66
 have HR0_3 := Aside0.mk hr0_3
 have HC0_3 := Aside0.mk hc0_3
 clear hr0_3 hc0_3
 have HR0_4 := Aside0.mk hr0_4
 have HC0_4 := Aside0.mk hc0_4
 clear hr0_4 hc0_4
 have HB := Aside0.mk (Below.refl w.heap.size w)
 have H : (spec_l12Tasks.l0 k 0 a0_0 a0_1 a0_2 l0_3 l0_4) = some r := h
 clear h
 have H' := Aside0.mk H
 clear H
 go_enter Try.func62, Try.ntmps62
 go_wp2_with (first | ((with_reducible refine gate_dst (N := 1) rfl ?_); refine box_event ?hg (N := 1) ?hd (cs := #[.int .i64 a0_0, .int .i64 a0_1, .int .i64 a0_2, .slice A0_3 l0_3.length c0_3, .slice A0_4 l0_4.length c0_4]) (t := 31) ?hr ?_; (case hd => rfl); (case hg => rfl); (case hr => first | (go_simp; done) | (go_simp; rfl)); intro gb112 hg w2 hbox hb; have n0_ := Aside0.mk (below_step (by repeat (first | (with_reducible first | exact HB.out | apply below_alloc | apply pw_below_drewN | apply below_drew1) | exact HB.out)) hb); have n1_ := Aside0.mk (hbox); have n2_ := Aside0.mk ((by rw [hg]; exact (below_size (by repeat (first | (with_reducible first | exact HB.out | apply below_alloc | apply pw_below_drewN | apply below_drew1) | exact HB.out))) : w.heap.size ≤ gb112)); have n3_ := Aside0.mk ((by rw [hg]; exact (below_size (by repeat (first | (with_reducible first | exact HB.out | apply below_alloc | apply pw_below_drewN | apply below_drew1) | exact HB.out))) : w.heap.size ≤ gb112)); clear HB; have HB := n0_; have BK112 := n1_; have GW112 := n2_; have GE112 := n3_; clear n0_ n1_ n2_ n3_; clear hb hbox hg))
 go_loopg [3] k (fun kq v3 w' => ∃ (x3_1 : Int), v3 = .int .i64 x3_1 ∧ Aside0 (spec_l12Tasks.l0 kq x3_1 a0_0 a0_1 a0_2 l0_3 l0_4 = some r) ∧ Aside0 (kq ≤ k) ∧ Aside0 (w'.heap[gb112]? = some (.cells #[.int .i64 a0_0, .int .i64 a0_1, .int .i64 a0_2, (.slice A0_3 l0_3.length c0_3), (.slice A0_4 l0_4.length c0_4)] 31 (0, 0))) ∧ Aside0 (Below w.heap.size w w'))
 case atStart => exact ⟨(0), (by first | rfl | (simp; done) | (simp [*]; done)), H', ⟨Nat.le_refl _⟩, ⟨by (with_reducible repeat (first | refine blk_drewN ?_ _ | refine blk_drew ?_ | refine blk_alloc ?_ _)); exact BK112.out⟩, ⟨by repeat (first | (with_reducible first | exact HB.out | apply below_alloc | apply pw_below_drewN | apply below_drew1 | refine below_set ?_ GE112.out) | exact HB.out)⟩⟩
 case round =>
  clear H'
  try clear p2
  obtain ⟨x3_1, rfl, HA, HK1, BK112, HB⟩ := hrel
  cases gk with
  | zero => exact absurd HA.out (by simp [spec_l12Tasks.l0])
  | succ k1 =>
   have H := HA.out
   clear HA
   simp only [spec_l12Tasks.l0] at H
   by_cases c3 : x3_1 < (l0_4.length : Int)
   ·
    rw [if_pos c3] at H
    have c3b0 : decide (x3_1 < (l0_4.length : Int)) = true := decide_eq_true c3
    clear c3
    by_cases c4 : 0 ≤ x3_1
    ·
     rw [if_pos c4] at H
     have c4b0 : decide (0 ≤ x3_1) = true := decide_eq_true c4
     clear c4
     have HC5 := Aside0.mk H
     clear H
     have hcz6_0 : wr.cell? ⟨gb112, 0, none⟩ = some (.int .i64 a0_0) := (blk_cell BK112.out 0).trans rfl
     have hcz6_1 : wr.cell? ⟨gb112, 1, none⟩ = some (.int .i64 a0_1) := (blk_cell BK112.out 1).trans rfl
     have hcz6_2 : wr.cell? ⟨gb112, 2, none⟩ = some (.int .i64 a0_2) := (blk_cell BK112.out 2).trans rfl
     have hcz6_3 : wr.cell? ⟨gb112, 3, none⟩ = some (.slice A0_3 l0_3.length c0_3) := (blk_cell BK112.out 3).trans rfl
     have hcz6_4 : wr.cell? ⟨gb112, 4, none⟩ = some (.slice A0_4 l0_4.length c0_4) := (blk_cell BK112.out 4).trans rfl
     have hfz6_0 := blk_frozen BK112.out 0
     have hfz6_1 := blk_frozen BK112.out 1
     have hfz6_2 := blk_frozen BK112.out 2
     have hfz6_3 := blk_frozen BK112.out 3
     have hfz6_4 := blk_frozen BK112.out 4
     have p113 : 0 ≤ (x3_1 : Int) := of_decide_eq_true (by first | (with_reducible assumption) | assumption)
     have q113 : x3_1 < (l0_4.length : Int) := of_decide_eq_true (by first | (with_reducible assumption) | assumption)
     obtain ⟨ad113, e113, hx113_0, hx113_1, hx113_2⟩ := at_T66 HR0_4.out x3_1 p113 q113
     cases e113
     replace hx113_0 := (HB.out.cell (World.block_lt_of_cell? w _ hx113_0)).trans hx113_0
     replace hx113_1 := (HB.out.cell (World.block_lt_of_cell? w _ hx113_1)).trans hx113_1
     replace hx113_2 := (HB.out.cell (World.block_lt_of_cell? w _ hx113_2)).trans hx113_2
     replace p113 := eq_true p113
     replace q113 := eq_true q113
     go_upto_region 5 with (first | ((with_reducible refine gate_dst (N := 4) rfl ?_); refine box_event ?hg (N := 4) ?hd (cs := #[.int .i64 0, .int .i64 0, .int .i64 0]) (t := 66) ?hr ?_; (case hd => rfl); (case hg => rfl); (case hr => first | (go_simp; done) | (go_simp; rfl)); intro gb114 hg w7 hbox hb; have n0_ := Aside0.mk (blk_below (g := gb112) (o := .cells #[.int .i64 a0_0, .int .i64 a0_1, .int .i64 a0_2, .slice A0_3 l0_3.length c0_3, .slice (some ad113) l0_4.length c0_4] 31 (0, 0)) (by (with_reducible repeat (first | refine blk_drewN ?_ _ | refine blk_drew ?_ | refine blk_alloc ?_ _)); exact BK112.out) hb); have n1_ := Aside0.mk (below_step (by repeat (first | (with_reducible first | exact HB.out | apply below_alloc | apply pw_below_drewN | apply below_drew1 | refine below_set ?_ GE112.out) | exact HB.out)) hb); have n2_ := Aside0.mk (hbox); have n3_ := Aside0.mk ((by rw [hg]; exact (below_size (by repeat (first | (with_reducible first | exact HB.out | apply below_alloc | apply pw_below_drewN | apply below_drew1 | refine below_set ?_ GE112.out) | exact HB.out))) : w.heap.size ≤ gb114)); have n4_ := Aside0.mk ((by rw [hg]; exact (below_size (by repeat (first | (with_reducible first | exact HB.out | apply below_alloc | apply pw_below_drewN | apply below_drew1 | refine below_set ?_ GE112.out) | exact HB.out))) : w.heap.size ≤ gb114)); have n5_ := Aside0.mk ((by rw [hg]; exact Nat.ne_of_lt (blk_lt (g := gb112) (o := .cells #[.int .i64 a0_0, .int .i64 a0_1, .int .i64 a0_2, .slice A0_3 l0_3.length c0_3, .slice (some ad113) l0_4.length c0_4] 31 (0, 0)) (by (with_reducible repeat (first | refine blk_drewN ?_ _ | refine blk_drew ?_ | refine blk_alloc ?_ _)); exact BK112.out)) : gb112 ≠ gb114)); have n6_ := Aside0.mk ((by rw [hg]; exact Nat.ne_of_gt (blk_lt (g := gb112) (o := .cells #[.int .i64 a0_0, .int .i64 a0_1, .int .i64 a0_2, .slice A0_3 l0_3.length c0_3, .slice (some ad113) l0_4.length c0_4] 31 (0, 0)) (by (with_reducible repeat (first | refine blk_drewN ?_ _ | refine blk_drew ?_ | refine blk_alloc ?_ _)); exact BK112.out)) : gb114 ≠ gb112)); clear BK112; clear HB; have BK112 := n0_; have HB := n1_; have BK114 := n2_; have GW114 := n3_; have GE114 := n4_; have NB112_114 := n5_; have NB114_112 := n6_; clear n0_ n1_ n2_ n3_ n4_ n5_ n6_; clear hb hbox hg; have hnb8 := NB114_112.out; have hnc8 := NB112_114.out; have hcz9_0 : w7.cell? ⟨gb114, 0, none⟩ = some (.int .i64 0) := (blk_cell BK114.out 0).trans rfl; have hcz9_1 : w7.cell? ⟨gb114, 1, none⟩ = some (.int .i64 0) := (blk_cell BK114.out 1).trans rfl; have hcz9_2 : w7.cell? ⟨gb114, 2, none⟩ = some (.int .i64 0) := (blk_cell BK114.out 2).trans rfl; have hfz9_0 := blk_frozen BK114.out 0; have hfz9_1 := blk_frozen BK114.out 1; have hfz9_2 := blk_frozen BK114.out 2))
     (try simp only [Act.put, z0_, z1_, z2_])
     go_cut [52] (fun v52 wc => ∃ (kq : Nat) (x52_4 : Bool), v52 = .bool x52_4 ∧ Aside0 (spec_l12Tasks.j1 kq x3_1 x52_4 a0_0 a0_1 a0_2 l0_3 l0_4 ((rd_T66 l0_4 x3_1).f0) ((rd_T66 l0_4 x3_1).f1) ((rd_T66 l0_4 x3_1).f2) = some r) ∧ Aside0 (kq ≤ k1) ∧ Aside0 (wc.heap[gb112]? = some (.cells #[.int .i64 a0_0, .int .i64 a0_1, .int .i64 a0_2, (.slice A0_3 l0_3.length c0_3), (.slice (some ad113) l0_4.length c0_4)] 31 (0, 0))) ∧ Aside0 (wc.heap[gb114]? = some (.cells #[.int .i64 ((rd_T66 l0_4 x3_1).f0), .int .i64 ((rd_T66 l0_4 x3_1).f1), .int .i64 ((rd_T66 l0_4 x3_1).f2)] 66 (0, 0))) ∧ Aside0 (Below w.heap.size w wc))
     case first =>
      have H := HC5.out
      clear HC5
      replace H := Option.bind_eq_some_iff.mp H
      obtain ⟨t115, A100, H⟩ := H
      replace H : (if t115 = true then ((spec_l1In.f ((rd_T66 l0_4 x3_1).f1) 0 (wrap64 (a0_0 - 1))).bind fun t116 => (if t116 = true then (if ((rd_T66 l0_4 x3_1).f2) ≥ a0_2 then (spec_l12Tasks.j1 k1 x3_1 true a0_0 a0_1 a0_2 l0_3 l0_4 ((rd_T66 l0_4 x3_1).f0) ((rd_T66 l0_4 x3_1).f1) ((rd_T66 l0_4 x3_1).f2)) else (if 0 ≤ ((rd_T66 l0_4 x3_1).f0) then (if ((rd_T66 l0_4 x3_1).f0) < (l0_3.length : Int) then (spec_l12Tasks.j1 k1 x3_1 (decide (((rd_T66 l0_4 x3_1).f2) < ((rd_T69 l0_3 ((rd_T66 l0_4 x3_1).f0)).f2))) a0_0 a0_1 a0_2 l0_3 l0_4 ((rd_T66 l0_4 x3_1).f0) ((rd_T66 l0_4 x3_1).f1) ((rd_T66 l0_4 x3_1).f2)) else (none)) else (none))) else (spec_l12Tasks.j1 k1 x3_1 true a0_0 a0_1 a0_2 l0_3 l0_4 ((rd_T66 l0_4 x3_1).f0) ((rd_T66 l0_4 x3_1).f1) ((rd_T66 l0_4 x3_1).f2)))) else (spec_l12Tasks.j1 k1 x3_1 true a0_0 a0_1 a0_2 l0_3 l0_4 ((rd_T66 l0_4 x3_1).f0) ((rd_T66 l0_4 x3_1).f1) ((rd_T66 l0_4 x3_1).f2))) = some r := H
      have A10 := Aside0.mk A100
      clear A100
      by_cases c11 : t115 = true
      ·
       subst c11
       have H1 : ((spec_l1In.f ((rd_T66 l0_4 x3_1).f1) 0 (wrap64 (a0_0 - 1))).bind fun t116 => (if t116 = true then (if ((rd_T66 l0_4 x3_1).f2) ≥ a0_2 then (spec_l12Tasks.j1 k1 x3_1 true a0_0 a0_1 a0_2 l0_3 l0_4 ((rd_T66 l0_4 x3_1).f0) ((rd_T66 l0_4 x3_1).f1) ((rd_T66 l0_4 x3_1).f2)) else (if 0 ≤ ((rd_T66 l0_4 x3_1).f0) then (if ((rd_T66 l0_4 x3_1).f0) < (l0_3.length : Int) then (spec_l12Tasks.j1 k1 x3_1 (decide (((rd_T66 l0_4 x3_1).f2) < ((rd_T69 l0_3 ((rd_T66 l0_4 x3_1).f0)).f2))) a0_0 a0_1 a0_2 l0_3 l0_4 ((rd_T66 l0_4 x3_1).f0) ((rd_T66 l0_4 x3_1).f1) ((rd_T66 l0_4 x3_1).f2)) else (none)) else (none))) else (spec_l12Tasks.j1 k1 x3_1 true a0_0 a0_1 a0_2 l0_3 l0_4 ((rd_T66 l0_4 x3_1).f0) ((rd_T66 l0_4 x3_1).f1) ((rd_T66 l0_4 x3_1).f2)))) = some r := by rw [if_pos rfl] at H; exact H
       clear H
       have H := H1
       clear H1
       replace H := Option.bind_eq_some_iff.mp H
       obtain ⟨t116, A120, H⟩ := H
       replace H : (if t116 = true then (if ((rd_T66 l0_4 x3_1).f2) ≥ a0_2 then (spec_l12Tasks.j1 k1 x3_1 true a0_0 a0_1 a0_2 l0_3 l0_4 ((rd_T66 l0_4 x3_1).f0) ((rd_T66 l0_4 x3_1).f1) ((rd_T66 l0_4 x3_1).f2)) else (if 0 ≤ ((rd_T66 l0_4 x3_1).f0) then (if ((rd_T66 l0_4 x3_1).f0) < (l0_3.length : Int) then (spec_l12Tasks.j1 k1 x3_1 (decide (((rd_T66 l0_4 x3_1).f2) < ((rd_T69 l0_3 ((rd_T66 l0_4 x3_1).f0)).f2))) a0_0 a0_1 a0_2 l0_3 l0_4 ((rd_T66 l0_4 x3_1).f0) ((rd_T66 l0_4 x3_1).f1) ((rd_T66 l0_4 x3_1).f2)) else (none)) else (none))) else (spec_l12Tasks.j1 k1 x3_1 true a0_0 a0_1 a0_2 l0_3 l0_4 ((rd_T66 l0_4 x3_1).f0) ((rd_T66 l0_4 x3_1).f1) ((rd_T66 l0_4 x3_1).f2))) = some r := H
       have A12 := Aside0.mk A120
       clear A120
       by_cases c13 : t116 = true
       ·
        subst c13
        have H1 : (if ((rd_T66 l0_4 x3_1).f2) ≥ a0_2 then (spec_l12Tasks.j1 k1 x3_1 true a0_0 a0_1 a0_2 l0_3 l0_4 ((rd_T66 l0_4 x3_1).f0) ((rd_T66 l0_4 x3_1).f1) ((rd_T66 l0_4 x3_1).f2)) else (if 0 ≤ ((rd_T66 l0_4 x3_1).f0) then (if ((rd_T66 l0_4 x3_1).f0) < (l0_3.length : Int) then (spec_l12Tasks.j1 k1 x3_1 (decide (((rd_T66 l0_4 x3_1).f2) < ((rd_T69 l0_3 ((rd_T66 l0_4 x3_1).f0)).f2))) a0_0 a0_1 a0_2 l0_3 l0_4 ((rd_T66 l0_4 x3_1).f0) ((rd_T66 l0_4 x3_1).f1) ((rd_T66 l0_4 x3_1).f2)) else (none)) else (none))) = some r := by rw [if_pos rfl] at H; exact H
        clear H
        have H := H1
        clear H1
        by_cases c14 : ((rd_T66 l0_4 x3_1).f2) ≥ a0_2
        ·
         rw [if_pos c14] at H
         have c14b0 : decide (a0_2 ≤ ((rd_T66 l0_4 x3_1).f2)) = true := decide_eq_true c14
         clear c14
         (first | rw [c14b0] | (simp only [i64_w, i32_w]; rw [c14b0]) | skip)
         have H' := Aside0.mk H
         clear H
         try go_wp2
         have n0_ : Aside0 ((((w7.setCell ⟨gb114, 0, none⟩ (.int .i64 ((rd_T66 l0_4 x3_1).f0))).setCell ⟨gb114, 1, none⟩ (.int .i64 ((rd_T66 l0_4 x3_1).f1))).setCell ⟨gb114, 2, none⟩ (.int .i64 ((rd_T66 l0_4 x3_1).f2))).heap[gb112]? = some (.cells #[.int .i64 a0_0, .int .i64 a0_1, .int .i64 a0_2, .slice A0_3 l0_3.length c0_3, .slice (some ad113) l0_4.length c0_4] 31 (0, 0))) := ⟨by (with_reducible repeat (first | refine blk_drewN ?_ _ | refine blk_drew ?_ | refine blk_alloc ?_ _)); refine blk_far ?_ NB112_114.out _; (with_reducible repeat (first | refine blk_drewN ?_ _ | refine blk_drew ?_ | refine blk_alloc ?_ _)); refine blk_far ?_ NB112_114.out _; (with_reducible repeat (first | refine blk_drewN ?_ _ | refine blk_drew ?_ | refine blk_alloc ?_ _)); refine blk_far ?_ NB112_114.out _; (with_reducible repeat (first | refine blk_drewN ?_ _ | refine blk_drew ?_ | refine blk_alloc ?_ _)); exact BK112.out⟩
         have n1_ : Aside0 ((((w7.setCell ⟨gb114, 0, none⟩ (.int .i64 ((rd_T66 l0_4 x3_1).f0))).setCell ⟨gb114, 1, none⟩ (.int .i64 ((rd_T66 l0_4 x3_1).f1))).setCell ⟨gb114, 2, none⟩ (.int .i64 ((rd_T66 l0_4 x3_1).f2))).heap[gb114]? = some (.cells #[.int .i64 ((rd_T66 l0_4 x3_1).f0), .int .i64 ((rd_T66 l0_4 x3_1).f1), .int .i64 ((rd_T66 l0_4 x3_1).f2)] 66 (0, 0))) := ⟨by (with_reducible repeat (first | refine blk_drewN ?_ _ | refine blk_drew ?_ | refine blk_alloc ?_ _)); refine blk_put (cs := #[.int .i64 ((rd_T66 l0_4 x3_1).f0), .int .i64 ((rd_T66 l0_4 x3_1).f1), .int .i64 0]) ?_ 2 _ rfl; (with_reducible repeat (first | refine blk_drewN ?_ _ | refine blk_drew ?_ | refine blk_alloc ?_ _)); refine blk_put (cs := #[.int .i64 ((rd_T66 l0_4 x3_1).f0), .int .i64 0, .int .i64 0]) ?_ 1 _ rfl; (with_reducible repeat (first | refine blk_drewN ?_ _ | refine blk_drew ?_ | refine blk_alloc ?_ _)); refine blk_put (cs := #[.int .i64 0, .int .i64 0, .int .i64 0]) ?_ 0 _ rfl; (with_reducible repeat (first | refine blk_drewN ?_ _ | refine blk_drew ?_ | refine blk_alloc ?_ _)); exact BK114.out⟩
         have n2_ : Aside0 (Below w.heap.size w (((w7.setCell ⟨gb114, 0, none⟩ (.int .i64 ((rd_T66 l0_4 x3_1).f0))).setCell ⟨gb114, 1, none⟩ (.int .i64 ((rd_T66 l0_4 x3_1).f1))).setCell ⟨gb114, 2, none⟩ (.int .i64 ((rd_T66 l0_4 x3_1).f2)))) := ⟨by repeat (first | (with_reducible first | exact HB.out | apply below_alloc | apply pw_below_drewN | apply below_drew1 | refine below_set ?_ GE112.out | refine below_set ?_ GE114.out) | exact HB.out)⟩
         (try clear BK112)
         (try clear BK114)
         (try clear HB)
         (try simp only [show ∀ (W_ : World) (n_ : Nat) (a_ : Addr) (v_ : Value), (W_.drewN n_).setCell a_ v_ = (W_.setCell a_ v_).drewN n_ from fun _ _ _ _ => rfl])
         generalize (((w7.setCell ⟨gb114, 0, none⟩ (.int .i64 ((rd_T66 l0_4 x3_1).f0))).setCell ⟨gb114, 1, none⟩ (.int .i64 ((rd_T66 l0_4 x3_1).f1))).setCell ⟨gb114, 2, none⟩ (.int .i64 ((rd_T66 l0_4 x3_1).f2))) = w15 at n0_ n1_ n2_ ⊢
         have BK112 := n0_
         have BK114 := n1_
         have HB := n2_
         clear n0_ n1_ n2_
         have n0_ := Aside0.mk (blk_drew BK112.out)
         have n1_ := Aside0.mk (blk_drew BK114.out)
         have n2_ := Aside0.mk (below_drew1 HB.out)
         clear BK112
         clear BK114
         clear HB
         have BK112 := n0_
         have BK114 := n1_
         have HB := n2_
         clear n0_ n1_ n2_
         refine start_ (n := 34) (S := fun w' => w'.cell? ⟨gb112, 0, none⟩ = some (.int .i64 a0_0) ∧ w'.cell? ⟨gb112, 1, none⟩ = some (.int .i64 a0_1) ∧ w'.cell? ⟨gb112, 2, none⟩ = some (.int .i64 a0_2) ∧ w'.cell? ⟨gb112, 3, none⟩ = some (.slice A0_3 l0_3.length c0_3) ∧ w'.cell? ⟨gb112, 4, none⟩ = some (.slice (some ad113) l0_4.length c0_4) ∧ w'.cell? ⟨gb114, 0, none⟩ = some (.int .i64 ((rd_T66 l0_4 x3_1).f0)) ∧ w'.cell? ⟨gb114, 1, none⟩ = some (.int .i64 ((rd_T66 l0_4 x3_1).f1)) ∧ w'.cell? ⟨gb114, 2, none⟩ = some (.int .i64 ((rd_T66 l0_4 x3_1).f2))) (ds := []) ba0_ (by kernel_rfl) rfl rfl ⟨(blk_cell BK112.out 0).trans rfl, (blk_cell BK112.out 1).trans rfl, (blk_cell BK112.out 2).trans rfl, (blk_cell BK112.out 3).trans rfl, (blk_cell BK112.out 4).trans rfl, (blk_cell BK114.out 0).trans rfl, (blk_cell BK114.out 1).trans rfl, (blk_cell BK114.out 2).trans rfl⟩ (fun hHeld => ?_); refine with_tabW spec_l12Tasks.tab5 spec_l12Tasks.bits5 (fun HT_ HW_ => ?_)
         generalize w15.drew = w16 at BK112 BK114 HB hHeld ⊢
         refine pure_ (i := 0) (N := some 19) (v := ?_) (a' := ?_) ba1_ rfl rfl (any_of HT_.out (by kernel_rfl)) id3_ (Or.inl ⟨by rfl, ?_⟩) ?_ ?_
         rotate_left; (intro w'; go_simp; with_reducible rfl)
         rotate_left; (simp only [Act.put, z0_, z1_, z2_, i64_w, i32_w]; rfl)
         refine pure_ (i := 2) (N := some 21) (v := ?_) (a' := ?_) ba2_ rfl rfl (any_of HT_.out (by kernel_rfl)) id3_ (Or.inl ⟨by rfl, ?_⟩) ?_ ?_
         rotate_left; (intro w'; go_simp; with_reducible rfl)
         rotate_left; (simp only [Act.put, z0_, z1_, z2_, i64_w, i32_w]; rfl)
         refine take_ (i := 1) (N := some 20) (v := ?_) (a' := ?_) ba3_ rfl rfl (take_ofW HT_.out HW_.out (by kernel_rfl)) id3_ (Or.inl ⟨by rfl, ?_⟩) hHeld ?_ ?_
         rotate_left
         ·
          rintro w' ⟨s0, s1, s2, s3, s4, s5, s6, s7⟩
          go_simp
          with_reducible rfl
         rotate_left; (simp only [Act.put, z0_, z1_, z2_, i64_w, i32_w]; rfl)
         refine take_ (i := 3) (N := some 22) (v := ?_) (a' := ?_) ba4_ rfl rfl (take_ofW HT_.out HW_.out (by kernel_rfl)) id3_ (Or.inl ⟨by rfl, ?_⟩) hHeld ?_ ?_
         rotate_left
         ·
          rintro w' ⟨s0, s1, s2, s3, s4, s5, s6, s7⟩
          go_simp
          with_reducible rfl
         rotate_left; (simp only [Act.put, z0_, z1_, z2_, i64_w, i32_w]; rfl)
         refine one_ (i := 4) (N := some 23) ba5_ rfl rfl (one_of HT_.out (by kernel_rfl)) (by decide) (fun K hK => ?_)
         refine goes_ Try.func82 (by kernel_rfl) rfl #[.slice A0_3 l0_3.length c0_3, .int .i64 ((rd_T66 l0_4 x3_1).f0)] (by rfl) rfl rfl (by (try simp only [List.map_toArray, List.map_cons, List.map_nil]); first | done | rfl | (simp only [List.length_drop, List.length_take]; rfl)) ?_
         with_reducible refine (spec_l3Job.calls _ _ l0_3 ((rd_T66 l0_4 x3_1).f0) true _ ?side1 ?side2 A10.out).mono ?_
         (case side1 => repeat (first | exact (Kd.C_below HR0_3.out HB.out) | (with_reducible refine Kd.C_alloc ?_ _) | (with_reducible refine Kd.C_drewN ?_ _) | (with_reducible refine Kd.C_drew ?_)))
         (case side2 => exact HC0_3.out)
         rintro e w' ⟨rfl, ⟨nd, rfl⟩⟩
         refine ⟨_, rfl, ?_⟩
         refine hK.out _ _ ⟨(blk_cell BK112.out 0).trans rfl, (blk_cell BK112.out 1).trans rfl, (blk_cell BK112.out 2).trans rfl, (blk_cell BK112.out 3).trans rfl, (blk_cell BK112.out 4).trans rfl, (blk_cell BK114.out 0).trans rfl, (blk_cell BK114.out 1).trans rfl, (blk_cell BK114.out 2).trans rfl⟩ (fun hHeld => ?_)
         clear hK K
         refine norm_ (a' := ?_) ?_ ?_
         rotate_left
         ·
          show Act.put _ (some 23) _ = _
          simp only [Act.put, z0_, z1_, z2_, i64_w, i32_w]
          rfl
         refine pure_ (i := 5) (N := some 24) (v := ?_) (a' := ?_) ba6_ rfl rfl (any_of HT_.out (by kernel_rfl)) id3_ (Or.inl ⟨by rfl, ?_⟩) ?_ ?_
         rotate_left; (intro w'; go_simp; with_reducible rfl)
         rotate_left; (simp only [Act.put, z0_, z1_, z2_, i64_w, i32_w]; rfl)
         refine pure_ (i := 6) (N := some 25) (v := ?_) (a' := ?_) ba7_ rfl rfl (any_of HT_.out (by kernel_rfl)) id3_ (Or.inl ⟨by rfl, ?_⟩) ?_ ?_
         rotate_left; (intro w'; go_simp; with_reducible rfl)
         rotate_left; (simp only [Act.put, z0_, z1_, z2_, i64_w, i32_w]; rfl)
         refine pure_ (i := 7) (N := some 26) (v := ?_) (a' := ?_) ba8_ rfl rfl (any_of HT_.out (by kernel_rfl)) id3_ (Or.inl ⟨by rfl, ?_⟩) ?_ ?_
         rotate_left; (intro w'; go_simp; with_reducible rfl)
         rotate_left; (simp only [Act.put, z0_, z1_, z2_, i64_w, i32_w]; rfl)
         refine pure_ (i := 9) (N := some 28) (v := ?_) (a' := ?_) ba9_ rfl rfl (any_of HT_.out (by kernel_rfl)) id3_ (Or.inl ⟨by rfl, ?_⟩) ?_ ?_
         rotate_left; (intro w'; go_simp; with_reducible rfl)
         rotate_left; (simp only [Act.put, z0_, z1_, z2_, i64_w, i32_w]; rfl)
         refine take_ (i := 8) (N := some 27) (v := ?_) (a' := ?_) ba10_ rfl rfl (take_ofW HT_.out HW_.out (by kernel_rfl)) id3_ (Or.inl ⟨by rfl, ?_⟩) hHeld ?_ ?_
         rotate_left
         ·
          rintro w' ⟨s0, s1, s2, s3, s4, s5, s6, s7⟩
          go_simp
          with_reducible rfl
         rotate_left; (simp only [Act.put, z0_, z1_, z2_, i64_w, i32_w]; rfl)
         refine take_ (i := 10) (N := some 29) (v := ?_) (a' := ?_) ba11_ rfl rfl (take_ofW HT_.out HW_.out (by kernel_rfl)) id3_ (Or.inl ⟨by rfl, ?_⟩) hHeld ?_ ?_
         rotate_left
         ·
          rintro w' ⟨s0, s1, s2, s3, s4, s5, s6, s7⟩
          go_simp
          with_reducible rfl
         rotate_left; (simp only [Act.put, z0_, z1_, z2_, i64_w, i32_w]; rfl)
         refine pure_ (i := 11) (N := some 30) (v := ?_) (a' := ?_) ba12_ rfl rfl (any_of HT_.out (by kernel_rfl)) id3_ (Or.inl ⟨by rfl, ?_⟩) ?_ ?_
         rotate_left; (intro w'; go_simp; with_reducible rfl)
         rotate_left; (simp only [Act.put, z0_, z1_, z2_, i64_w, i32_w]; rfl)
         refine one_ (i := 12) (N := some 31) ba13_ rfl rfl (one_of HT_.out (by kernel_rfl)) (by decide) (fun K hK => ?_)
         refine goes_ Try.func60 (by kernel_rfl) rfl #[.int .i64 ((rd_T66 l0_4 x3_1).f1), .int .i64 0, .int .i64 (wrap64 (a0_0 - 1))] (by rfl) rfl rfl (by (try simp only [List.map_toArray, List.map_cons, List.map_nil]); first | done | rfl | (simp only [List.length_drop, List.length_take]; rfl)) ?_
         with_reducible refine (spec_l1In.calls ((rd_T66 l0_4 x3_1).f1) 0 (wrap64 (a0_0 - 1)) true _ A12.out).mono ?_
         rintro e w' ⟨rfl, ⟨nd, rfl⟩⟩
         refine ⟨_, rfl, ?_⟩
         refine hK.out _ _ ⟨(blk_cell BK112.out 0).trans rfl, (blk_cell BK112.out 1).trans rfl, (blk_cell BK112.out 2).trans rfl, (blk_cell BK112.out 3).trans rfl, (blk_cell BK112.out 4).trans rfl, (blk_cell BK114.out 0).trans rfl, (blk_cell BK114.out 1).trans rfl, (blk_cell BK114.out 2).trans rfl⟩ (fun hHeld => ?_)
         clear hK K
         refine norm_ (a' := ?_) ?_ ?_
         rotate_left
         ·
          show Act.put _ (some 31) _ = _
          simp only [Act.put, z0_, z1_, z2_, i64_w, i32_w]
          rfl
         refine pure_ (i := 13) (N := some 32) (v := ?_) (a' := ?_) ba14_ rfl rfl (any_of HT_.out (by kernel_rfl)) id3_ (Or.inl ⟨by rfl, ?_⟩) ?_ ?_
         rotate_left; (intro w'; go_simp; with_reducible rfl)
         rotate_left; (simp only [Act.put, z0_, z1_, z2_, i64_w, i32_w]; rfl)
         refine pure_ (i := 14) (N := some 33) (v := ?_) (a' := ?_) ba15_ rfl rfl (any_of HT_.out (by kernel_rfl)) id3_ (Or.inl ⟨by rfl, ?_⟩) ?_ ?_
         rotate_left; (intro w'; go_simp; with_reducible rfl)
         rotate_left; (simp only [Act.put, z0_, z1_, z2_, i64_w, i32_w]; rfl)
         refine pure_ (i := 15) (N := some 34) (v := ?_) (a' := ?_) ba16_ rfl rfl (any_of HT_.out (by kernel_rfl)) id3_ (Or.inl ⟨by rfl, ?_⟩) ?_ ?_
         rotate_left; (intro w'; go_simp; with_reducible rfl)
         rotate_left; (simp only [Act.put, z0_, z1_, z2_, i64_w, i32_w]; rfl)
         refine pure_ (i := 16) (N := some 35) (v := ?_) (a' := ?_) ba17_ rfl rfl (any_of HT_.out (by kernel_rfl)) id3_ (Or.inl ⟨by rfl, ?_⟩) ?_ ?_
         rotate_left; (intro w'; go_simp; with_reducible rfl)
         rotate_left; (simp only [Act.put, z0_, z1_, z2_, i64_w, i32_w]; rfl)
         refine pure_ (i := 18) (N := some 37) (v := ?_) (a' := ?_) ba18_ rfl rfl (any_of HT_.out (by kernel_rfl)) id3_ (Or.inl ⟨by rfl, ?_⟩) ?_ ?_
         rotate_left; (intro w'; go_simp; with_reducible rfl)
         rotate_left; (simp only [Act.put, z0_, z1_, z2_, i64_w, i32_w]; rfl)
         refine take_ (i := 17) (N := some 36) (v := ?_) (a' := ?_) ba19_ rfl rfl (take_ofW HT_.out HW_.out (by kernel_rfl)) id3_ (Or.inl ⟨by rfl, ?_⟩) hHeld ?_ ?_
         rotate_left
         ·
          rintro w' ⟨s0, s1, s2, s3, s4, s5, s6, s7⟩
          go_simp
          with_reducible rfl
         rotate_left; (simp only [Act.put, z0_, z1_, z2_, i64_w, i32_w]; rfl)
         refine take_ (i := 19) (N := some 38) (v := ?_) (a' := ?_) ba20_ rfl rfl (take_ofW HT_.out HW_.out (by kernel_rfl)) id3_ (Or.inl ⟨by rfl, ?_⟩) hHeld ?_ ?_
         rotate_left
         ·
          rintro w' ⟨s0, s1, s2, s3, s4, s5, s6, s7⟩
          go_simp
          with_reducible rfl
         rotate_left; (simp only [Act.put, z0_, z1_, z2_, i64_w, i32_w]; rfl)
         refine pure_ (i := 20) (N := some 39) (v := ?_) (a' := ?_) ba21_ rfl rfl (any_of HT_.out (by kernel_rfl)) id3_ (Or.inl ⟨by rfl, ?_⟩) ?_ ?_
         rotate_left; (intro w'; go_simp; with_reducible rfl)
         rotate_left; (simp only [Act.put, z0_, z1_, z2_, i64_w, i32_w]; rfl)
         refine pure_ (i := 21) (N := some 40) (v := ?_) (a' := ?_) ba22_ rfl rfl (any_of HT_.out (by kernel_rfl)) id3_ (Or.inl ⟨by rfl, ?_⟩) ?_ ?_
         rotate_left; (intro w'; go_simp; with_reducible rfl)
         rotate_left; (simp only [Act.put, z0_, z1_, z2_, i64_w, i32_w]; rfl)
         refine pure_ (i := 22) (N := some 41) (v := ?_) (a' := ?_) ba23_ rfl rfl (any_of HT_.out (by kernel_rfl)) id3_ (Or.inl ⟨by rfl, ?_⟩) ?_ ?_
         rotate_left; (intro w'; go_simp; with_reducible rfl)
         rotate_left; (simp only [Act.put, z0_, z1_, z2_, i64_w, i32_w]; rfl)
         refine pure_ (i := 23) (N := some 42) (v := undef) (a' := ?_) ba24_ rfl rfl (any_of HT_.out (by kernel_rfl)) id3_ (Or.inr ⟨by rfl, rfl⟩) ?_ ?_
         rotate_left; (simp only [Act.put, z0_, z1_, z2_, i64_w, i32_w]; rfl)
         refine pure_ (i := 24) (N := some 43) (v := undef) (a' := ?_) ba25_ rfl rfl (any_of HT_.out (by kernel_rfl)) id3_ (Or.inr ⟨by rfl, rfl⟩) ?_ ?_
         rotate_left; (simp only [Act.put, z0_, z1_, z2_, i64_w, i32_w]; rfl)
         refine pure_ (i := 25) (N := some 44) (v := undef) (a' := ?_) ba26_ rfl rfl (any_of HT_.out (by kernel_rfl)) id3_ (Or.inr ⟨by rfl, rfl⟩) ?_ ?_
         rotate_left; (simp only [Act.put, z0_, z1_, z2_, i64_w, i32_w]; rfl)
         refine pure_ (i := 26) (N := some 45) (v := undef) (a' := ?_) ba27_ rfl rfl (any_of HT_.out (by kernel_rfl)) id3_ (Or.inr ⟨by rfl, rfl⟩) ?_ ?_
         rotate_left; (simp only [Act.put, z0_, z1_, z2_, i64_w, i32_w]; rfl)
         refine pure_ (i := 27) (N := some 46) (v := undef) (a' := ?_) ba28_ rfl rfl (any_of HT_.out (by kernel_rfl)) id3_ (Or.inr ⟨by rfl, rfl⟩) ?_ ?_
         rotate_left; (simp only [Act.put, z0_, z1_, z2_, i64_w, i32_w]; rfl)
         refine pure_ (i := 28) (N := some 47) (v := undef) (a' := ?_) ba29_ rfl rfl (any_of HT_.out (by kernel_rfl)) id3_ (Or.inr ⟨by rfl, rfl⟩) ?_ ?_
         rotate_left; (simp only [Act.put, z0_, z1_, z2_, i64_w, i32_w]; rfl)
         refine pure_ (i := 29) (N := some 48) (v := undef) (a' := ?_) ba30_ rfl rfl (any_of HT_.out (by kernel_rfl)) id3_ (Or.inr ⟨by rfl, rfl⟩) ?_ ?_
         rotate_left; (simp only [Act.put, z0_, z1_, z2_, i64_w, i32_w]; rfl)
         refine pure_ (i := 30) (N := some 49) (v := undef) (a' := ?_) ba31_ rfl rfl (any_of HT_.out (by kernel_rfl)) id3_ (Or.inr ⟨by rfl, rfl⟩) ?_ ?_
         rotate_left; (simp only [Act.put, z0_, z1_, z2_, i64_w, i32_w]; rfl)
         refine pure_ (i := 31) (N := some 50) (v := undef) (a' := ?_) ba32_ rfl rfl (any_of HT_.out (by kernel_rfl)) id3_ (Or.inr ⟨by rfl, rfl⟩) ?_ ?_
         rotate_left; (simp only [Act.put, z0_, z1_, z2_, i64_w, i32_w]; rfl)
         refine pure_ (i := 32) (N := some 51) (v := undef) (a' := ?_) ba33_ rfl rfl (any_of HT_.out (by kernel_rfl)) id3_ (Or.inr ⟨by rfl, rfl⟩) ?_ ?_
         rotate_left; (simp only [Act.put, z0_, z1_, z2_, i64_w, i32_w]; rfl)
         refine pure_ (i := 33) (N := some 52) (v := ?_) (a' := ?_) ba34_ rfl rfl (any_of HT_.out (by kernel_rfl)) id3_ (Or.inl ⟨by rfl, ?_⟩) ?_ ?_
         rotate_left; (intro w'; go_simp; with_reducible rfl)
         rotate_left; (simp only [Act.put, z0_, z1_, z2_, i64_w, i32_w]; rfl)
         refine done_ (done_of HT_.out (by kernel_rfl)) ?_
         try go_wp2
         go_meet
         case rel => exact ⟨_, (true), (by first | rfl | (simp; done) | (simp [*]; done)), H', ⟨by have := HK1.out; first | omega | exact Nat.le_refl _⟩, ⟨by (with_reducible repeat (first | refine blk_drewN ?_ _ | refine blk_drew ?_ | refine blk_alloc ?_ _)); exact BK112.out⟩, ⟨by (with_reducible repeat (first | refine blk_drewN ?_ _ | refine blk_drew ?_ | refine blk_alloc ?_ _)); exact BK114.out⟩, ⟨by repeat (first | (with_reducible first | exact HB.out | apply below_alloc | apply pw_below_drewN | apply below_drew1 | refine below_set ?_ GE112.out | refine below_set ?_ GE114.out) | exact HB.out)⟩⟩
        ·
         rw [if_neg c14] at H
         have c14b0 : decide (a0_2 ≤ ((rd_T66 l0_4 x3_1).f2)) = false := decide_eq_false c14
         clear c14
         (first | rw [c14b0] | (simp only [i64_w, i32_w]; rw [c14b0]) | skip)
         by_cases c17 : 0 ≤ ((rd_T66 l0_4 x3_1).f0)
         ·
          rw [if_pos c17] at H
          have c17b0 : decide (0 ≤ ((rd_T66 l0_4 x3_1).f0)) = true := decide_eq_true c17
          clear c17
          by_cases c18 : ((rd_T66 l0_4 x3_1).f0) < (l0_3.length : Int)
          ·
           rw [if_pos c18] at H
           have c18b0 : decide (((rd_T66 l0_4 x3_1).f0) < (l0_3.length : Int)) = true := decide_eq_true c18
           clear c18
           have H' := Aside0.mk H
           clear H
           try go_wp2
           have n0_ : Aside0 ((((w7.setCell ⟨gb114, 0, none⟩ (.int .i64 ((rd_T66 l0_4 x3_1).f0))).setCell ⟨gb114, 1, none⟩ (.int .i64 ((rd_T66 l0_4 x3_1).f1))).setCell ⟨gb114, 2, none⟩ (.int .i64 ((rd_T66 l0_4 x3_1).f2))).heap[gb112]? = some (.cells #[.int .i64 a0_0, .int .i64 a0_1, .int .i64 a0_2, .slice A0_3 l0_3.length c0_3, .slice (some ad113) l0_4.length c0_4] 31 (0, 0))) := ⟨by (with_reducible repeat (first | refine blk_drewN ?_ _ | refine blk_drew ?_ | refine blk_alloc ?_ _)); refine blk_far ?_ NB112_114.out _; (with_reducible repeat (first | refine blk_drewN ?_ _ | refine blk_drew ?_ | refine blk_alloc ?_ _)); refine blk_far ?_ NB112_114.out _; (with_reducible repeat (first | refine blk_drewN ?_ _ | refine blk_drew ?_ | refine blk_alloc ?_ _)); refine blk_far ?_ NB112_114.out _; (with_reducible repeat (first | refine blk_drewN ?_ _ | refine blk_drew ?_ | refine blk_alloc ?_ _)); exact BK112.out⟩
           have n1_ : Aside0 ((((w7.setCell ⟨gb114, 0, none⟩ (.int .i64 ((rd_T66 l0_4 x3_1).f0))).setCell ⟨gb114, 1, none⟩ (.int .i64 ((rd_T66 l0_4 x3_1).f1))).setCell ⟨gb114, 2, none⟩ (.int .i64 ((rd_T66 l0_4 x3_1).f2))).heap[gb114]? = some (.cells #[.int .i64 ((rd_T66 l0_4 x3_1).f0), .int .i64 ((rd_T66 l0_4 x3_1).f1), .int .i64 ((rd_T66 l0_4 x3_1).f2)] 66 (0, 0))) := ⟨by (with_reducible repeat (first | refine blk_drewN ?_ _ | refine blk_drew ?_ | refine blk_alloc ?_ _)); refine blk_put (cs := #[.int .i64 ((rd_T66 l0_4 x3_1).f0), .int .i64 ((rd_T66 l0_4 x3_1).f1), .int .i64 0]) ?_ 2 _ rfl; (with_reducible repeat (first | refine blk_drewN ?_ _ | refine blk_drew ?_ | refine blk_alloc ?_ _)); refine blk_put (cs := #[.int .i64 ((rd_T66 l0_4 x3_1).f0), .int .i64 0, .int .i64 0]) ?_ 1 _ rfl; (with_reducible repeat (first | refine blk_drewN ?_ _ | refine blk_drew ?_ | refine blk_alloc ?_ _)); refine blk_put (cs := #[.int .i64 0, .int .i64 0, .int .i64 0]) ?_ 0 _ rfl; (with_reducible repeat (first | refine blk_drewN ?_ _ | refine blk_drew ?_ | refine blk_alloc ?_ _)); exact BK114.out⟩
           have n2_ : Aside0 (Below w.heap.size w (((w7.setCell ⟨gb114, 0, none⟩ (.int .i64 ((rd_T66 l0_4 x3_1).f0))).setCell ⟨gb114, 1, none⟩ (.int .i64 ((rd_T66 l0_4 x3_1).f1))).setCell ⟨gb114, 2, none⟩ (.int .i64 ((rd_T66 l0_4 x3_1).f2)))) := ⟨by repeat (first | (with_reducible first | exact HB.out | apply below_alloc | apply pw_below_drewN | apply below_drew1 | refine below_set ?_ GE112.out | refine below_set ?_ GE114.out) | exact HB.out)⟩
           (try clear BK112)
           (try clear BK114)
           (try clear HB)
           (try simp only [show ∀ (W_ : World) (n_ : Nat) (a_ : Addr) (v_ : Value), (W_.drewN n_).setCell a_ v_ = (W_.setCell a_ v_).drewN n_ from fun _ _ _ _ => rfl])
           generalize (((w7.setCell ⟨gb114, 0, none⟩ (.int .i64 ((rd_T66 l0_4 x3_1).f0))).setCell ⟨gb114, 1, none⟩ (.int .i64 ((rd_T66 l0_4 x3_1).f1))).setCell ⟨gb114, 2, none⟩ (.int .i64 ((rd_T66 l0_4 x3_1).f2))) = w19 at n0_ n1_ n2_ ⊢
           have BK112 := n0_
           have BK114 := n1_
           have HB := n2_
           clear n0_ n1_ n2_
           have n0_ := Aside0.mk (blk_drew BK112.out)
           have n1_ := Aside0.mk (blk_drew BK114.out)
           have n2_ := Aside0.mk (below_drew1 HB.out)
           clear BK112
           clear BK114
           clear HB
           have BK112 := n0_
           have BK114 := n1_
           have HB := n2_
           clear n0_ n1_ n2_
           have p117 : 0 ≤ (((rd_T66 l0_4 x3_1).f0) : Int) := of_decide_eq_true (by first | (with_reducible assumption) | assumption)
           have q117 : ((rd_T66 l0_4 x3_1).f0) < (l0_3.length : Int) := of_decide_eq_true (by first | (with_reducible assumption) | assumption)
           obtain ⟨ad117, e117, hx117_0, hx117_1, hx117_2, hx117_3⟩ := at_T69 HR0_3.out ((rd_T66 l0_4 x3_1).f0) p117 q117
           have hw117_3 := hx117_3
           have hw117_2 := hx117_2
           have hw117_1 := hx117_1
           have hw117_0 := hx117_0
           cases e117
           replace hx117_0 := (HB.out.cell (World.block_lt_of_cell? w _ hx117_0)).trans hx117_0
           replace hx117_1 := (HB.out.cell (World.block_lt_of_cell? w _ hx117_1)).trans hx117_1
           replace hx117_2 := (HB.out.cell (World.block_lt_of_cell? w _ hx117_2)).trans hx117_2
           replace hx117_3 := (HB.out.cell (World.block_lt_of_cell? w _ hx117_3)).trans hx117_3
           replace p117 := eq_true p117
           replace q117 := eq_true q117
           refine start_ (n := 34) (S := fun w' => w'.cell? ⟨gb112, 0, none⟩ = some (.int .i64 a0_0) ∧ w'.cell? ⟨gb112, 1, none⟩ = some (.int .i64 a0_1) ∧ w'.cell? ⟨gb112, 2, none⟩ = some (.int .i64 a0_2) ∧ w'.cell? ⟨gb112, 3, none⟩ = some (.slice (some ad117) l0_3.length c0_3) ∧ w'.cell? ⟨gb112, 4, none⟩ = some (.slice (some ad113) l0_4.length c0_4) ∧ w'.cell? ⟨gb114, 0, none⟩ = some (.int .i64 ((rd_T66 l0_4 x3_1).f0)) ∧ w'.cell? ⟨gb114, 1, none⟩ = some (.int .i64 ((rd_T66 l0_4 x3_1).f1)) ∧ w'.cell? ⟨gb114, 2, none⟩ = some (.int .i64 ((rd_T66 l0_4 x3_1).f2)) ∧ w'.cell? (ad117.add ((((rd_T66 l0_4 x3_1).f0)).toNat * 4)) = some (.int .i64 ((rd_T69 l0_3 ((rd_T66 l0_4 x3_1).f0)).f0)) ∧ w'.cell? ⟨(ad117.add ((((rd_T66 l0_4 x3_1).f0)).toNat * 4)).block, (ad117.add ((((rd_T66 l0_4 x3_1).f0)).toNat * 4)).off + 1, none⟩ = some (.int .i64 ((rd_T69 l0_3 ((rd_T66 l0_4 x3_1).f0)).f1)) ∧ w'.cell? ⟨(ad117.add ((((rd_T66 l0_4 x3_1).f0)).toNat * 4)).block, (ad117.add ((((rd_T66 l0_4 x3_1).f0)).toNat * 4)).off + 2, none⟩ = some (.int .i64 ((rd_T69 l0_3 ((rd_T66 l0_4 x3_1).f0)).f2)) ∧ w'.cell? ⟨(ad117.add ((((rd_T66 l0_4 x3_1).f0)).toNat * 4)).block, (ad117.add ((((rd_T66 l0_4 x3_1).f0)).toNat * 4)).off + 3, none⟩ = some (.int .i64 ((rd_T69 l0_3 ((rd_T66 l0_4 x3_1).f0)).f3))) (ds := []) ba0_ (by kernel_rfl) rfl rfl ⟨(blk_cell BK112.out 0).trans rfl, (blk_cell BK112.out 1).trans rfl, (blk_cell BK112.out 2).trans rfl, (blk_cell BK112.out 3).trans rfl, (blk_cell BK112.out 4).trans rfl, (blk_cell BK114.out 0).trans rfl, (blk_cell BK114.out 1).trans rfl, (blk_cell BK114.out 2).trans rfl, ((HB.out.cell (World.block_lt_of_cell? w _ hw117_0)).trans hw117_0), ((HB.out.cell (World.block_lt_of_cell? w _ hw117_1)).trans hw117_1), ((HB.out.cell (World.block_lt_of_cell? w _ hw117_2)).trans hw117_2), ((HB.out.cell (World.block_lt_of_cell? w _ hw117_3)).trans hw117_3)⟩ (fun hHeld => ?_); refine with_tabW spec_l12Tasks.tab5 spec_l12Tasks.bits5 (fun HT_ HW_ => ?_)
           generalize w19.drew = w20 at BK112 BK114 HB hx117_0 hx117_1 hx117_2 hx117_3 hHeld ⊢
           refine pure_ (i := 0) (N := some 19) (v := ?_) (a' := ?_) ba1_ rfl rfl (any_of HT_.out (by kernel_rfl)) id3_ (Or.inl ⟨by rfl, ?_⟩) ?_ ?_
           rotate_left; (intro w'; go_simp; with_reducible rfl)
           rotate_left; (simp only [Act.put, z0_, z1_, z2_, i64_w, i32_w]; rfl)
           refine pure_ (i := 2) (N := some 21) (v := ?_) (a' := ?_) ba2_ rfl rfl (any_of HT_.out (by kernel_rfl)) id3_ (Or.inl ⟨by rfl, ?_⟩) ?_ ?_
           rotate_left; (intro w'; go_simp; with_reducible rfl)
           rotate_left; (simp only [Act.put, z0_, z1_, z2_, i64_w, i32_w]; rfl)
           refine take_ (i := 1) (N := some 20) (v := ?_) (a' := ?_) ba3_ rfl rfl (take_ofW HT_.out HW_.out (by kernel_rfl)) id3_ (Or.inl ⟨by rfl, ?_⟩) hHeld ?_ ?_
           rotate_left
           ·
            rintro w' ⟨s0, s1, s2, s3, s4, s5, s6, s7, s8, s9, s10, s11⟩
            go_simp
            with_reducible rfl
           rotate_left; (simp only [Act.put, z0_, z1_, z2_, i64_w, i32_w]; rfl)
           refine take_ (i := 3) (N := some 22) (v := ?_) (a' := ?_) ba4_ rfl rfl (take_ofW HT_.out HW_.out (by kernel_rfl)) id3_ (Or.inl ⟨by rfl, ?_⟩) hHeld ?_ ?_
           rotate_left
           ·
            rintro w' ⟨s0, s1, s2, s3, s4, s5, s6, s7, s8, s9, s10, s11⟩
            go_simp
            with_reducible rfl
           rotate_left; (simp only [Act.put, z0_, z1_, z2_, i64_w, i32_w]; rfl)
           refine one_ (i := 4) (N := some 23) ba5_ rfl rfl (one_of HT_.out (by kernel_rfl)) (by decide) (fun K hK => ?_)
           refine goes_ Try.func82 (by kernel_rfl) rfl #[.slice (some ad117) l0_3.length c0_3, .int .i64 ((rd_T66 l0_4 x3_1).f0)] (by rfl) rfl rfl (by (try simp only [List.map_toArray, List.map_cons, List.map_nil]); first | done | rfl | (simp only [List.length_drop, List.length_take]; rfl)) ?_
           with_reducible refine (spec_l3Job.calls _ _ l0_3 ((rd_T66 l0_4 x3_1).f0) true _ ?side1 ?side2 A10.out).mono ?_
           (case side1 => repeat (first | exact (Kd.C_below HR0_3.out HB.out) | (with_reducible refine Kd.C_alloc ?_ _) | (with_reducible refine Kd.C_drewN ?_ _) | (with_reducible refine Kd.C_drew ?_)))
           (case side2 => exact HC0_3.out)
           rintro e w' ⟨rfl, ⟨nd, rfl⟩⟩
           refine ⟨_, rfl, ?_⟩
           refine hK.out _ _ ⟨(blk_cell BK112.out 0).trans rfl, (blk_cell BK112.out 1).trans rfl, (blk_cell BK112.out 2).trans rfl, (blk_cell BK112.out 3).trans rfl, (blk_cell BK112.out 4).trans rfl, (blk_cell BK114.out 0).trans rfl, (blk_cell BK114.out 1).trans rfl, (blk_cell BK114.out 2).trans rfl, ((HB.out.cell (World.block_lt_of_cell? w _ hw117_0)).trans hw117_0), ((HB.out.cell (World.block_lt_of_cell? w _ hw117_1)).trans hw117_1), ((HB.out.cell (World.block_lt_of_cell? w _ hw117_2)).trans hw117_2), ((HB.out.cell (World.block_lt_of_cell? w _ hw117_3)).trans hw117_3)⟩ (fun hHeld => ?_)
           clear hK K
           refine norm_ (a' := ?_) ?_ ?_
           rotate_left
           ·
            show Act.put _ (some 23) _ = _
            simp only [Act.put, z0_, z1_, z2_, i64_w, i32_w]
            rfl
           refine pure_ (i := 5) (N := some 24) (v := ?_) (a' := ?_) ba6_ rfl rfl (any_of HT_.out (by kernel_rfl)) id3_ (Or.inl ⟨by rfl, ?_⟩) ?_ ?_
           rotate_left; (intro w'; go_simp; with_reducible rfl)
           rotate_left; (simp only [Act.put, z0_, z1_, z2_, i64_w, i32_w]; rfl)
           refine pure_ (i := 6) (N := some 25) (v := ?_) (a' := ?_) ba7_ rfl rfl (any_of HT_.out (by kernel_rfl)) id3_ (Or.inl ⟨by rfl, ?_⟩) ?_ ?_
           rotate_left; (intro w'; go_simp; with_reducible rfl)
           rotate_left; (simp only [Act.put, z0_, z1_, z2_, i64_w, i32_w]; rfl)
           refine pure_ (i := 7) (N := some 26) (v := ?_) (a' := ?_) ba8_ rfl rfl (any_of HT_.out (by kernel_rfl)) id3_ (Or.inl ⟨by rfl, ?_⟩) ?_ ?_
           rotate_left; (intro w'; go_simp; with_reducible rfl)
           rotate_left; (simp only [Act.put, z0_, z1_, z2_, i64_w, i32_w]; rfl)
           refine pure_ (i := 9) (N := some 28) (v := ?_) (a' := ?_) ba9_ rfl rfl (any_of HT_.out (by kernel_rfl)) id3_ (Or.inl ⟨by rfl, ?_⟩) ?_ ?_
           rotate_left; (intro w'; go_simp; with_reducible rfl)
           rotate_left; (simp only [Act.put, z0_, z1_, z2_, i64_w, i32_w]; rfl)
           refine take_ (i := 8) (N := some 27) (v := ?_) (a' := ?_) ba10_ rfl rfl (take_ofW HT_.out HW_.out (by kernel_rfl)) id3_ (Or.inl ⟨by rfl, ?_⟩) hHeld ?_ ?_
           rotate_left
           ·
            rintro w' ⟨s0, s1, s2, s3, s4, s5, s6, s7, s8, s9, s10, s11⟩
            go_simp
            with_reducible rfl
           rotate_left; (simp only [Act.put, z0_, z1_, z2_, i64_w, i32_w]; rfl)
           refine take_ (i := 10) (N := some 29) (v := ?_) (a' := ?_) ba11_ rfl rfl (take_ofW HT_.out HW_.out (by kernel_rfl)) id3_ (Or.inl ⟨by rfl, ?_⟩) hHeld ?_ ?_
           rotate_left
           ·
            rintro w' ⟨s0, s1, s2, s3, s4, s5, s6, s7, s8, s9, s10, s11⟩
            go_simp
            with_reducible rfl
           rotate_left; (simp only [Act.put, z0_, z1_, z2_, i64_w, i32_w]; rfl)
           refine pure_ (i := 11) (N := some 30) (v := ?_) (a' := ?_) ba12_ rfl rfl (any_of HT_.out (by kernel_rfl)) id3_ (Or.inl ⟨by rfl, ?_⟩) ?_ ?_
           rotate_left; (intro w'; go_simp; with_reducible rfl)
           rotate_left; (simp only [Act.put, z0_, z1_, z2_, i64_w, i32_w]; rfl)
           refine one_ (i := 12) (N := some 31) ba13_ rfl rfl (one_of HT_.out (by kernel_rfl)) (by decide) (fun K hK => ?_)
           refine goes_ Try.func60 (by kernel_rfl) rfl #[.int .i64 ((rd_T66 l0_4 x3_1).f1), .int .i64 0, .int .i64 (wrap64 (a0_0 - 1))] (by rfl) rfl rfl (by (try simp only [List.map_toArray, List.map_cons, List.map_nil]); first | done | rfl | (simp only [List.length_drop, List.length_take]; rfl)) ?_
           with_reducible refine (spec_l1In.calls ((rd_T66 l0_4 x3_1).f1) 0 (wrap64 (a0_0 - 1)) true _ A12.out).mono ?_
           rintro e w' ⟨rfl, ⟨nd, rfl⟩⟩
           refine ⟨_, rfl, ?_⟩
           refine hK.out _ _ ⟨(blk_cell BK112.out 0).trans rfl, (blk_cell BK112.out 1).trans rfl, (blk_cell BK112.out 2).trans rfl, (blk_cell BK112.out 3).trans rfl, (blk_cell BK112.out 4).trans rfl, (blk_cell BK114.out 0).trans rfl, (blk_cell BK114.out 1).trans rfl, (blk_cell BK114.out 2).trans rfl, ((HB.out.cell (World.block_lt_of_cell? w _ hw117_0)).trans hw117_0), ((HB.out.cell (World.block_lt_of_cell? w _ hw117_1)).trans hw117_1), ((HB.out.cell (World.block_lt_of_cell? w _ hw117_2)).trans hw117_2), ((HB.out.cell (World.block_lt_of_cell? w _ hw117_3)).trans hw117_3)⟩ (fun hHeld => ?_)
           clear hK K
           refine norm_ (a' := ?_) ?_ ?_
           rotate_left
           ·
            show Act.put _ (some 31) _ = _
            simp only [Act.put, z0_, z1_, z2_, i64_w, i32_w]
            rfl
           refine pure_ (i := 13) (N := some 32) (v := ?_) (a' := ?_) ba14_ rfl rfl (any_of HT_.out (by kernel_rfl)) id3_ (Or.inl ⟨by rfl, ?_⟩) ?_ ?_
           rotate_left; (intro w'; go_simp; with_reducible rfl)
           rotate_left; (simp only [Act.put, z0_, z1_, z2_, i64_w, i32_w]; rfl)
           refine pure_ (i := 14) (N := some 33) (v := ?_) (a' := ?_) ba15_ rfl rfl (any_of HT_.out (by kernel_rfl)) id3_ (Or.inl ⟨by rfl, ?_⟩) ?_ ?_
           rotate_left; (intro w'; go_simp; with_reducible rfl)
           rotate_left; (simp only [Act.put, z0_, z1_, z2_, i64_w, i32_w]; rfl)
           refine pure_ (i := 15) (N := some 34) (v := ?_) (a' := ?_) ba16_ rfl rfl (any_of HT_.out (by kernel_rfl)) id3_ (Or.inl ⟨by rfl, ?_⟩) ?_ ?_
           rotate_left; (intro w'; go_simp; with_reducible rfl)
           rotate_left; (simp only [Act.put, z0_, z1_, z2_, i64_w, i32_w]; rfl)
           refine pure_ (i := 16) (N := some 35) (v := ?_) (a' := ?_) ba17_ rfl rfl (any_of HT_.out (by kernel_rfl)) id3_ (Or.inl ⟨by rfl, ?_⟩) ?_ ?_
           rotate_left; (intro w'; go_simp; with_reducible rfl)
           rotate_left; (simp only [Act.put, z0_, z1_, z2_, i64_w, i32_w]; rfl)
           refine pure_ (i := 18) (N := some 37) (v := ?_) (a' := ?_) ba18_ rfl rfl (any_of HT_.out (by kernel_rfl)) id3_ (Or.inl ⟨by rfl, ?_⟩) ?_ ?_
           rotate_left; (intro w'; go_simp; with_reducible rfl)
           rotate_left; (simp only [Act.put, z0_, z1_, z2_, i64_w, i32_w]; rfl)
           refine take_ (i := 17) (N := some 36) (v := ?_) (a' := ?_) ba19_ rfl rfl (take_ofW HT_.out HW_.out (by kernel_rfl)) id3_ (Or.inl ⟨by rfl, ?_⟩) hHeld ?_ ?_
           rotate_left
           ·
            rintro w' ⟨s0, s1, s2, s3, s4, s5, s6, s7, s8, s9, s10, s11⟩
            go_simp
            with_reducible rfl
           rotate_left; (simp only [Act.put, z0_, z1_, z2_, i64_w, i32_w]; rfl)
           refine take_ (i := 19) (N := some 38) (v := ?_) (a' := ?_) ba20_ rfl rfl (take_ofW HT_.out HW_.out (by kernel_rfl)) id3_ (Or.inl ⟨by rfl, ?_⟩) hHeld ?_ ?_
           rotate_left
           ·
            rintro w' ⟨s0, s1, s2, s3, s4, s5, s6, s7, s8, s9, s10, s11⟩
            go_simp
            with_reducible rfl
           rotate_left; (simp only [Act.put, z0_, z1_, z2_, i64_w, i32_w]; rfl)
           refine pure_ (i := 20) (N := some 39) (v := ?_) (a' := ?_) ba21_ rfl rfl (any_of HT_.out (by kernel_rfl)) id3_ (Or.inl ⟨by rfl, ?_⟩) ?_ ?_
           rotate_left; (intro w'; go_simp; with_reducible rfl)
           rotate_left; (simp only [Act.put, z0_, z1_, z2_, i64_w, i32_w]; rfl)
           refine pure_ (i := 21) (N := some 40) (v := ?_) (a' := ?_) ba22_ rfl rfl (any_of HT_.out (by kernel_rfl)) id3_ (Or.inl ⟨by rfl, ?_⟩) ?_ ?_
           rotate_left; (intro w'; go_simp; with_reducible rfl)
           rotate_left; (simp only [Act.put, z0_, z1_, z2_, i64_w, i32_w]; rfl)
           refine pure_ (i := 22) (N := some 41) (v := ?_) (a' := ?_) ba23_ rfl rfl (any_of HT_.out (by kernel_rfl)) id3_ (Or.inl ⟨by rfl, ?_⟩) ?_ ?_
           rotate_left; (intro w'; go_simp; with_reducible rfl)
           rotate_left; (simp only [Act.put, z0_, z1_, z2_, i64_w, i32_w]; rfl)
           refine pure_ (i := 23) (N := some 42) (v := ?_) (a' := ?_) ba24_ rfl rfl (any_of HT_.out (by kernel_rfl)) id3_ (Or.inl ⟨by rfl, ?_⟩) ?_ ?_
           rotate_left; (intro w'; go_simp; with_reducible rfl)
           rotate_left; (simp only [Act.put, z0_, z1_, z2_, i64_w, i32_w]; rfl)
           refine pure_ (i := 25) (N := some 44) (v := ?_) (a' := ?_) ba35_ rfl rfl (any_of HT_.out (by kernel_rfl)) id3_ (Or.inl ⟨by rfl, ?_⟩) ?_ ?_
           rotate_left; (intro w'; go_simp; with_reducible rfl)
           rotate_left; (simp only [Act.put, z0_, z1_, z2_, i64_w, i32_w]; rfl)
           refine pure_ (i := 27) (N := some 46) (v := ?_) (a' := ?_) ba36_ rfl rfl (any_of HT_.out (by kernel_rfl)) id3_ (Or.inl ⟨by rfl, ?_⟩) ?_ ?_
           rotate_left; (intro w'; go_simp; with_reducible rfl)
           rotate_left; (simp only [Act.put, z0_, z1_, z2_, i64_w, i32_w]; rfl)
           refine take_ (i := 24) (N := some 43) (v := ?_) (a' := ?_) ba37_ rfl rfl (take_ofW HT_.out HW_.out (by kernel_rfl)) id3_ (Or.inl ⟨by rfl, ?_⟩) hHeld ?_ ?_
           rotate_left
           ·
            rintro w' ⟨s0, s1, s2, s3, s4, s5, s6, s7, s8, s9, s10, s11⟩
            go_simp
            with_reducible rfl
           rotate_left; (simp only [Act.put, z0_, z1_, z2_, i64_w, i32_w]; rfl)
           refine take_ (i := 26) (N := some 45) (v := ?_) (a' := ?_) ba28_ rfl rfl (take_ofW HT_.out HW_.out (by kernel_rfl)) id3_ (Or.inl ⟨by rfl, ?_⟩) hHeld ?_ ?_
           rotate_left
           ·
            rintro w' ⟨s0, s1, s2, s3, s4, s5, s6, s7, s8, s9, s10, s11⟩
            go_simp
            with_reducible rfl
           rotate_left; (simp only [Act.put, z0_, z1_, z2_, i64_w, i32_w]; rfl)
           refine take_ (i := 28) (N := some 47) (v := ?_) (a' := ?_) ba29_ rfl rfl (take_ofW HT_.out HW_.out (by kernel_rfl)) id3_ (Or.inl ⟨by rfl, ?_⟩) hHeld ?_ ?_
           rotate_left
           ·
            rintro w' ⟨s0, s1, s2, s3, s4, s5, s6, s7, s8, s9, s10, s11⟩
            go_simp
            with_reducible rfl
           rotate_left; (simp only [Act.put, z0_, z1_, z2_, i64_w, i32_w]; rfl)
           refine pure_ (i := 29) (N := some 48) (v := ?_) (a' := ?_) ba30_ rfl rfl (any_of HT_.out (by kernel_rfl)) id3_ (Or.inl ⟨by rfl, ?_⟩) ?_ ?_
           rotate_left; (intro w'; go_simp; with_reducible rfl)
           rotate_left; (simp only [Act.put, z0_, z1_, z2_, i64_w, i32_w]; rfl)
           refine pure_ (i := 30) (N := some 49) (v := ?_) (a' := ?_) ba31_ rfl rfl (any_of HT_.out (by kernel_rfl)) id3_ (Or.inl ⟨by rfl, ?_⟩) ?_ ?_
           rotate_left; (intro w'; go_simp; with_reducible rfl)
           rotate_left; (simp only [Act.put, z0_, z1_, z2_, i64_w, i32_w]; rfl)
           refine take_ (i := 31) (N := some 50) (v := ?_) (a' := ?_) ba32_ rfl rfl (take_ofW HT_.out HW_.out (by kernel_rfl)) id3_ (Or.inl ⟨by rfl, ?_⟩) hHeld ?_ ?_
           rotate_left
           ·
            rintro w' ⟨s0, s1, s2, s3, s4, s5, s6, s7, s8, s9, s10, s11⟩
            go_simp
            with_reducible rfl
           rotate_left; (simp only [Act.put, z0_, z1_, z2_, i64_w, i32_w]; rfl)
           refine pure_ (i := 32) (N := some 51) (v := ?_) (a' := ?_) ba33_ rfl rfl (any_of HT_.out (by kernel_rfl)) id3_ (Or.inl ⟨by rfl, ?_⟩) ?_ ?_
           rotate_left; (intro w'; go_simp; with_reducible rfl)
           rotate_left; (simp only [Act.put, z0_, z1_, z2_, i64_w, i32_w]; rfl)
           refine pure_ (i := 33) (N := some 52) (v := ?_) (a' := ?_) ba34_ rfl rfl (any_of HT_.out (by kernel_rfl)) id3_ (Or.inl ⟨by rfl, ?_⟩) ?_ ?_
           rotate_left; (intro w'; go_simp; with_reducible rfl)
           rotate_left; (simp only [Act.put, z0_, z1_, z2_, i64_w, i32_w]; rfl)
           refine done_ (done_of HT_.out (by kernel_rfl)) ?_
           try go_wp2
           go_meet
           case rel => exact ⟨_, (decide (((rd_T66 l0_4 x3_1).f2) < ((rd_T69 l0_3 ((rd_T66 l0_4 x3_1).f0)).f2))), (by first | rfl | (simp; done) | (simp [*]; done)), H', ⟨by have := HK1.out; first | omega | exact Nat.le_refl _⟩, ⟨by (with_reducible repeat (first | refine blk_drewN ?_ _ | refine blk_drew ?_ | refine blk_alloc ?_ _)); exact BK112.out⟩, ⟨by (with_reducible repeat (first | refine blk_drewN ?_ _ | refine blk_drew ?_ | refine blk_alloc ?_ _)); exact BK114.out⟩, ⟨by repeat (first | (with_reducible first | exact HB.out | apply below_alloc | apply pw_below_drewN | apply below_drew1 | refine below_set ?_ GE112.out | refine below_set ?_ GE114.out) | exact HB.out)⟩⟩
          ·
           rw [if_neg c18] at H
           exact absurd H (by simp)
         ·
          rw [if_neg c17] at H
          exact absurd H (by simp)
       ·
        replace c13 := Bool.eq_false_iff.mpr c13
        subst c13
        have H1 : (spec_l12Tasks.j1 k1 x3_1 true a0_0 a0_1 a0_2 l0_3 l0_4 ((rd_T66 l0_4 x3_1).f0) ((rd_T66 l0_4 x3_1).f1) ((rd_T66 l0_4 x3_1).f2)) = some r := by rw [if_neg (show ¬ (false = true) by decide)] at H; exact H
        clear H
        have H := H1
        clear H1
        have H' := Aside0.mk H
        clear H
        try go_wp2
        have n0_ : Aside0 ((((w7.setCell ⟨gb114, 0, none⟩ (.int .i64 ((rd_T66 l0_4 x3_1).f0))).setCell ⟨gb114, 1, none⟩ (.int .i64 ((rd_T66 l0_4 x3_1).f1))).setCell ⟨gb114, 2, none⟩ (.int .i64 ((rd_T66 l0_4 x3_1).f2))).heap[gb112]? = some (.cells #[.int .i64 a0_0, .int .i64 a0_1, .int .i64 a0_2, .slice A0_3 l0_3.length c0_3, .slice (some ad113) l0_4.length c0_4] 31 (0, 0))) := ⟨by (with_reducible repeat (first | refine blk_drewN ?_ _ | refine blk_drew ?_ | refine blk_alloc ?_ _)); refine blk_far ?_ NB112_114.out _; (with_reducible repeat (first | refine blk_drewN ?_ _ | refine blk_drew ?_ | refine blk_alloc ?_ _)); refine blk_far ?_ NB112_114.out _; (with_reducible repeat (first | refine blk_drewN ?_ _ | refine blk_drew ?_ | refine blk_alloc ?_ _)); refine blk_far ?_ NB112_114.out _; (with_reducible repeat (first | refine blk_drewN ?_ _ | refine blk_drew ?_ | refine blk_alloc ?_ _)); exact BK112.out⟩
        have n1_ : Aside0 ((((w7.setCell ⟨gb114, 0, none⟩ (.int .i64 ((rd_T66 l0_4 x3_1).f0))).setCell ⟨gb114, 1, none⟩ (.int .i64 ((rd_T66 l0_4 x3_1).f1))).setCell ⟨gb114, 2, none⟩ (.int .i64 ((rd_T66 l0_4 x3_1).f2))).heap[gb114]? = some (.cells #[.int .i64 ((rd_T66 l0_4 x3_1).f0), .int .i64 ((rd_T66 l0_4 x3_1).f1), .int .i64 ((rd_T66 l0_4 x3_1).f2)] 66 (0, 0))) := ⟨by (with_reducible repeat (first | refine blk_drewN ?_ _ | refine blk_drew ?_ | refine blk_alloc ?_ _)); refine blk_put (cs := #[.int .i64 ((rd_T66 l0_4 x3_1).f0), .int .i64 ((rd_T66 l0_4 x3_1).f1), .int .i64 0]) ?_ 2 _ rfl; (with_reducible repeat (first | refine blk_drewN ?_ _ | refine blk_drew ?_ | refine blk_alloc ?_ _)); refine blk_put (cs := #[.int .i64 ((rd_T66 l0_4 x3_1).f0), .int .i64 0, .int .i64 0]) ?_ 1 _ rfl; (with_reducible repeat (first | refine blk_drewN ?_ _ | refine blk_drew ?_ | refine blk_alloc ?_ _)); refine blk_put (cs := #[.int .i64 0, .int .i64 0, .int .i64 0]) ?_ 0 _ rfl; (with_reducible repeat (first | refine blk_drewN ?_ _ | refine blk_drew ?_ | refine blk_alloc ?_ _)); exact BK114.out⟩
        have n2_ : Aside0 (Below w.heap.size w (((w7.setCell ⟨gb114, 0, none⟩ (.int .i64 ((rd_T66 l0_4 x3_1).f0))).setCell ⟨gb114, 1, none⟩ (.int .i64 ((rd_T66 l0_4 x3_1).f1))).setCell ⟨gb114, 2, none⟩ (.int .i64 ((rd_T66 l0_4 x3_1).f2)))) := ⟨by repeat (first | (with_reducible first | exact HB.out | apply below_alloc | apply pw_below_drewN | apply below_drew1 | refine below_set ?_ GE112.out | refine below_set ?_ GE114.out) | exact HB.out)⟩
        (try clear BK112)
        (try clear BK114)
        (try clear HB)
        (try simp only [show ∀ (W_ : World) (n_ : Nat) (a_ : Addr) (v_ : Value), (W_.drewN n_).setCell a_ v_ = (W_.setCell a_ v_).drewN n_ from fun _ _ _ _ => rfl])
        generalize (((w7.setCell ⟨gb114, 0, none⟩ (.int .i64 ((rd_T66 l0_4 x3_1).f0))).setCell ⟨gb114, 1, none⟩ (.int .i64 ((rd_T66 l0_4 x3_1).f1))).setCell ⟨gb114, 2, none⟩ (.int .i64 ((rd_T66 l0_4 x3_1).f2))) = w21 at n0_ n1_ n2_ ⊢
        have BK112 := n0_
        have BK114 := n1_
        have HB := n2_
        clear n0_ n1_ n2_
        have n0_ := Aside0.mk (blk_drew BK112.out)
        have n1_ := Aside0.mk (blk_drew BK114.out)
        have n2_ := Aside0.mk (below_drew1 HB.out)
        clear BK112
        clear BK114
        clear HB
        have BK112 := n0_
        have BK114 := n1_
        have HB := n2_
        clear n0_ n1_ n2_
        refine start_ (n := 34) (S := fun w' => w'.cell? ⟨gb112, 0, none⟩ = some (.int .i64 a0_0) ∧ w'.cell? ⟨gb112, 1, none⟩ = some (.int .i64 a0_1) ∧ w'.cell? ⟨gb112, 2, none⟩ = some (.int .i64 a0_2) ∧ w'.cell? ⟨gb112, 3, none⟩ = some (.slice A0_3 l0_3.length c0_3) ∧ w'.cell? ⟨gb112, 4, none⟩ = some (.slice (some ad113) l0_4.length c0_4) ∧ w'.cell? ⟨gb114, 0, none⟩ = some (.int .i64 ((rd_T66 l0_4 x3_1).f0)) ∧ w'.cell? ⟨gb114, 1, none⟩ = some (.int .i64 ((rd_T66 l0_4 x3_1).f1)) ∧ w'.cell? ⟨gb114, 2, none⟩ = some (.int .i64 ((rd_T66 l0_4 x3_1).f2))) (ds := []) ba0_ (by kernel_rfl) rfl rfl ⟨(blk_cell BK112.out 0).trans rfl, (blk_cell BK112.out 1).trans rfl, (blk_cell BK112.out 2).trans rfl, (blk_cell BK112.out 3).trans rfl, (blk_cell BK112.out 4).trans rfl, (blk_cell BK114.out 0).trans rfl, (blk_cell BK114.out 1).trans rfl, (blk_cell BK114.out 2).trans rfl⟩ (fun hHeld => ?_); refine with_tabW spec_l12Tasks.tab5 spec_l12Tasks.bits5 (fun HT_ HW_ => ?_)
        generalize w21.drew = w22 at BK112 BK114 HB hHeld ⊢
        refine pure_ (i := 0) (N := some 19) (v := ?_) (a' := ?_) ba1_ rfl rfl (any_of HT_.out (by kernel_rfl)) id3_ (Or.inl ⟨by rfl, ?_⟩) ?_ ?_
        rotate_left; (intro w'; go_simp; with_reducible rfl)
        rotate_left; (simp only [Act.put, z0_, z1_, z2_, i64_w, i32_w]; rfl)
        refine pure_ (i := 2) (N := some 21) (v := ?_) (a' := ?_) ba2_ rfl rfl (any_of HT_.out (by kernel_rfl)) id3_ (Or.inl ⟨by rfl, ?_⟩) ?_ ?_
        rotate_left; (intro w'; go_simp; with_reducible rfl)
        rotate_left; (simp only [Act.put, z0_, z1_, z2_, i64_w, i32_w]; rfl)
        refine take_ (i := 1) (N := some 20) (v := ?_) (a' := ?_) ba3_ rfl rfl (take_ofW HT_.out HW_.out (by kernel_rfl)) id3_ (Or.inl ⟨by rfl, ?_⟩) hHeld ?_ ?_
        rotate_left
        ·
         rintro w' ⟨s0, s1, s2, s3, s4, s5, s6, s7⟩
         go_simp
         with_reducible rfl
        rotate_left; (simp only [Act.put, z0_, z1_, z2_, i64_w, i32_w]; rfl)
        refine take_ (i := 3) (N := some 22) (v := ?_) (a' := ?_) ba4_ rfl rfl (take_ofW HT_.out HW_.out (by kernel_rfl)) id3_ (Or.inl ⟨by rfl, ?_⟩) hHeld ?_ ?_
        rotate_left
        ·
         rintro w' ⟨s0, s1, s2, s3, s4, s5, s6, s7⟩
         go_simp
         with_reducible rfl
        rotate_left; (simp only [Act.put, z0_, z1_, z2_, i64_w, i32_w]; rfl)
        refine one_ (i := 4) (N := some 23) ba5_ rfl rfl (one_of HT_.out (by kernel_rfl)) (by decide) (fun K hK => ?_)
        refine goes_ Try.func82 (by kernel_rfl) rfl #[.slice A0_3 l0_3.length c0_3, .int .i64 ((rd_T66 l0_4 x3_1).f0)] (by rfl) rfl rfl (by (try simp only [List.map_toArray, List.map_cons, List.map_nil]); first | done | rfl | (simp only [List.length_drop, List.length_take]; rfl)) ?_
        with_reducible refine (spec_l3Job.calls _ _ l0_3 ((rd_T66 l0_4 x3_1).f0) true _ ?side1 ?side2 A10.out).mono ?_
        (case side1 => repeat (first | exact (Kd.C_below HR0_3.out HB.out) | (with_reducible refine Kd.C_alloc ?_ _) | (with_reducible refine Kd.C_drewN ?_ _) | (with_reducible refine Kd.C_drew ?_)))
        (case side2 => exact HC0_3.out)
        rintro e w' ⟨rfl, ⟨nd, rfl⟩⟩
        refine ⟨_, rfl, ?_⟩
        refine hK.out _ _ ⟨(blk_cell BK112.out 0).trans rfl, (blk_cell BK112.out 1).trans rfl, (blk_cell BK112.out 2).trans rfl, (blk_cell BK112.out 3).trans rfl, (blk_cell BK112.out 4).trans rfl, (blk_cell BK114.out 0).trans rfl, (blk_cell BK114.out 1).trans rfl, (blk_cell BK114.out 2).trans rfl⟩ (fun hHeld => ?_)
        clear hK K
        refine norm_ (a' := ?_) ?_ ?_
        rotate_left
        ·
         show Act.put _ (some 23) _ = _
         simp only [Act.put, z0_, z1_, z2_, i64_w, i32_w]
         rfl
        refine pure_ (i := 5) (N := some 24) (v := ?_) (a' := ?_) ba6_ rfl rfl (any_of HT_.out (by kernel_rfl)) id3_ (Or.inl ⟨by rfl, ?_⟩) ?_ ?_
        rotate_left; (intro w'; go_simp; with_reducible rfl)
        rotate_left; (simp only [Act.put, z0_, z1_, z2_, i64_w, i32_w]; rfl)
        refine pure_ (i := 6) (N := some 25) (v := ?_) (a' := ?_) ba7_ rfl rfl (any_of HT_.out (by kernel_rfl)) id3_ (Or.inl ⟨by rfl, ?_⟩) ?_ ?_
        rotate_left; (intro w'; go_simp; with_reducible rfl)
        rotate_left; (simp only [Act.put, z0_, z1_, z2_, i64_w, i32_w]; rfl)
        refine pure_ (i := 7) (N := some 26) (v := ?_) (a' := ?_) ba8_ rfl rfl (any_of HT_.out (by kernel_rfl)) id3_ (Or.inl ⟨by rfl, ?_⟩) ?_ ?_
        rotate_left; (intro w'; go_simp; with_reducible rfl)
        rotate_left; (simp only [Act.put, z0_, z1_, z2_, i64_w, i32_w]; rfl)
        refine pure_ (i := 9) (N := some 28) (v := ?_) (a' := ?_) ba9_ rfl rfl (any_of HT_.out (by kernel_rfl)) id3_ (Or.inl ⟨by rfl, ?_⟩) ?_ ?_
        rotate_left; (intro w'; go_simp; with_reducible rfl)
        rotate_left; (simp only [Act.put, z0_, z1_, z2_, i64_w, i32_w]; rfl)
        refine take_ (i := 8) (N := some 27) (v := ?_) (a' := ?_) ba10_ rfl rfl (take_ofW HT_.out HW_.out (by kernel_rfl)) id3_ (Or.inl ⟨by rfl, ?_⟩) hHeld ?_ ?_
        rotate_left
        ·
         rintro w' ⟨s0, s1, s2, s3, s4, s5, s6, s7⟩
         go_simp
         with_reducible rfl
        rotate_left; (simp only [Act.put, z0_, z1_, z2_, i64_w, i32_w]; rfl)
        refine take_ (i := 10) (N := some 29) (v := ?_) (a' := ?_) ba11_ rfl rfl (take_ofW HT_.out HW_.out (by kernel_rfl)) id3_ (Or.inl ⟨by rfl, ?_⟩) hHeld ?_ ?_
        rotate_left
        ·
         rintro w' ⟨s0, s1, s2, s3, s4, s5, s6, s7⟩
         go_simp
         with_reducible rfl
        rotate_left; (simp only [Act.put, z0_, z1_, z2_, i64_w, i32_w]; rfl)
        refine pure_ (i := 11) (N := some 30) (v := ?_) (a' := ?_) ba12_ rfl rfl (any_of HT_.out (by kernel_rfl)) id3_ (Or.inl ⟨by rfl, ?_⟩) ?_ ?_
        rotate_left; (intro w'; go_simp; with_reducible rfl)
        rotate_left; (simp only [Act.put, z0_, z1_, z2_, i64_w, i32_w]; rfl)
        refine one_ (i := 12) (N := some 31) ba13_ rfl rfl (one_of HT_.out (by kernel_rfl)) (by decide) (fun K hK => ?_)
        refine goes_ Try.func60 (by kernel_rfl) rfl #[.int .i64 ((rd_T66 l0_4 x3_1).f1), .int .i64 0, .int .i64 (wrap64 (a0_0 - 1))] (by rfl) rfl rfl (by (try simp only [List.map_toArray, List.map_cons, List.map_nil]); first | done | rfl | (simp only [List.length_drop, List.length_take]; rfl)) ?_
        with_reducible refine (spec_l1In.calls ((rd_T66 l0_4 x3_1).f1) 0 (wrap64 (a0_0 - 1)) false _ A12.out).mono ?_
        rintro e w' ⟨rfl, ⟨nd, rfl⟩⟩
        refine ⟨_, rfl, ?_⟩
        refine hK.out _ _ ⟨(blk_cell BK112.out 0).trans rfl, (blk_cell BK112.out 1).trans rfl, (blk_cell BK112.out 2).trans rfl, (blk_cell BK112.out 3).trans rfl, (blk_cell BK112.out 4).trans rfl, (blk_cell BK114.out 0).trans rfl, (blk_cell BK114.out 1).trans rfl, (blk_cell BK114.out 2).trans rfl⟩ (fun hHeld => ?_)
        clear hK K
        refine norm_ (a' := ?_) ?_ ?_
        rotate_left
        ·
         show Act.put _ (some 31) _ = _
         simp only [Act.put, z0_, z1_, z2_, i64_w, i32_w]
         rfl
        refine pure_ (i := 13) (N := some 32) (v := ?_) (a' := ?_) ba14_ rfl rfl (any_of HT_.out (by kernel_rfl)) id3_ (Or.inl ⟨by rfl, ?_⟩) ?_ ?_
        rotate_left; (intro w'; go_simp; with_reducible rfl)
        rotate_left; (simp only [Act.put, z0_, z1_, z2_, i64_w, i32_w]; rfl)
        refine pure_ (i := 14) (N := some 33) (v := ?_) (a' := ?_) ba15_ rfl rfl (any_of HT_.out (by kernel_rfl)) id3_ (Or.inl ⟨by rfl, ?_⟩) ?_ ?_
        rotate_left; (intro w'; go_simp; with_reducible rfl)
        rotate_left; (simp only [Act.put, z0_, z1_, z2_, i64_w, i32_w]; rfl)
        refine pure_ (i := 15) (N := some 34) (v := ?_) (a' := ?_) ba16_ rfl rfl (any_of HT_.out (by kernel_rfl)) id3_ (Or.inl ⟨by rfl, ?_⟩) ?_ ?_
        rotate_left; (intro w'; go_simp; with_reducible rfl)
        rotate_left; (simp only [Act.put, z0_, z1_, z2_, i64_w, i32_w]; rfl)
        refine pure_ (i := 16) (N := some 35) (v := undef) (a' := ?_) ba17_ rfl rfl (any_of HT_.out (by kernel_rfl)) id3_ (Or.inr ⟨by rfl, rfl⟩) ?_ ?_
        rotate_left; (simp only [Act.put, z0_, z1_, z2_, i64_w, i32_w]; rfl)
        refine pure_ (i := 17) (N := some 36) (v := undef) (a' := ?_) ba38_ rfl rfl (any_of HT_.out (by kernel_rfl)) id3_ (Or.inr ⟨by rfl, rfl⟩) ?_ ?_
        rotate_left; (simp only [Act.put, z0_, z1_, z2_, i64_w, i32_w]; rfl)
        refine pure_ (i := 18) (N := some 37) (v := undef) (a' := ?_) ba19_ rfl rfl (any_of HT_.out (by kernel_rfl)) id3_ (Or.inr ⟨by rfl, rfl⟩) ?_ ?_
        rotate_left; (simp only [Act.put, z0_, z1_, z2_, i64_w, i32_w]; rfl)
        refine pure_ (i := 19) (N := some 38) (v := undef) (a' := ?_) ba20_ rfl rfl (any_of HT_.out (by kernel_rfl)) id3_ (Or.inr ⟨by rfl, rfl⟩) ?_ ?_
        rotate_left; (simp only [Act.put, z0_, z1_, z2_, i64_w, i32_w]; rfl)
        refine pure_ (i := 20) (N := some 39) (v := undef) (a' := ?_) ba21_ rfl rfl (any_of HT_.out (by kernel_rfl)) id3_ (Or.inr ⟨by rfl, rfl⟩) ?_ ?_
        rotate_left; (simp only [Act.put, z0_, z1_, z2_, i64_w, i32_w]; rfl)
        refine pure_ (i := 21) (N := some 40) (v := ?_) (a' := ?_) ba22_ rfl rfl (any_of HT_.out (by kernel_rfl)) id3_ (Or.inl ⟨by rfl, ?_⟩) ?_ ?_
        rotate_left; (intro w'; go_simp; with_reducible rfl)
        rotate_left; (simp only [Act.put, z0_, z1_, z2_, i64_w, i32_w]; rfl)
        refine pure_ (i := 22) (N := some 41) (v := ?_) (a' := ?_) ba23_ rfl rfl (any_of HT_.out (by kernel_rfl)) id3_ (Or.inl ⟨by rfl, ?_⟩) ?_ ?_
        rotate_left; (intro w'; go_simp; with_reducible rfl)
        rotate_left; (simp only [Act.put, z0_, z1_, z2_, i64_w, i32_w]; rfl)
        refine pure_ (i := 23) (N := some 42) (v := undef) (a' := ?_) ba24_ rfl rfl (any_of HT_.out (by kernel_rfl)) id3_ (Or.inr ⟨by rfl, rfl⟩) ?_ ?_
        rotate_left; (simp only [Act.put, z0_, z1_, z2_, i64_w, i32_w]; rfl)
        refine pure_ (i := 24) (N := some 43) (v := undef) (a' := ?_) ba25_ rfl rfl (any_of HT_.out (by kernel_rfl)) id3_ (Or.inr ⟨by rfl, rfl⟩) ?_ ?_
        rotate_left; (simp only [Act.put, z0_, z1_, z2_, i64_w, i32_w]; rfl)
        refine pure_ (i := 25) (N := some 44) (v := undef) (a' := ?_) ba26_ rfl rfl (any_of HT_.out (by kernel_rfl)) id3_ (Or.inr ⟨by rfl, rfl⟩) ?_ ?_
        rotate_left; (simp only [Act.put, z0_, z1_, z2_, i64_w, i32_w]; rfl)
        refine pure_ (i := 26) (N := some 45) (v := undef) (a' := ?_) ba27_ rfl rfl (any_of HT_.out (by kernel_rfl)) id3_ (Or.inr ⟨by rfl, rfl⟩) ?_ ?_
        rotate_left; (simp only [Act.put, z0_, z1_, z2_, i64_w, i32_w]; rfl)
        refine pure_ (i := 27) (N := some 46) (v := undef) (a' := ?_) ba28_ rfl rfl (any_of HT_.out (by kernel_rfl)) id3_ (Or.inr ⟨by rfl, rfl⟩) ?_ ?_
        rotate_left; (simp only [Act.put, z0_, z1_, z2_, i64_w, i32_w]; rfl)
        refine pure_ (i := 28) (N := some 47) (v := undef) (a' := ?_) ba29_ rfl rfl (any_of HT_.out (by kernel_rfl)) id3_ (Or.inr ⟨by rfl, rfl⟩) ?_ ?_
        rotate_left; (simp only [Act.put, z0_, z1_, z2_, i64_w, i32_w]; rfl)
        refine pure_ (i := 29) (N := some 48) (v := undef) (a' := ?_) ba30_ rfl rfl (any_of HT_.out (by kernel_rfl)) id3_ (Or.inr ⟨by rfl, rfl⟩) ?_ ?_
        rotate_left; (simp only [Act.put, z0_, z1_, z2_, i64_w, i32_w]; rfl)
        refine pure_ (i := 30) (N := some 49) (v := undef) (a' := ?_) ba31_ rfl rfl (any_of HT_.out (by kernel_rfl)) id3_ (Or.inr ⟨by rfl, rfl⟩) ?_ ?_
        rotate_left; (simp only [Act.put, z0_, z1_, z2_, i64_w, i32_w]; rfl)
        refine pure_ (i := 31) (N := some 50) (v := undef) (a' := ?_) ba32_ rfl rfl (any_of HT_.out (by kernel_rfl)) id3_ (Or.inr ⟨by rfl, rfl⟩) ?_ ?_
        rotate_left; (simp only [Act.put, z0_, z1_, z2_, i64_w, i32_w]; rfl)
        refine pure_ (i := 32) (N := some 51) (v := undef) (a' := ?_) ba33_ rfl rfl (any_of HT_.out (by kernel_rfl)) id3_ (Or.inr ⟨by rfl, rfl⟩) ?_ ?_
        rotate_left; (simp only [Act.put, z0_, z1_, z2_, i64_w, i32_w]; rfl)
        refine pure_ (i := 33) (N := some 52) (v := ?_) (a' := ?_) ba34_ rfl rfl (any_of HT_.out (by kernel_rfl)) id3_ (Or.inl ⟨by rfl, ?_⟩) ?_ ?_
        rotate_left; (intro w'; go_simp; with_reducible rfl)
        rotate_left; (simp only [Act.put, z0_, z1_, z2_, i64_w, i32_w]; rfl)
        refine done_ (done_of HT_.out (by kernel_rfl)) ?_
        try go_wp2
        go_meet
        case rel => exact ⟨_, (true), (by first | rfl | (simp; done) | (simp [*]; done)), H', ⟨by have := HK1.out; first | omega | exact Nat.le_refl _⟩, ⟨by (with_reducible repeat (first | refine blk_drewN ?_ _ | refine blk_drew ?_ | refine blk_alloc ?_ _)); exact BK112.out⟩, ⟨by (with_reducible repeat (first | refine blk_drewN ?_ _ | refine blk_drew ?_ | refine blk_alloc ?_ _)); exact BK114.out⟩, ⟨by repeat (first | (with_reducible first | exact HB.out | apply below_alloc | apply pw_below_drewN | apply below_drew1 | refine below_set ?_ GE112.out | refine below_set ?_ GE114.out) | exact HB.out)⟩⟩
      ·
       replace c11 := Bool.eq_false_iff.mpr c11
       subst c11
       have H1 : (spec_l12Tasks.j1 k1 x3_1 true a0_0 a0_1 a0_2 l0_3 l0_4 ((rd_T66 l0_4 x3_1).f0) ((rd_T66 l0_4 x3_1).f1) ((rd_T66 l0_4 x3_1).f2)) = some r := by rw [if_neg (show ¬ (false = true) by decide)] at H; exact H
       clear H
       have H := H1
       clear H1
       have H' := Aside0.mk H
       clear H
       try go_wp2
       have n0_ : Aside0 ((((w7.setCell ⟨gb114, 0, none⟩ (.int .i64 ((rd_T66 l0_4 x3_1).f0))).setCell ⟨gb114, 1, none⟩ (.int .i64 ((rd_T66 l0_4 x3_1).f1))).setCell ⟨gb114, 2, none⟩ (.int .i64 ((rd_T66 l0_4 x3_1).f2))).heap[gb112]? = some (.cells #[.int .i64 a0_0, .int .i64 a0_1, .int .i64 a0_2, .slice A0_3 l0_3.length c0_3, .slice (some ad113) l0_4.length c0_4] 31 (0, 0))) := ⟨by (with_reducible repeat (first | refine blk_drewN ?_ _ | refine blk_drew ?_ | refine blk_alloc ?_ _)); refine blk_far ?_ NB112_114.out _; (with_reducible repeat (first | refine blk_drewN ?_ _ | refine blk_drew ?_ | refine blk_alloc ?_ _)); refine blk_far ?_ NB112_114.out _; (with_reducible repeat (first | refine blk_drewN ?_ _ | refine blk_drew ?_ | refine blk_alloc ?_ _)); refine blk_far ?_ NB112_114.out _; (with_reducible repeat (first | refine blk_drewN ?_ _ | refine blk_drew ?_ | refine blk_alloc ?_ _)); exact BK112.out⟩
       have n1_ : Aside0 ((((w7.setCell ⟨gb114, 0, none⟩ (.int .i64 ((rd_T66 l0_4 x3_1).f0))).setCell ⟨gb114, 1, none⟩ (.int .i64 ((rd_T66 l0_4 x3_1).f1))).setCell ⟨gb114, 2, none⟩ (.int .i64 ((rd_T66 l0_4 x3_1).f2))).heap[gb114]? = some (.cells #[.int .i64 ((rd_T66 l0_4 x3_1).f0), .int .i64 ((rd_T66 l0_4 x3_1).f1), .int .i64 ((rd_T66 l0_4 x3_1).f2)] 66 (0, 0))) := ⟨by (with_reducible repeat (first | refine blk_drewN ?_ _ | refine blk_drew ?_ | refine blk_alloc ?_ _)); refine blk_put (cs := #[.int .i64 ((rd_T66 l0_4 x3_1).f0), .int .i64 ((rd_T66 l0_4 x3_1).f1), .int .i64 0]) ?_ 2 _ rfl; (with_reducible repeat (first | refine blk_drewN ?_ _ | refine blk_drew ?_ | refine blk_alloc ?_ _)); refine blk_put (cs := #[.int .i64 ((rd_T66 l0_4 x3_1).f0), .int .i64 0, .int .i64 0]) ?_ 1 _ rfl; (with_reducible repeat (first | refine blk_drewN ?_ _ | refine blk_drew ?_ | refine blk_alloc ?_ _)); refine blk_put (cs := #[.int .i64 0, .int .i64 0, .int .i64 0]) ?_ 0 _ rfl; (with_reducible repeat (first | refine blk_drewN ?_ _ | refine blk_drew ?_ | refine blk_alloc ?_ _)); exact BK114.out⟩
       have n2_ : Aside0 (Below w.heap.size w (((w7.setCell ⟨gb114, 0, none⟩ (.int .i64 ((rd_T66 l0_4 x3_1).f0))).setCell ⟨gb114, 1, none⟩ (.int .i64 ((rd_T66 l0_4 x3_1).f1))).setCell ⟨gb114, 2, none⟩ (.int .i64 ((rd_T66 l0_4 x3_1).f2)))) := ⟨by repeat (first | (with_reducible first | exact HB.out | apply below_alloc | apply pw_below_drewN | apply below_drew1 | refine below_set ?_ GE112.out | refine below_set ?_ GE114.out) | exact HB.out)⟩
       (try clear BK112)
       (try clear BK114)
       (try clear HB)
       (try simp only [show ∀ (W_ : World) (n_ : Nat) (a_ : Addr) (v_ : Value), (W_.drewN n_).setCell a_ v_ = (W_.setCell a_ v_).drewN n_ from fun _ _ _ _ => rfl])
       generalize (((w7.setCell ⟨gb114, 0, none⟩ (.int .i64 ((rd_T66 l0_4 x3_1).f0))).setCell ⟨gb114, 1, none⟩ (.int .i64 ((rd_T66 l0_4 x3_1).f1))).setCell ⟨gb114, 2, none⟩ (.int .i64 ((rd_T66 l0_4 x3_1).f2))) = w23 at n0_ n1_ n2_ ⊢
       have BK112 := n0_
       have BK114 := n1_
       have HB := n2_
       clear n0_ n1_ n2_
       have n0_ := Aside0.mk (blk_drew BK112.out)
       have n1_ := Aside0.mk (blk_drew BK114.out)
       have n2_ := Aside0.mk (below_drew1 HB.out)
       clear BK112
       clear BK114
       clear HB
       have BK112 := n0_
       have BK114 := n1_
       have HB := n2_
       clear n0_ n1_ n2_
       refine start_ (n := 34) (S := fun w' => w'.cell? ⟨gb112, 0, none⟩ = some (.int .i64 a0_0) ∧ w'.cell? ⟨gb112, 1, none⟩ = some (.int .i64 a0_1) ∧ w'.cell? ⟨gb112, 2, none⟩ = some (.int .i64 a0_2) ∧ w'.cell? ⟨gb112, 3, none⟩ = some (.slice A0_3 l0_3.length c0_3) ∧ w'.cell? ⟨gb112, 4, none⟩ = some (.slice (some ad113) l0_4.length c0_4) ∧ w'.cell? ⟨gb114, 0, none⟩ = some (.int .i64 ((rd_T66 l0_4 x3_1).f0)) ∧ w'.cell? ⟨gb114, 1, none⟩ = some (.int .i64 ((rd_T66 l0_4 x3_1).f1)) ∧ w'.cell? ⟨gb114, 2, none⟩ = some (.int .i64 ((rd_T66 l0_4 x3_1).f2))) (ds := []) ba0_ (by kernel_rfl) rfl rfl ⟨(blk_cell BK112.out 0).trans rfl, (blk_cell BK112.out 1).trans rfl, (blk_cell BK112.out 2).trans rfl, (blk_cell BK112.out 3).trans rfl, (blk_cell BK112.out 4).trans rfl, (blk_cell BK114.out 0).trans rfl, (blk_cell BK114.out 1).trans rfl, (blk_cell BK114.out 2).trans rfl⟩ (fun hHeld => ?_); refine with_tabW spec_l12Tasks.tab5 spec_l12Tasks.bits5 (fun HT_ HW_ => ?_)
       generalize w23.drew = w24 at BK112 BK114 HB hHeld ⊢
       refine pure_ (i := 0) (N := some 19) (v := ?_) (a' := ?_) ba1_ rfl rfl (any_of HT_.out (by kernel_rfl)) id3_ (Or.inl ⟨by rfl, ?_⟩) ?_ ?_
       rotate_left; (intro w'; go_simp; with_reducible rfl)
       rotate_left; (simp only [Act.put, z0_, z1_, z2_, i64_w, i32_w]; rfl)
       refine pure_ (i := 2) (N := some 21) (v := ?_) (a' := ?_) ba2_ rfl rfl (any_of HT_.out (by kernel_rfl)) id3_ (Or.inl ⟨by rfl, ?_⟩) ?_ ?_
       rotate_left; (intro w'; go_simp; with_reducible rfl)
       rotate_left; (simp only [Act.put, z0_, z1_, z2_, i64_w, i32_w]; rfl)
       refine take_ (i := 1) (N := some 20) (v := ?_) (a' := ?_) ba3_ rfl rfl (take_ofW HT_.out HW_.out (by kernel_rfl)) id3_ (Or.inl ⟨by rfl, ?_⟩) hHeld ?_ ?_
       rotate_left
       ·
        rintro w' ⟨s0, s1, s2, s3, s4, s5, s6, s7⟩
        go_simp
        with_reducible rfl
       rotate_left; (simp only [Act.put, z0_, z1_, z2_, i64_w, i32_w]; rfl)
       refine take_ (i := 3) (N := some 22) (v := ?_) (a' := ?_) ba4_ rfl rfl (take_ofW HT_.out HW_.out (by kernel_rfl)) id3_ (Or.inl ⟨by rfl, ?_⟩) hHeld ?_ ?_
       rotate_left
       ·
        rintro w' ⟨s0, s1, s2, s3, s4, s5, s6, s7⟩
        go_simp
        with_reducible rfl
       rotate_left; (simp only [Act.put, z0_, z1_, z2_, i64_w, i32_w]; rfl)
       refine one_ (i := 4) (N := some 23) ba5_ rfl rfl (one_of HT_.out (by kernel_rfl)) (by decide) (fun K hK => ?_)
       refine goes_ Try.func82 (by kernel_rfl) rfl #[.slice A0_3 l0_3.length c0_3, .int .i64 ((rd_T66 l0_4 x3_1).f0)] (by rfl) rfl rfl (by (try simp only [List.map_toArray, List.map_cons, List.map_nil]); first | done | rfl | (simp only [List.length_drop, List.length_take]; rfl)) ?_
       with_reducible refine (spec_l3Job.calls _ _ l0_3 ((rd_T66 l0_4 x3_1).f0) false _ ?side1 ?side2 A10.out).mono ?_
       (case side1 => repeat (first | exact (Kd.C_below HR0_3.out HB.out) | (with_reducible refine Kd.C_alloc ?_ _) | (with_reducible refine Kd.C_drewN ?_ _) | (with_reducible refine Kd.C_drew ?_)))
       (case side2 => exact HC0_3.out)
       rintro e w' ⟨rfl, ⟨nd, rfl⟩⟩
       refine ⟨_, rfl, ?_⟩
       refine hK.out _ _ ⟨(blk_cell BK112.out 0).trans rfl, (blk_cell BK112.out 1).trans rfl, (blk_cell BK112.out 2).trans rfl, (blk_cell BK112.out 3).trans rfl, (blk_cell BK112.out 4).trans rfl, (blk_cell BK114.out 0).trans rfl, (blk_cell BK114.out 1).trans rfl, (blk_cell BK114.out 2).trans rfl⟩ (fun hHeld => ?_)
       clear hK K
       refine norm_ (a' := ?_) ?_ ?_
       rotate_left
       ·
        show Act.put _ (some 23) _ = _
        simp only [Act.put, z0_, z1_, z2_, i64_w, i32_w]
        rfl
       refine pure_ (i := 5) (N := some 24) (v := ?_) (a' := ?_) ba6_ rfl rfl (any_of HT_.out (by kernel_rfl)) id3_ (Or.inl ⟨by rfl, ?_⟩) ?_ ?_
       rotate_left; (intro w'; go_simp; with_reducible rfl)
       rotate_left; (simp only [Act.put, z0_, z1_, z2_, i64_w, i32_w]; rfl)
       refine pure_ (i := 6) (N := some 25) (v := ?_) (a' := ?_) ba7_ rfl rfl (any_of HT_.out (by kernel_rfl)) id3_ (Or.inl ⟨by rfl, ?_⟩) ?_ ?_
       rotate_left; (intro w'; go_simp; with_reducible rfl)
       rotate_left; (simp only [Act.put, z0_, z1_, z2_, i64_w, i32_w]; rfl)
       refine pure_ (i := 7) (N := some 26) (v := undef) (a' := ?_) ba8_ rfl rfl (any_of HT_.out (by kernel_rfl)) id3_ (Or.inr ⟨by rfl, rfl⟩) ?_ ?_
       rotate_left; (simp only [Act.put, z0_, z1_, z2_, i64_w, i32_w]; rfl)
       refine pure_ (i := 8) (N := some 27) (v := undef) (a' := ?_) ba39_ rfl rfl (any_of HT_.out (by kernel_rfl)) id3_ (Or.inr ⟨by rfl, rfl⟩) ?_ ?_
       rotate_left; (simp only [Act.put, z0_, z1_, z2_, i64_w, i32_w]; rfl)
       refine pure_ (i := 9) (N := some 28) (v := undef) (a' := ?_) ba10_ rfl rfl (any_of HT_.out (by kernel_rfl)) id3_ (Or.inr ⟨by rfl, rfl⟩) ?_ ?_
       rotate_left; (simp only [Act.put, z0_, z1_, z2_, i64_w, i32_w]; rfl)
       refine pure_ (i := 10) (N := some 29) (v := undef) (a' := ?_) ba11_ rfl rfl (any_of HT_.out (by kernel_rfl)) id3_ (Or.inr ⟨by rfl, rfl⟩) ?_ ?_
       rotate_left; (simp only [Act.put, z0_, z1_, z2_, i64_w, i32_w]; rfl)
       refine pure_ (i := 11) (N := some 30) (v := undef) (a' := ?_) ba12_ rfl rfl (any_of HT_.out (by kernel_rfl)) id3_ (Or.inr ⟨by rfl, rfl⟩) ?_ ?_
       rotate_left; (simp only [Act.put, z0_, z1_, z2_, i64_w, i32_w]; rfl)
       refine pure_ (i := 12) (N := some 31) (v := undef) (a' := ?_) ba13_ rfl rfl (any_of HT_.out (by kernel_rfl)) id3_ (Or.inr ⟨by rfl, rfl⟩) ?_ ?_
       rotate_left; (simp only [Act.put, z0_, z1_, z2_, i64_w, i32_w]; rfl)
       refine pure_ (i := 13) (N := some 32) (v := undef) (a' := ?_) ba14_ rfl rfl (any_of HT_.out (by kernel_rfl)) id3_ (Or.inr ⟨by rfl, rfl⟩) ?_ ?_
       rotate_left; (simp only [Act.put, z0_, z1_, z2_, i64_w, i32_w]; rfl)
       refine pure_ (i := 14) (N := some 33) (v := ?_) (a' := ?_) ba15_ rfl rfl (any_of HT_.out (by kernel_rfl)) id3_ (Or.inl ⟨by rfl, ?_⟩) ?_ ?_
       rotate_left; (intro w'; go_simp; with_reducible rfl)
       rotate_left; (simp only [Act.put, z0_, z1_, z2_, i64_w, i32_w]; rfl)
       refine pure_ (i := 15) (N := some 34) (v := ?_) (a' := ?_) ba16_ rfl rfl (any_of HT_.out (by kernel_rfl)) id3_ (Or.inl ⟨by rfl, ?_⟩) ?_ ?_
       rotate_left; (intro w'; go_simp; with_reducible rfl)
       rotate_left; (simp only [Act.put, z0_, z1_, z2_, i64_w, i32_w]; rfl)
       refine pure_ (i := 16) (N := some 35) (v := undef) (a' := ?_) ba17_ rfl rfl (any_of HT_.out (by kernel_rfl)) id3_ (Or.inr ⟨by rfl, rfl⟩) ?_ ?_
       rotate_left; (simp only [Act.put, z0_, z1_, z2_, i64_w, i32_w]; rfl)
       refine pure_ (i := 17) (N := some 36) (v := undef) (a' := ?_) ba38_ rfl rfl (any_of HT_.out (by kernel_rfl)) id3_ (Or.inr ⟨by rfl, rfl⟩) ?_ ?_
       rotate_left; (simp only [Act.put, z0_, z1_, z2_, i64_w, i32_w]; rfl)
       refine pure_ (i := 18) (N := some 37) (v := undef) (a' := ?_) ba19_ rfl rfl (any_of HT_.out (by kernel_rfl)) id3_ (Or.inr ⟨by rfl, rfl⟩) ?_ ?_
       rotate_left; (simp only [Act.put, z0_, z1_, z2_, i64_w, i32_w]; rfl)
       refine pure_ (i := 19) (N := some 38) (v := undef) (a' := ?_) ba20_ rfl rfl (any_of HT_.out (by kernel_rfl)) id3_ (Or.inr ⟨by rfl, rfl⟩) ?_ ?_
       rotate_left; (simp only [Act.put, z0_, z1_, z2_, i64_w, i32_w]; rfl)
       refine pure_ (i := 20) (N := some 39) (v := undef) (a' := ?_) ba21_ rfl rfl (any_of HT_.out (by kernel_rfl)) id3_ (Or.inr ⟨by rfl, rfl⟩) ?_ ?_
       rotate_left; (simp only [Act.put, z0_, z1_, z2_, i64_w, i32_w]; rfl)
       refine pure_ (i := 21) (N := some 40) (v := ?_) (a' := ?_) ba22_ rfl rfl (any_of HT_.out (by kernel_rfl)) id3_ (Or.inl ⟨by rfl, ?_⟩) ?_ ?_
       rotate_left; (intro w'; go_simp; with_reducible rfl)
       rotate_left; (simp only [Act.put, z0_, z1_, z2_, i64_w, i32_w]; rfl)
       refine pure_ (i := 22) (N := some 41) (v := ?_) (a' := ?_) ba23_ rfl rfl (any_of HT_.out (by kernel_rfl)) id3_ (Or.inl ⟨by rfl, ?_⟩) ?_ ?_
       rotate_left; (intro w'; go_simp; with_reducible rfl)
       rotate_left; (simp only [Act.put, z0_, z1_, z2_, i64_w, i32_w]; rfl)
       refine pure_ (i := 23) (N := some 42) (v := undef) (a' := ?_) ba24_ rfl rfl (any_of HT_.out (by kernel_rfl)) id3_ (Or.inr ⟨by rfl, rfl⟩) ?_ ?_
       rotate_left; (simp only [Act.put, z0_, z1_, z2_, i64_w, i32_w]; rfl)
       refine pure_ (i := 24) (N := some 43) (v := undef) (a' := ?_) ba25_ rfl rfl (any_of HT_.out (by kernel_rfl)) id3_ (Or.inr ⟨by rfl, rfl⟩) ?_ ?_
       rotate_left; (simp only [Act.put, z0_, z1_, z2_, i64_w, i32_w]; rfl)
       refine pure_ (i := 25) (N := some 44) (v := undef) (a' := ?_) ba26_ rfl rfl (any_of HT_.out (by kernel_rfl)) id3_ (Or.inr ⟨by rfl, rfl⟩) ?_ ?_
       rotate_left; (simp only [Act.put, z0_, z1_, z2_, i64_w, i32_w]; rfl)
       refine pure_ (i := 26) (N := some 45) (v := undef) (a' := ?_) ba27_ rfl rfl (any_of HT_.out (by kernel_rfl)) id3_ (Or.inr ⟨by rfl, rfl⟩) ?_ ?_
       rotate_left; (simp only [Act.put, z0_, z1_, z2_, i64_w, i32_w]; rfl)
       refine pure_ (i := 27) (N := some 46) (v := undef) (a' := ?_) ba28_ rfl rfl (any_of HT_.out (by kernel_rfl)) id3_ (Or.inr ⟨by rfl, rfl⟩) ?_ ?_
       rotate_left; (simp only [Act.put, z0_, z1_, z2_, i64_w, i32_w]; rfl)
       refine pure_ (i := 28) (N := some 47) (v := undef) (a' := ?_) ba29_ rfl rfl (any_of HT_.out (by kernel_rfl)) id3_ (Or.inr ⟨by rfl, rfl⟩) ?_ ?_
       rotate_left; (simp only [Act.put, z0_, z1_, z2_, i64_w, i32_w]; rfl)
       refine pure_ (i := 29) (N := some 48) (v := undef) (a' := ?_) ba30_ rfl rfl (any_of HT_.out (by kernel_rfl)) id3_ (Or.inr ⟨by rfl, rfl⟩) ?_ ?_
       rotate_left; (simp only [Act.put, z0_, z1_, z2_, i64_w, i32_w]; rfl)
       refine pure_ (i := 30) (N := some 49) (v := undef) (a' := ?_) ba31_ rfl rfl (any_of HT_.out (by kernel_rfl)) id3_ (Or.inr ⟨by rfl, rfl⟩) ?_ ?_
       rotate_left; (simp only [Act.put, z0_, z1_, z2_, i64_w, i32_w]; rfl)
       refine pure_ (i := 31) (N := some 50) (v := undef) (a' := ?_) ba32_ rfl rfl (any_of HT_.out (by kernel_rfl)) id3_ (Or.inr ⟨by rfl, rfl⟩) ?_ ?_
       rotate_left; (simp only [Act.put, z0_, z1_, z2_, i64_w, i32_w]; rfl)
       refine pure_ (i := 32) (N := some 51) (v := undef) (a' := ?_) ba33_ rfl rfl (any_of HT_.out (by kernel_rfl)) id3_ (Or.inr ⟨by rfl, rfl⟩) ?_ ?_
       rotate_left; (simp only [Act.put, z0_, z1_, z2_, i64_w, i32_w]; rfl)
       refine pure_ (i := 33) (N := some 52) (v := ?_) (a' := ?_) ba34_ rfl rfl (any_of HT_.out (by kernel_rfl)) id3_ (Or.inl ⟨by rfl, ?_⟩) ?_ ?_
       rotate_left; (intro w'; go_simp; with_reducible rfl)
       rotate_left; (simp only [Act.put, z0_, z1_, z2_, i64_w, i32_w]; rfl)
       refine done_ (done_of HT_.out (by kernel_rfl)) ?_
       try go_wp2
       go_meet
       case rel => exact ⟨_, (true), (by first | rfl | (simp; done) | (simp [*]; done)), H', ⟨by have := HK1.out; first | omega | exact Nat.le_refl _⟩, ⟨by (with_reducible repeat (first | refine blk_drewN ?_ _ | refine blk_drew ?_ | refine blk_alloc ?_ _)); exact BK112.out⟩, ⟨by (with_reducible repeat (first | refine blk_drewN ?_ _ | refine blk_drew ?_ | refine blk_alloc ?_ _)); exact BK114.out⟩, ⟨by repeat (first | (with_reducible first | exact HB.out | apply below_alloc | apply pw_below_drewN | apply below_drew1 | refine below_set ?_ GE112.out | refine below_set ?_ GE114.out) | exact HB.out)⟩⟩
     case rest =>
      clear HC5
      try clear c1
      try clear p2
      try clear c6
      try clear p6
      try clear c8
      try clear c11
      try clear c13
      try clear c17
      try clear c18
      obtain ⟨kq, x52_4, rfl, HA, HJ4, BK112, BK114, HB⟩ := hcut
      cases kq with
      | zero => exact absurd HA.out (by simp [spec_l12Tasks.j1])
      | succ kj4 =>
       have H := HA.out
       clear HA
       simp only [spec_l12Tasks.j1] at H
       by_cases c25 : x52_4 = true
       ·
        subst c25
        have H1 : (some false) = some r := by rw [if_pos rfl] at H; exact H
        clear H
        have H := H1
        clear H1
        obtain rfl := Option.some.inj H
        go_wp2
        go_ret
        exact ⟨by first | rfl | (simp [errW_none, errW_some] <;> rfl) | (simp [*, errW_none, errW_some] <;> rfl), by repeat (first | (with_reducible first | exact HB.out | apply below_alloc | apply pw_below_drewN | apply below_drew1 | refine below_set ?_ GE112.out | refine below_set ?_ GE114.out) | exact HB.out)⟩
       ·
        replace c25 := Bool.eq_false_iff.mpr c25
        subst c25
        have H1 : (spec_l12Tasks.l1 kj4 x3_1 0 a0_0 a0_1 a0_2 l0_3 l0_4 ((rd_T66 l0_4 x3_1).f0) ((rd_T66 l0_4 x3_1).f1) ((rd_T66 l0_4 x3_1).f2)) = some r := by rw [if_neg (show ¬ (false = true) by decide)] at H; exact H
        clear H
        have H := H1
        clear H1
        have H' := Aside0.mk H
        clear H
        go_wp2
        go_loopg [5] kj4 (fun kq v5 w' => ∃ (x5_3 : Int), v5 = .int .i64 x5_3 ∧ Aside0 (spec_l12Tasks.l1 kq x3_1 x5_3 a0_0 a0_1 a0_2 l0_3 l0_4 ((rd_T66 l0_4 x3_1).f0) ((rd_T66 l0_4 x3_1).f1) ((rd_T66 l0_4 x3_1).f2) = some r) ∧ Aside0 (kq ≤ kj4) ∧ Aside0 (w'.heap[gb112]? = some (.cells #[.int .i64 a0_0, .int .i64 a0_1, .int .i64 a0_2, (.slice A0_3 l0_3.length c0_3), (.slice (some ad113) l0_4.length c0_4)] 31 (0, 0))) ∧ Aside0 (w'.heap[gb114]? = some (.cells #[.int .i64 ((rd_T66 l0_4 x3_1).f0), .int .i64 ((rd_T66 l0_4 x3_1).f1), .int .i64 ((rd_T66 l0_4 x3_1).f2)] 66 (0, 0))) ∧ Aside0 (Below w.heap.size w w'))
        case atStart => exact ⟨(0), (by first | rfl | (simp; done) | (simp [*]; done)), H', ⟨Nat.le_refl _⟩, ⟨by (with_reducible repeat (first | refine blk_drewN ?_ _ | refine blk_drew ?_ | refine blk_alloc ?_ _)); exact BK112.out⟩, ⟨by (with_reducible repeat (first | refine blk_drewN ?_ _ | refine blk_drew ?_ | refine blk_alloc ?_ _)); exact BK114.out⟩, ⟨by repeat (first | (with_reducible first | exact HB.out | apply below_alloc | apply pw_below_drewN | apply below_drew1 | refine below_set ?_ GE112.out | refine below_set ?_ GE114.out) | exact HB.out)⟩⟩
        case round =>
         clear H'
         try clear c1
         try clear c2
         try clear p2
         try clear c6
         try clear p6
         try clear c8
         try clear c11
         try clear c13
         try clear c17
         try clear c18
         try clear c25
         try clear p2
         try clear p6
         obtain ⟨x5_3, rfl, HA, HK3, BK112, BK114, HB⟩ := hrel
         cases gk with
         | zero => exact absurd HA.out (by simp [spec_l12Tasks.l1])
         | succ k3 =>
          have H := HA.out
          clear HA
          simp only [spec_l12Tasks.l1] at H
          by_cases c26 : x5_3 < x3_1
          ·
           rw [if_pos c26] at H
           have c26b0 : decide (x5_3 < x3_1) = true := decide_eq_true c26
           clear c26
           by_cases c27 : 0 ≤ x5_3
           ·
            rw [if_pos c27] at H
            have c27b0 : decide (0 ≤ x5_3) = true := decide_eq_true c27
            clear c27
            by_cases c28 : x5_3 < (l0_4.length : Int)
            ·
             rw [if_pos c28] at H
             have c28b0 : decide (x5_3 < (l0_4.length : Int)) = true := decide_eq_true c28
             clear c28
             by_cases c29 : ((rd_T66 l0_4 x5_3).f0) = ((rd_T66 l0_4 x3_1).f0)
             ·
              rw [if_pos c29] at H
              have c29b0 : (((rd_T66 l0_4 x5_3).f0) == ((rd_T66 l0_4 x3_1).f0)) = true := beq_iff_eq.mpr c29
              have c29b1 : (((rd_T66 l0_4 x5_3).f0) != ((rd_T66 l0_4 x3_1).f0)) = false := bne_eq_false_iff_eq.mpr c29
              clear c29
              obtain rfl := Option.some.inj H
              have hnb30 := NB112_114.out
              have hnc30 := NB114_112.out
              have hcz31_0 : wr.cell? ⟨gb112, 0, none⟩ = some (.int .i64 a0_0) := (blk_cell BK112.out 0).trans rfl
              have hcz31_1 : wr.cell? ⟨gb112, 1, none⟩ = some (.int .i64 a0_1) := (blk_cell BK112.out 1).trans rfl
              have hcz31_2 : wr.cell? ⟨gb112, 2, none⟩ = some (.int .i64 a0_2) := (blk_cell BK112.out 2).trans rfl
              have hcz31_3 : wr.cell? ⟨gb112, 3, none⟩ = some (.slice A0_3 l0_3.length c0_3) := (blk_cell BK112.out 3).trans rfl
              have hcz31_4 : wr.cell? ⟨gb112, 4, none⟩ = some (.slice (some ad113) l0_4.length c0_4) := (blk_cell BK112.out 4).trans rfl
              have hfz31_0 := blk_frozen BK112.out 0
              have hfz31_1 := blk_frozen BK112.out 1
              have hfz31_2 := blk_frozen BK112.out 2
              have hfz31_3 := blk_frozen BK112.out 3
              have hfz31_4 := blk_frozen BK112.out 4
              have p118 : 0 ≤ (x5_3 : Int) := of_decide_eq_true (by first | (with_reducible assumption) | assumption)
              have q118 : x5_3 < (l0_4.length : Int) := of_decide_eq_true (by first | (with_reducible assumption) | assumption)
              obtain ⟨ad118, e118, hx118_0, hx118_1, hx118_2⟩ := at_T66 HR0_4.out x5_3 p118 q118
              obtain rfl : ad113 = ad118 := (by injection e118)
              replace hx118_0 := (HB.out.cell (World.block_lt_of_cell? w _ hx118_0)).trans hx118_0
              replace hx118_1 := (HB.out.cell (World.block_lt_of_cell? w _ hx118_1)).trans hx118_1
              replace hx118_2 := (HB.out.cell (World.block_lt_of_cell? w _ hx118_2)).trans hx118_2
              replace p118 := eq_true p118
              replace q118 := eq_true q118
              try go_wp2_with (first | ((with_reducible refine gate_dst (N := 6) rfl ?_); refine box_event ?hg (N := 6) ?hd (cs := #[.int .i64 0, .int .i64 0, .int .i64 0]) (t := 66) ?hr ?_; (case hd => rfl); (case hg => rfl); (case hr => first | (go_simp; done) | (go_simp; rfl)); intro gb119 hg w32 hbox hb; have n0_ := Aside0.mk (blk_below (g := gb112) (o := .cells #[.int .i64 a0_0, .int .i64 a0_1, .int .i64 a0_2, .slice A0_3 l0_3.length c0_3, .slice (some ad113) l0_4.length c0_4] 31 (0, 0)) (by (with_reducible repeat (first | refine blk_drewN ?_ _ | refine blk_drew ?_ | refine blk_alloc ?_ _)); exact BK112.out) hb); have n1_ := Aside0.mk (blk_below (g := gb114) (o := .cells #[.int .i64 ((rd_T66 l0_4 x3_1).f0), .int .i64 ((rd_T66 l0_4 x3_1).f1), .int .i64 ((rd_T66 l0_4 x3_1).f2)] 66 (0, 0)) (by (with_reducible repeat (first | refine blk_drewN ?_ _ | refine blk_drew ?_ | refine blk_alloc ?_ _)); exact BK114.out) hb); have n2_ := Aside0.mk (below_step (by repeat (first | (with_reducible first | exact HB.out | apply below_alloc | apply pw_below_drewN | apply below_drew1 | refine below_set ?_ GE112.out | refine below_set ?_ GE114.out) | exact HB.out)) hb); have n3_ := Aside0.mk (hbox); have n4_ := Aside0.mk ((by rw [hg]; exact (below_size (by repeat (first | (with_reducible first | exact HB.out | apply below_alloc | apply pw_below_drewN | apply below_drew1 | refine below_set ?_ GE112.out | refine below_set ?_ GE114.out) | exact HB.out))) : w.heap.size ≤ gb119)); have n5_ := Aside0.mk ((by rw [hg]; exact (below_size (by repeat (first | (with_reducible first | exact HB.out | apply below_alloc | apply pw_below_drewN | apply below_drew1 | refine below_set ?_ GE112.out | refine below_set ?_ GE114.out) | exact HB.out))) : w.heap.size ≤ gb119)); have n6_ := Aside0.mk ((by rw [hg]; exact Nat.ne_of_lt (blk_lt (g := gb112) (o := .cells #[.int .i64 a0_0, .int .i64 a0_1, .int .i64 a0_2, .slice A0_3 l0_3.length c0_3, .slice (some ad113) l0_4.length c0_4] 31 (0, 0)) (by (with_reducible repeat (first | refine blk_drewN ?_ _ | refine blk_drew ?_ | refine blk_alloc ?_ _)); exact BK112.out)) : gb112 ≠ gb119)); have n7_ := Aside0.mk ((by rw [hg]; exact Nat.ne_of_gt (blk_lt (g := gb112) (o := .cells #[.int .i64 a0_0, .int .i64 a0_1, .int .i64 a0_2, .slice A0_3 l0_3.length c0_3, .slice (some ad113) l0_4.length c0_4] 31 (0, 0)) (by (with_reducible repeat (first | refine blk_drewN ?_ _ | refine blk_drew ?_ | refine blk_alloc ?_ _)); exact BK112.out)) : gb119 ≠ gb112)); have n8_ := Aside0.mk ((by rw [hg]; exact Nat.ne_of_lt (blk_lt (g := gb114) (o := .cells #[.int .i64 ((rd_T66 l0_4 x3_1).f0), .int .i64 ((rd_T66 l0_4 x3_1).f1), .int .i64 ((rd_T66 l0_4 x3_1).f2)] 66 (0, 0)) (by (with_reducible repeat (first | refine blk_drewN ?_ _ | refine blk_drew ?_ | refine blk_alloc ?_ _)); exact BK114.out)) : gb114 ≠ gb119)); have n9_ := Aside0.mk ((by rw [hg]; exact Nat.ne_of_gt (blk_lt (g := gb114) (o := .cells #[.int .i64 ((rd_T66 l0_4 x3_1).f0), .int .i64 ((rd_T66 l0_4 x3_1).f1), .int .i64 ((rd_T66 l0_4 x3_1).f2)] 66 (0, 0)) (by (with_reducible repeat (first | refine blk_drewN ?_ _ | refine blk_drew ?_ | refine blk_alloc ?_ _)); exact BK114.out)) : gb119 ≠ gb114)); clear BK112; clear BK114; clear HB; have BK112 := n0_; have BK114 := n1_; have HB := n2_; have BK119 := n3_; have GW119 := n4_; have GE119 := n5_; have NB112_119 := n6_; have NB119_112 := n7_; have NB114_119 := n8_; have NB119_114 := n9_; clear n0_ n1_ n2_ n3_ n4_ n5_ n6_ n7_ n8_ n9_; clear hb hbox hg; have hnb33 := NB119_112.out; have hnc33 := NB112_119.out; have hnb34 := NB119_114.out; have hnc34 := NB114_119.out; have hcz35_0 : w32.cell? ⟨gb119, 0, none⟩ = some (.int .i64 0) := (blk_cell BK119.out 0).trans rfl; have hcz35_1 : w32.cell? ⟨gb119, 1, none⟩ = some (.int .i64 0) := (blk_cell BK119.out 1).trans rfl; have hcz35_2 : w32.cell? ⟨gb119, 2, none⟩ = some (.int .i64 0) := (blk_cell BK119.out 2).trans rfl; have hfz35_0 := blk_frozen BK119.out 0; have hfz35_1 := blk_frozen BK119.out 1; have hfz35_2 := blk_frozen BK119.out 2))
              have n0_ : Aside0 ((((w32.setCell ⟨gb119, 0, none⟩ (.int .i64 ((rd_T66 l0_4 x5_3).f0))).setCell ⟨gb119, 1, none⟩ (.int .i64 ((rd_T66 l0_4 x5_3).f1))).setCell ⟨gb119, 2, none⟩ (.int .i64 ((rd_T66 l0_4 x5_3).f2))).heap[gb112]? = some (.cells #[.int .i64 a0_0, .int .i64 a0_1, .int .i64 a0_2, .slice A0_3 l0_3.length c0_3, .slice (some ad113) l0_4.length c0_4] 31 (0, 0))) := ⟨by (with_reducible repeat (first | refine blk_drewN ?_ _ | refine blk_drew ?_ | refine blk_alloc ?_ _)); refine blk_far ?_ NB112_119.out _; (with_reducible repeat (first | refine blk_drewN ?_ _ | refine blk_drew ?_ | refine blk_alloc ?_ _)); refine blk_far ?_ NB112_119.out _; (with_reducible repeat (first | refine blk_drewN ?_ _ | refine blk_drew ?_ | refine blk_alloc ?_ _)); refine blk_far ?_ NB112_119.out _; (with_reducible repeat (first | refine blk_drewN ?_ _ | refine blk_drew ?_ | refine blk_alloc ?_ _)); exact BK112.out⟩
              have n1_ : Aside0 ((((w32.setCell ⟨gb119, 0, none⟩ (.int .i64 ((rd_T66 l0_4 x5_3).f0))).setCell ⟨gb119, 1, none⟩ (.int .i64 ((rd_T66 l0_4 x5_3).f1))).setCell ⟨gb119, 2, none⟩ (.int .i64 ((rd_T66 l0_4 x5_3).f2))).heap[gb114]? = some (.cells #[.int .i64 ((rd_T66 l0_4 x3_1).f0), .int .i64 ((rd_T66 l0_4 x3_1).f1), .int .i64 ((rd_T66 l0_4 x3_1).f2)] 66 (0, 0))) := ⟨by (with_reducible repeat (first | refine blk_drewN ?_ _ | refine blk_drew ?_ | refine blk_alloc ?_ _)); refine blk_far ?_ NB114_119.out _; (with_reducible repeat (first | refine blk_drewN ?_ _ | refine blk_drew ?_ | refine blk_alloc ?_ _)); refine blk_far ?_ NB114_119.out _; (with_reducible repeat (first | refine blk_drewN ?_ _ | refine blk_drew ?_ | refine blk_alloc ?_ _)); refine blk_far ?_ NB114_119.out _; (with_reducible repeat (first | refine blk_drewN ?_ _ | refine blk_drew ?_ | refine blk_alloc ?_ _)); exact BK114.out⟩
              have n2_ : Aside0 ((((w32.setCell ⟨gb119, 0, none⟩ (.int .i64 ((rd_T66 l0_4 x5_3).f0))).setCell ⟨gb119, 1, none⟩ (.int .i64 ((rd_T66 l0_4 x5_3).f1))).setCell ⟨gb119, 2, none⟩ (.int .i64 ((rd_T66 l0_4 x5_3).f2))).heap[gb119]? = some (.cells #[.int .i64 ((rd_T66 l0_4 x5_3).f0), .int .i64 ((rd_T66 l0_4 x5_3).f1), .int .i64 ((rd_T66 l0_4 x5_3).f2)] 66 (0, 0))) := ⟨by (with_reducible repeat (first | refine blk_drewN ?_ _ | refine blk_drew ?_ | refine blk_alloc ?_ _)); refine blk_put (cs := #[.int .i64 ((rd_T66 l0_4 x5_3).f0), .int .i64 ((rd_T66 l0_4 x5_3).f1), .int .i64 0]) ?_ 2 _ rfl; (with_reducible repeat (first | refine blk_drewN ?_ _ | refine blk_drew ?_ | refine blk_alloc ?_ _)); refine blk_put (cs := #[.int .i64 ((rd_T66 l0_4 x5_3).f0), .int .i64 0, .int .i64 0]) ?_ 1 _ rfl; (with_reducible repeat (first | refine blk_drewN ?_ _ | refine blk_drew ?_ | refine blk_alloc ?_ _)); refine blk_put (cs := #[.int .i64 0, .int .i64 0, .int .i64 0]) ?_ 0 _ rfl; (with_reducible repeat (first | refine blk_drewN ?_ _ | refine blk_drew ?_ | refine blk_alloc ?_ _)); exact BK119.out⟩
              have n3_ : Aside0 (Below w.heap.size w (((w32.setCell ⟨gb119, 0, none⟩ (.int .i64 ((rd_T66 l0_4 x5_3).f0))).setCell ⟨gb119, 1, none⟩ (.int .i64 ((rd_T66 l0_4 x5_3).f1))).setCell ⟨gb119, 2, none⟩ (.int .i64 ((rd_T66 l0_4 x5_3).f2)))) := ⟨by repeat (first | (with_reducible first | exact HB.out | apply below_alloc | apply pw_below_drewN | apply below_drew1 | refine below_set ?_ GE112.out | refine below_set ?_ GE114.out | refine below_set ?_ GE119.out) | exact HB.out)⟩
              (try clear BK112)
              (try clear BK114)
              (try clear BK119)
              (try clear HB)
              (try simp only [show ∀ (W_ : World) (n_ : Nat) (a_ : Addr) (v_ : Value), (W_.drewN n_).setCell a_ v_ = (W_.setCell a_ v_).drewN n_ from fun _ _ _ _ => rfl])
              generalize (((w32.setCell ⟨gb119, 0, none⟩ (.int .i64 ((rd_T66 l0_4 x5_3).f0))).setCell ⟨gb119, 1, none⟩ (.int .i64 ((rd_T66 l0_4 x5_3).f1))).setCell ⟨gb119, 2, none⟩ (.int .i64 ((rd_T66 l0_4 x5_3).f2))) = w36 at n0_ n1_ n2_ n3_ ⊢
              have BK112 := n0_
              have BK114 := n1_
              have BK119 := n2_
              have HB := n3_
              clear n0_ n1_ n2_ n3_
              have n0_ := Aside0.mk (blk_drew BK112.out)
              have n1_ := Aside0.mk (blk_drew BK114.out)
              have n2_ := Aside0.mk (blk_drew BK119.out)
              have n3_ := Aside0.mk (below_drew1 HB.out)
              clear BK112
              clear BK114
              clear BK119
              clear HB
              have BK112 := n0_
              have BK114 := n1_
              have BK119 := n2_
              have HB := n3_
              clear n0_ n1_ n2_ n3_
              refine start_ (n := 27) (S := fun w' => w'.cell? ⟨gb119, 0, none⟩ = some (.int .i64 ((rd_T66 l0_4 x5_3).f0)) ∧ w'.cell? ⟨gb119, 1, none⟩ = some (.int .i64 ((rd_T66 l0_4 x5_3).f1)) ∧ w'.cell? ⟨gb119, 2, none⟩ = some (.int .i64 ((rd_T66 l0_4 x5_3).f2)) ∧ w'.cell? ⟨gb114, 0, none⟩ = some (.int .i64 ((rd_T66 l0_4 x3_1).f0)) ∧ w'.cell? ⟨gb114, 1, none⟩ = some (.int .i64 ((rd_T66 l0_4 x3_1).f1)) ∧ w'.cell? ⟨gb114, 2, none⟩ = some (.int .i64 ((rd_T66 l0_4 x3_1).f2))) (ds := []) ba40_ (by kernel_rfl) rfl rfl ⟨(blk_cell BK119.out 0).trans rfl, (blk_cell BK119.out 1).trans rfl, (blk_cell BK119.out 2).trans rfl, (blk_cell BK114.out 0).trans rfl, (blk_cell BK114.out 1).trans rfl, (blk_cell BK114.out 2).trans rfl⟩ (fun hHeld => ?_); refine with_tabW spec_l12Tasks.tab11 spec_l12Tasks.bits11 (fun HT_ HW_ => ?_)
              generalize w36.drew = w37 at BK112 BK114 BK119 HB hHeld ⊢
              refine pure_ (i := 0) (N := some 63) (v := ?_) (a' := ?_) ba41_ rfl rfl (any_of HT_.out (by kernel_rfl)) id3_ (Or.inl ⟨by rfl, ?_⟩) ?_ ?_
              rotate_left; (intro w'; go_simp; with_reducible rfl)
              rotate_left; (simp only [Act.put, z0_, z1_, z2_, i64_w, i32_w]; rfl)
              refine pure_ (i := 2) (N := some 65) (v := ?_) (a' := ?_) ba42_ rfl rfl (any_of HT_.out (by kernel_rfl)) id3_ (Or.inl ⟨by rfl, ?_⟩) ?_ ?_
              rotate_left; (intro w'; go_simp; with_reducible rfl)
              rotate_left; (simp only [Act.put, z0_, z1_, z2_, i64_w, i32_w]; rfl)
              refine take_ (i := 1) (N := some 64) (v := ?_) (a' := ?_) ba43_ rfl rfl (take_ofW HT_.out HW_.out (by kernel_rfl)) id3_ (Or.inl ⟨by rfl, ?_⟩) hHeld ?_ ?_
              rotate_left
              ·
               rintro w' ⟨s0, s1, s2, s3, s4, s5⟩
               go_simp
               with_reducible rfl
              rotate_left; (simp only [Act.put, z0_, z1_, z2_, i64_w, i32_w]; rfl)
              refine take_ (i := 3) (N := some 66) (v := ?_) (a' := ?_) ba44_ rfl rfl (take_ofW HT_.out HW_.out (by kernel_rfl)) id3_ (Or.inl ⟨by rfl, ?_⟩) hHeld ?_ ?_
              rotate_left
              ·
               rintro w' ⟨s0, s1, s2, s3, s4, s5⟩
               go_simp
               with_reducible rfl
              rotate_left; (simp only [Act.put, z0_, z1_, z2_, i64_w, i32_w]; rfl)
              refine pure_ (i := 4) (N := some 67) (v := ?_) (a' := ?_) ba45_ rfl rfl (any_of HT_.out (by kernel_rfl)) id3_ (Or.inl ⟨by rfl, ?_⟩) ?_ ?_
              rotate_left; (intro w'; go_simp; with_reducible rfl)
              rotate_left; (simp only [Act.put, z0_, z1_, z2_, i64_w, i32_w]; rfl)
              refine pure_ (i := 5) (N := some 68) (v := ?_) (a' := ?_) ba46_ rfl rfl (any_of HT_.out (by kernel_rfl)) id3_ (Or.inl ⟨by rfl, ?_⟩) ?_ ?_
              rotate_left; (intro w'; go_simp; with_reducible rfl)
              rotate_left; (simp only [Act.put, z0_, z1_, z2_, i64_w, i32_w]; rfl)
              refine pure_ (i := 6) (N := some 69) (v := undef) (a' := ?_) ba47_ rfl rfl (any_of HT_.out (by kernel_rfl)) id3_ (Or.inr ⟨by rfl, rfl⟩) ?_ ?_
              rotate_left; (simp only [Act.put, z0_, z1_, z2_, i64_w, i32_w]; rfl)
              refine pure_ (i := 7) (N := some 70) (v := undef) (a' := ?_) ba48_ rfl rfl (any_of HT_.out (by kernel_rfl)) id3_ (Or.inr ⟨by rfl, rfl⟩) ?_ ?_
              rotate_left; (simp only [Act.put, z0_, z1_, z2_, i64_w, i32_w]; rfl)
              refine pure_ (i := 8) (N := some 71) (v := undef) (a' := ?_) ba49_ rfl rfl (any_of HT_.out (by kernel_rfl)) id3_ (Or.inr ⟨by rfl, rfl⟩) ?_ ?_
              rotate_left; (simp only [Act.put, z0_, z1_, z2_, i64_w, i32_w]; rfl)
              refine pure_ (i := 9) (N := some 72) (v := undef) (a' := ?_) ba50_ rfl rfl (any_of HT_.out (by kernel_rfl)) id3_ (Or.inr ⟨by rfl, rfl⟩) ?_ ?_
              rotate_left; (simp only [Act.put, z0_, z1_, z2_, i64_w, i32_w]; rfl)
              refine pure_ (i := 10) (N := some 73) (v := undef) (a' := ?_) ba51_ rfl rfl (any_of HT_.out (by kernel_rfl)) id3_ (Or.inr ⟨by rfl, rfl⟩) ?_ ?_
              rotate_left; (simp only [Act.put, z0_, z1_, z2_, i64_w, i32_w]; rfl)
              refine pure_ (i := 11) (N := some 74) (v := undef) (a' := ?_) ba52_ rfl rfl (any_of HT_.out (by kernel_rfl)) id3_ (Or.inr ⟨by rfl, rfl⟩) ?_ ?_
              rotate_left; (simp only [Act.put, z0_, z1_, z2_, i64_w, i32_w]; rfl)
              refine pure_ (i := 12) (N := some 75) (v := undef) (a' := ?_) ba53_ rfl rfl (any_of HT_.out (by kernel_rfl)) id3_ (Or.inr ⟨by rfl, rfl⟩) ?_ ?_
              rotate_left; (simp only [Act.put, z0_, z1_, z2_, i64_w, i32_w]; rfl)
              refine pure_ (i := 13) (N := some 76) (v := undef) (a' := ?_) ba54_ rfl rfl (any_of HT_.out (by kernel_rfl)) id3_ (Or.inr ⟨by rfl, rfl⟩) ?_ ?_
              rotate_left; (simp only [Act.put, z0_, z1_, z2_, i64_w, i32_w]; rfl)
              refine pure_ (i := 14) (N := some 77) (v := undef) (a' := ?_) ba55_ rfl rfl (any_of HT_.out (by kernel_rfl)) id3_ (Or.inr ⟨by rfl, rfl⟩) ?_ ?_
              rotate_left; (simp only [Act.put, z0_, z1_, z2_, i64_w, i32_w]; rfl)
              refine pure_ (i := 15) (N := some 78) (v := undef) (a' := ?_) ba56_ rfl rfl (any_of HT_.out (by kernel_rfl)) id3_ (Or.inr ⟨by rfl, rfl⟩) ?_ ?_
              rotate_left; (simp only [Act.put, z0_, z1_, z2_, i64_w, i32_w]; rfl)
              refine pure_ (i := 16) (N := some 79) (v := undef) (a' := ?_) ba57_ rfl rfl (any_of HT_.out (by kernel_rfl)) id3_ (Or.inr ⟨by rfl, rfl⟩) ?_ ?_
              rotate_left; (simp only [Act.put, z0_, z1_, z2_, i64_w, i32_w]; rfl)
              refine pure_ (i := 17) (N := some 80) (v := undef) (a' := ?_) ba58_ rfl rfl (any_of HT_.out (by kernel_rfl)) id3_ (Or.inr ⟨by rfl, rfl⟩) ?_ ?_
              rotate_left; (simp only [Act.put, z0_, z1_, z2_, i64_w, i32_w]; rfl)
              refine pure_ (i := 18) (N := some 81) (v := undef) (a' := ?_) ba59_ rfl rfl (any_of HT_.out (by kernel_rfl)) id3_ (Or.inr ⟨by rfl, rfl⟩) ?_ ?_
              rotate_left; (simp only [Act.put, z0_, z1_, z2_, i64_w, i32_w]; rfl)
              refine pure_ (i := 19) (N := some 82) (v := undef) (a' := ?_) ba60_ rfl rfl (any_of HT_.out (by kernel_rfl)) id3_ (Or.inr ⟨by rfl, rfl⟩) ?_ ?_
              rotate_left; (simp only [Act.put, z0_, z1_, z2_, i64_w, i32_w]; rfl)
              refine pure_ (i := 20) (N := some 83) (v := undef) (a' := ?_) ba61_ rfl rfl (any_of HT_.out (by kernel_rfl)) id3_ (Or.inr ⟨by rfl, rfl⟩) ?_ ?_
              rotate_left; (simp only [Act.put, z0_, z1_, z2_, i64_w, i32_w]; rfl)
              refine pure_ (i := 21) (N := some 84) (v := undef) (a' := ?_) ba62_ rfl rfl (any_of HT_.out (by kernel_rfl)) id3_ (Or.inr ⟨by rfl, rfl⟩) ?_ ?_
              rotate_left; (simp only [Act.put, z0_, z1_, z2_, i64_w, i32_w]; rfl)
              refine pure_ (i := 22) (N := some 85) (v := undef) (a' := ?_) ba63_ rfl rfl (any_of HT_.out (by kernel_rfl)) id3_ (Or.inr ⟨by rfl, rfl⟩) ?_ ?_
              rotate_left; (simp only [Act.put, z0_, z1_, z2_, i64_w, i32_w]; rfl)
              refine pure_ (i := 23) (N := some 86) (v := undef) (a' := ?_) ba64_ rfl rfl (any_of HT_.out (by kernel_rfl)) id3_ (Or.inr ⟨by rfl, rfl⟩) ?_ ?_
              rotate_left; (simp only [Act.put, z0_, z1_, z2_, i64_w, i32_w]; rfl)
              refine pure_ (i := 24) (N := some 87) (v := undef) (a' := ?_) ba65_ rfl rfl (any_of HT_.out (by kernel_rfl)) id3_ (Or.inr ⟨by rfl, rfl⟩) ?_ ?_
              rotate_left; (simp only [Act.put, z0_, z1_, z2_, i64_w, i32_w]; rfl)
              refine pure_ (i := 25) (N := some 88) (v := undef) (a' := ?_) ba66_ rfl rfl (any_of HT_.out (by kernel_rfl)) id3_ (Or.inr ⟨by rfl, rfl⟩) ?_ ?_
              rotate_left; (simp only [Act.put, z0_, z1_, z2_, i64_w, i32_w]; rfl)
              refine pure_ (i := 26) (N := some 89) (v := ?_) (a' := ?_) ba67_ rfl rfl (any_of HT_.out (by kernel_rfl)) id3_ (Or.inl ⟨by rfl, ?_⟩) ?_ ?_
              rotate_left; (intro w'; go_simp; with_reducible rfl)
              rotate_left; (simp only [Act.put, z0_, z1_, z2_, i64_w, i32_w]; rfl)
              refine done_ (done_of HT_.out (by kernel_rfl)) ?_
              try go_wp2
              go_ret
              exact ⟨by first | rfl | (simp [errW_none, errW_some] <;> rfl) | (simp [*, errW_none, errW_some] <;> rfl), by repeat (first | (with_reducible first | exact HB.out | apply below_alloc | apply pw_below_drewN | apply below_drew1 | refine below_set ?_ GE112.out | refine below_set ?_ GE114.out | refine below_set ?_ GE119.out) | exact HB.out)⟩
             ·
              rw [if_neg c29] at H
              have c29b0 : (((rd_T66 l0_4 x5_3).f0) == ((rd_T66 l0_4 x3_1).f0)) = false := beq_eq_false_iff_ne.mpr c29
              have c29b1 : (((rd_T66 l0_4 x5_3).f0) != ((rd_T66 l0_4 x3_1).f0)) = true := bne_iff_ne.mpr c29
              by_cases c38 : ((rd_T66 l0_4 x5_3).f1) = ((rd_T66 l0_4 x3_1).f1)
              ·
               rw [if_pos c38] at H
               have c38b0 : (((rd_T66 l0_4 x5_3).f1) == ((rd_T66 l0_4 x3_1).f1)) = true := beq_iff_eq.mpr c38
               have c38b1 : (((rd_T66 l0_4 x5_3).f1) != ((rd_T66 l0_4 x3_1).f1)) = false := bne_eq_false_iff_eq.mpr c38
               clear c38
               by_cases c39 : 0 ≤ ((rd_T66 l0_4 x5_3).f0)
               ·
                rw [if_pos c39] at H
                have c39b0 : decide (0 ≤ ((rd_T66 l0_4 x5_3).f0)) = true := decide_eq_true c39
                clear c39
                by_cases c40 : ((rd_T66 l0_4 x5_3).f0) < (l0_3.length : Int)
                ·
                 rw [if_pos c40] at H
                 have c40b0 : decide (((rd_T66 l0_4 x5_3).f0) < (l0_3.length : Int)) = true := decide_eq_true c40
                 clear c40
                 by_cases c41 : (wrap64 (((rd_T66 l0_4 x5_3).f2) + ((rd_T69 l0_3 ((rd_T66 l0_4 x5_3).f0)).f0))) > ((rd_T66 l0_4 x3_1).f2)
                 ·
                  rw [if_pos c41] at H
                  have c41b0 : decide (((rd_T66 l0_4 x3_1).f2) < (wrap64 (((rd_T66 l0_4 x5_3).f2) + ((rd_T69 l0_3 ((rd_T66 l0_4 x5_3).f0)).f0)))) = true := decide_eq_true c41
                  clear c41
                  obtain rfl := Option.some.inj H
                  have hnb42 := NB112_114.out
                  have hnc42 := NB114_112.out
                  have hcz43_0 : wr.cell? ⟨gb112, 0, none⟩ = some (.int .i64 a0_0) := (blk_cell BK112.out 0).trans rfl
                  have hcz43_1 : wr.cell? ⟨gb112, 1, none⟩ = some (.int .i64 a0_1) := (blk_cell BK112.out 1).trans rfl
                  have hcz43_2 : wr.cell? ⟨gb112, 2, none⟩ = some (.int .i64 a0_2) := (blk_cell BK112.out 2).trans rfl
                  have hcz43_3 : wr.cell? ⟨gb112, 3, none⟩ = some (.slice A0_3 l0_3.length c0_3) := (blk_cell BK112.out 3).trans rfl
                  have hcz43_4 : wr.cell? ⟨gb112, 4, none⟩ = some (.slice (some ad113) l0_4.length c0_4) := (blk_cell BK112.out 4).trans rfl
                  have hfz43_0 := blk_frozen BK112.out 0
                  have hfz43_1 := blk_frozen BK112.out 1
                  have hfz43_2 := blk_frozen BK112.out 2
                  have hfz43_3 := blk_frozen BK112.out 3
                  have hfz43_4 := blk_frozen BK112.out 4
                  have p118 : 0 ≤ (x5_3 : Int) := of_decide_eq_true (by first | (with_reducible assumption) | assumption)
                  have q118 : x5_3 < (l0_4.length : Int) := of_decide_eq_true (by first | (with_reducible assumption) | assumption)
                  obtain ⟨ad118, e118, hx118_0, hx118_1, hx118_2⟩ := at_T66 HR0_4.out x5_3 p118 q118
                  obtain rfl : ad113 = ad118 := (by injection e118)
                  replace hx118_0 := (HB.out.cell (World.block_lt_of_cell? w _ hx118_0)).trans hx118_0
                  replace hx118_1 := (HB.out.cell (World.block_lt_of_cell? w _ hx118_1)).trans hx118_1
                  replace hx118_2 := (HB.out.cell (World.block_lt_of_cell? w _ hx118_2)).trans hx118_2
                  replace p118 := eq_true p118
                  replace q118 := eq_true q118
                  try go_wp2_with (first | ((with_reducible refine gate_dst (N := 6) rfl ?_); refine box_event ?hg (N := 6) ?hd (cs := #[.int .i64 0, .int .i64 0, .int .i64 0]) (t := 66) ?hr ?_; (case hd => rfl); (case hg => rfl); (case hr => first | (go_simp; done) | (go_simp; rfl)); intro gb119 hg w44 hbox hb; have n0_ := Aside0.mk (blk_below (g := gb112) (o := .cells #[.int .i64 a0_0, .int .i64 a0_1, .int .i64 a0_2, .slice A0_3 l0_3.length c0_3, .slice (some ad113) l0_4.length c0_4] 31 (0, 0)) (by (with_reducible repeat (first | refine blk_drewN ?_ _ | refine blk_drew ?_ | refine blk_alloc ?_ _)); exact BK112.out) hb); have n1_ := Aside0.mk (blk_below (g := gb114) (o := .cells #[.int .i64 ((rd_T66 l0_4 x3_1).f0), .int .i64 ((rd_T66 l0_4 x3_1).f1), .int .i64 ((rd_T66 l0_4 x3_1).f2)] 66 (0, 0)) (by (with_reducible repeat (first | refine blk_drewN ?_ _ | refine blk_drew ?_ | refine blk_alloc ?_ _)); exact BK114.out) hb); have n2_ := Aside0.mk (below_step (by repeat (first | (with_reducible first | exact HB.out | apply below_alloc | apply pw_below_drewN | apply below_drew1 | refine below_set ?_ GE112.out | refine below_set ?_ GE114.out) | exact HB.out)) hb); have n3_ := Aside0.mk (hbox); have n4_ := Aside0.mk ((by rw [hg]; exact (below_size (by repeat (first | (with_reducible first | exact HB.out | apply below_alloc | apply pw_below_drewN | apply below_drew1 | refine below_set ?_ GE112.out | refine below_set ?_ GE114.out) | exact HB.out))) : w.heap.size ≤ gb119)); have n5_ := Aside0.mk ((by rw [hg]; exact (below_size (by repeat (first | (with_reducible first | exact HB.out | apply below_alloc | apply pw_below_drewN | apply below_drew1 | refine below_set ?_ GE112.out | refine below_set ?_ GE114.out) | exact HB.out))) : w.heap.size ≤ gb119)); have n6_ := Aside0.mk ((by rw [hg]; exact Nat.ne_of_lt (blk_lt (g := gb112) (o := .cells #[.int .i64 a0_0, .int .i64 a0_1, .int .i64 a0_2, .slice A0_3 l0_3.length c0_3, .slice (some ad113) l0_4.length c0_4] 31 (0, 0)) (by (with_reducible repeat (first | refine blk_drewN ?_ _ | refine blk_drew ?_ | refine blk_alloc ?_ _)); exact BK112.out)) : gb112 ≠ gb119)); have n7_ := Aside0.mk ((by rw [hg]; exact Nat.ne_of_gt (blk_lt (g := gb112) (o := .cells #[.int .i64 a0_0, .int .i64 a0_1, .int .i64 a0_2, .slice A0_3 l0_3.length c0_3, .slice (some ad113) l0_4.length c0_4] 31 (0, 0)) (by (with_reducible repeat (first | refine blk_drewN ?_ _ | refine blk_drew ?_ | refine blk_alloc ?_ _)); exact BK112.out)) : gb119 ≠ gb112)); have n8_ := Aside0.mk ((by rw [hg]; exact Nat.ne_of_lt (blk_lt (g := gb114) (o := .cells #[.int .i64 ((rd_T66 l0_4 x3_1).f0), .int .i64 ((rd_T66 l0_4 x3_1).f1), .int .i64 ((rd_T66 l0_4 x3_1).f2)] 66 (0, 0)) (by (with_reducible repeat (first | refine blk_drewN ?_ _ | refine blk_drew ?_ | refine blk_alloc ?_ _)); exact BK114.out)) : gb114 ≠ gb119)); have n9_ := Aside0.mk ((by rw [hg]; exact Nat.ne_of_gt (blk_lt (g := gb114) (o := .cells #[.int .i64 ((rd_T66 l0_4 x3_1).f0), .int .i64 ((rd_T66 l0_4 x3_1).f1), .int .i64 ((rd_T66 l0_4 x3_1).f2)] 66 (0, 0)) (by (with_reducible repeat (first | refine blk_drewN ?_ _ | refine blk_drew ?_ | refine blk_alloc ?_ _)); exact BK114.out)) : gb119 ≠ gb114)); clear BK112; clear BK114; clear HB; have BK112 := n0_; have BK114 := n1_; have HB := n2_; have BK119 := n3_; have GW119 := n4_; have GE119 := n5_; have NB112_119 := n6_; have NB119_112 := n7_; have NB114_119 := n8_; have NB119_114 := n9_; clear n0_ n1_ n2_ n3_ n4_ n5_ n6_ n7_ n8_ n9_; clear hb hbox hg; have hnb45 := NB119_112.out; have hnc45 := NB112_119.out; have hnb46 := NB119_114.out; have hnc46 := NB114_119.out; have hcz47_0 : w44.cell? ⟨gb119, 0, none⟩ = some (.int .i64 0) := (blk_cell BK119.out 0).trans rfl; have hcz47_1 : w44.cell? ⟨gb119, 1, none⟩ = some (.int .i64 0) := (blk_cell BK119.out 1).trans rfl; have hcz47_2 : w44.cell? ⟨gb119, 2, none⟩ = some (.int .i64 0) := (blk_cell BK119.out 2).trans rfl; have hfz47_0 := blk_frozen BK119.out 0; have hfz47_1 := blk_frozen BK119.out 1; have hfz47_2 := blk_frozen BK119.out 2))
                  have n0_ : Aside0 ((((w44.setCell ⟨gb119, 0, none⟩ (.int .i64 ((rd_T66 l0_4 x5_3).f0))).setCell ⟨gb119, 1, none⟩ (.int .i64 ((rd_T66 l0_4 x5_3).f1))).setCell ⟨gb119, 2, none⟩ (.int .i64 ((rd_T66 l0_4 x5_3).f2))).heap[gb112]? = some (.cells #[.int .i64 a0_0, .int .i64 a0_1, .int .i64 a0_2, .slice A0_3 l0_3.length c0_3, .slice (some ad113) l0_4.length c0_4] 31 (0, 0))) := ⟨by (with_reducible repeat (first | refine blk_drewN ?_ _ | refine blk_drew ?_ | refine blk_alloc ?_ _)); refine blk_far ?_ NB112_119.out _; (with_reducible repeat (first | refine blk_drewN ?_ _ | refine blk_drew ?_ | refine blk_alloc ?_ _)); refine blk_far ?_ NB112_119.out _; (with_reducible repeat (first | refine blk_drewN ?_ _ | refine blk_drew ?_ | refine blk_alloc ?_ _)); refine blk_far ?_ NB112_119.out _; (with_reducible repeat (first | refine blk_drewN ?_ _ | refine blk_drew ?_ | refine blk_alloc ?_ _)); exact BK112.out⟩
                  have n1_ : Aside0 ((((w44.setCell ⟨gb119, 0, none⟩ (.int .i64 ((rd_T66 l0_4 x5_3).f0))).setCell ⟨gb119, 1, none⟩ (.int .i64 ((rd_T66 l0_4 x5_3).f1))).setCell ⟨gb119, 2, none⟩ (.int .i64 ((rd_T66 l0_4 x5_3).f2))).heap[gb114]? = some (.cells #[.int .i64 ((rd_T66 l0_4 x3_1).f0), .int .i64 ((rd_T66 l0_4 x3_1).f1), .int .i64 ((rd_T66 l0_4 x3_1).f2)] 66 (0, 0))) := ⟨by (with_reducible repeat (first | refine blk_drewN ?_ _ | refine blk_drew ?_ | refine blk_alloc ?_ _)); refine blk_far ?_ NB114_119.out _; (with_reducible repeat (first | refine blk_drewN ?_ _ | refine blk_drew ?_ | refine blk_alloc ?_ _)); refine blk_far ?_ NB114_119.out _; (with_reducible repeat (first | refine blk_drewN ?_ _ | refine blk_drew ?_ | refine blk_alloc ?_ _)); refine blk_far ?_ NB114_119.out _; (with_reducible repeat (first | refine blk_drewN ?_ _ | refine blk_drew ?_ | refine blk_alloc ?_ _)); exact BK114.out⟩
                  have n2_ : Aside0 ((((w44.setCell ⟨gb119, 0, none⟩ (.int .i64 ((rd_T66 l0_4 x5_3).f0))).setCell ⟨gb119, 1, none⟩ (.int .i64 ((rd_T66 l0_4 x5_3).f1))).setCell ⟨gb119, 2, none⟩ (.int .i64 ((rd_T66 l0_4 x5_3).f2))).heap[gb119]? = some (.cells #[.int .i64 ((rd_T66 l0_4 x5_3).f0), .int .i64 ((rd_T66 l0_4 x5_3).f1), .int .i64 ((rd_T66 l0_4 x5_3).f2)] 66 (0, 0))) := ⟨by (with_reducible repeat (first | refine blk_drewN ?_ _ | refine blk_drew ?_ | refine blk_alloc ?_ _)); refine blk_put (cs := #[.int .i64 ((rd_T66 l0_4 x5_3).f0), .int .i64 ((rd_T66 l0_4 x5_3).f1), .int .i64 0]) ?_ 2 _ rfl; (with_reducible repeat (first | refine blk_drewN ?_ _ | refine blk_drew ?_ | refine blk_alloc ?_ _)); refine blk_put (cs := #[.int .i64 ((rd_T66 l0_4 x5_3).f0), .int .i64 0, .int .i64 0]) ?_ 1 _ rfl; (with_reducible repeat (first | refine blk_drewN ?_ _ | refine blk_drew ?_ | refine blk_alloc ?_ _)); refine blk_put (cs := #[.int .i64 0, .int .i64 0, .int .i64 0]) ?_ 0 _ rfl; (with_reducible repeat (first | refine blk_drewN ?_ _ | refine blk_drew ?_ | refine blk_alloc ?_ _)); exact BK119.out⟩
                  have n3_ : Aside0 (Below w.heap.size w (((w44.setCell ⟨gb119, 0, none⟩ (.int .i64 ((rd_T66 l0_4 x5_3).f0))).setCell ⟨gb119, 1, none⟩ (.int .i64 ((rd_T66 l0_4 x5_3).f1))).setCell ⟨gb119, 2, none⟩ (.int .i64 ((rd_T66 l0_4 x5_3).f2)))) := ⟨by repeat (first | (with_reducible first | exact HB.out | apply below_alloc | apply pw_below_drewN | apply below_drew1 | refine below_set ?_ GE112.out | refine below_set ?_ GE114.out | refine below_set ?_ GE119.out) | exact HB.out)⟩
                  (try clear BK112)
                  (try clear BK114)
                  (try clear BK119)
                  (try clear HB)
                  (try simp only [show ∀ (W_ : World) (n_ : Nat) (a_ : Addr) (v_ : Value), (W_.drewN n_).setCell a_ v_ = (W_.setCell a_ v_).drewN n_ from fun _ _ _ _ => rfl])
                  generalize (((w44.setCell ⟨gb119, 0, none⟩ (.int .i64 ((rd_T66 l0_4 x5_3).f0))).setCell ⟨gb119, 1, none⟩ (.int .i64 ((rd_T66 l0_4 x5_3).f1))).setCell ⟨gb119, 2, none⟩ (.int .i64 ((rd_T66 l0_4 x5_3).f2))) = w48 at n0_ n1_ n2_ n3_ ⊢
                  have BK112 := n0_
                  have BK114 := n1_
                  have BK119 := n2_
                  have HB := n3_
                  clear n0_ n1_ n2_ n3_
                  have n0_ := Aside0.mk (blk_drew BK112.out)
                  have n1_ := Aside0.mk (blk_drew BK114.out)
                  have n2_ := Aside0.mk (blk_drew BK119.out)
                  have n3_ := Aside0.mk (below_drew1 HB.out)
                  clear BK112
                  clear BK114
                  clear BK119
                  clear HB
                  have BK112 := n0_
                  have BK114 := n1_
                  have BK119 := n2_
                  have HB := n3_
                  clear n0_ n1_ n2_ n3_
                  have p120 : 0 ≤ (((rd_T66 l0_4 x5_3).f0) : Int) := of_decide_eq_true (by first | (with_reducible assumption) | assumption)
                  have q120 : ((rd_T66 l0_4 x5_3).f0) < (l0_3.length : Int) := of_decide_eq_true (by first | (with_reducible assumption) | assumption)
                  obtain ⟨ad120, e120, hx120_0, hx120_1, hx120_2, hx120_3⟩ := at_T69 HR0_3.out ((rd_T66 l0_4 x5_3).f0) p120 q120
                  have hw120_3 := hx120_3
                  have hw120_2 := hx120_2
                  have hw120_1 := hx120_1
                  have hw120_0 := hx120_0
                  cases e120
                  replace hx120_0 := (HB.out.cell (World.block_lt_of_cell? w _ hx120_0)).trans hx120_0
                  replace hx120_1 := (HB.out.cell (World.block_lt_of_cell? w _ hx120_1)).trans hx120_1
                  replace hx120_2 := (HB.out.cell (World.block_lt_of_cell? w _ hx120_2)).trans hx120_2
                  replace hx120_3 := (HB.out.cell (World.block_lt_of_cell? w _ hx120_3)).trans hx120_3
                  replace p120 := eq_true p120
                  replace q120 := eq_true q120
                  refine start_ (n := 27) (S := fun w' => w'.cell? ⟨gb119, 0, none⟩ = some (.int .i64 ((rd_T66 l0_4 x5_3).f0)) ∧ w'.cell? ⟨gb119, 1, none⟩ = some (.int .i64 ((rd_T66 l0_4 x5_3).f1)) ∧ w'.cell? ⟨gb119, 2, none⟩ = some (.int .i64 ((rd_T66 l0_4 x5_3).f2)) ∧ w'.cell? ⟨gb114, 0, none⟩ = some (.int .i64 ((rd_T66 l0_4 x3_1).f0)) ∧ w'.cell? ⟨gb114, 1, none⟩ = some (.int .i64 ((rd_T66 l0_4 x3_1).f1)) ∧ w'.cell? ⟨gb114, 2, none⟩ = some (.int .i64 ((rd_T66 l0_4 x3_1).f2)) ∧ w'.cell? ⟨gb112, 0, none⟩ = some (.int .i64 a0_0) ∧ w'.cell? ⟨gb112, 1, none⟩ = some (.int .i64 a0_1) ∧ w'.cell? ⟨gb112, 2, none⟩ = some (.int .i64 a0_2) ∧ w'.cell? ⟨gb112, 3, none⟩ = some (.slice (some ad120) l0_3.length c0_3) ∧ w'.cell? ⟨gb112, 4, none⟩ = some (.slice (some ad113) l0_4.length c0_4) ∧ w'.cell? (ad120.add ((((rd_T66 l0_4 x5_3).f0)).toNat * 4)) = some (.int .i64 ((rd_T69 l0_3 ((rd_T66 l0_4 x5_3).f0)).f0)) ∧ w'.cell? ⟨(ad120.add ((((rd_T66 l0_4 x5_3).f0)).toNat * 4)).block, (ad120.add ((((rd_T66 l0_4 x5_3).f0)).toNat * 4)).off + 1, none⟩ = some (.int .i64 ((rd_T69 l0_3 ((rd_T66 l0_4 x5_3).f0)).f1)) ∧ w'.cell? ⟨(ad120.add ((((rd_T66 l0_4 x5_3).f0)).toNat * 4)).block, (ad120.add ((((rd_T66 l0_4 x5_3).f0)).toNat * 4)).off + 2, none⟩ = some (.int .i64 ((rd_T69 l0_3 ((rd_T66 l0_4 x5_3).f0)).f2)) ∧ w'.cell? ⟨(ad120.add ((((rd_T66 l0_4 x5_3).f0)).toNat * 4)).block, (ad120.add ((((rd_T66 l0_4 x5_3).f0)).toNat * 4)).off + 3, none⟩ = some (.int .i64 ((rd_T69 l0_3 ((rd_T66 l0_4 x5_3).f0)).f3))) (ds := []) ba40_ (by kernel_rfl) rfl rfl ⟨(blk_cell BK119.out 0).trans rfl, (blk_cell BK119.out 1).trans rfl, (blk_cell BK119.out 2).trans rfl, (blk_cell BK114.out 0).trans rfl, (blk_cell BK114.out 1).trans rfl, (blk_cell BK114.out 2).trans rfl, (blk_cell BK112.out 0).trans rfl, (blk_cell BK112.out 1).trans rfl, (blk_cell BK112.out 2).trans rfl, (blk_cell BK112.out 3).trans rfl, (blk_cell BK112.out 4).trans rfl, ((HB.out.cell (World.block_lt_of_cell? w _ hw120_0)).trans hw120_0), ((HB.out.cell (World.block_lt_of_cell? w _ hw120_1)).trans hw120_1), ((HB.out.cell (World.block_lt_of_cell? w _ hw120_2)).trans hw120_2), ((HB.out.cell (World.block_lt_of_cell? w _ hw120_3)).trans hw120_3)⟩ (fun hHeld => ?_); refine with_tabW spec_l12Tasks.tab11 spec_l12Tasks.bits11 (fun HT_ HW_ => ?_)
                  generalize w48.drew = w49 at BK112 BK114 BK119 HB hx120_0 hx120_1 hx120_2 hx120_3 hHeld ⊢
                  refine pure_ (i := 0) (N := some 63) (v := ?_) (a' := ?_) ba41_ rfl rfl (any_of HT_.out (by kernel_rfl)) id3_ (Or.inl ⟨by rfl, ?_⟩) ?_ ?_
                  rotate_left; (intro w'; go_simp; with_reducible rfl)
                  rotate_left; (simp only [Act.put, z0_, z1_, z2_, i64_w, i32_w]; rfl)
                  refine pure_ (i := 2) (N := some 65) (v := ?_) (a' := ?_) ba42_ rfl rfl (any_of HT_.out (by kernel_rfl)) id3_ (Or.inl ⟨by rfl, ?_⟩) ?_ ?_
                  rotate_left; (intro w'; go_simp; with_reducible rfl)
                  rotate_left; (simp only [Act.put, z0_, z1_, z2_, i64_w, i32_w]; rfl)
                  refine take_ (i := 1) (N := some 64) (v := ?_) (a' := ?_) ba43_ rfl rfl (take_ofW HT_.out HW_.out (by kernel_rfl)) id3_ (Or.inl ⟨by rfl, ?_⟩) hHeld ?_ ?_
                  rotate_left
                  ·
                   rintro w' ⟨s0, s1, s2, s3, s4, s5, s6, s7, s8, s9, s10, s11, s12, s13, s14⟩
                   go_simp
                   with_reducible rfl
                  rotate_left; (simp only [Act.put, z0_, z1_, z2_, i64_w, i32_w]; rfl)
                  refine take_ (i := 3) (N := some 66) (v := ?_) (a' := ?_) ba44_ rfl rfl (take_ofW HT_.out HW_.out (by kernel_rfl)) id3_ (Or.inl ⟨by rfl, ?_⟩) hHeld ?_ ?_
                  rotate_left
                  ·
                   rintro w' ⟨s0, s1, s2, s3, s4, s5, s6, s7, s8, s9, s10, s11, s12, s13, s14⟩
                   go_simp
                   with_reducible rfl
                  rotate_left; (simp only [Act.put, z0_, z1_, z2_, i64_w, i32_w]; rfl)
                  refine pure_ (i := 4) (N := some 67) (v := ?_) (a' := ?_) ba45_ rfl rfl (any_of HT_.out (by kernel_rfl)) id3_ (Or.inl ⟨by rfl, ?_⟩) ?_ ?_
                  rotate_left; (intro w'; go_simp; with_reducible rfl)
                  rotate_left; (simp only [Act.put, z0_, z1_, z2_, i64_w, i32_w]; rfl)
                  refine pure_ (i := 5) (N := some 68) (v := ?_) (a' := ?_) ba46_ rfl rfl (any_of HT_.out (by kernel_rfl)) id3_ (Or.inl ⟨by rfl, ?_⟩) ?_ ?_
                  rotate_left; (intro w'; go_simp; with_reducible rfl)
                  rotate_left; (simp only [Act.put, z0_, z1_, z2_, i64_w, i32_w]; rfl)
                  refine pure_ (i := 6) (N := some 69) (v := ?_) (a' := ?_) ba47_ rfl rfl (any_of HT_.out (by kernel_rfl)) id3_ (Or.inl ⟨by rfl, ?_⟩) ?_ ?_
                  rotate_left; (intro w'; go_simp; with_reducible rfl)
                  rotate_left; (simp only [Act.put, z0_, z1_, z2_, i64_w, i32_w]; rfl)
                  refine pure_ (i := 8) (N := some 71) (v := ?_) (a' := ?_) ba68_ rfl rfl (any_of HT_.out (by kernel_rfl)) id3_ (Or.inl ⟨by rfl, ?_⟩) ?_ ?_
                  rotate_left; (intro w'; go_simp; with_reducible rfl)
                  rotate_left; (simp only [Act.put, z0_, z1_, z2_, i64_w, i32_w]; rfl)
                  refine take_ (i := 7) (N := some 70) (v := ?_) (a' := ?_) ba49_ rfl rfl (take_ofW HT_.out HW_.out (by kernel_rfl)) id3_ (Or.inl ⟨by rfl, ?_⟩) hHeld ?_ ?_
                  rotate_left
                  ·
                   rintro w' ⟨s0, s1, s2, s3, s4, s5, s6, s7, s8, s9, s10, s11, s12, s13, s14⟩
                   go_simp
                   with_reducible rfl
                  rotate_left; (simp only [Act.put, z0_, z1_, z2_, i64_w, i32_w]; rfl)
                  refine take_ (i := 9) (N := some 72) (v := ?_) (a' := ?_) ba50_ rfl rfl (take_ofW HT_.out HW_.out (by kernel_rfl)) id3_ (Or.inl ⟨by rfl, ?_⟩) hHeld ?_ ?_
                  rotate_left
                  ·
                   rintro w' ⟨s0, s1, s2, s3, s4, s5, s6, s7, s8, s9, s10, s11, s12, s13, s14⟩
                   go_simp
                   with_reducible rfl
                  rotate_left; (simp only [Act.put, z0_, z1_, z2_, i64_w, i32_w]; rfl)
                  refine pure_ (i := 10) (N := some 73) (v := ?_) (a' := ?_) ba51_ rfl rfl (any_of HT_.out (by kernel_rfl)) id3_ (Or.inl ⟨by rfl, ?_⟩) ?_ ?_
                  rotate_left; (intro w'; go_simp; with_reducible rfl)
                  rotate_left; (simp only [Act.put, z0_, z1_, z2_, i64_w, i32_w]; rfl)
                  refine pure_ (i := 11) (N := some 74) (v := ?_) (a' := ?_) ba52_ rfl rfl (any_of HT_.out (by kernel_rfl)) id3_ (Or.inl ⟨by rfl, ?_⟩) ?_ ?_
                  rotate_left; (intro w'; go_simp; with_reducible rfl)
                  rotate_left; (simp only [Act.put, z0_, z1_, z2_, i64_w, i32_w]; rfl)
                  refine pure_ (i := 12) (N := some 75) (v := ?_) (a' := ?_) ba53_ rfl rfl (any_of HT_.out (by kernel_rfl)) id3_ (Or.inl ⟨by rfl, ?_⟩) ?_ ?_
                  rotate_left; (intro w'; go_simp; with_reducible rfl)
                  rotate_left; (simp only [Act.put, z0_, z1_, z2_, i64_w, i32_w]; rfl)
                  refine pure_ (i := 14) (N := some 77) (v := ?_) (a' := ?_) ba69_ rfl rfl (any_of HT_.out (by kernel_rfl)) id3_ (Or.inl ⟨by rfl, ?_⟩) ?_ ?_
                  rotate_left; (intro w'; go_simp; with_reducible rfl)
                  rotate_left; (simp only [Act.put, z0_, z1_, z2_, i64_w, i32_w]; rfl)
                  refine pure_ (i := 16) (N := some 79) (v := ?_) (a' := ?_) ba70_ rfl rfl (any_of HT_.out (by kernel_rfl)) id3_ (Or.inl ⟨by rfl, ?_⟩) ?_ ?_
                  rotate_left; (intro w'; go_simp; with_reducible rfl)
                  rotate_left; (simp only [Act.put, z0_, z1_, z2_, i64_w, i32_w]; rfl)
                  refine pure_ (i := 22) (N := some 85) (v := ?_) (a' := ?_) ba71_ rfl rfl (any_of HT_.out (by kernel_rfl)) id3_ (Or.inl ⟨by rfl, ?_⟩) ?_ ?_
                  rotate_left; (intro w'; go_simp; with_reducible rfl)
                  rotate_left; (simp only [Act.put, z0_, z1_, z2_, i64_w, i32_w]; rfl)
                  refine take_ (i := 13) (N := some 76) (v := ?_) (a' := ?_) ba72_ rfl rfl (take_ofW HT_.out HW_.out (by kernel_rfl)) id3_ (Or.inl ⟨by rfl, ?_⟩) hHeld ?_ ?_
                  rotate_left
                  ·
                   rintro w' ⟨s0, s1, s2, s3, s4, s5, s6, s7, s8, s9, s10, s11, s12, s13, s14⟩
                   go_simp
                   with_reducible rfl
                  rotate_left; (simp only [Act.put, z0_, z1_, z2_, i64_w, i32_w]; rfl)
                  refine take_ (i := 15) (N := some 78) (v := ?_) (a' := ?_) ba73_ rfl rfl (take_ofW HT_.out HW_.out (by kernel_rfl)) id3_ (Or.inl ⟨by rfl, ?_⟩) hHeld ?_ ?_
                  rotate_left
                  ·
                   rintro w' ⟨s0, s1, s2, s3, s4, s5, s6, s7, s8, s9, s10, s11, s12, s13, s14⟩
                   go_simp
                   with_reducible rfl
                  rotate_left; (simp only [Act.put, z0_, z1_, z2_, i64_w, i32_w]; rfl)
                  refine take_ (i := 17) (N := some 80) (v := ?_) (a' := ?_) ba74_ rfl rfl (take_ofW HT_.out HW_.out (by kernel_rfl)) id3_ (Or.inl ⟨by rfl, ?_⟩) hHeld ?_ ?_
                  rotate_left
                  ·
                   rintro w' ⟨s0, s1, s2, s3, s4, s5, s6, s7, s8, s9, s10, s11, s12, s13, s14⟩
                   go_simp
                   with_reducible rfl
                  rotate_left; (simp only [Act.put, z0_, z1_, z2_, i64_w, i32_w]; rfl)
                  refine pure_ (i := 18) (N := some 81) (v := ?_) (a' := ?_) ba75_ rfl rfl (any_of HT_.out (by kernel_rfl)) id3_ (Or.inl ⟨by rfl, ?_⟩) ?_ ?_
                  rotate_left; (intro w'; go_simp; with_reducible rfl)
                  rotate_left; (simp only [Act.put, z0_, z1_, z2_, i64_w, i32_w]; rfl)
                  refine pure_ (i := 19) (N := some 82) (v := ?_) (a' := ?_) ba76_ rfl rfl (any_of HT_.out (by kernel_rfl)) id3_ (Or.inl ⟨by rfl, ?_⟩) ?_ ?_
                  rotate_left; (intro w'; go_simp; with_reducible rfl)
                  rotate_left; (simp only [Act.put, z0_, z1_, z2_, i64_w, i32_w]; rfl)
                  refine take_ (i := 20) (N := some 83) (v := ?_) (a' := ?_) ba77_ rfl rfl (take_ofW HT_.out HW_.out (by kernel_rfl)) id3_ (Or.inl ⟨by rfl, ?_⟩) hHeld ?_ ?_
                  rotate_left
                  ·
                   rintro w' ⟨s0, s1, s2, s3, s4, s5, s6, s7, s8, s9, s10, s11, s12, s13, s14⟩
                   go_simp
                   with_reducible rfl
                  rotate_left; (simp only [Act.put, z0_, z1_, z2_, i64_w, i32_w]; rfl)
                  refine pure_ (i := 21) (N := some 84) (v := ?_) (a' := ?_) ba63_ rfl rfl (any_of HT_.out (by kernel_rfl)) id3_ (Or.inl ⟨by rfl, ?_⟩) ?_ ?_
                  rotate_left; (intro w'; go_simp; with_reducible rfl)
                  rotate_left; (simp only [Act.put, z0_, z1_, z2_, i64_w, i32_w]; rfl)
                  refine take_ (i := 23) (N := some 86) (v := ?_) (a' := ?_) ba64_ rfl rfl (take_ofW HT_.out HW_.out (by kernel_rfl)) id3_ (Or.inl ⟨by rfl, ?_⟩) hHeld ?_ ?_
                  rotate_left
                  ·
                   rintro w' ⟨s0, s1, s2, s3, s4, s5, s6, s7, s8, s9, s10, s11, s12, s13, s14⟩
                   go_simp
                   with_reducible rfl
                  rotate_left; (simp only [Act.put, z0_, z1_, z2_, i64_w, i32_w]; rfl)
                  refine pure_ (i := 24) (N := some 87) (v := ?_) (a' := ?_) ba65_ rfl rfl (any_of HT_.out (by kernel_rfl)) id3_ (Or.inl ⟨by rfl, ?_⟩) ?_ ?_
                  rotate_left; (intro w'; go_simp; with_reducible rfl)
                  rotate_left; (simp only [Act.put, z0_, z1_, z2_, i64_w, i32_w]; rfl)
                  refine pure_ (i := 25) (N := some 88) (v := ?_) (a' := ?_) ba66_ rfl rfl (any_of HT_.out (by kernel_rfl)) id3_ (Or.inl ⟨by rfl, ?_⟩) ?_ ?_
                  rotate_left; (intro w'; go_simp; with_reducible rfl)
                  rotate_left; (simp only [Act.put, z0_, z1_, z2_, i64_w, i32_w]; rfl)
                  refine pure_ (i := 26) (N := some 89) (v := ?_) (a' := ?_) ba67_ rfl rfl (any_of HT_.out (by kernel_rfl)) id3_ (Or.inl ⟨by rfl, ?_⟩) ?_ ?_
                  rotate_left; (intro w'; go_simp; with_reducible rfl)
                  rotate_left; (simp only [Act.put, z0_, z1_, z2_, i64_w, i32_w]; rfl)
                  refine done_ (done_of HT_.out (by kernel_rfl)) ?_
                  try go_wp2
                  go_ret
                  exact ⟨by first | rfl | (simp [errW_none, errW_some] <;> rfl) | (simp [*, errW_none, errW_some] <;> rfl), by repeat (first | (with_reducible first | exact HB.out | apply below_alloc | apply pw_below_drewN | apply below_drew1 | refine below_set ?_ GE112.out | refine below_set ?_ GE114.out | refine below_set ?_ GE119.out) | exact HB.out)⟩
                 ·
                  rw [if_neg c41] at H
                  have c41b0 : decide (((rd_T66 l0_4 x3_1).f2) < (wrap64 (((rd_T66 l0_4 x5_3).f2) + ((rd_T69 l0_3 ((rd_T66 l0_4 x5_3).f0)).f0)))) = false := decide_eq_false c41
                  clear c41
                  have H' := Aside0.mk H
                  clear H
                  have hnb50 := NB112_114.out
                  have hnc50 := NB114_112.out
                  have hcz51_0 : wr.cell? ⟨gb112, 0, none⟩ = some (.int .i64 a0_0) := (blk_cell BK112.out 0).trans rfl
                  have hcz51_1 : wr.cell? ⟨gb112, 1, none⟩ = some (.int .i64 a0_1) := (blk_cell BK112.out 1).trans rfl
                  have hcz51_2 : wr.cell? ⟨gb112, 2, none⟩ = some (.int .i64 a0_2) := (blk_cell BK112.out 2).trans rfl
                  have hcz51_3 : wr.cell? ⟨gb112, 3, none⟩ = some (.slice A0_3 l0_3.length c0_3) := (blk_cell BK112.out 3).trans rfl
                  have hcz51_4 : wr.cell? ⟨gb112, 4, none⟩ = some (.slice (some ad113) l0_4.length c0_4) := (blk_cell BK112.out 4).trans rfl
                  have hfz51_0 := blk_frozen BK112.out 0
                  have hfz51_1 := blk_frozen BK112.out 1
                  have hfz51_2 := blk_frozen BK112.out 2
                  have hfz51_3 := blk_frozen BK112.out 3
                  have hfz51_4 := blk_frozen BK112.out 4
                  have p118 : 0 ≤ (x5_3 : Int) := of_decide_eq_true (by first | (with_reducible assumption) | assumption)
                  have q118 : x5_3 < (l0_4.length : Int) := of_decide_eq_true (by first | (with_reducible assumption) | assumption)
                  obtain ⟨ad118, e118, hx118_0, hx118_1, hx118_2⟩ := at_T66 HR0_4.out x5_3 p118 q118
                  obtain rfl : ad113 = ad118 := (by injection e118)
                  replace hx118_0 := (HB.out.cell (World.block_lt_of_cell? w _ hx118_0)).trans hx118_0
                  replace hx118_1 := (HB.out.cell (World.block_lt_of_cell? w _ hx118_1)).trans hx118_1
                  replace hx118_2 := (HB.out.cell (World.block_lt_of_cell? w _ hx118_2)).trans hx118_2
                  replace p118 := eq_true p118
                  replace q118 := eq_true q118
                  try go_wp2_with (first | ((with_reducible refine gate_dst (N := 6) rfl ?_); refine box_event ?hg (N := 6) ?hd (cs := #[.int .i64 0, .int .i64 0, .int .i64 0]) (t := 66) ?hr ?_; (case hd => rfl); (case hg => rfl); (case hr => first | (go_simp; done) | (go_simp; rfl)); intro gb119 hg w52 hbox hb; have n0_ := Aside0.mk (blk_below (g := gb112) (o := .cells #[.int .i64 a0_0, .int .i64 a0_1, .int .i64 a0_2, .slice A0_3 l0_3.length c0_3, .slice (some ad113) l0_4.length c0_4] 31 (0, 0)) (by (with_reducible repeat (first | refine blk_drewN ?_ _ | refine blk_drew ?_ | refine blk_alloc ?_ _)); exact BK112.out) hb); have n1_ := Aside0.mk (blk_below (g := gb114) (o := .cells #[.int .i64 ((rd_T66 l0_4 x3_1).f0), .int .i64 ((rd_T66 l0_4 x3_1).f1), .int .i64 ((rd_T66 l0_4 x3_1).f2)] 66 (0, 0)) (by (with_reducible repeat (first | refine blk_drewN ?_ _ | refine blk_drew ?_ | refine blk_alloc ?_ _)); exact BK114.out) hb); have n2_ := Aside0.mk (below_step (by repeat (first | (with_reducible first | exact HB.out | apply below_alloc | apply pw_below_drewN | apply below_drew1 | refine below_set ?_ GE112.out | refine below_set ?_ GE114.out) | exact HB.out)) hb); have n3_ := Aside0.mk (hbox); have n4_ := Aside0.mk ((by rw [hg]; exact (below_size (by repeat (first | (with_reducible first | exact HB.out | apply below_alloc | apply pw_below_drewN | apply below_drew1 | refine below_set ?_ GE112.out | refine below_set ?_ GE114.out) | exact HB.out))) : w.heap.size ≤ gb119)); have n5_ := Aside0.mk ((by rw [hg]; exact (below_size (by repeat (first | (with_reducible first | exact HB.out | apply below_alloc | apply pw_below_drewN | apply below_drew1 | refine below_set ?_ GE112.out | refine below_set ?_ GE114.out) | exact HB.out))) : w.heap.size ≤ gb119)); have n6_ := Aside0.mk ((by rw [hg]; exact Nat.ne_of_lt (blk_lt (g := gb112) (o := .cells #[.int .i64 a0_0, .int .i64 a0_1, .int .i64 a0_2, .slice A0_3 l0_3.length c0_3, .slice (some ad113) l0_4.length c0_4] 31 (0, 0)) (by (with_reducible repeat (first | refine blk_drewN ?_ _ | refine blk_drew ?_ | refine blk_alloc ?_ _)); exact BK112.out)) : gb112 ≠ gb119)); have n7_ := Aside0.mk ((by rw [hg]; exact Nat.ne_of_gt (blk_lt (g := gb112) (o := .cells #[.int .i64 a0_0, .int .i64 a0_1, .int .i64 a0_2, .slice A0_3 l0_3.length c0_3, .slice (some ad113) l0_4.length c0_4] 31 (0, 0)) (by (with_reducible repeat (first | refine blk_drewN ?_ _ | refine blk_drew ?_ | refine blk_alloc ?_ _)); exact BK112.out)) : gb119 ≠ gb112)); have n8_ := Aside0.mk ((by rw [hg]; exact Nat.ne_of_lt (blk_lt (g := gb114) (o := .cells #[.int .i64 ((rd_T66 l0_4 x3_1).f0), .int .i64 ((rd_T66 l0_4 x3_1).f1), .int .i64 ((rd_T66 l0_4 x3_1).f2)] 66 (0, 0)) (by (with_reducible repeat (first | refine blk_drewN ?_ _ | refine blk_drew ?_ | refine blk_alloc ?_ _)); exact BK114.out)) : gb114 ≠ gb119)); have n9_ := Aside0.mk ((by rw [hg]; exact Nat.ne_of_gt (blk_lt (g := gb114) (o := .cells #[.int .i64 ((rd_T66 l0_4 x3_1).f0), .int .i64 ((rd_T66 l0_4 x3_1).f1), .int .i64 ((rd_T66 l0_4 x3_1).f2)] 66 (0, 0)) (by (with_reducible repeat (first | refine blk_drewN ?_ _ | refine blk_drew ?_ | refine blk_alloc ?_ _)); exact BK114.out)) : gb119 ≠ gb114)); clear BK112; clear BK114; clear HB; have BK112 := n0_; have BK114 := n1_; have HB := n2_; have BK119 := n3_; have GW119 := n4_; have GE119 := n5_; have NB112_119 := n6_; have NB119_112 := n7_; have NB114_119 := n8_; have NB119_114 := n9_; clear n0_ n1_ n2_ n3_ n4_ n5_ n6_ n7_ n8_ n9_; clear hb hbox hg; have hnb53 := NB119_112.out; have hnc53 := NB112_119.out; have hnb54 := NB119_114.out; have hnc54 := NB114_119.out; have hcz55_0 : w52.cell? ⟨gb119, 0, none⟩ = some (.int .i64 0) := (blk_cell BK119.out 0).trans rfl; have hcz55_1 : w52.cell? ⟨gb119, 1, none⟩ = some (.int .i64 0) := (blk_cell BK119.out 1).trans rfl; have hcz55_2 : w52.cell? ⟨gb119, 2, none⟩ = some (.int .i64 0) := (blk_cell BK119.out 2).trans rfl; have hfz55_0 := blk_frozen BK119.out 0; have hfz55_1 := blk_frozen BK119.out 1; have hfz55_2 := blk_frozen BK119.out 2))
                  have n0_ : Aside0 ((((w52.setCell ⟨gb119, 0, none⟩ (.int .i64 ((rd_T66 l0_4 x5_3).f0))).setCell ⟨gb119, 1, none⟩ (.int .i64 ((rd_T66 l0_4 x5_3).f1))).setCell ⟨gb119, 2, none⟩ (.int .i64 ((rd_T66 l0_4 x5_3).f2))).heap[gb112]? = some (.cells #[.int .i64 a0_0, .int .i64 a0_1, .int .i64 a0_2, .slice A0_3 l0_3.length c0_3, .slice (some ad113) l0_4.length c0_4] 31 (0, 0))) := ⟨by (with_reducible repeat (first | refine blk_drewN ?_ _ | refine blk_drew ?_ | refine blk_alloc ?_ _)); refine blk_far ?_ NB112_119.out _; (with_reducible repeat (first | refine blk_drewN ?_ _ | refine blk_drew ?_ | refine blk_alloc ?_ _)); refine blk_far ?_ NB112_119.out _; (with_reducible repeat (first | refine blk_drewN ?_ _ | refine blk_drew ?_ | refine blk_alloc ?_ _)); refine blk_far ?_ NB112_119.out _; (with_reducible repeat (first | refine blk_drewN ?_ _ | refine blk_drew ?_ | refine blk_alloc ?_ _)); exact BK112.out⟩
                  have n1_ : Aside0 ((((w52.setCell ⟨gb119, 0, none⟩ (.int .i64 ((rd_T66 l0_4 x5_3).f0))).setCell ⟨gb119, 1, none⟩ (.int .i64 ((rd_T66 l0_4 x5_3).f1))).setCell ⟨gb119, 2, none⟩ (.int .i64 ((rd_T66 l0_4 x5_3).f2))).heap[gb114]? = some (.cells #[.int .i64 ((rd_T66 l0_4 x3_1).f0), .int .i64 ((rd_T66 l0_4 x3_1).f1), .int .i64 ((rd_T66 l0_4 x3_1).f2)] 66 (0, 0))) := ⟨by (with_reducible repeat (first | refine blk_drewN ?_ _ | refine blk_drew ?_ | refine blk_alloc ?_ _)); refine blk_far ?_ NB114_119.out _; (with_reducible repeat (first | refine blk_drewN ?_ _ | refine blk_drew ?_ | refine blk_alloc ?_ _)); refine blk_far ?_ NB114_119.out _; (with_reducible repeat (first | refine blk_drewN ?_ _ | refine blk_drew ?_ | refine blk_alloc ?_ _)); refine blk_far ?_ NB114_119.out _; (with_reducible repeat (first | refine blk_drewN ?_ _ | refine blk_drew ?_ | refine blk_alloc ?_ _)); exact BK114.out⟩
                  have n2_ : Aside0 ((((w52.setCell ⟨gb119, 0, none⟩ (.int .i64 ((rd_T66 l0_4 x5_3).f0))).setCell ⟨gb119, 1, none⟩ (.int .i64 ((rd_T66 l0_4 x5_3).f1))).setCell ⟨gb119, 2, none⟩ (.int .i64 ((rd_T66 l0_4 x5_3).f2))).heap[gb119]? = some (.cells #[.int .i64 ((rd_T66 l0_4 x5_3).f0), .int .i64 ((rd_T66 l0_4 x5_3).f1), .int .i64 ((rd_T66 l0_4 x5_3).f2)] 66 (0, 0))) := ⟨by (with_reducible repeat (first | refine blk_drewN ?_ _ | refine blk_drew ?_ | refine blk_alloc ?_ _)); refine blk_put (cs := #[.int .i64 ((rd_T66 l0_4 x5_3).f0), .int .i64 ((rd_T66 l0_4 x5_3).f1), .int .i64 0]) ?_ 2 _ rfl; (with_reducible repeat (first | refine blk_drewN ?_ _ | refine blk_drew ?_ | refine blk_alloc ?_ _)); refine blk_put (cs := #[.int .i64 ((rd_T66 l0_4 x5_3).f0), .int .i64 0, .int .i64 0]) ?_ 1 _ rfl; (with_reducible repeat (first | refine blk_drewN ?_ _ | refine blk_drew ?_ | refine blk_alloc ?_ _)); refine blk_put (cs := #[.int .i64 0, .int .i64 0, .int .i64 0]) ?_ 0 _ rfl; (with_reducible repeat (first | refine blk_drewN ?_ _ | refine blk_drew ?_ | refine blk_alloc ?_ _)); exact BK119.out⟩
                  have n3_ : Aside0 (Below w.heap.size w (((w52.setCell ⟨gb119, 0, none⟩ (.int .i64 ((rd_T66 l0_4 x5_3).f0))).setCell ⟨gb119, 1, none⟩ (.int .i64 ((rd_T66 l0_4 x5_3).f1))).setCell ⟨gb119, 2, none⟩ (.int .i64 ((rd_T66 l0_4 x5_3).f2)))) := ⟨by repeat (first | (with_reducible first | exact HB.out | apply below_alloc | apply pw_below_drewN | apply below_drew1 | refine below_set ?_ GE112.out | refine below_set ?_ GE114.out | refine below_set ?_ GE119.out) | exact HB.out)⟩
                  (try clear BK112)
                  (try clear BK114)
                  (try clear BK119)
                  (try clear HB)
                  (try simp only [show ∀ (W_ : World) (n_ : Nat) (a_ : Addr) (v_ : Value), (W_.drewN n_).setCell a_ v_ = (W_.setCell a_ v_).drewN n_ from fun _ _ _ _ => rfl])
                  generalize (((w52.setCell ⟨gb119, 0, none⟩ (.int .i64 ((rd_T66 l0_4 x5_3).f0))).setCell ⟨gb119, 1, none⟩ (.int .i64 ((rd_T66 l0_4 x5_3).f1))).setCell ⟨gb119, 2, none⟩ (.int .i64 ((rd_T66 l0_4 x5_3).f2))) = w56 at n0_ n1_ n2_ n3_ ⊢
                  have BK112 := n0_
                  have BK114 := n1_
                  have BK119 := n2_
                  have HB := n3_
                  clear n0_ n1_ n2_ n3_
                  have n0_ := Aside0.mk (blk_drew BK112.out)
                  have n1_ := Aside0.mk (blk_drew BK114.out)
                  have n2_ := Aside0.mk (blk_drew BK119.out)
                  have n3_ := Aside0.mk (below_drew1 HB.out)
                  clear BK112
                  clear BK114
                  clear BK119
                  clear HB
                  have BK112 := n0_
                  have BK114 := n1_
                  have BK119 := n2_
                  have HB := n3_
                  clear n0_ n1_ n2_ n3_
                  have p120 : 0 ≤ (((rd_T66 l0_4 x5_3).f0) : Int) := of_decide_eq_true (by first | (with_reducible assumption) | assumption)
                  have q120 : ((rd_T66 l0_4 x5_3).f0) < (l0_3.length : Int) := of_decide_eq_true (by first | (with_reducible assumption) | assumption)
                  obtain ⟨ad120, e120, hx120_0, hx120_1, hx120_2, hx120_3⟩ := at_T69 HR0_3.out ((rd_T66 l0_4 x5_3).f0) p120 q120
                  have hw120_3 := hx120_3
                  have hw120_2 := hx120_2
                  have hw120_1 := hx120_1
                  have hw120_0 := hx120_0
                  cases e120
                  replace hx120_0 := (HB.out.cell (World.block_lt_of_cell? w _ hx120_0)).trans hx120_0
                  replace hx120_1 := (HB.out.cell (World.block_lt_of_cell? w _ hx120_1)).trans hx120_1
                  replace hx120_2 := (HB.out.cell (World.block_lt_of_cell? w _ hx120_2)).trans hx120_2
                  replace hx120_3 := (HB.out.cell (World.block_lt_of_cell? w _ hx120_3)).trans hx120_3
                  replace p120 := eq_true p120
                  replace q120 := eq_true q120
                  refine start_ (n := 27) (S := fun w' => w'.cell? ⟨gb119, 0, none⟩ = some (.int .i64 ((rd_T66 l0_4 x5_3).f0)) ∧ w'.cell? ⟨gb119, 1, none⟩ = some (.int .i64 ((rd_T66 l0_4 x5_3).f1)) ∧ w'.cell? ⟨gb119, 2, none⟩ = some (.int .i64 ((rd_T66 l0_4 x5_3).f2)) ∧ w'.cell? ⟨gb114, 0, none⟩ = some (.int .i64 ((rd_T66 l0_4 x3_1).f0)) ∧ w'.cell? ⟨gb114, 1, none⟩ = some (.int .i64 ((rd_T66 l0_4 x3_1).f1)) ∧ w'.cell? ⟨gb114, 2, none⟩ = some (.int .i64 ((rd_T66 l0_4 x3_1).f2)) ∧ w'.cell? ⟨gb112, 0, none⟩ = some (.int .i64 a0_0) ∧ w'.cell? ⟨gb112, 1, none⟩ = some (.int .i64 a0_1) ∧ w'.cell? ⟨gb112, 2, none⟩ = some (.int .i64 a0_2) ∧ w'.cell? ⟨gb112, 3, none⟩ = some (.slice (some ad120) l0_3.length c0_3) ∧ w'.cell? ⟨gb112, 4, none⟩ = some (.slice (some ad113) l0_4.length c0_4) ∧ w'.cell? (ad120.add ((((rd_T66 l0_4 x5_3).f0)).toNat * 4)) = some (.int .i64 ((rd_T69 l0_3 ((rd_T66 l0_4 x5_3).f0)).f0)) ∧ w'.cell? ⟨(ad120.add ((((rd_T66 l0_4 x5_3).f0)).toNat * 4)).block, (ad120.add ((((rd_T66 l0_4 x5_3).f0)).toNat * 4)).off + 1, none⟩ = some (.int .i64 ((rd_T69 l0_3 ((rd_T66 l0_4 x5_3).f0)).f1)) ∧ w'.cell? ⟨(ad120.add ((((rd_T66 l0_4 x5_3).f0)).toNat * 4)).block, (ad120.add ((((rd_T66 l0_4 x5_3).f0)).toNat * 4)).off + 2, none⟩ = some (.int .i64 ((rd_T69 l0_3 ((rd_T66 l0_4 x5_3).f0)).f2)) ∧ w'.cell? ⟨(ad120.add ((((rd_T66 l0_4 x5_3).f0)).toNat * 4)).block, (ad120.add ((((rd_T66 l0_4 x5_3).f0)).toNat * 4)).off + 3, none⟩ = some (.int .i64 ((rd_T69 l0_3 ((rd_T66 l0_4 x5_3).f0)).f3))) (ds := []) ba40_ (by kernel_rfl) rfl rfl ⟨(blk_cell BK119.out 0).trans rfl, (blk_cell BK119.out 1).trans rfl, (blk_cell BK119.out 2).trans rfl, (blk_cell BK114.out 0).trans rfl, (blk_cell BK114.out 1).trans rfl, (blk_cell BK114.out 2).trans rfl, (blk_cell BK112.out 0).trans rfl, (blk_cell BK112.out 1).trans rfl, (blk_cell BK112.out 2).trans rfl, (blk_cell BK112.out 3).trans rfl, (blk_cell BK112.out 4).trans rfl, ((HB.out.cell (World.block_lt_of_cell? w _ hw120_0)).trans hw120_0), ((HB.out.cell (World.block_lt_of_cell? w _ hw120_1)).trans hw120_1), ((HB.out.cell (World.block_lt_of_cell? w _ hw120_2)).trans hw120_2), ((HB.out.cell (World.block_lt_of_cell? w _ hw120_3)).trans hw120_3)⟩ (fun hHeld => ?_); refine with_tabW spec_l12Tasks.tab11 spec_l12Tasks.bits11 (fun HT_ HW_ => ?_)
                  generalize w56.drew = w57 at BK112 BK114 BK119 HB hx120_0 hx120_1 hx120_2 hx120_3 hHeld ⊢
                  refine pure_ (i := 0) (N := some 63) (v := ?_) (a' := ?_) ba41_ rfl rfl (any_of HT_.out (by kernel_rfl)) id3_ (Or.inl ⟨by rfl, ?_⟩) ?_ ?_
                  rotate_left; (intro w'; go_simp; with_reducible rfl)
                  rotate_left; (simp only [Act.put, z0_, z1_, z2_, i64_w, i32_w]; rfl)
                  refine pure_ (i := 2) (N := some 65) (v := ?_) (a' := ?_) ba42_ rfl rfl (any_of HT_.out (by kernel_rfl)) id3_ (Or.inl ⟨by rfl, ?_⟩) ?_ ?_
                  rotate_left; (intro w'; go_simp; with_reducible rfl)
                  rotate_left; (simp only [Act.put, z0_, z1_, z2_, i64_w, i32_w]; rfl)
                  refine take_ (i := 1) (N := some 64) (v := ?_) (a' := ?_) ba43_ rfl rfl (take_ofW HT_.out HW_.out (by kernel_rfl)) id3_ (Or.inl ⟨by rfl, ?_⟩) hHeld ?_ ?_
                  rotate_left
                  ·
                   rintro w' ⟨s0, s1, s2, s3, s4, s5, s6, s7, s8, s9, s10, s11, s12, s13, s14⟩
                   go_simp
                   with_reducible rfl
                  rotate_left; (simp only [Act.put, z0_, z1_, z2_, i64_w, i32_w]; rfl)
                  refine take_ (i := 3) (N := some 66) (v := ?_) (a' := ?_) ba44_ rfl rfl (take_ofW HT_.out HW_.out (by kernel_rfl)) id3_ (Or.inl ⟨by rfl, ?_⟩) hHeld ?_ ?_
                  rotate_left
                  ·
                   rintro w' ⟨s0, s1, s2, s3, s4, s5, s6, s7, s8, s9, s10, s11, s12, s13, s14⟩
                   go_simp
                   with_reducible rfl
                  rotate_left; (simp only [Act.put, z0_, z1_, z2_, i64_w, i32_w]; rfl)
                  refine pure_ (i := 4) (N := some 67) (v := ?_) (a' := ?_) ba45_ rfl rfl (any_of HT_.out (by kernel_rfl)) id3_ (Or.inl ⟨by rfl, ?_⟩) ?_ ?_
                  rotate_left; (intro w'; go_simp; with_reducible rfl)
                  rotate_left; (simp only [Act.put, z0_, z1_, z2_, i64_w, i32_w]; rfl)
                  refine pure_ (i := 5) (N := some 68) (v := ?_) (a' := ?_) ba46_ rfl rfl (any_of HT_.out (by kernel_rfl)) id3_ (Or.inl ⟨by rfl, ?_⟩) ?_ ?_
                  rotate_left; (intro w'; go_simp; with_reducible rfl)
                  rotate_left; (simp only [Act.put, z0_, z1_, z2_, i64_w, i32_w]; rfl)
                  refine pure_ (i := 6) (N := some 69) (v := ?_) (a' := ?_) ba47_ rfl rfl (any_of HT_.out (by kernel_rfl)) id3_ (Or.inl ⟨by rfl, ?_⟩) ?_ ?_
                  rotate_left; (intro w'; go_simp; with_reducible rfl)
                  rotate_left; (simp only [Act.put, z0_, z1_, z2_, i64_w, i32_w]; rfl)
                  refine pure_ (i := 8) (N := some 71) (v := ?_) (a' := ?_) ba68_ rfl rfl (any_of HT_.out (by kernel_rfl)) id3_ (Or.inl ⟨by rfl, ?_⟩) ?_ ?_
                  rotate_left; (intro w'; go_simp; with_reducible rfl)
                  rotate_left; (simp only [Act.put, z0_, z1_, z2_, i64_w, i32_w]; rfl)
                  refine take_ (i := 7) (N := some 70) (v := ?_) (a' := ?_) ba49_ rfl rfl (take_ofW HT_.out HW_.out (by kernel_rfl)) id3_ (Or.inl ⟨by rfl, ?_⟩) hHeld ?_ ?_
                  rotate_left
                  ·
                   rintro w' ⟨s0, s1, s2, s3, s4, s5, s6, s7, s8, s9, s10, s11, s12, s13, s14⟩
                   go_simp
                   with_reducible rfl
                  rotate_left; (simp only [Act.put, z0_, z1_, z2_, i64_w, i32_w]; rfl)
                  refine take_ (i := 9) (N := some 72) (v := ?_) (a' := ?_) ba50_ rfl rfl (take_ofW HT_.out HW_.out (by kernel_rfl)) id3_ (Or.inl ⟨by rfl, ?_⟩) hHeld ?_ ?_
                  rotate_left
                  ·
                   rintro w' ⟨s0, s1, s2, s3, s4, s5, s6, s7, s8, s9, s10, s11, s12, s13, s14⟩
                   go_simp
                   with_reducible rfl
                  rotate_left; (simp only [Act.put, z0_, z1_, z2_, i64_w, i32_w]; rfl)
                  refine pure_ (i := 10) (N := some 73) (v := ?_) (a' := ?_) ba51_ rfl rfl (any_of HT_.out (by kernel_rfl)) id3_ (Or.inl ⟨by rfl, ?_⟩) ?_ ?_
                  rotate_left; (intro w'; go_simp; with_reducible rfl)
                  rotate_left; (simp only [Act.put, z0_, z1_, z2_, i64_w, i32_w]; rfl)
                  refine pure_ (i := 11) (N := some 74) (v := ?_) (a' := ?_) ba52_ rfl rfl (any_of HT_.out (by kernel_rfl)) id3_ (Or.inl ⟨by rfl, ?_⟩) ?_ ?_
                  rotate_left; (intro w'; go_simp; with_reducible rfl)
                  rotate_left; (simp only [Act.put, z0_, z1_, z2_, i64_w, i32_w]; rfl)
                  refine pure_ (i := 12) (N := some 75) (v := ?_) (a' := ?_) ba53_ rfl rfl (any_of HT_.out (by kernel_rfl)) id3_ (Or.inl ⟨by rfl, ?_⟩) ?_ ?_
                  rotate_left; (intro w'; go_simp; with_reducible rfl)
                  rotate_left; (simp only [Act.put, z0_, z1_, z2_, i64_w, i32_w]; rfl)
                  refine pure_ (i := 14) (N := some 77) (v := ?_) (a' := ?_) ba69_ rfl rfl (any_of HT_.out (by kernel_rfl)) id3_ (Or.inl ⟨by rfl, ?_⟩) ?_ ?_
                  rotate_left; (intro w'; go_simp; with_reducible rfl)
                  rotate_left; (simp only [Act.put, z0_, z1_, z2_, i64_w, i32_w]; rfl)
                  refine pure_ (i := 16) (N := some 79) (v := ?_) (a' := ?_) ba70_ rfl rfl (any_of HT_.out (by kernel_rfl)) id3_ (Or.inl ⟨by rfl, ?_⟩) ?_ ?_
                  rotate_left; (intro w'; go_simp; with_reducible rfl)
                  rotate_left; (simp only [Act.put, z0_, z1_, z2_, i64_w, i32_w]; rfl)
                  refine pure_ (i := 22) (N := some 85) (v := ?_) (a' := ?_) ba71_ rfl rfl (any_of HT_.out (by kernel_rfl)) id3_ (Or.inl ⟨by rfl, ?_⟩) ?_ ?_
                  rotate_left; (intro w'; go_simp; with_reducible rfl)
                  rotate_left; (simp only [Act.put, z0_, z1_, z2_, i64_w, i32_w]; rfl)
                  refine take_ (i := 13) (N := some 76) (v := ?_) (a' := ?_) ba72_ rfl rfl (take_ofW HT_.out HW_.out (by kernel_rfl)) id3_ (Or.inl ⟨by rfl, ?_⟩) hHeld ?_ ?_
                  rotate_left
                  ·
                   rintro w' ⟨s0, s1, s2, s3, s4, s5, s6, s7, s8, s9, s10, s11, s12, s13, s14⟩
                   go_simp
                   with_reducible rfl
                  rotate_left; (simp only [Act.put, z0_, z1_, z2_, i64_w, i32_w]; rfl)
                  refine take_ (i := 15) (N := some 78) (v := ?_) (a' := ?_) ba73_ rfl rfl (take_ofW HT_.out HW_.out (by kernel_rfl)) id3_ (Or.inl ⟨by rfl, ?_⟩) hHeld ?_ ?_
                  rotate_left
                  ·
                   rintro w' ⟨s0, s1, s2, s3, s4, s5, s6, s7, s8, s9, s10, s11, s12, s13, s14⟩
                   go_simp
                   with_reducible rfl
                  rotate_left; (simp only [Act.put, z0_, z1_, z2_, i64_w, i32_w]; rfl)
                  refine take_ (i := 17) (N := some 80) (v := ?_) (a' := ?_) ba74_ rfl rfl (take_ofW HT_.out HW_.out (by kernel_rfl)) id3_ (Or.inl ⟨by rfl, ?_⟩) hHeld ?_ ?_
                  rotate_left
                  ·
                   rintro w' ⟨s0, s1, s2, s3, s4, s5, s6, s7, s8, s9, s10, s11, s12, s13, s14⟩
                   go_simp
                   with_reducible rfl
                  rotate_left; (simp only [Act.put, z0_, z1_, z2_, i64_w, i32_w]; rfl)
                  refine pure_ (i := 18) (N := some 81) (v := ?_) (a' := ?_) ba75_ rfl rfl (any_of HT_.out (by kernel_rfl)) id3_ (Or.inl ⟨by rfl, ?_⟩) ?_ ?_
                  rotate_left; (intro w'; go_simp; with_reducible rfl)
                  rotate_left; (simp only [Act.put, z0_, z1_, z2_, i64_w, i32_w]; rfl)
                  refine pure_ (i := 19) (N := some 82) (v := ?_) (a' := ?_) ba76_ rfl rfl (any_of HT_.out (by kernel_rfl)) id3_ (Or.inl ⟨by rfl, ?_⟩) ?_ ?_
                  rotate_left; (intro w'; go_simp; with_reducible rfl)
                  rotate_left; (simp only [Act.put, z0_, z1_, z2_, i64_w, i32_w]; rfl)
                  refine take_ (i := 20) (N := some 83) (v := ?_) (a' := ?_) ba77_ rfl rfl (take_ofW HT_.out HW_.out (by kernel_rfl)) id3_ (Or.inl ⟨by rfl, ?_⟩) hHeld ?_ ?_
                  rotate_left
                  ·
                   rintro w' ⟨s0, s1, s2, s3, s4, s5, s6, s7, s8, s9, s10, s11, s12, s13, s14⟩
                   go_simp
                   with_reducible rfl
                  rotate_left; (simp only [Act.put, z0_, z1_, z2_, i64_w, i32_w]; rfl)
                  refine pure_ (i := 21) (N := some 84) (v := ?_) (a' := ?_) ba63_ rfl rfl (any_of HT_.out (by kernel_rfl)) id3_ (Or.inl ⟨by rfl, ?_⟩) ?_ ?_
                  rotate_left; (intro w'; go_simp; with_reducible rfl)
                  rotate_left; (simp only [Act.put, z0_, z1_, z2_, i64_w, i32_w]; rfl)
                  refine take_ (i := 23) (N := some 86) (v := ?_) (a' := ?_) ba64_ rfl rfl (take_ofW HT_.out HW_.out (by kernel_rfl)) id3_ (Or.inl ⟨by rfl, ?_⟩) hHeld ?_ ?_
                  rotate_left
                  ·
                   rintro w' ⟨s0, s1, s2, s3, s4, s5, s6, s7, s8, s9, s10, s11, s12, s13, s14⟩
                   go_simp
                   with_reducible rfl
                  rotate_left; (simp only [Act.put, z0_, z1_, z2_, i64_w, i32_w]; rfl)
                  refine pure_ (i := 24) (N := some 87) (v := ?_) (a' := ?_) ba65_ rfl rfl (any_of HT_.out (by kernel_rfl)) id3_ (Or.inl ⟨by rfl, ?_⟩) ?_ ?_
                  rotate_left; (intro w'; go_simp; with_reducible rfl)
                  rotate_left; (simp only [Act.put, z0_, z1_, z2_, i64_w, i32_w]; rfl)
                  refine pure_ (i := 25) (N := some 88) (v := ?_) (a' := ?_) ba66_ rfl rfl (any_of HT_.out (by kernel_rfl)) id3_ (Or.inl ⟨by rfl, ?_⟩) ?_ ?_
                  rotate_left; (intro w'; go_simp; with_reducible rfl)
                  rotate_left; (simp only [Act.put, z0_, z1_, z2_, i64_w, i32_w]; rfl)
                  refine pure_ (i := 26) (N := some 89) (v := ?_) (a' := ?_) ba67_ rfl rfl (any_of HT_.out (by kernel_rfl)) id3_ (Or.inl ⟨by rfl, ?_⟩) ?_ ?_
                  rotate_left; (intro w'; go_simp; with_reducible rfl)
                  rotate_left; (simp only [Act.put, z0_, z1_, z2_, i64_w, i32_w]; rfl)
                  refine done_ (done_of HT_.out (by kernel_rfl)) ?_
                  try go_wp2
                  go_roundg k3
                  case measure => have := HK1.out; have := HJ4.out; have := HK3.out; omega
                  case rel => exact ⟨(wrap64 (x5_3 + 1)), (by first | rfl | (simp; done) | (simp [*]; done)), H', ⟨by have := HK1.out; have := HJ4.out; have := HK3.out; omega⟩, ⟨by (with_reducible repeat (first | refine blk_drewN ?_ _ | refine blk_drew ?_ | refine blk_alloc ?_ _)); exact BK112.out⟩, ⟨by (with_reducible repeat (first | refine blk_drewN ?_ _ | refine blk_drew ?_ | refine blk_alloc ?_ _)); exact BK114.out⟩, ⟨by repeat (first | (with_reducible first | exact HB.out | apply below_alloc | apply pw_below_drewN | apply below_drew1 | refine below_set ?_ GE112.out | refine below_set ?_ GE114.out | refine below_set ?_ GE119.out) | exact HB.out)⟩⟩
                ·
                 rw [if_neg c40] at H
                 exact absurd H (by simp)
               ·
                rw [if_neg c39] at H
                exact absurd H (by simp)
              ·
               rw [if_neg c38] at H
               have c38b0 : (((rd_T66 l0_4 x5_3).f1) == ((rd_T66 l0_4 x3_1).f1)) = false := beq_eq_false_iff_ne.mpr c38
               have c38b1 : (((rd_T66 l0_4 x5_3).f1) != ((rd_T66 l0_4 x3_1).f1)) = true := bne_iff_ne.mpr c38
               have H' := Aside0.mk H
               clear H
               have hnb58 := NB112_114.out
               have hnc58 := NB114_112.out
               have hcz59_0 : wr.cell? ⟨gb112, 0, none⟩ = some (.int .i64 a0_0) := (blk_cell BK112.out 0).trans rfl
               have hcz59_1 : wr.cell? ⟨gb112, 1, none⟩ = some (.int .i64 a0_1) := (blk_cell BK112.out 1).trans rfl
               have hcz59_2 : wr.cell? ⟨gb112, 2, none⟩ = some (.int .i64 a0_2) := (blk_cell BK112.out 2).trans rfl
               have hcz59_3 : wr.cell? ⟨gb112, 3, none⟩ = some (.slice A0_3 l0_3.length c0_3) := (blk_cell BK112.out 3).trans rfl
               have hcz59_4 : wr.cell? ⟨gb112, 4, none⟩ = some (.slice (some ad113) l0_4.length c0_4) := (blk_cell BK112.out 4).trans rfl
               have hfz59_0 := blk_frozen BK112.out 0
               have hfz59_1 := blk_frozen BK112.out 1
               have hfz59_2 := blk_frozen BK112.out 2
               have hfz59_3 := blk_frozen BK112.out 3
               have hfz59_4 := blk_frozen BK112.out 4
               have p118 : 0 ≤ (x5_3 : Int) := of_decide_eq_true (by first | (with_reducible assumption) | assumption)
               have q118 : x5_3 < (l0_4.length : Int) := of_decide_eq_true (by first | (with_reducible assumption) | assumption)
               obtain ⟨ad118, e118, hx118_0, hx118_1, hx118_2⟩ := at_T66 HR0_4.out x5_3 p118 q118
               obtain rfl : ad113 = ad118 := (by injection e118)
               replace hx118_0 := (HB.out.cell (World.block_lt_of_cell? w _ hx118_0)).trans hx118_0
               replace hx118_1 := (HB.out.cell (World.block_lt_of_cell? w _ hx118_1)).trans hx118_1
               replace hx118_2 := (HB.out.cell (World.block_lt_of_cell? w _ hx118_2)).trans hx118_2
               replace p118 := eq_true p118
               replace q118 := eq_true q118
               try go_wp2_with (first | ((with_reducible refine gate_dst (N := 6) rfl ?_); refine box_event ?hg (N := 6) ?hd (cs := #[.int .i64 0, .int .i64 0, .int .i64 0]) (t := 66) ?hr ?_; (case hd => rfl); (case hg => rfl); (case hr => first | (go_simp; done) | (go_simp; rfl)); intro gb119 hg w60 hbox hb; have n0_ := Aside0.mk (blk_below (g := gb112) (o := .cells #[.int .i64 a0_0, .int .i64 a0_1, .int .i64 a0_2, .slice A0_3 l0_3.length c0_3, .slice (some ad113) l0_4.length c0_4] 31 (0, 0)) (by (with_reducible repeat (first | refine blk_drewN ?_ _ | refine blk_drew ?_ | refine blk_alloc ?_ _)); exact BK112.out) hb); have n1_ := Aside0.mk (blk_below (g := gb114) (o := .cells #[.int .i64 ((rd_T66 l0_4 x3_1).f0), .int .i64 ((rd_T66 l0_4 x3_1).f1), .int .i64 ((rd_T66 l0_4 x3_1).f2)] 66 (0, 0)) (by (with_reducible repeat (first | refine blk_drewN ?_ _ | refine blk_drew ?_ | refine blk_alloc ?_ _)); exact BK114.out) hb); have n2_ := Aside0.mk (below_step (by repeat (first | (with_reducible first | exact HB.out | apply below_alloc | apply pw_below_drewN | apply below_drew1 | refine below_set ?_ GE112.out | refine below_set ?_ GE114.out) | exact HB.out)) hb); have n3_ := Aside0.mk (hbox); have n4_ := Aside0.mk ((by rw [hg]; exact (below_size (by repeat (first | (with_reducible first | exact HB.out | apply below_alloc | apply pw_below_drewN | apply below_drew1 | refine below_set ?_ GE112.out | refine below_set ?_ GE114.out) | exact HB.out))) : w.heap.size ≤ gb119)); have n5_ := Aside0.mk ((by rw [hg]; exact (below_size (by repeat (first | (with_reducible first | exact HB.out | apply below_alloc | apply pw_below_drewN | apply below_drew1 | refine below_set ?_ GE112.out | refine below_set ?_ GE114.out) | exact HB.out))) : w.heap.size ≤ gb119)); have n6_ := Aside0.mk ((by rw [hg]; exact Nat.ne_of_lt (blk_lt (g := gb112) (o := .cells #[.int .i64 a0_0, .int .i64 a0_1, .int .i64 a0_2, .slice A0_3 l0_3.length c0_3, .slice (some ad113) l0_4.length c0_4] 31 (0, 0)) (by (with_reducible repeat (first | refine blk_drewN ?_ _ | refine blk_drew ?_ | refine blk_alloc ?_ _)); exact BK112.out)) : gb112 ≠ gb119)); have n7_ := Aside0.mk ((by rw [hg]; exact Nat.ne_of_gt (blk_lt (g := gb112) (o := .cells #[.int .i64 a0_0, .int .i64 a0_1, .int .i64 a0_2, .slice A0_3 l0_3.length c0_3, .slice (some ad113) l0_4.length c0_4] 31 (0, 0)) (by (with_reducible repeat (first | refine blk_drewN ?_ _ | refine blk_drew ?_ | refine blk_alloc ?_ _)); exact BK112.out)) : gb119 ≠ gb112)); have n8_ := Aside0.mk ((by rw [hg]; exact Nat.ne_of_lt (blk_lt (g := gb114) (o := .cells #[.int .i64 ((rd_T66 l0_4 x3_1).f0), .int .i64 ((rd_T66 l0_4 x3_1).f1), .int .i64 ((rd_T66 l0_4 x3_1).f2)] 66 (0, 0)) (by (with_reducible repeat (first | refine blk_drewN ?_ _ | refine blk_drew ?_ | refine blk_alloc ?_ _)); exact BK114.out)) : gb114 ≠ gb119)); have n9_ := Aside0.mk ((by rw [hg]; exact Nat.ne_of_gt (blk_lt (g := gb114) (o := .cells #[.int .i64 ((rd_T66 l0_4 x3_1).f0), .int .i64 ((rd_T66 l0_4 x3_1).f1), .int .i64 ((rd_T66 l0_4 x3_1).f2)] 66 (0, 0)) (by (with_reducible repeat (first | refine blk_drewN ?_ _ | refine blk_drew ?_ | refine blk_alloc ?_ _)); exact BK114.out)) : gb119 ≠ gb114)); clear BK112; clear BK114; clear HB; have BK112 := n0_; have BK114 := n1_; have HB := n2_; have BK119 := n3_; have GW119 := n4_; have GE119 := n5_; have NB112_119 := n6_; have NB119_112 := n7_; have NB114_119 := n8_; have NB119_114 := n9_; clear n0_ n1_ n2_ n3_ n4_ n5_ n6_ n7_ n8_ n9_; clear hb hbox hg; have hnb61 := NB119_112.out; have hnc61 := NB112_119.out; have hnb62 := NB119_114.out; have hnc62 := NB114_119.out; have hcz63_0 : w60.cell? ⟨gb119, 0, none⟩ = some (.int .i64 0) := (blk_cell BK119.out 0).trans rfl; have hcz63_1 : w60.cell? ⟨gb119, 1, none⟩ = some (.int .i64 0) := (blk_cell BK119.out 1).trans rfl; have hcz63_2 : w60.cell? ⟨gb119, 2, none⟩ = some (.int .i64 0) := (blk_cell BK119.out 2).trans rfl; have hfz63_0 := blk_frozen BK119.out 0; have hfz63_1 := blk_frozen BK119.out 1; have hfz63_2 := blk_frozen BK119.out 2))
               have n0_ : Aside0 ((((w60.setCell ⟨gb119, 0, none⟩ (.int .i64 ((rd_T66 l0_4 x5_3).f0))).setCell ⟨gb119, 1, none⟩ (.int .i64 ((rd_T66 l0_4 x5_3).f1))).setCell ⟨gb119, 2, none⟩ (.int .i64 ((rd_T66 l0_4 x5_3).f2))).heap[gb112]? = some (.cells #[.int .i64 a0_0, .int .i64 a0_1, .int .i64 a0_2, .slice A0_3 l0_3.length c0_3, .slice (some ad113) l0_4.length c0_4] 31 (0, 0))) := ⟨by (with_reducible repeat (first | refine blk_drewN ?_ _ | refine blk_drew ?_ | refine blk_alloc ?_ _)); refine blk_far ?_ NB112_119.out _; (with_reducible repeat (first | refine blk_drewN ?_ _ | refine blk_drew ?_ | refine blk_alloc ?_ _)); refine blk_far ?_ NB112_119.out _; (with_reducible repeat (first | refine blk_drewN ?_ _ | refine blk_drew ?_ | refine blk_alloc ?_ _)); refine blk_far ?_ NB112_119.out _; (with_reducible repeat (first | refine blk_drewN ?_ _ | refine blk_drew ?_ | refine blk_alloc ?_ _)); exact BK112.out⟩
               have n1_ : Aside0 ((((w60.setCell ⟨gb119, 0, none⟩ (.int .i64 ((rd_T66 l0_4 x5_3).f0))).setCell ⟨gb119, 1, none⟩ (.int .i64 ((rd_T66 l0_4 x5_3).f1))).setCell ⟨gb119, 2, none⟩ (.int .i64 ((rd_T66 l0_4 x5_3).f2))).heap[gb114]? = some (.cells #[.int .i64 ((rd_T66 l0_4 x3_1).f0), .int .i64 ((rd_T66 l0_4 x3_1).f1), .int .i64 ((rd_T66 l0_4 x3_1).f2)] 66 (0, 0))) := ⟨by (with_reducible repeat (first | refine blk_drewN ?_ _ | refine blk_drew ?_ | refine blk_alloc ?_ _)); refine blk_far ?_ NB114_119.out _; (with_reducible repeat (first | refine blk_drewN ?_ _ | refine blk_drew ?_ | refine blk_alloc ?_ _)); refine blk_far ?_ NB114_119.out _; (with_reducible repeat (first | refine blk_drewN ?_ _ | refine blk_drew ?_ | refine blk_alloc ?_ _)); refine blk_far ?_ NB114_119.out _; (with_reducible repeat (first | refine blk_drewN ?_ _ | refine blk_drew ?_ | refine blk_alloc ?_ _)); exact BK114.out⟩
               have n2_ : Aside0 ((((w60.setCell ⟨gb119, 0, none⟩ (.int .i64 ((rd_T66 l0_4 x5_3).f0))).setCell ⟨gb119, 1, none⟩ (.int .i64 ((rd_T66 l0_4 x5_3).f1))).setCell ⟨gb119, 2, none⟩ (.int .i64 ((rd_T66 l0_4 x5_3).f2))).heap[gb119]? = some (.cells #[.int .i64 ((rd_T66 l0_4 x5_3).f0), .int .i64 ((rd_T66 l0_4 x5_3).f1), .int .i64 ((rd_T66 l0_4 x5_3).f2)] 66 (0, 0))) := ⟨by (with_reducible repeat (first | refine blk_drewN ?_ _ | refine blk_drew ?_ | refine blk_alloc ?_ _)); refine blk_put (cs := #[.int .i64 ((rd_T66 l0_4 x5_3).f0), .int .i64 ((rd_T66 l0_4 x5_3).f1), .int .i64 0]) ?_ 2 _ rfl; (with_reducible repeat (first | refine blk_drewN ?_ _ | refine blk_drew ?_ | refine blk_alloc ?_ _)); refine blk_put (cs := #[.int .i64 ((rd_T66 l0_4 x5_3).f0), .int .i64 0, .int .i64 0]) ?_ 1 _ rfl; (with_reducible repeat (first | refine blk_drewN ?_ _ | refine blk_drew ?_ | refine blk_alloc ?_ _)); refine blk_put (cs := #[.int .i64 0, .int .i64 0, .int .i64 0]) ?_ 0 _ rfl; (with_reducible repeat (first | refine blk_drewN ?_ _ | refine blk_drew ?_ | refine blk_alloc ?_ _)); exact BK119.out⟩
               have n3_ : Aside0 (Below w.heap.size w (((w60.setCell ⟨gb119, 0, none⟩ (.int .i64 ((rd_T66 l0_4 x5_3).f0))).setCell ⟨gb119, 1, none⟩ (.int .i64 ((rd_T66 l0_4 x5_3).f1))).setCell ⟨gb119, 2, none⟩ (.int .i64 ((rd_T66 l0_4 x5_3).f2)))) := ⟨by repeat (first | (with_reducible first | exact HB.out | apply below_alloc | apply pw_below_drewN | apply below_drew1 | refine below_set ?_ GE112.out | refine below_set ?_ GE114.out | refine below_set ?_ GE119.out) | exact HB.out)⟩
               (try clear BK112)
               (try clear BK114)
               (try clear BK119)
               (try clear HB)
               (try simp only [show ∀ (W_ : World) (n_ : Nat) (a_ : Addr) (v_ : Value), (W_.drewN n_).setCell a_ v_ = (W_.setCell a_ v_).drewN n_ from fun _ _ _ _ => rfl])
               generalize (((w60.setCell ⟨gb119, 0, none⟩ (.int .i64 ((rd_T66 l0_4 x5_3).f0))).setCell ⟨gb119, 1, none⟩ (.int .i64 ((rd_T66 l0_4 x5_3).f1))).setCell ⟨gb119, 2, none⟩ (.int .i64 ((rd_T66 l0_4 x5_3).f2))) = w64 at n0_ n1_ n2_ n3_ ⊢
               have BK112 := n0_
               have BK114 := n1_
               have BK119 := n2_
               have HB := n3_
               clear n0_ n1_ n2_ n3_
               have n0_ := Aside0.mk (blk_drew BK112.out)
               have n1_ := Aside0.mk (blk_drew BK114.out)
               have n2_ := Aside0.mk (blk_drew BK119.out)
               have n3_ := Aside0.mk (below_drew1 HB.out)
               clear BK112
               clear BK114
               clear BK119
               clear HB
               have BK112 := n0_
               have BK114 := n1_
               have BK119 := n2_
               have HB := n3_
               clear n0_ n1_ n2_ n3_
               refine start_ (n := 27) (S := fun w' => w'.cell? ⟨gb119, 0, none⟩ = some (.int .i64 ((rd_T66 l0_4 x5_3).f0)) ∧ w'.cell? ⟨gb119, 1, none⟩ = some (.int .i64 ((rd_T66 l0_4 x5_3).f1)) ∧ w'.cell? ⟨gb119, 2, none⟩ = some (.int .i64 ((rd_T66 l0_4 x5_3).f2)) ∧ w'.cell? ⟨gb114, 0, none⟩ = some (.int .i64 ((rd_T66 l0_4 x3_1).f0)) ∧ w'.cell? ⟨gb114, 1, none⟩ = some (.int .i64 ((rd_T66 l0_4 x3_1).f1)) ∧ w'.cell? ⟨gb114, 2, none⟩ = some (.int .i64 ((rd_T66 l0_4 x3_1).f2))) (ds := []) ba40_ (by kernel_rfl) rfl rfl ⟨(blk_cell BK119.out 0).trans rfl, (blk_cell BK119.out 1).trans rfl, (blk_cell BK119.out 2).trans rfl, (blk_cell BK114.out 0).trans rfl, (blk_cell BK114.out 1).trans rfl, (blk_cell BK114.out 2).trans rfl⟩ (fun hHeld => ?_); refine with_tabW spec_l12Tasks.tab11 spec_l12Tasks.bits11 (fun HT_ HW_ => ?_)
               generalize w64.drew = w65 at BK112 BK114 BK119 HB hHeld ⊢
               refine pure_ (i := 0) (N := some 63) (v := ?_) (a' := ?_) ba41_ rfl rfl (any_of HT_.out (by kernel_rfl)) id3_ (Or.inl ⟨by rfl, ?_⟩) ?_ ?_
               rotate_left; (intro w'; go_simp; with_reducible rfl)
               rotate_left; (simp only [Act.put, z0_, z1_, z2_, i64_w, i32_w]; rfl)
               refine pure_ (i := 2) (N := some 65) (v := ?_) (a' := ?_) ba42_ rfl rfl (any_of HT_.out (by kernel_rfl)) id3_ (Or.inl ⟨by rfl, ?_⟩) ?_ ?_
               rotate_left; (intro w'; go_simp; with_reducible rfl)
               rotate_left; (simp only [Act.put, z0_, z1_, z2_, i64_w, i32_w]; rfl)
               refine take_ (i := 1) (N := some 64) (v := ?_) (a' := ?_) ba43_ rfl rfl (take_ofW HT_.out HW_.out (by kernel_rfl)) id3_ (Or.inl ⟨by rfl, ?_⟩) hHeld ?_ ?_
               rotate_left
               ·
                rintro w' ⟨s0, s1, s2, s3, s4, s5⟩
                go_simp
                with_reducible rfl
               rotate_left; (simp only [Act.put, z0_, z1_, z2_, i64_w, i32_w]; rfl)
               refine take_ (i := 3) (N := some 66) (v := ?_) (a' := ?_) ba44_ rfl rfl (take_ofW HT_.out HW_.out (by kernel_rfl)) id3_ (Or.inl ⟨by rfl, ?_⟩) hHeld ?_ ?_
               rotate_left
               ·
                rintro w' ⟨s0, s1, s2, s3, s4, s5⟩
                go_simp
                with_reducible rfl
               rotate_left; (simp only [Act.put, z0_, z1_, z2_, i64_w, i32_w]; rfl)
               refine pure_ (i := 4) (N := some 67) (v := ?_) (a' := ?_) ba45_ rfl rfl (any_of HT_.out (by kernel_rfl)) id3_ (Or.inl ⟨by rfl, ?_⟩) ?_ ?_
               rotate_left; (intro w'; go_simp; with_reducible rfl)
               rotate_left; (simp only [Act.put, z0_, z1_, z2_, i64_w, i32_w]; rfl)
               refine pure_ (i := 5) (N := some 68) (v := ?_) (a' := ?_) ba46_ rfl rfl (any_of HT_.out (by kernel_rfl)) id3_ (Or.inl ⟨by rfl, ?_⟩) ?_ ?_
               rotate_left; (intro w'; go_simp; with_reducible rfl)
               rotate_left; (simp only [Act.put, z0_, z1_, z2_, i64_w, i32_w]; rfl)
               refine pure_ (i := 6) (N := some 69) (v := ?_) (a' := ?_) ba47_ rfl rfl (any_of HT_.out (by kernel_rfl)) id3_ (Or.inl ⟨by rfl, ?_⟩) ?_ ?_
               rotate_left; (intro w'; go_simp; with_reducible rfl)
               rotate_left; (simp only [Act.put, z0_, z1_, z2_, i64_w, i32_w]; rfl)
               refine pure_ (i := 8) (N := some 71) (v := ?_) (a' := ?_) ba68_ rfl rfl (any_of HT_.out (by kernel_rfl)) id3_ (Or.inl ⟨by rfl, ?_⟩) ?_ ?_
               rotate_left; (intro w'; go_simp; with_reducible rfl)
               rotate_left; (simp only [Act.put, z0_, z1_, z2_, i64_w, i32_w]; rfl)
               refine take_ (i := 7) (N := some 70) (v := ?_) (a' := ?_) ba49_ rfl rfl (take_ofW HT_.out HW_.out (by kernel_rfl)) id3_ (Or.inl ⟨by rfl, ?_⟩) hHeld ?_ ?_
               rotate_left
               ·
                rintro w' ⟨s0, s1, s2, s3, s4, s5⟩
                go_simp
                with_reducible rfl
               rotate_left; (simp only [Act.put, z0_, z1_, z2_, i64_w, i32_w]; rfl)
               refine take_ (i := 9) (N := some 72) (v := ?_) (a' := ?_) ba50_ rfl rfl (take_ofW HT_.out HW_.out (by kernel_rfl)) id3_ (Or.inl ⟨by rfl, ?_⟩) hHeld ?_ ?_
               rotate_left
               ·
                rintro w' ⟨s0, s1, s2, s3, s4, s5⟩
                go_simp
                with_reducible rfl
               rotate_left; (simp only [Act.put, z0_, z1_, z2_, i64_w, i32_w]; rfl)
               refine pure_ (i := 10) (N := some 73) (v := ?_) (a' := ?_) ba51_ rfl rfl (any_of HT_.out (by kernel_rfl)) id3_ (Or.inl ⟨by rfl, ?_⟩) ?_ ?_
               rotate_left; (intro w'; go_simp; with_reducible rfl)
               rotate_left; (simp only [Act.put, z0_, z1_, z2_, i64_w, i32_w]; rfl)
               refine pure_ (i := 11) (N := some 74) (v := ?_) (a' := ?_) ba52_ rfl rfl (any_of HT_.out (by kernel_rfl)) id3_ (Or.inl ⟨by rfl, ?_⟩) ?_ ?_
               rotate_left; (intro w'; go_simp; with_reducible rfl)
               rotate_left; (simp only [Act.put, z0_, z1_, z2_, i64_w, i32_w]; rfl)
               refine pure_ (i := 12) (N := some 75) (v := undef) (a' := ?_) ba53_ rfl rfl (any_of HT_.out (by kernel_rfl)) id3_ (Or.inr ⟨by rfl, rfl⟩) ?_ ?_
               rotate_left; (simp only [Act.put, z0_, z1_, z2_, i64_w, i32_w]; rfl)
               refine pure_ (i := 13) (N := some 76) (v := undef) (a' := ?_) ba54_ rfl rfl (any_of HT_.out (by kernel_rfl)) id3_ (Or.inr ⟨by rfl, rfl⟩) ?_ ?_
               rotate_left; (simp only [Act.put, z0_, z1_, z2_, i64_w, i32_w]; rfl)
               refine pure_ (i := 14) (N := some 77) (v := undef) (a' := ?_) ba55_ rfl rfl (any_of HT_.out (by kernel_rfl)) id3_ (Or.inr ⟨by rfl, rfl⟩) ?_ ?_
               rotate_left; (simp only [Act.put, z0_, z1_, z2_, i64_w, i32_w]; rfl)
               refine pure_ (i := 15) (N := some 78) (v := undef) (a' := ?_) ba56_ rfl rfl (any_of HT_.out (by kernel_rfl)) id3_ (Or.inr ⟨by rfl, rfl⟩) ?_ ?_
               rotate_left; (simp only [Act.put, z0_, z1_, z2_, i64_w, i32_w]; rfl)
               refine pure_ (i := 16) (N := some 79) (v := undef) (a' := ?_) ba57_ rfl rfl (any_of HT_.out (by kernel_rfl)) id3_ (Or.inr ⟨by rfl, rfl⟩) ?_ ?_
               rotate_left; (simp only [Act.put, z0_, z1_, z2_, i64_w, i32_w]; rfl)
               refine pure_ (i := 17) (N := some 80) (v := undef) (a' := ?_) ba58_ rfl rfl (any_of HT_.out (by kernel_rfl)) id3_ (Or.inr ⟨by rfl, rfl⟩) ?_ ?_
               rotate_left; (simp only [Act.put, z0_, z1_, z2_, i64_w, i32_w]; rfl)
               refine pure_ (i := 18) (N := some 81) (v := undef) (a' := ?_) ba59_ rfl rfl (any_of HT_.out (by kernel_rfl)) id3_ (Or.inr ⟨by rfl, rfl⟩) ?_ ?_
               rotate_left; (simp only [Act.put, z0_, z1_, z2_, i64_w, i32_w]; rfl)
               refine pure_ (i := 19) (N := some 82) (v := undef) (a' := ?_) ba60_ rfl rfl (any_of HT_.out (by kernel_rfl)) id3_ (Or.inr ⟨by rfl, rfl⟩) ?_ ?_
               rotate_left; (simp only [Act.put, z0_, z1_, z2_, i64_w, i32_w]; rfl)
               refine pure_ (i := 20) (N := some 83) (v := undef) (a' := ?_) ba61_ rfl rfl (any_of HT_.out (by kernel_rfl)) id3_ (Or.inr ⟨by rfl, rfl⟩) ?_ ?_
               rotate_left; (simp only [Act.put, z0_, z1_, z2_, i64_w, i32_w]; rfl)
               refine pure_ (i := 21) (N := some 84) (v := undef) (a' := ?_) ba62_ rfl rfl (any_of HT_.out (by kernel_rfl)) id3_ (Or.inr ⟨by rfl, rfl⟩) ?_ ?_
               rotate_left; (simp only [Act.put, z0_, z1_, z2_, i64_w, i32_w]; rfl)
               refine pure_ (i := 22) (N := some 85) (v := undef) (a' := ?_) ba63_ rfl rfl (any_of HT_.out (by kernel_rfl)) id3_ (Or.inr ⟨by rfl, rfl⟩) ?_ ?_
               rotate_left; (simp only [Act.put, z0_, z1_, z2_, i64_w, i32_w]; rfl)
               refine pure_ (i := 23) (N := some 86) (v := undef) (a' := ?_) ba64_ rfl rfl (any_of HT_.out (by kernel_rfl)) id3_ (Or.inr ⟨by rfl, rfl⟩) ?_ ?_
               rotate_left; (simp only [Act.put, z0_, z1_, z2_, i64_w, i32_w]; rfl)
               refine pure_ (i := 24) (N := some 87) (v := undef) (a' := ?_) ba65_ rfl rfl (any_of HT_.out (by kernel_rfl)) id3_ (Or.inr ⟨by rfl, rfl⟩) ?_ ?_
               rotate_left; (simp only [Act.put, z0_, z1_, z2_, i64_w, i32_w]; rfl)
               refine pure_ (i := 25) (N := some 88) (v := ?_) (a' := ?_) ba66_ rfl rfl (any_of HT_.out (by kernel_rfl)) id3_ (Or.inl ⟨by rfl, ?_⟩) ?_ ?_
               rotate_left; (intro w'; go_simp; with_reducible rfl)
               rotate_left; (simp only [Act.put, z0_, z1_, z2_, i64_w, i32_w]; rfl)
               refine pure_ (i := 26) (N := some 89) (v := ?_) (a' := ?_) ba67_ rfl rfl (any_of HT_.out (by kernel_rfl)) id3_ (Or.inl ⟨by rfl, ?_⟩) ?_ ?_
               rotate_left; (intro w'; go_simp; with_reducible rfl)
               rotate_left; (simp only [Act.put, z0_, z1_, z2_, i64_w, i32_w]; rfl)
               refine done_ (done_of HT_.out (by kernel_rfl)) ?_
               try go_wp2
               go_roundg k3
               case measure => have := HK1.out; have := HJ4.out; have := HK3.out; omega
               case rel => exact ⟨(wrap64 (x5_3 + 1)), (by first | rfl | (simp; done) | (simp [*]; done)), H', ⟨by have := HK1.out; have := HJ4.out; have := HK3.out; omega⟩, ⟨by (with_reducible repeat (first | refine blk_drewN ?_ _ | refine blk_drew ?_ | refine blk_alloc ?_ _)); exact BK112.out⟩, ⟨by (with_reducible repeat (first | refine blk_drewN ?_ _ | refine blk_drew ?_ | refine blk_alloc ?_ _)); exact BK114.out⟩, ⟨by repeat (first | (with_reducible first | exact HB.out | apply below_alloc | apply pw_below_drewN | apply below_drew1 | refine below_set ?_ GE112.out | refine below_set ?_ GE114.out | refine below_set ?_ GE119.out) | exact HB.out)⟩⟩
            ·
             rw [if_neg c28] at H
             exact absurd H (by simp)
           ·
            rw [if_neg c27] at H
            exact absurd H (by simp)
          ·
           rw [if_neg c26] at H
           have c26b0 : decide (x5_3 < x3_1) = false := decide_eq_false c26
           clear c26
           by_cases c66 : x3_1 > 0
           ·
            rw [if_pos c66] at H
            have c66b0 : decide (0 < x3_1) = true := decide_eq_true c66
            clear c66
            obtain ⟨ji67, hji67⟩ : ∃ j_ : Int, (wrap64 (x3_1 - 1)) = j_ := ⟨_, rfl⟩
            replace H : (if 0 ≤ (ji67) then (if (ji67) < (l0_4.length : Int) then (if ((rd_T66 l0_4 (ji67)).f2) > ((rd_T66 l0_4 x3_1).f2) then (some false) else (if ((rd_T66 l0_4 (ji67)).f2) = ((rd_T66 l0_4 x3_1).f2) then (if ((rd_T66 l0_4 (ji67)).f1) ≥ ((rd_T66 l0_4 x3_1).f1) then (some false) else (spec_l12Tasks.l0 k3 (wrap64 (x3_1 + 1)) a0_0 a0_1 a0_2 l0_3 l0_4)) else (spec_l12Tasks.l0 k3 (wrap64 (x3_1 + 1)) a0_0 a0_1 a0_2 l0_3 l0_4))) else (none)) else (none)) = some r := by first | (rw [hji67] at H; exact H) | (simp only [hji67] at H ⊢; exact H)
            have hji67w : (IntKind.i64.wrap (x3_1 - 1)) = ji67 := (i64_w _).trans hji67
            by_cases c68 : 0 ≤ (ji67)
            ·
             rw [if_pos c68] at H
             have c68b0 : decide (0 ≤ (ji67)) = true := decide_eq_true c68
             clear c68
             by_cases c69 : (ji67) < (l0_4.length : Int)
             ·
              rw [if_pos c69] at H
              have c69b0 : decide ((ji67) < (l0_4.length : Int)) = true := decide_eq_true c69
              clear c69
              by_cases c70 : ((rd_T66 l0_4 (ji67)).f2) > ((rd_T66 l0_4 x3_1).f2)
              ·
               rw [if_pos c70] at H
               have c70b0 : decide (((rd_T66 l0_4 x3_1).f2) < ((rd_T66 l0_4 (ji67)).f2)) = true := decide_eq_true c70
               clear c70
               obtain rfl := Option.some.inj H
               try go_wp2
               have n0_ := Aside0.mk (blk_drew BK112.out)
               have n1_ := Aside0.mk (blk_drew BK114.out)
               have n2_ := Aside0.mk (below_drew1 HB.out)
               clear BK112
               clear BK114
               clear HB
               have BK112 := n0_
               have BK114 := n1_
               have HB := n2_
               clear n0_ n1_ n2_
               have p121 : 0 ≤ ((ji67) : Int) := of_decide_eq_true (by first | (with_reducible assumption) | assumption)
               have q121 : (ji67) < (l0_4.length : Int) := of_decide_eq_true (by first | (with_reducible assumption) | assumption)
               obtain ⟨ad121, e121, hx121_0, hx121_1, hx121_2⟩ := at_T66 HR0_4.out (ji67) p121 q121
               have hw121_2 := hx121_2
               have hw121_1 := hx121_1
               have hw121_0 := hx121_0
               obtain rfl : ad113 = ad121 := (by injection e121)
               replace hx121_0 := (HB.out.cell (World.block_lt_of_cell? w _ hx121_0)).trans hx121_0
               replace hx121_1 := (HB.out.cell (World.block_lt_of_cell? w _ hx121_1)).trans hx121_1
               replace hx121_2 := (HB.out.cell (World.block_lt_of_cell? w _ hx121_2)).trans hx121_2
               replace p121 := eq_true p121
               replace q121 := eq_true q121
               refine start_ (n := 38) (S := fun w' => w'.cell? ⟨gb112, 0, none⟩ = some (.int .i64 a0_0) ∧ w'.cell? ⟨gb112, 1, none⟩ = some (.int .i64 a0_1) ∧ w'.cell? ⟨gb112, 2, none⟩ = some (.int .i64 a0_2) ∧ w'.cell? ⟨gb112, 3, none⟩ = some (.slice A0_3 l0_3.length c0_3) ∧ w'.cell? ⟨gb112, 4, none⟩ = some (.slice (some ad113) l0_4.length c0_4) ∧ w'.cell? ⟨gb114, 0, none⟩ = some (.int .i64 ((rd_T66 l0_4 x3_1).f0)) ∧ w'.cell? ⟨gb114, 1, none⟩ = some (.int .i64 ((rd_T66 l0_4 x3_1).f1)) ∧ w'.cell? ⟨gb114, 2, none⟩ = some (.int .i64 ((rd_T66 l0_4 x3_1).f2)) ∧ w'.cell? (ad113.add (((ji67)).toNat * 3)) = some (.int .i64 ((rd_T66 l0_4 (ji67)).f0)) ∧ w'.cell? ⟨(ad113.add (((ji67)).toNat * 3)).block, (ad113.add (((ji67)).toNat * 3)).off + 1, none⟩ = some (.int .i64 ((rd_T66 l0_4 (ji67)).f1)) ∧ w'.cell? ⟨(ad113.add (((ji67)).toNat * 3)).block, (ad113.add (((ji67)).toNat * 3)).off + 2, none⟩ = some (.int .i64 ((rd_T66 l0_4 (ji67)).f2))) (ds := []) ba78_ (by kernel_rfl) rfl rfl ⟨(blk_cell BK112.out 0).trans rfl, (blk_cell BK112.out 1).trans rfl, (blk_cell BK112.out 2).trans rfl, (blk_cell BK112.out 3).trans rfl, (blk_cell BK112.out 4).trans rfl, (blk_cell BK114.out 0).trans rfl, (blk_cell BK114.out 1).trans rfl, (blk_cell BK114.out 2).trans rfl, ((HB.out.cell (World.block_lt_of_cell? w _ hw121_0)).trans hw121_0), ((HB.out.cell (World.block_lt_of_cell? w _ hw121_1)).trans hw121_1), ((HB.out.cell (World.block_lt_of_cell? w _ hw121_2)).trans hw121_2)⟩ (fun hHeld => ?_); refine with_tabW spec_l12Tasks.tab13 spec_l12Tasks.bits13 (fun HT_ HW_ => ?_)
               generalize wr.drew = w71 at BK112 BK114 HB hx121_0 hx121_1 hx121_2 hHeld ⊢
               refine pure_ (i := 0) (N := some 90) (v := ?_) (a' := ?_) ba79_ rfl rfl (any_of HT_.out (by kernel_rfl)) id3_ (Or.inl ⟨by rfl, ?_⟩) ?_ ?_
               rotate_left; (intro w'; go_simp; with_reducible rfl)
               rotate_left; (simp only [Act.put, z0_, z1_, z2_, i64_w, i32_w]; rfl)
               refine pure_ (i := 1) (N := some 91) (v := ?_) (a' := ?_) ba80_ rfl rfl (any_of HT_.out (by kernel_rfl)) id3_ (Or.inl ⟨by rfl, ?_⟩) ?_ ?_
               rotate_left; (intro w'; go_simp; with_reducible rfl)
               rotate_left; (simp only [Act.put, z0_, z1_, z2_, i64_w, i32_w]; rfl)
               refine pure_ (i := 2) (N := some 92) (v := ?_) (a' := ?_) ba81_ rfl rfl (any_of HT_.out (by kernel_rfl)) id3_ (Or.inl ⟨by rfl, ?_⟩) ?_ ?_
               rotate_left; (intro w'; go_simp; with_reducible rfl)
               rotate_left; (simp only [Act.put, z0_, z1_, z2_, i64_w, i32_w]; rfl)
               refine pure_ (i := 3) (N := some 93) (v := ?_) (a' := ?_) ba82_ rfl rfl (any_of HT_.out (by kernel_rfl)) id3_ (Or.inl ⟨by rfl, ?_⟩) ?_ ?_
               rotate_left; (intro w'; go_simp; with_reducible rfl)
               rotate_left; (simp only [Act.put, z0_, z1_, z2_, i64_w, i32_w]; rfl)
               refine pure_ (i := 5) (N := some 95) (v := ?_) (a' := ?_) ba83_ rfl rfl (any_of HT_.out (by kernel_rfl)) id3_ (Or.inl ⟨by rfl, ?_⟩) ?_ ?_
               rotate_left; (intro w'; go_simp; with_reducible rfl)
               rotate_left; (simp only [Act.put, z0_, z1_, z2_, i64_w, i32_w]; rfl)
               refine pure_ (i := 6) (N := some 96) (v := ?_) (a' := ?_) ba84_ rfl rfl (any_of HT_.out (by kernel_rfl)) id3_ (Or.inl ⟨by rfl, ?_⟩) ?_ ?_
               rotate_left; (intro w'; go_simp; with_reducible rfl)
               rotate_left; (simp only [Act.put, z0_, z1_, z2_, i64_w, i32_w]; rfl)
               refine pure_ (i := 10) (N := some 100) (v := ?_) (a' := ?_) ba85_ rfl rfl (any_of HT_.out (by kernel_rfl)) id3_ (Or.inl ⟨by rfl, ?_⟩) ?_ ?_
               rotate_left; (intro w'; go_simp; with_reducible rfl)
               rotate_left; (simp only [Act.put, z0_, z1_, z2_, i64_w, i32_w]; rfl)
               refine take_ (i := 4) (N := some 94) (v := ?_) (a' := ?_) ba86_ rfl rfl (take_ofW HT_.out HW_.out (by kernel_rfl)) id3_ (Or.inl ⟨by rfl, ?_⟩) hHeld ?_ ?_
               rotate_left
               ·
                rintro w' ⟨s0, s1, s2, s3, s4, s5, s6, s7, s8, s9, s10⟩
                go_simp
                with_reducible rfl
               rotate_left; (simp only [Act.put, z0_, z1_, z2_, i64_w, i32_w]; rfl)
               refine pure_ (i := 7) (N := some 97) (v := ?_) (a' := ?_) ba87_ rfl rfl (any_of HT_.out (by kernel_rfl)) id3_ (Or.inl ⟨by rfl, ?_⟩) ?_ ?_
               rotate_left; (intro w'; go_simp; with_reducible rfl)
               rotate_left; (simp only [Act.put, z0_, z1_, z2_, i64_w, i32_w]; rfl)
               refine pure_ (i := 8) (N := some 98) (v := ?_) (a' := ?_) ba88_ rfl rfl (any_of HT_.out (by kernel_rfl)) id3_ (Or.inl ⟨by rfl, ?_⟩) ?_ ?_
               rotate_left; (intro w'; go_simp; with_reducible rfl)
               rotate_left; (simp only [Act.put, z0_, z1_, z2_, i64_w, i32_w]; rfl)
               refine take_ (i := 9) (N := some 99) (v := ?_) (a' := ?_) ba89_ rfl rfl (take_ofW HT_.out HW_.out (by kernel_rfl)) id3_ (Or.inl ⟨by rfl, ?_⟩) hHeld ?_ ?_
               rotate_left
               ·
                rintro w' ⟨s0, s1, s2, s3, s4, s5, s6, s7, s8, s9, s10⟩
                go_simp
                with_reducible rfl
               rotate_left; (simp only [Act.put, z0_, z1_, z2_, i64_w, i32_w]; rfl)
               refine take_ (i := 11) (N := some 101) (v := ?_) (a' := ?_) ba90_ rfl rfl (take_ofW HT_.out HW_.out (by kernel_rfl)) id3_ (Or.inl ⟨by rfl, ?_⟩) hHeld ?_ ?_
               rotate_left
               ·
                rintro w' ⟨s0, s1, s2, s3, s4, s5, s6, s7, s8, s9, s10⟩
                go_simp
                with_reducible rfl
               rotate_left; (simp only [Act.put, z0_, z1_, z2_, i64_w, i32_w]; rfl)
               refine pure_ (i := 12) (N := some 102) (v := ?_) (a' := ?_) ba91_ rfl rfl (any_of HT_.out (by kernel_rfl)) id3_ (Or.inl ⟨by rfl, ?_⟩) ?_ ?_
               rotate_left; (intro w'; go_simp; with_reducible rfl)
               rotate_left; (simp only [Act.put, z0_, z1_, z2_, i64_w, i32_w]; rfl)
               refine pure_ (i := 13) (N := some 103) (v := ?_) (a' := ?_) ba92_ rfl rfl (any_of HT_.out (by kernel_rfl)) id3_ (Or.inl ⟨by rfl, ?_⟩) ?_ ?_
               rotate_left; (intro w'; go_simp; with_reducible rfl)
               rotate_left; (simp only [Act.put, z0_, z1_, z2_, i64_w, i32_w]; rfl)
               refine pure_ (i := 14) (N := some 104) (v := undef) (a' := ?_) ba93_ rfl rfl (any_of HT_.out (by kernel_rfl)) id3_ (Or.inr ⟨by rfl, rfl⟩) ?_ ?_
               rotate_left; (simp only [Act.put, z0_, z1_, z2_, i64_w, i32_w]; rfl)
               refine pure_ (i := 15) (N := some 105) (v := undef) (a' := ?_) ba94_ rfl rfl (any_of HT_.out (by kernel_rfl)) id3_ (Or.inr ⟨by rfl, rfl⟩) ?_ ?_
               rotate_left; (simp only [Act.put, z0_, z1_, z2_, i64_w, i32_w]; rfl)
               refine pure_ (i := 16) (N := some 106) (v := undef) (a' := ?_) ba95_ rfl rfl (any_of HT_.out (by kernel_rfl)) id3_ (Or.inr ⟨by rfl, rfl⟩) ?_ ?_
               rotate_left; (simp only [Act.put, z0_, z1_, z2_, i64_w, i32_w]; rfl)
               refine pure_ (i := 17) (N := some 107) (v := undef) (a' := ?_) ba96_ rfl rfl (any_of HT_.out (by kernel_rfl)) id3_ (Or.inr ⟨by rfl, rfl⟩) ?_ ?_
               rotate_left; (simp only [Act.put, z0_, z1_, z2_, i64_w, i32_w]; rfl)
               refine pure_ (i := 18) (N := some 108) (v := undef) (a' := ?_) ba97_ rfl rfl (any_of HT_.out (by kernel_rfl)) id3_ (Or.inr ⟨by rfl, rfl⟩) ?_ ?_
               rotate_left; (simp only [Act.put, z0_, z1_, z2_, i64_w, i32_w]; rfl)
               refine pure_ (i := 19) (N := some 109) (v := undef) (a' := ?_) ba98_ rfl rfl (any_of HT_.out (by kernel_rfl)) id3_ (Or.inr ⟨by rfl, rfl⟩) ?_ ?_
               rotate_left; (simp only [Act.put, z0_, z1_, z2_, i64_w, i32_w]; rfl)
               refine pure_ (i := 20) (N := some 110) (v := undef) (a' := ?_) ba99_ rfl rfl (any_of HT_.out (by kernel_rfl)) id3_ (Or.inr ⟨by rfl, rfl⟩) ?_ ?_
               rotate_left; (simp only [Act.put, z0_, z1_, z2_, i64_w, i32_w]; rfl)
               refine pure_ (i := 21) (N := some 111) (v := undef) (a' := ?_) ba100_ rfl rfl (any_of HT_.out (by kernel_rfl)) id3_ (Or.inr ⟨by rfl, rfl⟩) ?_ ?_
               rotate_left; (simp only [Act.put, z0_, z1_, z2_, i64_w, i32_w]; rfl)
               refine pure_ (i := 22) (N := some 112) (v := undef) (a' := ?_) ba101_ rfl rfl (any_of HT_.out (by kernel_rfl)) id3_ (Or.inr ⟨by rfl, rfl⟩) ?_ ?_
               rotate_left; (simp only [Act.put, z0_, z1_, z2_, i64_w, i32_w]; rfl)
               refine pure_ (i := 23) (N := some 113) (v := undef) (a' := ?_) ba102_ rfl rfl (any_of HT_.out (by kernel_rfl)) id3_ (Or.inr ⟨by rfl, rfl⟩) ?_ ?_
               rotate_left; (simp only [Act.put, z0_, z1_, z2_, i64_w, i32_w]; rfl)
               refine pure_ (i := 24) (N := some 114) (v := undef) (a' := ?_) ba103_ rfl rfl (any_of HT_.out (by kernel_rfl)) id3_ (Or.inr ⟨by rfl, rfl⟩) ?_ ?_
               rotate_left; (simp only [Act.put, z0_, z1_, z2_, i64_w, i32_w]; rfl)
               refine pure_ (i := 25) (N := some 115) (v := undef) (a' := ?_) ba104_ rfl rfl (any_of HT_.out (by kernel_rfl)) id3_ (Or.inr ⟨by rfl, rfl⟩) ?_ ?_
               rotate_left; (simp only [Act.put, z0_, z1_, z2_, i64_w, i32_w]; rfl)
               refine pure_ (i := 26) (N := some 116) (v := undef) (a' := ?_) ba105_ rfl rfl (any_of HT_.out (by kernel_rfl)) id3_ (Or.inr ⟨by rfl, rfl⟩) ?_ ?_
               rotate_left; (simp only [Act.put, z0_, z1_, z2_, i64_w, i32_w]; rfl)
               refine pure_ (i := 27) (N := some 117) (v := undef) (a' := ?_) ba106_ rfl rfl (any_of HT_.out (by kernel_rfl)) id3_ (Or.inr ⟨by rfl, rfl⟩) ?_ ?_
               rotate_left; (simp only [Act.put, z0_, z1_, z2_, i64_w, i32_w]; rfl)
               refine pure_ (i := 28) (N := some 118) (v := undef) (a' := ?_) ba107_ rfl rfl (any_of HT_.out (by kernel_rfl)) id3_ (Or.inr ⟨by rfl, rfl⟩) ?_ ?_
               rotate_left; (simp only [Act.put, z0_, z1_, z2_, i64_w, i32_w]; rfl)
               refine pure_ (i := 29) (N := some 119) (v := undef) (a' := ?_) ba108_ rfl rfl (any_of HT_.out (by kernel_rfl)) id3_ (Or.inr ⟨by rfl, rfl⟩) ?_ ?_
               rotate_left; (simp only [Act.put, z0_, z1_, z2_, i64_w, i32_w]; rfl)
               refine pure_ (i := 30) (N := some 120) (v := undef) (a' := ?_) ba109_ rfl rfl (any_of HT_.out (by kernel_rfl)) id3_ (Or.inr ⟨by rfl, rfl⟩) ?_ ?_
               rotate_left; (simp only [Act.put, z0_, z1_, z2_, i64_w, i32_w]; rfl)
               refine pure_ (i := 31) (N := some 121) (v := undef) (a' := ?_) ba110_ rfl rfl (any_of HT_.out (by kernel_rfl)) id3_ (Or.inr ⟨by rfl, rfl⟩) ?_ ?_
               rotate_left; (simp only [Act.put, z0_, z1_, z2_, i64_w, i32_w]; rfl)
               refine pure_ (i := 32) (N := some 122) (v := undef) (a' := ?_) ba111_ rfl rfl (any_of HT_.out (by kernel_rfl)) id3_ (Or.inr ⟨by rfl, rfl⟩) ?_ ?_
               rotate_left; (simp only [Act.put, z0_, z1_, z2_, i64_w, i32_w]; rfl)
               refine pure_ (i := 33) (N := some 123) (v := undef) (a' := ?_) ba112_ rfl rfl (any_of HT_.out (by kernel_rfl)) id3_ (Or.inr ⟨by rfl, rfl⟩) ?_ ?_
               rotate_left; (simp only [Act.put, z0_, z1_, z2_, i64_w, i32_w]; rfl)
               refine pure_ (i := 34) (N := some 124) (v := undef) (a' := ?_) ba113_ rfl rfl (any_of HT_.out (by kernel_rfl)) id3_ (Or.inr ⟨by rfl, rfl⟩) ?_ ?_
               rotate_left; (simp only [Act.put, z0_, z1_, z2_, i64_w, i32_w]; rfl)
               refine pure_ (i := 35) (N := some 125) (v := undef) (a' := ?_) ba114_ rfl rfl (any_of HT_.out (by kernel_rfl)) id3_ (Or.inr ⟨by rfl, rfl⟩) ?_ ?_
               rotate_left; (simp only [Act.put, z0_, z1_, z2_, i64_w, i32_w]; rfl)
               refine pure_ (i := 36) (N := some 126) (v := ?_) (a' := ?_) ba115_ rfl rfl (any_of HT_.out (by kernel_rfl)) id3_ (Or.inl ⟨by rfl, ?_⟩) ?_ ?_
               rotate_left; (intro w'; go_simp; with_reducible rfl)
               rotate_left; (simp only [Act.put, z0_, z1_, z2_, i64_w, i32_w]; rfl)
               refine pure_ (i := 37) (N := some 127) (v := ?_) (a' := ?_) ba116_ rfl rfl (any_of HT_.out (by kernel_rfl)) id3_ (Or.inl ⟨by rfl, ?_⟩) ?_ ?_
               rotate_left; (intro w'; go_simp; with_reducible rfl)
               rotate_left; (simp only [Act.put, z0_, z1_, z2_, i64_w, i32_w]; rfl)
               refine done_ (done_of HT_.out (by kernel_rfl)) ?_
               try go_wp2
               go_ret
               exact ⟨by first | rfl | (simp [errW_none, errW_some] <;> rfl) | (simp only [← hji67]; first | rfl | (simp [errW_none, errW_some] <;> rfl)) | (simp [*, errW_none, errW_some] <;> rfl), by repeat (first | (with_reducible first | exact HB.out | apply below_alloc | apply pw_below_drewN | apply below_drew1 | refine below_set ?_ GE112.out | refine below_set ?_ GE114.out) | exact HB.out)⟩
              ·
               rw [if_neg c70] at H
               have c70b0 : decide (((rd_T66 l0_4 x3_1).f2) < ((rd_T66 l0_4 (ji67)).f2)) = false := decide_eq_false c70
               clear c70
               by_cases c72 : ((rd_T66 l0_4 (ji67)).f2) = ((rd_T66 l0_4 x3_1).f2)
               ·
                rw [if_pos c72] at H
                have c72b0 : (((rd_T66 l0_4 (ji67)).f2) == ((rd_T66 l0_4 x3_1).f2)) = true := beq_iff_eq.mpr c72
                have c72b1 : (((rd_T66 l0_4 (ji67)).f2) != ((rd_T66 l0_4 x3_1).f2)) = false := bne_eq_false_iff_eq.mpr c72
                clear c72
                by_cases c73 : ((rd_T66 l0_4 (ji67)).f1) ≥ ((rd_T66 l0_4 x3_1).f1)
                ·
                 rw [if_pos c73] at H
                 have c73b0 : decide (((rd_T66 l0_4 x3_1).f1) ≤ ((rd_T66 l0_4 (ji67)).f1)) = true := decide_eq_true c73
                 clear c73
                 obtain rfl := Option.some.inj H
                 try go_wp2
                 have n0_ := Aside0.mk (blk_drew BK112.out)
                 have n1_ := Aside0.mk (blk_drew BK114.out)
                 have n2_ := Aside0.mk (below_drew1 HB.out)
                 clear BK112
                 clear BK114
                 clear HB
                 have BK112 := n0_
                 have BK114 := n1_
                 have HB := n2_
                 clear n0_ n1_ n2_
                 have p121 : 0 ≤ ((ji67) : Int) := of_decide_eq_true (by first | (with_reducible assumption) | assumption)
                 have q121 : (ji67) < (l0_4.length : Int) := of_decide_eq_true (by first | (with_reducible assumption) | assumption)
                 obtain ⟨ad121, e121, hx121_0, hx121_1, hx121_2⟩ := at_T66 HR0_4.out (ji67) p121 q121
                 have hw121_2 := hx121_2
                 have hw121_1 := hx121_1
                 have hw121_0 := hx121_0
                 obtain rfl : ad113 = ad121 := (by injection e121)
                 replace hx121_0 := (HB.out.cell (World.block_lt_of_cell? w _ hx121_0)).trans hx121_0
                 replace hx121_1 := (HB.out.cell (World.block_lt_of_cell? w _ hx121_1)).trans hx121_1
                 replace hx121_2 := (HB.out.cell (World.block_lt_of_cell? w _ hx121_2)).trans hx121_2
                 replace p121 := eq_true p121
                 replace q121 := eq_true q121
                 have p122 : 0 ≤ ((ji67) : Int) := of_decide_eq_true (by first | (with_reducible assumption) | assumption)
                 have q122 : (ji67) < (l0_4.length : Int) := of_decide_eq_true (by first | (with_reducible assumption) | assumption)
                 obtain ⟨ad122, e122, hx122_0, hx122_1, hx122_2⟩ := at_T66 HR0_4.out (ji67) p122 q122
                 have hw122_2 := hx122_2
                 have hw122_1 := hx122_1
                 have hw122_0 := hx122_0
                 obtain rfl : ad113 = ad122 := (by injection e122)
                 replace hx122_0 := (HB.out.cell (World.block_lt_of_cell? w _ hx122_0)).trans hx122_0
                 replace hx122_1 := (HB.out.cell (World.block_lt_of_cell? w _ hx122_1)).trans hx122_1
                 replace hx122_2 := (HB.out.cell (World.block_lt_of_cell? w _ hx122_2)).trans hx122_2
                 replace p122 := eq_true p122
                 replace q122 := eq_true q122
                 have p123 : 0 ≤ ((ji67) : Int) := of_decide_eq_true (by first | (with_reducible assumption) | assumption)
                 have q123 : (ji67) < (l0_4.length : Int) := of_decide_eq_true (by first | (with_reducible assumption) | assumption)
                 obtain ⟨ad123, e123, hx123_0, hx123_1, hx123_2⟩ := at_T66 HR0_4.out (ji67) p123 q123
                 have hw123_2 := hx123_2
                 have hw123_1 := hx123_1
                 have hw123_0 := hx123_0
                 obtain rfl : ad113 = ad123 := (by injection e123)
                 replace hx123_0 := (HB.out.cell (World.block_lt_of_cell? w _ hx123_0)).trans hx123_0
                 replace hx123_1 := (HB.out.cell (World.block_lt_of_cell? w _ hx123_1)).trans hx123_1
                 replace hx123_2 := (HB.out.cell (World.block_lt_of_cell? w _ hx123_2)).trans hx123_2
                 replace p123 := eq_true p123
                 replace q123 := eq_true q123
                 refine start_ (n := 38) (S := fun w' => w'.cell? ⟨gb112, 0, none⟩ = some (.int .i64 a0_0) ∧ w'.cell? ⟨gb112, 1, none⟩ = some (.int .i64 a0_1) ∧ w'.cell? ⟨gb112, 2, none⟩ = some (.int .i64 a0_2) ∧ w'.cell? ⟨gb112, 3, none⟩ = some (.slice A0_3 l0_3.length c0_3) ∧ w'.cell? ⟨gb112, 4, none⟩ = some (.slice (some ad113) l0_4.length c0_4) ∧ w'.cell? ⟨gb114, 0, none⟩ = some (.int .i64 ((rd_T66 l0_4 x3_1).f0)) ∧ w'.cell? ⟨gb114, 1, none⟩ = some (.int .i64 ((rd_T66 l0_4 x3_1).f1)) ∧ w'.cell? ⟨gb114, 2, none⟩ = some (.int .i64 ((rd_T66 l0_4 x3_1).f2)) ∧ w'.cell? (ad113.add (((ji67)).toNat * 3)) = some (.int .i64 ((rd_T66 l0_4 (ji67)).f0)) ∧ w'.cell? ⟨(ad113.add (((ji67)).toNat * 3)).block, (ad113.add (((ji67)).toNat * 3)).off + 1, none⟩ = some (.int .i64 ((rd_T66 l0_4 (ji67)).f1)) ∧ w'.cell? ⟨(ad113.add (((ji67)).toNat * 3)).block, (ad113.add (((ji67)).toNat * 3)).off + 2, none⟩ = some (.int .i64 ((rd_T66 l0_4 (ji67)).f2)) ∧ w'.cell? (ad113.add (((ji67)).toNat * 3)) = some (.int .i64 ((rd_T66 l0_4 (ji67)).f0)) ∧ w'.cell? ⟨(ad113.add (((ji67)).toNat * 3)).block, (ad113.add (((ji67)).toNat * 3)).off + 1, none⟩ = some (.int .i64 ((rd_T66 l0_4 (ji67)).f1)) ∧ w'.cell? ⟨(ad113.add (((ji67)).toNat * 3)).block, (ad113.add (((ji67)).toNat * 3)).off + 2, none⟩ = some (.int .i64 ((rd_T66 l0_4 (ji67)).f2)) ∧ w'.cell? (ad113.add (((ji67)).toNat * 3)) = some (.int .i64 ((rd_T66 l0_4 (ji67)).f0)) ∧ w'.cell? ⟨(ad113.add (((ji67)).toNat * 3)).block, (ad113.add (((ji67)).toNat * 3)).off + 1, none⟩ = some (.int .i64 ((rd_T66 l0_4 (ji67)).f1)) ∧ w'.cell? ⟨(ad113.add (((ji67)).toNat * 3)).block, (ad113.add (((ji67)).toNat * 3)).off + 2, none⟩ = some (.int .i64 ((rd_T66 l0_4 (ji67)).f2))) (ds := []) ba78_ (by kernel_rfl) rfl rfl ⟨(blk_cell BK112.out 0).trans rfl, (blk_cell BK112.out 1).trans rfl, (blk_cell BK112.out 2).trans rfl, (blk_cell BK112.out 3).trans rfl, (blk_cell BK112.out 4).trans rfl, (blk_cell BK114.out 0).trans rfl, (blk_cell BK114.out 1).trans rfl, (blk_cell BK114.out 2).trans rfl, ((HB.out.cell (World.block_lt_of_cell? w _ hw121_0)).trans hw121_0), ((HB.out.cell (World.block_lt_of_cell? w _ hw121_1)).trans hw121_1), ((HB.out.cell (World.block_lt_of_cell? w _ hw121_2)).trans hw121_2), ((HB.out.cell (World.block_lt_of_cell? w _ hw122_0)).trans hw122_0), ((HB.out.cell (World.block_lt_of_cell? w _ hw122_1)).trans hw122_1), ((HB.out.cell (World.block_lt_of_cell? w _ hw122_2)).trans hw122_2), ((HB.out.cell (World.block_lt_of_cell? w _ hw123_0)).trans hw123_0), ((HB.out.cell (World.block_lt_of_cell? w _ hw123_1)).trans hw123_1), ((HB.out.cell (World.block_lt_of_cell? w _ hw123_2)).trans hw123_2)⟩ (fun hHeld => ?_); refine with_tabW spec_l12Tasks.tab13 spec_l12Tasks.bits13 (fun HT_ HW_ => ?_)
                 generalize wr.drew = w74 at BK112 BK114 HB hx121_0 hx121_1 hx121_2 hx122_0 hx122_1 hx122_2 hx123_0 hx123_1 hx123_2 hHeld ⊢
                 refine pure_ (i := 0) (N := some 90) (v := ?_) (a' := ?_) ba79_ rfl rfl (any_of HT_.out (by kernel_rfl)) id3_ (Or.inl ⟨by rfl, ?_⟩) ?_ ?_
                 rotate_left; (intro w'; go_simp; with_reducible rfl)
                 rotate_left; (simp only [Act.put, z0_, z1_, z2_, i64_w, i32_w]; rfl)
                 refine pure_ (i := 1) (N := some 91) (v := ?_) (a' := ?_) ba80_ rfl rfl (any_of HT_.out (by kernel_rfl)) id3_ (Or.inl ⟨by rfl, ?_⟩) ?_ ?_
                 rotate_left; (intro w'; go_simp; with_reducible rfl)
                 rotate_left; (simp only [Act.put, z0_, z1_, z2_, i64_w, i32_w]; rfl)
                 refine pure_ (i := 2) (N := some 92) (v := ?_) (a' := ?_) ba81_ rfl rfl (any_of HT_.out (by kernel_rfl)) id3_ (Or.inl ⟨by rfl, ?_⟩) ?_ ?_
                 rotate_left; (intro w'; go_simp; with_reducible rfl)
                 rotate_left; (simp only [Act.put, z0_, z1_, z2_, i64_w, i32_w]; rfl)
                 refine pure_ (i := 3) (N := some 93) (v := ?_) (a' := ?_) ba82_ rfl rfl (any_of HT_.out (by kernel_rfl)) id3_ (Or.inl ⟨by rfl, ?_⟩) ?_ ?_
                 rotate_left; (intro w'; go_simp; with_reducible rfl)
                 rotate_left; (simp only [Act.put, z0_, z1_, z2_, i64_w, i32_w]; rfl)
                 refine pure_ (i := 5) (N := some 95) (v := ?_) (a' := ?_) ba83_ rfl rfl (any_of HT_.out (by kernel_rfl)) id3_ (Or.inl ⟨by rfl, ?_⟩) ?_ ?_
                 rotate_left; (intro w'; go_simp; with_reducible rfl)
                 rotate_left; (simp only [Act.put, z0_, z1_, z2_, i64_w, i32_w]; rfl)
                 refine pure_ (i := 6) (N := some 96) (v := ?_) (a' := ?_) ba84_ rfl rfl (any_of HT_.out (by kernel_rfl)) id3_ (Or.inl ⟨by rfl, ?_⟩) ?_ ?_
                 rotate_left; (intro w'; go_simp; with_reducible rfl)
                 rotate_left; (simp only [Act.put, z0_, z1_, z2_, i64_w, i32_w]; rfl)
                 refine pure_ (i := 10) (N := some 100) (v := ?_) (a' := ?_) ba85_ rfl rfl (any_of HT_.out (by kernel_rfl)) id3_ (Or.inl ⟨by rfl, ?_⟩) ?_ ?_
                 rotate_left; (intro w'; go_simp; with_reducible rfl)
                 rotate_left; (simp only [Act.put, z0_, z1_, z2_, i64_w, i32_w]; rfl)
                 refine take_ (i := 4) (N := some 94) (v := ?_) (a' := ?_) ba86_ rfl rfl (take_ofW HT_.out HW_.out (by kernel_rfl)) id3_ (Or.inl ⟨by rfl, ?_⟩) hHeld ?_ ?_
                 rotate_left
                 ·
                  rintro w' ⟨s0, s1, s2, s3, s4, s5, s6, s7, s8, s9, s10, s11, s12, s13, s14, s15, s16⟩
                  go_simp
                  with_reducible rfl
                 rotate_left; (simp only [Act.put, z0_, z1_, z2_, i64_w, i32_w]; rfl)
                 refine pure_ (i := 7) (N := some 97) (v := ?_) (a' := ?_) ba87_ rfl rfl (any_of HT_.out (by kernel_rfl)) id3_ (Or.inl ⟨by rfl, ?_⟩) ?_ ?_
                 rotate_left; (intro w'; go_simp; with_reducible rfl)
                 rotate_left; (simp only [Act.put, z0_, z1_, z2_, i64_w, i32_w]; rfl)
                 refine pure_ (i := 8) (N := some 98) (v := ?_) (a' := ?_) ba88_ rfl rfl (any_of HT_.out (by kernel_rfl)) id3_ (Or.inl ⟨by rfl, ?_⟩) ?_ ?_
                 rotate_left; (intro w'; go_simp; with_reducible rfl)
                 rotate_left; (simp only [Act.put, z0_, z1_, z2_, i64_w, i32_w]; rfl)
                 refine take_ (i := 9) (N := some 99) (v := ?_) (a' := ?_) ba89_ rfl rfl (take_ofW HT_.out HW_.out (by kernel_rfl)) id3_ (Or.inl ⟨by rfl, ?_⟩) hHeld ?_ ?_
                 rotate_left
                 ·
                  rintro w' ⟨s0, s1, s2, s3, s4, s5, s6, s7, s8, s9, s10, s11, s12, s13, s14, s15, s16⟩
                  go_simp
                  with_reducible rfl
                 rotate_left; (simp only [Act.put, z0_, z1_, z2_, i64_w, i32_w]; rfl)
                 refine take_ (i := 11) (N := some 101) (v := ?_) (a' := ?_) ba90_ rfl rfl (take_ofW HT_.out HW_.out (by kernel_rfl)) id3_ (Or.inl ⟨by rfl, ?_⟩) hHeld ?_ ?_
                 rotate_left
                 ·
                  rintro w' ⟨s0, s1, s2, s3, s4, s5, s6, s7, s8, s9, s10, s11, s12, s13, s14, s15, s16⟩
                  go_simp
                  with_reducible rfl
                 rotate_left; (simp only [Act.put, z0_, z1_, z2_, i64_w, i32_w]; rfl)
                 refine pure_ (i := 12) (N := some 102) (v := ?_) (a' := ?_) ba91_ rfl rfl (any_of HT_.out (by kernel_rfl)) id3_ (Or.inl ⟨by rfl, ?_⟩) ?_ ?_
                 rotate_left; (intro w'; go_simp; with_reducible rfl)
                 rotate_left; (simp only [Act.put, z0_, z1_, z2_, i64_w, i32_w]; rfl)
                 refine pure_ (i := 13) (N := some 103) (v := ?_) (a' := ?_) ba92_ rfl rfl (any_of HT_.out (by kernel_rfl)) id3_ (Or.inl ⟨by rfl, ?_⟩) ?_ ?_
                 rotate_left; (intro w'; go_simp; with_reducible rfl)
                 rotate_left; (simp only [Act.put, z0_, z1_, z2_, i64_w, i32_w]; rfl)
                 refine pure_ (i := 14) (N := some 104) (v := ?_) (a' := ?_) ba93_ rfl rfl (any_of HT_.out (by kernel_rfl)) id3_ (Or.inl ⟨by rfl, ?_⟩) ?_ ?_
                 rotate_left; (intro w'; go_simp; with_reducible rfl)
                 rotate_left; (simp only [Act.put, z0_, z1_, z2_, i64_w, i32_w]; rfl)
                 refine pure_ (i := 16) (N := some 106) (v := ?_) (a' := ?_) ba117_ rfl rfl (any_of HT_.out (by kernel_rfl)) id3_ (Or.inl ⟨by rfl, ?_⟩) ?_ ?_
                 rotate_left; (intro w'; go_simp; with_reducible rfl)
                 rotate_left; (simp only [Act.put, z0_, z1_, z2_, i64_w, i32_w]; rfl)
                 refine pure_ (i := 17) (N := some 107) (v := ?_) (a' := ?_) ba118_ rfl rfl (any_of HT_.out (by kernel_rfl)) id3_ (Or.inl ⟨by rfl, ?_⟩) ?_ ?_
                 rotate_left; (intro w'; go_simp; with_reducible rfl)
                 rotate_left; (simp only [Act.put, z0_, z1_, z2_, i64_w, i32_w]; rfl)
                 refine pure_ (i := 21) (N := some 111) (v := ?_) (a' := ?_) ba119_ rfl rfl (any_of HT_.out (by kernel_rfl)) id3_ (Or.inl ⟨by rfl, ?_⟩) ?_ ?_
                 rotate_left; (intro w'; go_simp; with_reducible rfl)
                 rotate_left; (simp only [Act.put, z0_, z1_, z2_, i64_w, i32_w]; rfl)
                 refine take_ (i := 15) (N := some 105) (v := ?_) (a' := ?_) ba120_ rfl rfl (take_ofW HT_.out HW_.out (by kernel_rfl)) id3_ (Or.inl ⟨by rfl, ?_⟩) hHeld ?_ ?_
                 rotate_left
                 ·
                  rintro w' ⟨s0, s1, s2, s3, s4, s5, s6, s7, s8, s9, s10, s11, s12, s13, s14, s15, s16⟩
                  go_simp
                  with_reducible rfl
                 rotate_left; (simp only [Act.put, z0_, z1_, z2_, i64_w, i32_w]; rfl)
                 refine pure_ (i := 18) (N := some 108) (v := ?_) (a' := ?_) ba121_ rfl rfl (any_of HT_.out (by kernel_rfl)) id3_ (Or.inl ⟨by rfl, ?_⟩) ?_ ?_
                 rotate_left; (intro w'; go_simp; with_reducible rfl)
                 rotate_left; (simp only [Act.put, z0_, z1_, z2_, i64_w, i32_w]; rfl)
                 refine pure_ (i := 19) (N := some 109) (v := ?_) (a' := ?_) ba122_ rfl rfl (any_of HT_.out (by kernel_rfl)) id3_ (Or.inl ⟨by rfl, ?_⟩) ?_ ?_
                 rotate_left; (intro w'; go_simp; with_reducible rfl)
                 rotate_left; (simp only [Act.put, z0_, z1_, z2_, i64_w, i32_w]; rfl)
                 refine take_ (i := 20) (N := some 110) (v := ?_) (a' := ?_) ba100_ rfl rfl (take_ofW HT_.out HW_.out (by kernel_rfl)) id3_ (Or.inl ⟨by rfl, ?_⟩) hHeld ?_ ?_
                 rotate_left
                 ·
                  rintro w' ⟨s0, s1, s2, s3, s4, s5, s6, s7, s8, s9, s10, s11, s12, s13, s14, s15, s16⟩
                  go_simp
                  with_reducible rfl
                 rotate_left; (simp only [Act.put, z0_, z1_, z2_, i64_w, i32_w]; rfl)
                 refine take_ (i := 22) (N := some 112) (v := ?_) (a' := ?_) ba101_ rfl rfl (take_ofW HT_.out HW_.out (by kernel_rfl)) id3_ (Or.inl ⟨by rfl, ?_⟩) hHeld ?_ ?_
                 rotate_left
                 ·
                  rintro w' ⟨s0, s1, s2, s3, s4, s5, s6, s7, s8, s9, s10, s11, s12, s13, s14, s15, s16⟩
                  go_simp
                  with_reducible rfl
                 rotate_left; (simp only [Act.put, z0_, z1_, z2_, i64_w, i32_w]; rfl)
                 refine pure_ (i := 23) (N := some 113) (v := ?_) (a' := ?_) ba102_ rfl rfl (any_of HT_.out (by kernel_rfl)) id3_ (Or.inl ⟨by rfl, ?_⟩) ?_ ?_
                 rotate_left; (intro w'; go_simp; with_reducible rfl)
                 rotate_left; (simp only [Act.put, z0_, z1_, z2_, i64_w, i32_w]; rfl)
                 refine pure_ (i := 24) (N := some 114) (v := ?_) (a' := ?_) ba103_ rfl rfl (any_of HT_.out (by kernel_rfl)) id3_ (Or.inl ⟨by rfl, ?_⟩) ?_ ?_
                 rotate_left; (intro w'; go_simp; with_reducible rfl)
                 rotate_left; (simp only [Act.put, z0_, z1_, z2_, i64_w, i32_w]; rfl)
                 refine pure_ (i := 25) (N := some 115) (v := ?_) (a' := ?_) ba104_ rfl rfl (any_of HT_.out (by kernel_rfl)) id3_ (Or.inl ⟨by rfl, ?_⟩) ?_ ?_
                 rotate_left; (intro w'; go_simp; with_reducible rfl)
                 rotate_left; (simp only [Act.put, z0_, z1_, z2_, i64_w, i32_w]; rfl)
                 refine pure_ (i := 27) (N := some 117) (v := ?_) (a' := ?_) ba123_ rfl rfl (any_of HT_.out (by kernel_rfl)) id3_ (Or.inl ⟨by rfl, ?_⟩) ?_ ?_
                 rotate_left; (intro w'; go_simp; with_reducible rfl)
                 rotate_left; (simp only [Act.put, z0_, z1_, z2_, i64_w, i32_w]; rfl)
                 refine pure_ (i := 28) (N := some 118) (v := ?_) (a' := ?_) ba124_ rfl rfl (any_of HT_.out (by kernel_rfl)) id3_ (Or.inl ⟨by rfl, ?_⟩) ?_ ?_
                 rotate_left; (intro w'; go_simp; with_reducible rfl)
                 rotate_left; (simp only [Act.put, z0_, z1_, z2_, i64_w, i32_w]; rfl)
                 refine pure_ (i := 32) (N := some 122) (v := ?_) (a' := ?_) ba125_ rfl rfl (any_of HT_.out (by kernel_rfl)) id3_ (Or.inl ⟨by rfl, ?_⟩) ?_ ?_
                 rotate_left; (intro w'; go_simp; with_reducible rfl)
                 rotate_left; (simp only [Act.put, z0_, z1_, z2_, i64_w, i32_w]; rfl)
                 refine take_ (i := 26) (N := some 116) (v := ?_) (a' := ?_) ba126_ rfl rfl (take_ofW HT_.out HW_.out (by kernel_rfl)) id3_ (Or.inl ⟨by rfl, ?_⟩) hHeld ?_ ?_
                 rotate_left
                 ·
                  rintro w' ⟨s0, s1, s2, s3, s4, s5, s6, s7, s8, s9, s10, s11, s12, s13, s14, s15, s16⟩
                  go_simp
                  with_reducible rfl
                 rotate_left; (simp only [Act.put, z0_, z1_, z2_, i64_w, i32_w]; rfl)
                 refine pure_ (i := 29) (N := some 119) (v := ?_) (a' := ?_) ba127_ rfl rfl (any_of HT_.out (by kernel_rfl)) id3_ (Or.inl ⟨by rfl, ?_⟩) ?_ ?_
                 rotate_left; (intro w'; go_simp; with_reducible rfl)
                 rotate_left; (simp only [Act.put, z0_, z1_, z2_, i64_w, i32_w]; rfl)
                 refine pure_ (i := 30) (N := some 120) (v := ?_) (a' := ?_) ba128_ rfl rfl (any_of HT_.out (by kernel_rfl)) id3_ (Or.inl ⟨by rfl, ?_⟩) ?_ ?_
                 rotate_left; (intro w'; go_simp; with_reducible rfl)
                 rotate_left; (simp only [Act.put, z0_, z1_, z2_, i64_w, i32_w]; rfl)
                 refine take_ (i := 31) (N := some 121) (v := ?_) (a' := ?_) ba111_ rfl rfl (take_ofW HT_.out HW_.out (by kernel_rfl)) id3_ (Or.inl ⟨by rfl, ?_⟩) hHeld ?_ ?_
                 rotate_left
                 ·
                  rintro w' ⟨s0, s1, s2, s3, s4, s5, s6, s7, s8, s9, s10, s11, s12, s13, s14, s15, s16⟩
                  go_simp
                  with_reducible rfl
                 rotate_left; (simp only [Act.put, z0_, z1_, z2_, i64_w, i32_w]; rfl)
                 refine take_ (i := 33) (N := some 123) (v := ?_) (a' := ?_) ba112_ rfl rfl (take_ofW HT_.out HW_.out (by kernel_rfl)) id3_ (Or.inl ⟨by rfl, ?_⟩) hHeld ?_ ?_
                 rotate_left
                 ·
                  rintro w' ⟨s0, s1, s2, s3, s4, s5, s6, s7, s8, s9, s10, s11, s12, s13, s14, s15, s16⟩
                  go_simp
                  with_reducible rfl
                 rotate_left; (simp only [Act.put, z0_, z1_, z2_, i64_w, i32_w]; rfl)
                 refine pure_ (i := 34) (N := some 124) (v := ?_) (a' := ?_) ba113_ rfl rfl (any_of HT_.out (by kernel_rfl)) id3_ (Or.inl ⟨by rfl, ?_⟩) ?_ ?_
                 rotate_left; (intro w'; go_simp; with_reducible rfl)
                 rotate_left; (simp only [Act.put, z0_, z1_, z2_, i64_w, i32_w]; rfl)
                 refine pure_ (i := 35) (N := some 125) (v := ?_) (a' := ?_) ba114_ rfl rfl (any_of HT_.out (by kernel_rfl)) id3_ (Or.inl ⟨by rfl, ?_⟩) ?_ ?_
                 rotate_left; (intro w'; go_simp; with_reducible rfl)
                 rotate_left; (simp only [Act.put, z0_, z1_, z2_, i64_w, i32_w]; rfl)
                 refine pure_ (i := 36) (N := some 126) (v := ?_) (a' := ?_) ba115_ rfl rfl (any_of HT_.out (by kernel_rfl)) id3_ (Or.inl ⟨by rfl, ?_⟩) ?_ ?_
                 rotate_left; (intro w'; go_simp; with_reducible rfl)
                 rotate_left; (simp only [Act.put, z0_, z1_, z2_, i64_w, i32_w]; rfl)
                 refine pure_ (i := 37) (N := some 127) (v := ?_) (a' := ?_) ba116_ rfl rfl (any_of HT_.out (by kernel_rfl)) id3_ (Or.inl ⟨by rfl, ?_⟩) ?_ ?_
                 rotate_left; (intro w'; go_simp; with_reducible rfl)
                 rotate_left; (simp only [Act.put, z0_, z1_, z2_, i64_w, i32_w]; rfl)
                 refine done_ (done_of HT_.out (by kernel_rfl)) ?_
                 try go_wp2
                 go_ret
                 exact ⟨by first | rfl | (simp [errW_none, errW_some] <;> rfl) | (simp only [← hji67]; first | rfl | (simp [errW_none, errW_some] <;> rfl)) | (simp [*, errW_none, errW_some] <;> rfl), by repeat (first | (with_reducible first | exact HB.out | apply below_alloc | apply pw_below_drewN | apply below_drew1 | refine below_set ?_ GE112.out | refine below_set ?_ GE114.out) | exact HB.out)⟩
                ·
                 rw [if_neg c73] at H
                 have c73b0 : decide (((rd_T66 l0_4 x3_1).f1) ≤ ((rd_T66 l0_4 (ji67)).f1)) = false := decide_eq_false c73
                 clear c73
                 have H' := Aside0.mk H
                 clear H
                 try go_wp2
                 have n0_ := Aside0.mk (blk_drew BK112.out)
                 have n1_ := Aside0.mk (blk_drew BK114.out)
                 have n2_ := Aside0.mk (below_drew1 HB.out)
                 clear BK112
                 clear BK114
                 clear HB
                 have BK112 := n0_
                 have BK114 := n1_
                 have HB := n2_
                 clear n0_ n1_ n2_
                 have p121 : 0 ≤ ((ji67) : Int) := of_decide_eq_true (by first | (with_reducible assumption) | assumption)
                 have q121 : (ji67) < (l0_4.length : Int) := of_decide_eq_true (by first | (with_reducible assumption) | assumption)
                 obtain ⟨ad121, e121, hx121_0, hx121_1, hx121_2⟩ := at_T66 HR0_4.out (ji67) p121 q121
                 have hw121_2 := hx121_2
                 have hw121_1 := hx121_1
                 have hw121_0 := hx121_0
                 obtain rfl : ad113 = ad121 := (by injection e121)
                 replace hx121_0 := (HB.out.cell (World.block_lt_of_cell? w _ hx121_0)).trans hx121_0
                 replace hx121_1 := (HB.out.cell (World.block_lt_of_cell? w _ hx121_1)).trans hx121_1
                 replace hx121_2 := (HB.out.cell (World.block_lt_of_cell? w _ hx121_2)).trans hx121_2
                 replace p121 := eq_true p121
                 replace q121 := eq_true q121
                 have p122 : 0 ≤ ((ji67) : Int) := of_decide_eq_true (by first | (with_reducible assumption) | assumption)
                 have q122 : (ji67) < (l0_4.length : Int) := of_decide_eq_true (by first | (with_reducible assumption) | assumption)
                 obtain ⟨ad122, e122, hx122_0, hx122_1, hx122_2⟩ := at_T66 HR0_4.out (ji67) p122 q122
                 have hw122_2 := hx122_2
                 have hw122_1 := hx122_1
                 have hw122_0 := hx122_0
                 obtain rfl : ad113 = ad122 := (by injection e122)
                 replace hx122_0 := (HB.out.cell (World.block_lt_of_cell? w _ hx122_0)).trans hx122_0
                 replace hx122_1 := (HB.out.cell (World.block_lt_of_cell? w _ hx122_1)).trans hx122_1
                 replace hx122_2 := (HB.out.cell (World.block_lt_of_cell? w _ hx122_2)).trans hx122_2
                 replace p122 := eq_true p122
                 replace q122 := eq_true q122
                 have p123 : 0 ≤ ((ji67) : Int) := of_decide_eq_true (by first | (with_reducible assumption) | assumption)
                 have q123 : (ji67) < (l0_4.length : Int) := of_decide_eq_true (by first | (with_reducible assumption) | assumption)
                 obtain ⟨ad123, e123, hx123_0, hx123_1, hx123_2⟩ := at_T66 HR0_4.out (ji67) p123 q123
                 have hw123_2 := hx123_2
                 have hw123_1 := hx123_1
                 have hw123_0 := hx123_0
                 obtain rfl : ad113 = ad123 := (by injection e123)
                 replace hx123_0 := (HB.out.cell (World.block_lt_of_cell? w _ hx123_0)).trans hx123_0
                 replace hx123_1 := (HB.out.cell (World.block_lt_of_cell? w _ hx123_1)).trans hx123_1
                 replace hx123_2 := (HB.out.cell (World.block_lt_of_cell? w _ hx123_2)).trans hx123_2
                 replace p123 := eq_true p123
                 replace q123 := eq_true q123
                 refine start_ (n := 38) (S := fun w' => w'.cell? ⟨gb112, 0, none⟩ = some (.int .i64 a0_0) ∧ w'.cell? ⟨gb112, 1, none⟩ = some (.int .i64 a0_1) ∧ w'.cell? ⟨gb112, 2, none⟩ = some (.int .i64 a0_2) ∧ w'.cell? ⟨gb112, 3, none⟩ = some (.slice A0_3 l0_3.length c0_3) ∧ w'.cell? ⟨gb112, 4, none⟩ = some (.slice (some ad113) l0_4.length c0_4) ∧ w'.cell? ⟨gb114, 0, none⟩ = some (.int .i64 ((rd_T66 l0_4 x3_1).f0)) ∧ w'.cell? ⟨gb114, 1, none⟩ = some (.int .i64 ((rd_T66 l0_4 x3_1).f1)) ∧ w'.cell? ⟨gb114, 2, none⟩ = some (.int .i64 ((rd_T66 l0_4 x3_1).f2)) ∧ w'.cell? (ad113.add (((ji67)).toNat * 3)) = some (.int .i64 ((rd_T66 l0_4 (ji67)).f0)) ∧ w'.cell? ⟨(ad113.add (((ji67)).toNat * 3)).block, (ad113.add (((ji67)).toNat * 3)).off + 1, none⟩ = some (.int .i64 ((rd_T66 l0_4 (ji67)).f1)) ∧ w'.cell? ⟨(ad113.add (((ji67)).toNat * 3)).block, (ad113.add (((ji67)).toNat * 3)).off + 2, none⟩ = some (.int .i64 ((rd_T66 l0_4 (ji67)).f2)) ∧ w'.cell? (ad113.add (((ji67)).toNat * 3)) = some (.int .i64 ((rd_T66 l0_4 (ji67)).f0)) ∧ w'.cell? ⟨(ad113.add (((ji67)).toNat * 3)).block, (ad113.add (((ji67)).toNat * 3)).off + 1, none⟩ = some (.int .i64 ((rd_T66 l0_4 (ji67)).f1)) ∧ w'.cell? ⟨(ad113.add (((ji67)).toNat * 3)).block, (ad113.add (((ji67)).toNat * 3)).off + 2, none⟩ = some (.int .i64 ((rd_T66 l0_4 (ji67)).f2)) ∧ w'.cell? (ad113.add (((ji67)).toNat * 3)) = some (.int .i64 ((rd_T66 l0_4 (ji67)).f0)) ∧ w'.cell? ⟨(ad113.add (((ji67)).toNat * 3)).block, (ad113.add (((ji67)).toNat * 3)).off + 1, none⟩ = some (.int .i64 ((rd_T66 l0_4 (ji67)).f1)) ∧ w'.cell? ⟨(ad113.add (((ji67)).toNat * 3)).block, (ad113.add (((ji67)).toNat * 3)).off + 2, none⟩ = some (.int .i64 ((rd_T66 l0_4 (ji67)).f2))) (ds := []) ba78_ (by kernel_rfl) rfl rfl ⟨(blk_cell BK112.out 0).trans rfl, (blk_cell BK112.out 1).trans rfl, (blk_cell BK112.out 2).trans rfl, (blk_cell BK112.out 3).trans rfl, (blk_cell BK112.out 4).trans rfl, (blk_cell BK114.out 0).trans rfl, (blk_cell BK114.out 1).trans rfl, (blk_cell BK114.out 2).trans rfl, ((HB.out.cell (World.block_lt_of_cell? w _ hw121_0)).trans hw121_0), ((HB.out.cell (World.block_lt_of_cell? w _ hw121_1)).trans hw121_1), ((HB.out.cell (World.block_lt_of_cell? w _ hw121_2)).trans hw121_2), ((HB.out.cell (World.block_lt_of_cell? w _ hw122_0)).trans hw122_0), ((HB.out.cell (World.block_lt_of_cell? w _ hw122_1)).trans hw122_1), ((HB.out.cell (World.block_lt_of_cell? w _ hw122_2)).trans hw122_2), ((HB.out.cell (World.block_lt_of_cell? w _ hw123_0)).trans hw123_0), ((HB.out.cell (World.block_lt_of_cell? w _ hw123_1)).trans hw123_1), ((HB.out.cell (World.block_lt_of_cell? w _ hw123_2)).trans hw123_2)⟩ (fun hHeld => ?_); refine with_tabW spec_l12Tasks.tab13 spec_l12Tasks.bits13 (fun HT_ HW_ => ?_)
                 generalize wr.drew = w75 at BK112 BK114 HB hx121_0 hx121_1 hx121_2 hx122_0 hx122_1 hx122_2 hx123_0 hx123_1 hx123_2 hHeld ⊢
                 refine pure_ (i := 0) (N := some 90) (v := ?_) (a' := ?_) ba79_ rfl rfl (any_of HT_.out (by kernel_rfl)) id3_ (Or.inl ⟨by rfl, ?_⟩) ?_ ?_
                 rotate_left; (intro w'; go_simp; with_reducible rfl)
                 rotate_left; (simp only [Act.put, z0_, z1_, z2_, i64_w, i32_w]; rfl)
                 refine pure_ (i := 1) (N := some 91) (v := ?_) (a' := ?_) ba80_ rfl rfl (any_of HT_.out (by kernel_rfl)) id3_ (Or.inl ⟨by rfl, ?_⟩) ?_ ?_
                 rotate_left; (intro w'; go_simp; with_reducible rfl)
                 rotate_left; (simp only [Act.put, z0_, z1_, z2_, i64_w, i32_w]; rfl)
                 refine pure_ (i := 2) (N := some 92) (v := ?_) (a' := ?_) ba81_ rfl rfl (any_of HT_.out (by kernel_rfl)) id3_ (Or.inl ⟨by rfl, ?_⟩) ?_ ?_
                 rotate_left; (intro w'; go_simp; with_reducible rfl)
                 rotate_left; (simp only [Act.put, z0_, z1_, z2_, i64_w, i32_w]; rfl)
                 refine pure_ (i := 3) (N := some 93) (v := ?_) (a' := ?_) ba82_ rfl rfl (any_of HT_.out (by kernel_rfl)) id3_ (Or.inl ⟨by rfl, ?_⟩) ?_ ?_
                 rotate_left; (intro w'; go_simp; with_reducible rfl)
                 rotate_left; (simp only [Act.put, z0_, z1_, z2_, i64_w, i32_w]; rfl)
                 refine pure_ (i := 5) (N := some 95) (v := ?_) (a' := ?_) ba83_ rfl rfl (any_of HT_.out (by kernel_rfl)) id3_ (Or.inl ⟨by rfl, ?_⟩) ?_ ?_
                 rotate_left; (intro w'; go_simp; with_reducible rfl)
                 rotate_left; (simp only [Act.put, z0_, z1_, z2_, i64_w, i32_w]; rfl)
                 refine pure_ (i := 6) (N := some 96) (v := ?_) (a' := ?_) ba84_ rfl rfl (any_of HT_.out (by kernel_rfl)) id3_ (Or.inl ⟨by rfl, ?_⟩) ?_ ?_
                 rotate_left; (intro w'; go_simp; with_reducible rfl)
                 rotate_left; (simp only [Act.put, z0_, z1_, z2_, i64_w, i32_w]; rfl)
                 refine pure_ (i := 10) (N := some 100) (v := ?_) (a' := ?_) ba85_ rfl rfl (any_of HT_.out (by kernel_rfl)) id3_ (Or.inl ⟨by rfl, ?_⟩) ?_ ?_
                 rotate_left; (intro w'; go_simp; with_reducible rfl)
                 rotate_left; (simp only [Act.put, z0_, z1_, z2_, i64_w, i32_w]; rfl)
                 refine take_ (i := 4) (N := some 94) (v := ?_) (a' := ?_) ba86_ rfl rfl (take_ofW HT_.out HW_.out (by kernel_rfl)) id3_ (Or.inl ⟨by rfl, ?_⟩) hHeld ?_ ?_
                 rotate_left
                 ·
                  rintro w' ⟨s0, s1, s2, s3, s4, s5, s6, s7, s8, s9, s10, s11, s12, s13, s14, s15, s16⟩
                  go_simp
                  with_reducible rfl
                 rotate_left; (simp only [Act.put, z0_, z1_, z2_, i64_w, i32_w]; rfl)
                 refine pure_ (i := 7) (N := some 97) (v := ?_) (a' := ?_) ba87_ rfl rfl (any_of HT_.out (by kernel_rfl)) id3_ (Or.inl ⟨by rfl, ?_⟩) ?_ ?_
                 rotate_left; (intro w'; go_simp; with_reducible rfl)
                 rotate_left; (simp only [Act.put, z0_, z1_, z2_, i64_w, i32_w]; rfl)
                 refine pure_ (i := 8) (N := some 98) (v := ?_) (a' := ?_) ba88_ rfl rfl (any_of HT_.out (by kernel_rfl)) id3_ (Or.inl ⟨by rfl, ?_⟩) ?_ ?_
                 rotate_left; (intro w'; go_simp; with_reducible rfl)
                 rotate_left; (simp only [Act.put, z0_, z1_, z2_, i64_w, i32_w]; rfl)
                 refine take_ (i := 9) (N := some 99) (v := ?_) (a' := ?_) ba89_ rfl rfl (take_ofW HT_.out HW_.out (by kernel_rfl)) id3_ (Or.inl ⟨by rfl, ?_⟩) hHeld ?_ ?_
                 rotate_left
                 ·
                  rintro w' ⟨s0, s1, s2, s3, s4, s5, s6, s7, s8, s9, s10, s11, s12, s13, s14, s15, s16⟩
                  go_simp
                  with_reducible rfl
                 rotate_left; (simp only [Act.put, z0_, z1_, z2_, i64_w, i32_w]; rfl)
                 refine take_ (i := 11) (N := some 101) (v := ?_) (a' := ?_) ba90_ rfl rfl (take_ofW HT_.out HW_.out (by kernel_rfl)) id3_ (Or.inl ⟨by rfl, ?_⟩) hHeld ?_ ?_
                 rotate_left
                 ·
                  rintro w' ⟨s0, s1, s2, s3, s4, s5, s6, s7, s8, s9, s10, s11, s12, s13, s14, s15, s16⟩
                  go_simp
                  with_reducible rfl
                 rotate_left; (simp only [Act.put, z0_, z1_, z2_, i64_w, i32_w]; rfl)
                 refine pure_ (i := 12) (N := some 102) (v := ?_) (a' := ?_) ba91_ rfl rfl (any_of HT_.out (by kernel_rfl)) id3_ (Or.inl ⟨by rfl, ?_⟩) ?_ ?_
                 rotate_left; (intro w'; go_simp; with_reducible rfl)
                 rotate_left; (simp only [Act.put, z0_, z1_, z2_, i64_w, i32_w]; rfl)
                 refine pure_ (i := 13) (N := some 103) (v := ?_) (a' := ?_) ba92_ rfl rfl (any_of HT_.out (by kernel_rfl)) id3_ (Or.inl ⟨by rfl, ?_⟩) ?_ ?_
                 rotate_left; (intro w'; go_simp; with_reducible rfl)
                 rotate_left; (simp only [Act.put, z0_, z1_, z2_, i64_w, i32_w]; rfl)
                 refine pure_ (i := 14) (N := some 104) (v := ?_) (a' := ?_) ba93_ rfl rfl (any_of HT_.out (by kernel_rfl)) id3_ (Or.inl ⟨by rfl, ?_⟩) ?_ ?_
                 rotate_left; (intro w'; go_simp; with_reducible rfl)
                 rotate_left; (simp only [Act.put, z0_, z1_, z2_, i64_w, i32_w]; rfl)
                 refine pure_ (i := 16) (N := some 106) (v := ?_) (a' := ?_) ba117_ rfl rfl (any_of HT_.out (by kernel_rfl)) id3_ (Or.inl ⟨by rfl, ?_⟩) ?_ ?_
                 rotate_left; (intro w'; go_simp; with_reducible rfl)
                 rotate_left; (simp only [Act.put, z0_, z1_, z2_, i64_w, i32_w]; rfl)
                 refine pure_ (i := 17) (N := some 107) (v := ?_) (a' := ?_) ba118_ rfl rfl (any_of HT_.out (by kernel_rfl)) id3_ (Or.inl ⟨by rfl, ?_⟩) ?_ ?_
                 rotate_left; (intro w'; go_simp; with_reducible rfl)
                 rotate_left; (simp only [Act.put, z0_, z1_, z2_, i64_w, i32_w]; rfl)
                 refine pure_ (i := 21) (N := some 111) (v := ?_) (a' := ?_) ba119_ rfl rfl (any_of HT_.out (by kernel_rfl)) id3_ (Or.inl ⟨by rfl, ?_⟩) ?_ ?_
                 rotate_left; (intro w'; go_simp; with_reducible rfl)
                 rotate_left; (simp only [Act.put, z0_, z1_, z2_, i64_w, i32_w]; rfl)
                 refine take_ (i := 15) (N := some 105) (v := ?_) (a' := ?_) ba120_ rfl rfl (take_ofW HT_.out HW_.out (by kernel_rfl)) id3_ (Or.inl ⟨by rfl, ?_⟩) hHeld ?_ ?_
                 rotate_left
                 ·
                  rintro w' ⟨s0, s1, s2, s3, s4, s5, s6, s7, s8, s9, s10, s11, s12, s13, s14, s15, s16⟩
                  go_simp
                  with_reducible rfl
                 rotate_left; (simp only [Act.put, z0_, z1_, z2_, i64_w, i32_w]; rfl)
                 refine pure_ (i := 18) (N := some 108) (v := ?_) (a' := ?_) ba121_ rfl rfl (any_of HT_.out (by kernel_rfl)) id3_ (Or.inl ⟨by rfl, ?_⟩) ?_ ?_
                 rotate_left; (intro w'; go_simp; with_reducible rfl)
                 rotate_left; (simp only [Act.put, z0_, z1_, z2_, i64_w, i32_w]; rfl)
                 refine pure_ (i := 19) (N := some 109) (v := ?_) (a' := ?_) ba122_ rfl rfl (any_of HT_.out (by kernel_rfl)) id3_ (Or.inl ⟨by rfl, ?_⟩) ?_ ?_
                 rotate_left; (intro w'; go_simp; with_reducible rfl)
                 rotate_left; (simp only [Act.put, z0_, z1_, z2_, i64_w, i32_w]; rfl)
                 refine take_ (i := 20) (N := some 110) (v := ?_) (a' := ?_) ba100_ rfl rfl (take_ofW HT_.out HW_.out (by kernel_rfl)) id3_ (Or.inl ⟨by rfl, ?_⟩) hHeld ?_ ?_
                 rotate_left
                 ·
                  rintro w' ⟨s0, s1, s2, s3, s4, s5, s6, s7, s8, s9, s10, s11, s12, s13, s14, s15, s16⟩
                  go_simp
                  with_reducible rfl
                 rotate_left; (simp only [Act.put, z0_, z1_, z2_, i64_w, i32_w]; rfl)
                 refine take_ (i := 22) (N := some 112) (v := ?_) (a' := ?_) ba101_ rfl rfl (take_ofW HT_.out HW_.out (by kernel_rfl)) id3_ (Or.inl ⟨by rfl, ?_⟩) hHeld ?_ ?_
                 rotate_left
                 ·
                  rintro w' ⟨s0, s1, s2, s3, s4, s5, s6, s7, s8, s9, s10, s11, s12, s13, s14, s15, s16⟩
                  go_simp
                  with_reducible rfl
                 rotate_left; (simp only [Act.put, z0_, z1_, z2_, i64_w, i32_w]; rfl)
                 refine pure_ (i := 23) (N := some 113) (v := ?_) (a' := ?_) ba102_ rfl rfl (any_of HT_.out (by kernel_rfl)) id3_ (Or.inl ⟨by rfl, ?_⟩) ?_ ?_
                 rotate_left; (intro w'; go_simp; with_reducible rfl)
                 rotate_left; (simp only [Act.put, z0_, z1_, z2_, i64_w, i32_w]; rfl)
                 refine pure_ (i := 24) (N := some 114) (v := ?_) (a' := ?_) ba103_ rfl rfl (any_of HT_.out (by kernel_rfl)) id3_ (Or.inl ⟨by rfl, ?_⟩) ?_ ?_
                 rotate_left; (intro w'; go_simp; with_reducible rfl)
                 rotate_left; (simp only [Act.put, z0_, z1_, z2_, i64_w, i32_w]; rfl)
                 refine pure_ (i := 25) (N := some 115) (v := ?_) (a' := ?_) ba104_ rfl rfl (any_of HT_.out (by kernel_rfl)) id3_ (Or.inl ⟨by rfl, ?_⟩) ?_ ?_
                 rotate_left; (intro w'; go_simp; with_reducible rfl)
                 rotate_left; (simp only [Act.put, z0_, z1_, z2_, i64_w, i32_w]; rfl)
                 refine pure_ (i := 27) (N := some 117) (v := ?_) (a' := ?_) ba123_ rfl rfl (any_of HT_.out (by kernel_rfl)) id3_ (Or.inl ⟨by rfl, ?_⟩) ?_ ?_
                 rotate_left; (intro w'; go_simp; with_reducible rfl)
                 rotate_left; (simp only [Act.put, z0_, z1_, z2_, i64_w, i32_w]; rfl)
                 refine pure_ (i := 28) (N := some 118) (v := ?_) (a' := ?_) ba124_ rfl rfl (any_of HT_.out (by kernel_rfl)) id3_ (Or.inl ⟨by rfl, ?_⟩) ?_ ?_
                 rotate_left; (intro w'; go_simp; with_reducible rfl)
                 rotate_left; (simp only [Act.put, z0_, z1_, z2_, i64_w, i32_w]; rfl)
                 refine pure_ (i := 32) (N := some 122) (v := ?_) (a' := ?_) ba125_ rfl rfl (any_of HT_.out (by kernel_rfl)) id3_ (Or.inl ⟨by rfl, ?_⟩) ?_ ?_
                 rotate_left; (intro w'; go_simp; with_reducible rfl)
                 rotate_left; (simp only [Act.put, z0_, z1_, z2_, i64_w, i32_w]; rfl)
                 refine take_ (i := 26) (N := some 116) (v := ?_) (a' := ?_) ba126_ rfl rfl (take_ofW HT_.out HW_.out (by kernel_rfl)) id3_ (Or.inl ⟨by rfl, ?_⟩) hHeld ?_ ?_
                 rotate_left
                 ·
                  rintro w' ⟨s0, s1, s2, s3, s4, s5, s6, s7, s8, s9, s10, s11, s12, s13, s14, s15, s16⟩
                  go_simp
                  with_reducible rfl
                 rotate_left; (simp only [Act.put, z0_, z1_, z2_, i64_w, i32_w]; rfl)
                 refine pure_ (i := 29) (N := some 119) (v := ?_) (a' := ?_) ba127_ rfl rfl (any_of HT_.out (by kernel_rfl)) id3_ (Or.inl ⟨by rfl, ?_⟩) ?_ ?_
                 rotate_left; (intro w'; go_simp; with_reducible rfl)
                 rotate_left; (simp only [Act.put, z0_, z1_, z2_, i64_w, i32_w]; rfl)
                 refine pure_ (i := 30) (N := some 120) (v := ?_) (a' := ?_) ba128_ rfl rfl (any_of HT_.out (by kernel_rfl)) id3_ (Or.inl ⟨by rfl, ?_⟩) ?_ ?_
                 rotate_left; (intro w'; go_simp; with_reducible rfl)
                 rotate_left; (simp only [Act.put, z0_, z1_, z2_, i64_w, i32_w]; rfl)
                 refine take_ (i := 31) (N := some 121) (v := ?_) (a' := ?_) ba111_ rfl rfl (take_ofW HT_.out HW_.out (by kernel_rfl)) id3_ (Or.inl ⟨by rfl, ?_⟩) hHeld ?_ ?_
                 rotate_left
                 ·
                  rintro w' ⟨s0, s1, s2, s3, s4, s5, s6, s7, s8, s9, s10, s11, s12, s13, s14, s15, s16⟩
                  go_simp
                  with_reducible rfl
                 rotate_left; (simp only [Act.put, z0_, z1_, z2_, i64_w, i32_w]; rfl)
                 refine take_ (i := 33) (N := some 123) (v := ?_) (a' := ?_) ba112_ rfl rfl (take_ofW HT_.out HW_.out (by kernel_rfl)) id3_ (Or.inl ⟨by rfl, ?_⟩) hHeld ?_ ?_
                 rotate_left
                 ·
                  rintro w' ⟨s0, s1, s2, s3, s4, s5, s6, s7, s8, s9, s10, s11, s12, s13, s14, s15, s16⟩
                  go_simp
                  with_reducible rfl
                 rotate_left; (simp only [Act.put, z0_, z1_, z2_, i64_w, i32_w]; rfl)
                 refine pure_ (i := 34) (N := some 124) (v := ?_) (a' := ?_) ba113_ rfl rfl (any_of HT_.out (by kernel_rfl)) id3_ (Or.inl ⟨by rfl, ?_⟩) ?_ ?_
                 rotate_left; (intro w'; go_simp; with_reducible rfl)
                 rotate_left; (simp only [Act.put, z0_, z1_, z2_, i64_w, i32_w]; rfl)
                 refine pure_ (i := 35) (N := some 125) (v := ?_) (a' := ?_) ba114_ rfl rfl (any_of HT_.out (by kernel_rfl)) id3_ (Or.inl ⟨by rfl, ?_⟩) ?_ ?_
                 rotate_left; (intro w'; go_simp; with_reducible rfl)
                 rotate_left; (simp only [Act.put, z0_, z1_, z2_, i64_w, i32_w]; rfl)
                 refine pure_ (i := 36) (N := some 126) (v := ?_) (a' := ?_) ba115_ rfl rfl (any_of HT_.out (by kernel_rfl)) id3_ (Or.inl ⟨by rfl, ?_⟩) ?_ ?_
                 rotate_left; (intro w'; go_simp; with_reducible rfl)
                 rotate_left; (simp only [Act.put, z0_, z1_, z2_, i64_w, i32_w]; rfl)
                 refine pure_ (i := 37) (N := some 127) (v := ?_) (a' := ?_) ba116_ rfl rfl (any_of HT_.out (by kernel_rfl)) id3_ (Or.inl ⟨by rfl, ?_⟩) ?_ ?_
                 rotate_left; (intro w'; go_simp; with_reducible rfl)
                 rotate_left; (simp only [Act.put, z0_, z1_, z2_, i64_w, i32_w]; rfl)
                 refine done_ (done_of HT_.out (by kernel_rfl)) ?_
                 try go_wp2
                 go_roundg k3
                 case measure => have := HK1.out; have := HJ4.out; have := HK3.out; omega
                 case rel => exact ⟨(wrap64 (x3_1 + 1)), (by first | rfl | (simp; done) | (simp [*]; done)), H', ⟨by have := HK1.out; have := HJ4.out; have := HK3.out; omega⟩, ⟨by (with_reducible repeat (first | refine blk_drewN ?_ _ | refine blk_drew ?_ | refine blk_alloc ?_ _)); exact BK112.out⟩, ⟨by repeat (first | (with_reducible first | exact HB.out | apply below_alloc | apply pw_below_drewN | apply below_drew1 | refine below_set ?_ GE112.out | refine below_set ?_ GE114.out) | exact HB.out)⟩⟩
               ·
                rw [if_neg c72] at H
                have c72b0 : (((rd_T66 l0_4 (ji67)).f2) == ((rd_T66 l0_4 x3_1).f2)) = false := beq_eq_false_iff_ne.mpr c72
                have c72b1 : (((rd_T66 l0_4 (ji67)).f2) != ((rd_T66 l0_4 x3_1).f2)) = true := bne_iff_ne.mpr c72
                have H' := Aside0.mk H
                clear H
                try go_wp2
                have n0_ := Aside0.mk (blk_drew BK112.out)
                have n1_ := Aside0.mk (blk_drew BK114.out)
                have n2_ := Aside0.mk (below_drew1 HB.out)
                clear BK112
                clear BK114
                clear HB
                have BK112 := n0_
                have BK114 := n1_
                have HB := n2_
                clear n0_ n1_ n2_
                have p121 : 0 ≤ ((ji67) : Int) := of_decide_eq_true (by first | (with_reducible assumption) | assumption)
                have q121 : (ji67) < (l0_4.length : Int) := of_decide_eq_true (by first | (with_reducible assumption) | assumption)
                obtain ⟨ad121, e121, hx121_0, hx121_1, hx121_2⟩ := at_T66 HR0_4.out (ji67) p121 q121
                have hw121_2 := hx121_2
                have hw121_1 := hx121_1
                have hw121_0 := hx121_0
                obtain rfl : ad113 = ad121 := (by injection e121)
                replace hx121_0 := (HB.out.cell (World.block_lt_of_cell? w _ hx121_0)).trans hx121_0
                replace hx121_1 := (HB.out.cell (World.block_lt_of_cell? w _ hx121_1)).trans hx121_1
                replace hx121_2 := (HB.out.cell (World.block_lt_of_cell? w _ hx121_2)).trans hx121_2
                replace p121 := eq_true p121
                replace q121 := eq_true q121
                have p122 : 0 ≤ ((ji67) : Int) := of_decide_eq_true (by first | (with_reducible assumption) | assumption)
                have q122 : (ji67) < (l0_4.length : Int) := of_decide_eq_true (by first | (with_reducible assumption) | assumption)
                obtain ⟨ad122, e122, hx122_0, hx122_1, hx122_2⟩ := at_T66 HR0_4.out (ji67) p122 q122
                have hw122_2 := hx122_2
                have hw122_1 := hx122_1
                have hw122_0 := hx122_0
                obtain rfl : ad113 = ad122 := (by injection e122)
                replace hx122_0 := (HB.out.cell (World.block_lt_of_cell? w _ hx122_0)).trans hx122_0
                replace hx122_1 := (HB.out.cell (World.block_lt_of_cell? w _ hx122_1)).trans hx122_1
                replace hx122_2 := (HB.out.cell (World.block_lt_of_cell? w _ hx122_2)).trans hx122_2
                replace p122 := eq_true p122
                replace q122 := eq_true q122
                refine start_ (n := 38) (S := fun w' => w'.cell? ⟨gb112, 0, none⟩ = some (.int .i64 a0_0) ∧ w'.cell? ⟨gb112, 1, none⟩ = some (.int .i64 a0_1) ∧ w'.cell? ⟨gb112, 2, none⟩ = some (.int .i64 a0_2) ∧ w'.cell? ⟨gb112, 3, none⟩ = some (.slice A0_3 l0_3.length c0_3) ∧ w'.cell? ⟨gb112, 4, none⟩ = some (.slice (some ad113) l0_4.length c0_4) ∧ w'.cell? ⟨gb114, 0, none⟩ = some (.int .i64 ((rd_T66 l0_4 x3_1).f0)) ∧ w'.cell? ⟨gb114, 1, none⟩ = some (.int .i64 ((rd_T66 l0_4 x3_1).f1)) ∧ w'.cell? ⟨gb114, 2, none⟩ = some (.int .i64 ((rd_T66 l0_4 x3_1).f2)) ∧ w'.cell? (ad113.add (((ji67)).toNat * 3)) = some (.int .i64 ((rd_T66 l0_4 (ji67)).f0)) ∧ w'.cell? ⟨(ad113.add (((ji67)).toNat * 3)).block, (ad113.add (((ji67)).toNat * 3)).off + 1, none⟩ = some (.int .i64 ((rd_T66 l0_4 (ji67)).f1)) ∧ w'.cell? ⟨(ad113.add (((ji67)).toNat * 3)).block, (ad113.add (((ji67)).toNat * 3)).off + 2, none⟩ = some (.int .i64 ((rd_T66 l0_4 (ji67)).f2)) ∧ w'.cell? (ad113.add (((ji67)).toNat * 3)) = some (.int .i64 ((rd_T66 l0_4 (ji67)).f0)) ∧ w'.cell? ⟨(ad113.add (((ji67)).toNat * 3)).block, (ad113.add (((ji67)).toNat * 3)).off + 1, none⟩ = some (.int .i64 ((rd_T66 l0_4 (ji67)).f1)) ∧ w'.cell? ⟨(ad113.add (((ji67)).toNat * 3)).block, (ad113.add (((ji67)).toNat * 3)).off + 2, none⟩ = some (.int .i64 ((rd_T66 l0_4 (ji67)).f2))) (ds := []) ba78_ (by kernel_rfl) rfl rfl ⟨(blk_cell BK112.out 0).trans rfl, (blk_cell BK112.out 1).trans rfl, (blk_cell BK112.out 2).trans rfl, (blk_cell BK112.out 3).trans rfl, (blk_cell BK112.out 4).trans rfl, (blk_cell BK114.out 0).trans rfl, (blk_cell BK114.out 1).trans rfl, (blk_cell BK114.out 2).trans rfl, ((HB.out.cell (World.block_lt_of_cell? w _ hw121_0)).trans hw121_0), ((HB.out.cell (World.block_lt_of_cell? w _ hw121_1)).trans hw121_1), ((HB.out.cell (World.block_lt_of_cell? w _ hw121_2)).trans hw121_2), ((HB.out.cell (World.block_lt_of_cell? w _ hw122_0)).trans hw122_0), ((HB.out.cell (World.block_lt_of_cell? w _ hw122_1)).trans hw122_1), ((HB.out.cell (World.block_lt_of_cell? w _ hw122_2)).trans hw122_2)⟩ (fun hHeld => ?_); refine with_tabW spec_l12Tasks.tab13 spec_l12Tasks.bits13 (fun HT_ HW_ => ?_)
                generalize wr.drew = w76 at BK112 BK114 HB hx121_0 hx121_1 hx121_2 hx122_0 hx122_1 hx122_2 hHeld ⊢
                refine pure_ (i := 0) (N := some 90) (v := ?_) (a' := ?_) ba79_ rfl rfl (any_of HT_.out (by kernel_rfl)) id3_ (Or.inl ⟨by rfl, ?_⟩) ?_ ?_
                rotate_left; (intro w'; go_simp; with_reducible rfl)
                rotate_left; (simp only [Act.put, z0_, z1_, z2_, i64_w, i32_w]; rfl)
                refine pure_ (i := 1) (N := some 91) (v := ?_) (a' := ?_) ba80_ rfl rfl (any_of HT_.out (by kernel_rfl)) id3_ (Or.inl ⟨by rfl, ?_⟩) ?_ ?_
                rotate_left; (intro w'; go_simp; with_reducible rfl)
                rotate_left; (simp only [Act.put, z0_, z1_, z2_, i64_w, i32_w]; rfl)
                refine pure_ (i := 2) (N := some 92) (v := ?_) (a' := ?_) ba81_ rfl rfl (any_of HT_.out (by kernel_rfl)) id3_ (Or.inl ⟨by rfl, ?_⟩) ?_ ?_
                rotate_left; (intro w'; go_simp; with_reducible rfl)
                rotate_left; (simp only [Act.put, z0_, z1_, z2_, i64_w, i32_w]; rfl)
                refine pure_ (i := 3) (N := some 93) (v := ?_) (a' := ?_) ba82_ rfl rfl (any_of HT_.out (by kernel_rfl)) id3_ (Or.inl ⟨by rfl, ?_⟩) ?_ ?_
                rotate_left; (intro w'; go_simp; with_reducible rfl)
                rotate_left; (simp only [Act.put, z0_, z1_, z2_, i64_w, i32_w]; rfl)
                refine pure_ (i := 5) (N := some 95) (v := ?_) (a' := ?_) ba83_ rfl rfl (any_of HT_.out (by kernel_rfl)) id3_ (Or.inl ⟨by rfl, ?_⟩) ?_ ?_
                rotate_left; (intro w'; go_simp; with_reducible rfl)
                rotate_left; (simp only [Act.put, z0_, z1_, z2_, i64_w, i32_w]; rfl)
                refine pure_ (i := 6) (N := some 96) (v := ?_) (a' := ?_) ba84_ rfl rfl (any_of HT_.out (by kernel_rfl)) id3_ (Or.inl ⟨by rfl, ?_⟩) ?_ ?_
                rotate_left; (intro w'; go_simp; with_reducible rfl)
                rotate_left; (simp only [Act.put, z0_, z1_, z2_, i64_w, i32_w]; rfl)
                refine pure_ (i := 10) (N := some 100) (v := ?_) (a' := ?_) ba85_ rfl rfl (any_of HT_.out (by kernel_rfl)) id3_ (Or.inl ⟨by rfl, ?_⟩) ?_ ?_
                rotate_left; (intro w'; go_simp; with_reducible rfl)
                rotate_left; (simp only [Act.put, z0_, z1_, z2_, i64_w, i32_w]; rfl)
                refine take_ (i := 4) (N := some 94) (v := ?_) (a' := ?_) ba86_ rfl rfl (take_ofW HT_.out HW_.out (by kernel_rfl)) id3_ (Or.inl ⟨by rfl, ?_⟩) hHeld ?_ ?_
                rotate_left
                ·
                 rintro w' ⟨s0, s1, s2, s3, s4, s5, s6, s7, s8, s9, s10, s11, s12, s13⟩
                 go_simp
                 with_reducible rfl
                rotate_left; (simp only [Act.put, z0_, z1_, z2_, i64_w, i32_w]; rfl)
                refine pure_ (i := 7) (N := some 97) (v := ?_) (a' := ?_) ba87_ rfl rfl (any_of HT_.out (by kernel_rfl)) id3_ (Or.inl ⟨by rfl, ?_⟩) ?_ ?_
                rotate_left; (intro w'; go_simp; with_reducible rfl)
                rotate_left; (simp only [Act.put, z0_, z1_, z2_, i64_w, i32_w]; rfl)
                refine pure_ (i := 8) (N := some 98) (v := ?_) (a' := ?_) ba88_ rfl rfl (any_of HT_.out (by kernel_rfl)) id3_ (Or.inl ⟨by rfl, ?_⟩) ?_ ?_
                rotate_left; (intro w'; go_simp; with_reducible rfl)
                rotate_left; (simp only [Act.put, z0_, z1_, z2_, i64_w, i32_w]; rfl)
                refine take_ (i := 9) (N := some 99) (v := ?_) (a' := ?_) ba89_ rfl rfl (take_ofW HT_.out HW_.out (by kernel_rfl)) id3_ (Or.inl ⟨by rfl, ?_⟩) hHeld ?_ ?_
                rotate_left
                ·
                 rintro w' ⟨s0, s1, s2, s3, s4, s5, s6, s7, s8, s9, s10, s11, s12, s13⟩
                 go_simp
                 with_reducible rfl
                rotate_left; (simp only [Act.put, z0_, z1_, z2_, i64_w, i32_w]; rfl)
                refine take_ (i := 11) (N := some 101) (v := ?_) (a' := ?_) ba90_ rfl rfl (take_ofW HT_.out HW_.out (by kernel_rfl)) id3_ (Or.inl ⟨by rfl, ?_⟩) hHeld ?_ ?_
                rotate_left
                ·
                 rintro w' ⟨s0, s1, s2, s3, s4, s5, s6, s7, s8, s9, s10, s11, s12, s13⟩
                 go_simp
                 with_reducible rfl
                rotate_left; (simp only [Act.put, z0_, z1_, z2_, i64_w, i32_w]; rfl)
                refine pure_ (i := 12) (N := some 102) (v := ?_) (a' := ?_) ba91_ rfl rfl (any_of HT_.out (by kernel_rfl)) id3_ (Or.inl ⟨by rfl, ?_⟩) ?_ ?_
                rotate_left; (intro w'; go_simp; with_reducible rfl)
                rotate_left; (simp only [Act.put, z0_, z1_, z2_, i64_w, i32_w]; rfl)
                refine pure_ (i := 13) (N := some 103) (v := ?_) (a' := ?_) ba92_ rfl rfl (any_of HT_.out (by kernel_rfl)) id3_ (Or.inl ⟨by rfl, ?_⟩) ?_ ?_
                rotate_left; (intro w'; go_simp; with_reducible rfl)
                rotate_left; (simp only [Act.put, z0_, z1_, z2_, i64_w, i32_w]; rfl)
                refine pure_ (i := 14) (N := some 104) (v := ?_) (a' := ?_) ba93_ rfl rfl (any_of HT_.out (by kernel_rfl)) id3_ (Or.inl ⟨by rfl, ?_⟩) ?_ ?_
                rotate_left; (intro w'; go_simp; with_reducible rfl)
                rotate_left; (simp only [Act.put, z0_, z1_, z2_, i64_w, i32_w]; rfl)
                refine pure_ (i := 16) (N := some 106) (v := ?_) (a' := ?_) ba117_ rfl rfl (any_of HT_.out (by kernel_rfl)) id3_ (Or.inl ⟨by rfl, ?_⟩) ?_ ?_
                rotate_left; (intro w'; go_simp; with_reducible rfl)
                rotate_left; (simp only [Act.put, z0_, z1_, z2_, i64_w, i32_w]; rfl)
                refine pure_ (i := 17) (N := some 107) (v := ?_) (a' := ?_) ba118_ rfl rfl (any_of HT_.out (by kernel_rfl)) id3_ (Or.inl ⟨by rfl, ?_⟩) ?_ ?_
                rotate_left; (intro w'; go_simp; with_reducible rfl)
                rotate_left; (simp only [Act.put, z0_, z1_, z2_, i64_w, i32_w]; rfl)
                refine pure_ (i := 21) (N := some 111) (v := ?_) (a' := ?_) ba119_ rfl rfl (any_of HT_.out (by kernel_rfl)) id3_ (Or.inl ⟨by rfl, ?_⟩) ?_ ?_
                rotate_left; (intro w'; go_simp; with_reducible rfl)
                rotate_left; (simp only [Act.put, z0_, z1_, z2_, i64_w, i32_w]; rfl)
                refine take_ (i := 15) (N := some 105) (v := ?_) (a' := ?_) ba120_ rfl rfl (take_ofW HT_.out HW_.out (by kernel_rfl)) id3_ (Or.inl ⟨by rfl, ?_⟩) hHeld ?_ ?_
                rotate_left
                ·
                 rintro w' ⟨s0, s1, s2, s3, s4, s5, s6, s7, s8, s9, s10, s11, s12, s13⟩
                 go_simp
                 with_reducible rfl
                rotate_left; (simp only [Act.put, z0_, z1_, z2_, i64_w, i32_w]; rfl)
                refine pure_ (i := 18) (N := some 108) (v := ?_) (a' := ?_) ba121_ rfl rfl (any_of HT_.out (by kernel_rfl)) id3_ (Or.inl ⟨by rfl, ?_⟩) ?_ ?_
                rotate_left; (intro w'; go_simp; with_reducible rfl)
                rotate_left; (simp only [Act.put, z0_, z1_, z2_, i64_w, i32_w]; rfl)
                refine pure_ (i := 19) (N := some 109) (v := ?_) (a' := ?_) ba122_ rfl rfl (any_of HT_.out (by kernel_rfl)) id3_ (Or.inl ⟨by rfl, ?_⟩) ?_ ?_
                rotate_left; (intro w'; go_simp; with_reducible rfl)
                rotate_left; (simp only [Act.put, z0_, z1_, z2_, i64_w, i32_w]; rfl)
                refine take_ (i := 20) (N := some 110) (v := ?_) (a' := ?_) ba100_ rfl rfl (take_ofW HT_.out HW_.out (by kernel_rfl)) id3_ (Or.inl ⟨by rfl, ?_⟩) hHeld ?_ ?_
                rotate_left
                ·
                 rintro w' ⟨s0, s1, s2, s3, s4, s5, s6, s7, s8, s9, s10, s11, s12, s13⟩
                 go_simp
                 with_reducible rfl
                rotate_left; (simp only [Act.put, z0_, z1_, z2_, i64_w, i32_w]; rfl)
                refine take_ (i := 22) (N := some 112) (v := ?_) (a' := ?_) ba101_ rfl rfl (take_ofW HT_.out HW_.out (by kernel_rfl)) id3_ (Or.inl ⟨by rfl, ?_⟩) hHeld ?_ ?_
                rotate_left
                ·
                 rintro w' ⟨s0, s1, s2, s3, s4, s5, s6, s7, s8, s9, s10, s11, s12, s13⟩
                 go_simp
                 with_reducible rfl
                rotate_left; (simp only [Act.put, z0_, z1_, z2_, i64_w, i32_w]; rfl)
                refine pure_ (i := 23) (N := some 113) (v := ?_) (a' := ?_) ba102_ rfl rfl (any_of HT_.out (by kernel_rfl)) id3_ (Or.inl ⟨by rfl, ?_⟩) ?_ ?_
                rotate_left; (intro w'; go_simp; with_reducible rfl)
                rotate_left; (simp only [Act.put, z0_, z1_, z2_, i64_w, i32_w]; rfl)
                refine pure_ (i := 24) (N := some 114) (v := ?_) (a' := ?_) ba103_ rfl rfl (any_of HT_.out (by kernel_rfl)) id3_ (Or.inl ⟨by rfl, ?_⟩) ?_ ?_
                rotate_left; (intro w'; go_simp; with_reducible rfl)
                rotate_left; (simp only [Act.put, z0_, z1_, z2_, i64_w, i32_w]; rfl)
                refine pure_ (i := 25) (N := some 115) (v := undef) (a' := ?_) ba104_ rfl rfl (any_of HT_.out (by kernel_rfl)) id3_ (Or.inr ⟨by rfl, rfl⟩) ?_ ?_
                rotate_left; (simp only [Act.put, z0_, z1_, z2_, i64_w, i32_w]; rfl)
                refine pure_ (i := 26) (N := some 116) (v := undef) (a' := ?_) ba105_ rfl rfl (any_of HT_.out (by kernel_rfl)) id3_ (Or.inr ⟨by rfl, rfl⟩) ?_ ?_
                rotate_left; (simp only [Act.put, z0_, z1_, z2_, i64_w, i32_w]; rfl)
                refine pure_ (i := 27) (N := some 117) (v := undef) (a' := ?_) ba106_ rfl rfl (any_of HT_.out (by kernel_rfl)) id3_ (Or.inr ⟨by rfl, rfl⟩) ?_ ?_
                rotate_left; (simp only [Act.put, z0_, z1_, z2_, i64_w, i32_w]; rfl)
                refine pure_ (i := 28) (N := some 118) (v := undef) (a' := ?_) ba107_ rfl rfl (any_of HT_.out (by kernel_rfl)) id3_ (Or.inr ⟨by rfl, rfl⟩) ?_ ?_
                rotate_left; (simp only [Act.put, z0_, z1_, z2_, i64_w, i32_w]; rfl)
                refine pure_ (i := 29) (N := some 119) (v := undef) (a' := ?_) ba108_ rfl rfl (any_of HT_.out (by kernel_rfl)) id3_ (Or.inr ⟨by rfl, rfl⟩) ?_ ?_
                rotate_left; (simp only [Act.put, z0_, z1_, z2_, i64_w, i32_w]; rfl)
                refine pure_ (i := 30) (N := some 120) (v := undef) (a' := ?_) ba109_ rfl rfl (any_of HT_.out (by kernel_rfl)) id3_ (Or.inr ⟨by rfl, rfl⟩) ?_ ?_
                rotate_left; (simp only [Act.put, z0_, z1_, z2_, i64_w, i32_w]; rfl)
                refine pure_ (i := 31) (N := some 121) (v := undef) (a' := ?_) ba110_ rfl rfl (any_of HT_.out (by kernel_rfl)) id3_ (Or.inr ⟨by rfl, rfl⟩) ?_ ?_
                rotate_left; (simp only [Act.put, z0_, z1_, z2_, i64_w, i32_w]; rfl)
                refine pure_ (i := 32) (N := some 122) (v := undef) (a' := ?_) ba111_ rfl rfl (any_of HT_.out (by kernel_rfl)) id3_ (Or.inr ⟨by rfl, rfl⟩) ?_ ?_
                rotate_left; (simp only [Act.put, z0_, z1_, z2_, i64_w, i32_w]; rfl)
                refine pure_ (i := 33) (N := some 123) (v := undef) (a' := ?_) ba112_ rfl rfl (any_of HT_.out (by kernel_rfl)) id3_ (Or.inr ⟨by rfl, rfl⟩) ?_ ?_
                rotate_left; (simp only [Act.put, z0_, z1_, z2_, i64_w, i32_w]; rfl)
                refine pure_ (i := 34) (N := some 124) (v := undef) (a' := ?_) ba113_ rfl rfl (any_of HT_.out (by kernel_rfl)) id3_ (Or.inr ⟨by rfl, rfl⟩) ?_ ?_
                rotate_left; (simp only [Act.put, z0_, z1_, z2_, i64_w, i32_w]; rfl)
                refine pure_ (i := 35) (N := some 125) (v := ?_) (a' := ?_) ba114_ rfl rfl (any_of HT_.out (by kernel_rfl)) id3_ (Or.inl ⟨by rfl, ?_⟩) ?_ ?_
                rotate_left; (intro w'; go_simp; with_reducible rfl)
                rotate_left; (simp only [Act.put, z0_, z1_, z2_, i64_w, i32_w]; rfl)
                refine pure_ (i := 36) (N := some 126) (v := ?_) (a' := ?_) ba115_ rfl rfl (any_of HT_.out (by kernel_rfl)) id3_ (Or.inl ⟨by rfl, ?_⟩) ?_ ?_
                rotate_left; (intro w'; go_simp; with_reducible rfl)
                rotate_left; (simp only [Act.put, z0_, z1_, z2_, i64_w, i32_w]; rfl)
                refine pure_ (i := 37) (N := some 127) (v := ?_) (a' := ?_) ba116_ rfl rfl (any_of HT_.out (by kernel_rfl)) id3_ (Or.inl ⟨by rfl, ?_⟩) ?_ ?_
                rotate_left; (intro w'; go_simp; with_reducible rfl)
                rotate_left; (simp only [Act.put, z0_, z1_, z2_, i64_w, i32_w]; rfl)
                refine done_ (done_of HT_.out (by kernel_rfl)) ?_
                try go_wp2
                go_roundg k3
                case measure => have := HK1.out; have := HJ4.out; have := HK3.out; omega
                case rel => exact ⟨(wrap64 (x3_1 + 1)), (by first | rfl | (simp; done) | (simp [*]; done)), H', ⟨by have := HK1.out; have := HJ4.out; have := HK3.out; omega⟩, ⟨by (with_reducible repeat (first | refine blk_drewN ?_ _ | refine blk_drew ?_ | refine blk_alloc ?_ _)); exact BK112.out⟩, ⟨by repeat (first | (with_reducible first | exact HB.out | apply below_alloc | apply pw_below_drewN | apply below_drew1 | refine below_set ?_ GE112.out | refine below_set ?_ GE114.out) | exact HB.out)⟩⟩
             ·
              rw [if_neg c69] at H
              exact absurd H (by simp)
            ·
             rw [if_neg c68] at H
             exact absurd H (by simp)
           ·
            rw [if_neg c66] at H
            have c66b0 : decide (0 < x3_1) = false := decide_eq_false c66
            clear c66
            have H' := Aside0.mk H
            clear H
            try go_wp2
            have n0_ := Aside0.mk (blk_drew BK112.out)
            have n1_ := Aside0.mk (blk_drew BK114.out)
            have n2_ := Aside0.mk (below_drew1 HB.out)
            clear BK112
            clear BK114
            clear HB
            have BK112 := n0_
            have BK114 := n1_
            have HB := n2_
            clear n0_ n1_ n2_
            refine start_ (n := 38) (S := fun w' => True) (ds := []) ba78_ (by kernel_rfl) rfl rfl trivial (fun hHeld => ?_); refine with_tabW spec_l12Tasks.tab13 spec_l12Tasks.bits13 (fun HT_ HW_ => ?_)
            generalize wr.drew = w77 at BK112 BK114 HB hHeld ⊢
            refine pure_ (i := 0) (N := some 90) (v := ?_) (a' := ?_) ba79_ rfl rfl (any_of HT_.out (by kernel_rfl)) id3_ (Or.inl ⟨by rfl, ?_⟩) ?_ ?_
            rotate_left; (intro w'; go_simp; with_reducible rfl)
            rotate_left; (simp only [Act.put, z0_, z1_, z2_, i64_w, i32_w]; rfl)
            refine pure_ (i := 1) (N := some 91) (v := ?_) (a' := ?_) ba80_ rfl rfl (any_of HT_.out (by kernel_rfl)) id3_ (Or.inl ⟨by rfl, ?_⟩) ?_ ?_
            rotate_left; (intro w'; go_simp; with_reducible rfl)
            rotate_left; (simp only [Act.put, z0_, z1_, z2_, i64_w, i32_w]; rfl)
            refine pure_ (i := 2) (N := some 92) (v := ?_) (a' := ?_) ba81_ rfl rfl (any_of HT_.out (by kernel_rfl)) id3_ (Or.inl ⟨by rfl, ?_⟩) ?_ ?_
            rotate_left; (intro w'; go_simp; with_reducible rfl)
            rotate_left; (simp only [Act.put, z0_, z1_, z2_, i64_w, i32_w]; rfl)
            refine pure_ (i := 3) (N := some 93) (v := undef) (a' := ?_) ba82_ rfl rfl (any_of HT_.out (by kernel_rfl)) id3_ (Or.inr ⟨by rfl, rfl⟩) ?_ ?_
            rotate_left; (simp only [Act.put, z0_, z1_, z2_, i64_w, i32_w]; rfl)
            refine pure_ (i := 4) (N := some 94) (v := undef) (a' := ?_) ba129_ rfl rfl (any_of HT_.out (by kernel_rfl)) id3_ (Or.inr ⟨by rfl, rfl⟩) ?_ ?_
            rotate_left; (simp only [Act.put, z0_, z1_, z2_, i64_w, i32_w]; rfl)
            refine pure_ (i := 5) (N := some 95) (v := undef) (a' := ?_) ba130_ rfl rfl (any_of HT_.out (by kernel_rfl)) id3_ (Or.inr ⟨by rfl, rfl⟩) ?_ ?_
            rotate_left; (simp only [Act.put, z0_, z1_, z2_, i64_w, i32_w]; rfl)
            refine pure_ (i := 6) (N := some 96) (v := undef) (a' := ?_) ba131_ rfl rfl (any_of HT_.out (by kernel_rfl)) id3_ (Or.inr ⟨by rfl, rfl⟩) ?_ ?_
            rotate_left; (simp only [Act.put, z0_, z1_, z2_, i64_w, i32_w]; rfl)
            refine pure_ (i := 7) (N := some 97) (v := undef) (a' := ?_) ba132_ rfl rfl (any_of HT_.out (by kernel_rfl)) id3_ (Or.inr ⟨by rfl, rfl⟩) ?_ ?_
            rotate_left; (simp only [Act.put, z0_, z1_, z2_, i64_w, i32_w]; rfl)
            refine pure_ (i := 8) (N := some 98) (v := undef) (a' := ?_) ba133_ rfl rfl (any_of HT_.out (by kernel_rfl)) id3_ (Or.inr ⟨by rfl, rfl⟩) ?_ ?_
            rotate_left; (simp only [Act.put, z0_, z1_, z2_, i64_w, i32_w]; rfl)
            refine pure_ (i := 9) (N := some 99) (v := undef) (a' := ?_) ba134_ rfl rfl (any_of HT_.out (by kernel_rfl)) id3_ (Or.inr ⟨by rfl, rfl⟩) ?_ ?_
            rotate_left; (simp only [Act.put, z0_, z1_, z2_, i64_w, i32_w]; rfl)
            refine pure_ (i := 10) (N := some 100) (v := undef) (a' := ?_) ba89_ rfl rfl (any_of HT_.out (by kernel_rfl)) id3_ (Or.inr ⟨by rfl, rfl⟩) ?_ ?_
            rotate_left; (simp only [Act.put, z0_, z1_, z2_, i64_w, i32_w]; rfl)
            refine pure_ (i := 11) (N := some 101) (v := undef) (a' := ?_) ba90_ rfl rfl (any_of HT_.out (by kernel_rfl)) id3_ (Or.inr ⟨by rfl, rfl⟩) ?_ ?_
            rotate_left; (simp only [Act.put, z0_, z1_, z2_, i64_w, i32_w]; rfl)
            refine pure_ (i := 12) (N := some 102) (v := undef) (a' := ?_) ba91_ rfl rfl (any_of HT_.out (by kernel_rfl)) id3_ (Or.inr ⟨by rfl, rfl⟩) ?_ ?_
            rotate_left; (simp only [Act.put, z0_, z1_, z2_, i64_w, i32_w]; rfl)
            refine pure_ (i := 13) (N := some 103) (v := undef) (a' := ?_) ba92_ rfl rfl (any_of HT_.out (by kernel_rfl)) id3_ (Or.inr ⟨by rfl, rfl⟩) ?_ ?_
            rotate_left; (simp only [Act.put, z0_, z1_, z2_, i64_w, i32_w]; rfl)
            refine pure_ (i := 14) (N := some 104) (v := undef) (a' := ?_) ba93_ rfl rfl (any_of HT_.out (by kernel_rfl)) id3_ (Or.inr ⟨by rfl, rfl⟩) ?_ ?_
            rotate_left; (simp only [Act.put, z0_, z1_, z2_, i64_w, i32_w]; rfl)
            refine pure_ (i := 15) (N := some 105) (v := undef) (a' := ?_) ba94_ rfl rfl (any_of HT_.out (by kernel_rfl)) id3_ (Or.inr ⟨by rfl, rfl⟩) ?_ ?_
            rotate_left; (simp only [Act.put, z0_, z1_, z2_, i64_w, i32_w]; rfl)
            refine pure_ (i := 16) (N := some 106) (v := undef) (a' := ?_) ba95_ rfl rfl (any_of HT_.out (by kernel_rfl)) id3_ (Or.inr ⟨by rfl, rfl⟩) ?_ ?_
            rotate_left; (simp only [Act.put, z0_, z1_, z2_, i64_w, i32_w]; rfl)
            refine pure_ (i := 17) (N := some 107) (v := undef) (a' := ?_) ba96_ rfl rfl (any_of HT_.out (by kernel_rfl)) id3_ (Or.inr ⟨by rfl, rfl⟩) ?_ ?_
            rotate_left; (simp only [Act.put, z0_, z1_, z2_, i64_w, i32_w]; rfl)
            refine pure_ (i := 18) (N := some 108) (v := undef) (a' := ?_) ba97_ rfl rfl (any_of HT_.out (by kernel_rfl)) id3_ (Or.inr ⟨by rfl, rfl⟩) ?_ ?_
            rotate_left; (simp only [Act.put, z0_, z1_, z2_, i64_w, i32_w]; rfl)
            refine pure_ (i := 19) (N := some 109) (v := undef) (a' := ?_) ba98_ rfl rfl (any_of HT_.out (by kernel_rfl)) id3_ (Or.inr ⟨by rfl, rfl⟩) ?_ ?_
            rotate_left; (simp only [Act.put, z0_, z1_, z2_, i64_w, i32_w]; rfl)
            refine pure_ (i := 20) (N := some 110) (v := undef) (a' := ?_) ba99_ rfl rfl (any_of HT_.out (by kernel_rfl)) id3_ (Or.inr ⟨by rfl, rfl⟩) ?_ ?_
            rotate_left; (simp only [Act.put, z0_, z1_, z2_, i64_w, i32_w]; rfl)
            refine pure_ (i := 21) (N := some 111) (v := undef) (a' := ?_) ba100_ rfl rfl (any_of HT_.out (by kernel_rfl)) id3_ (Or.inr ⟨by rfl, rfl⟩) ?_ ?_
            rotate_left; (simp only [Act.put, z0_, z1_, z2_, i64_w, i32_w]; rfl)
            refine pure_ (i := 22) (N := some 112) (v := undef) (a' := ?_) ba101_ rfl rfl (any_of HT_.out (by kernel_rfl)) id3_ (Or.inr ⟨by rfl, rfl⟩) ?_ ?_
            rotate_left; (simp only [Act.put, z0_, z1_, z2_, i64_w, i32_w]; rfl)
            refine pure_ (i := 23) (N := some 113) (v := undef) (a' := ?_) ba102_ rfl rfl (any_of HT_.out (by kernel_rfl)) id3_ (Or.inr ⟨by rfl, rfl⟩) ?_ ?_
            rotate_left; (simp only [Act.put, z0_, z1_, z2_, i64_w, i32_w]; rfl)
            refine pure_ (i := 24) (N := some 114) (v := undef) (a' := ?_) ba103_ rfl rfl (any_of HT_.out (by kernel_rfl)) id3_ (Or.inr ⟨by rfl, rfl⟩) ?_ ?_
            rotate_left; (simp only [Act.put, z0_, z1_, z2_, i64_w, i32_w]; rfl)
            refine pure_ (i := 25) (N := some 115) (v := undef) (a' := ?_) ba104_ rfl rfl (any_of HT_.out (by kernel_rfl)) id3_ (Or.inr ⟨by rfl, rfl⟩) ?_ ?_
            rotate_left; (simp only [Act.put, z0_, z1_, z2_, i64_w, i32_w]; rfl)
            refine pure_ (i := 26) (N := some 116) (v := undef) (a' := ?_) ba105_ rfl rfl (any_of HT_.out (by kernel_rfl)) id3_ (Or.inr ⟨by rfl, rfl⟩) ?_ ?_
            rotate_left; (simp only [Act.put, z0_, z1_, z2_, i64_w, i32_w]; rfl)
            refine pure_ (i := 27) (N := some 117) (v := undef) (a' := ?_) ba106_ rfl rfl (any_of HT_.out (by kernel_rfl)) id3_ (Or.inr ⟨by rfl, rfl⟩) ?_ ?_
            rotate_left; (simp only [Act.put, z0_, z1_, z2_, i64_w, i32_w]; rfl)
            refine pure_ (i := 28) (N := some 118) (v := undef) (a' := ?_) ba107_ rfl rfl (any_of HT_.out (by kernel_rfl)) id3_ (Or.inr ⟨by rfl, rfl⟩) ?_ ?_
            rotate_left; (simp only [Act.put, z0_, z1_, z2_, i64_w, i32_w]; rfl)
            refine pure_ (i := 29) (N := some 119) (v := undef) (a' := ?_) ba108_ rfl rfl (any_of HT_.out (by kernel_rfl)) id3_ (Or.inr ⟨by rfl, rfl⟩) ?_ ?_
            rotate_left; (simp only [Act.put, z0_, z1_, z2_, i64_w, i32_w]; rfl)
            refine pure_ (i := 30) (N := some 120) (v := undef) (a' := ?_) ba109_ rfl rfl (any_of HT_.out (by kernel_rfl)) id3_ (Or.inr ⟨by rfl, rfl⟩) ?_ ?_
            rotate_left; (simp only [Act.put, z0_, z1_, z2_, i64_w, i32_w]; rfl)
            refine pure_ (i := 31) (N := some 121) (v := undef) (a' := ?_) ba110_ rfl rfl (any_of HT_.out (by kernel_rfl)) id3_ (Or.inr ⟨by rfl, rfl⟩) ?_ ?_
            rotate_left; (simp only [Act.put, z0_, z1_, z2_, i64_w, i32_w]; rfl)
            refine pure_ (i := 32) (N := some 122) (v := undef) (a' := ?_) ba111_ rfl rfl (any_of HT_.out (by kernel_rfl)) id3_ (Or.inr ⟨by rfl, rfl⟩) ?_ ?_
            rotate_left; (simp only [Act.put, z0_, z1_, z2_, i64_w, i32_w]; rfl)
            refine pure_ (i := 33) (N := some 123) (v := undef) (a' := ?_) ba112_ rfl rfl (any_of HT_.out (by kernel_rfl)) id3_ (Or.inr ⟨by rfl, rfl⟩) ?_ ?_
            rotate_left; (simp only [Act.put, z0_, z1_, z2_, i64_w, i32_w]; rfl)
            refine pure_ (i := 34) (N := some 124) (v := undef) (a' := ?_) ba113_ rfl rfl (any_of HT_.out (by kernel_rfl)) id3_ (Or.inr ⟨by rfl, rfl⟩) ?_ ?_
            rotate_left; (simp only [Act.put, z0_, z1_, z2_, i64_w, i32_w]; rfl)
            refine pure_ (i := 35) (N := some 125) (v := undef) (a' := ?_) ba114_ rfl rfl (any_of HT_.out (by kernel_rfl)) id3_ (Or.inr ⟨by rfl, rfl⟩) ?_ ?_
            rotate_left; (simp only [Act.put, z0_, z1_, z2_, i64_w, i32_w]; rfl)
            refine pure_ (i := 36) (N := some 126) (v := undef) (a' := ?_) ba115_ rfl rfl (any_of HT_.out (by kernel_rfl)) id3_ (Or.inr ⟨by rfl, rfl⟩) ?_ ?_
            rotate_left; (simp only [Act.put, z0_, z1_, z2_, i64_w, i32_w]; rfl)
            refine pure_ (i := 37) (N := some 127) (v := ?_) (a' := ?_) ba116_ rfl rfl (any_of HT_.out (by kernel_rfl)) id3_ (Or.inl ⟨by rfl, ?_⟩) ?_ ?_
            rotate_left; (intro w'; go_simp; with_reducible rfl)
            rotate_left; (simp only [Act.put, z0_, z1_, z2_, i64_w, i32_w]; rfl)
            refine done_ (done_of HT_.out (by kernel_rfl)) ?_
            try go_wp2
            go_roundg k3
            case measure => have := HK1.out; have := HJ4.out; have := HK3.out; omega
            case rel => exact ⟨(wrap64 (x3_1 + 1)), (by first | rfl | (simp; done) | (simp [*]; done)), H', ⟨by have := HK1.out; have := HJ4.out; have := HK3.out; omega⟩, ⟨by (with_reducible repeat (first | refine blk_drewN ?_ _ | refine blk_drew ?_ | refine blk_alloc ?_ _)); exact BK112.out⟩, ⟨by repeat (first | (with_reducible first | exact HB.out | apply below_alloc | apply pw_below_drewN | apply below_drew1 | refine below_set ?_ GE112.out | refine below_set ?_ GE114.out) | exact HB.out)⟩⟩
    ·
     rw [if_neg c4] at H
     exact absurd H (by simp)
   ·
    rw [if_neg c3] at H
    have c3b0 : decide (x3_1 < (l0_4.length : Int)) = false := decide_eq_false c3
    clear c3
    obtain rfl := Option.some.inj H
    have hcz78_0 : wr.cell? ⟨gb112, 0, none⟩ = some (.int .i64 a0_0) := (blk_cell BK112.out 0).trans rfl
    have hcz78_1 : wr.cell? ⟨gb112, 1, none⟩ = some (.int .i64 a0_1) := (blk_cell BK112.out 1).trans rfl
    have hcz78_2 : wr.cell? ⟨gb112, 2, none⟩ = some (.int .i64 a0_2) := (blk_cell BK112.out 2).trans rfl
    have hcz78_3 : wr.cell? ⟨gb112, 3, none⟩ = some (.slice A0_3 l0_3.length c0_3) := (blk_cell BK112.out 3).trans rfl
    have hcz78_4 : wr.cell? ⟨gb112, 4, none⟩ = some (.slice A0_4 l0_4.length c0_4) := (blk_cell BK112.out 4).trans rfl
    have hfz78_0 := blk_frozen BK112.out 0
    have hfz78_1 := blk_frozen BK112.out 1
    have hfz78_2 := blk_frozen BK112.out 2
    have hfz78_3 := blk_frozen BK112.out 3
    have hfz78_4 := blk_frozen BK112.out 4
    go_wp2
    go_ret
    exact ⟨by first | rfl | (simp [errW_none, errW_some] <;> rfl) | (simp [*, errW_none, errW_some] <;> rfl), by repeat (first | (with_reducible first | exact HB.out | apply below_alloc | apply pw_below_drewN | apply below_drew1 | refine below_set ?_ GE112.out) | exact HB.out)⟩

end Go.Proofs.Ytehaakoaabbiaaa.XFnExactIsDispatcher
